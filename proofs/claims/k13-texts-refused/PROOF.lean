import PyProof.Rows.All
import Wide.All
import OpenK.AllK
import Wide.FinOn
import HandS.ForMost
import HandS.ForExc
import HandS.Defaults
import HandS.HeadHook1
import HandS.HeadHook2
import HandS.Lambda
import HandS.TupAny
import HandS.TupMul
import HandS.TupLen
import HandS.Style
import HandS.Wide
import HandS.IsInst
import HandS.Zip
import HandS.DictComp
import HandS.DictTup
import HandS.Text
import HandS.More
import KE.KTupSum
import HandS.CallSlots
import HandS.HeadWalk
import HandS.MakeKw
import HandS.MakeKwOnly
import KE.GoesMore
import KE.GoesEnum
import KE.SortData
import KE.KRevSl
import HandS.ExcOwn
import HandS.TryOnly
import PyProof.ExcBaseAll.ValueError
import HandS.DictSubView
import KE.KDictWalk
import KE.KDictPairs
import PyProof.DictMoreH
import KE.KDictList
import HandS.ListItems
import HandS.ExcIs
import HandS.ExcInit
import HandS.ExcField
import OpenK.KCls
import KE.GoesNew
import HandS.HeadHook3
import HandS.Head0
import HandS.Head1
import HandS.Head2
import HandS.HeadEnd
import HandS.HeadHook4
import KE.KExcIs
import KE.KStateDown
import Lean
import HandS.Codes
import PySem.Challenge.RW_noteboxes_k13_texts_refused
set_option Elab.async false
set_option linter.all false
set_option maxRecDepth 100000
set_option maxHeartbeats 0
/-! values, stores, and how they stand in the abstract heap -/
namespace Pyx
open PySem PySem.Spec PyProof.Rows L2
inductive Id where
  | obj (c k : Nat)
  | sub (p : Id) (f : Nat)
  deriving DecidableEq
inductive D where
  | non | bl (b : Bool) | int (i : Int) | str (s : Str)
  | tup (ds : List D) | lst (ds : List D) | cell (i : Id) | scr (ns : List Int) | ktup (ds : List D) | ptup (ds : List D) | xv (a : Addr) (x : Option (Addr × List (Str × Int)))
inductive Cell where
  | lst (ds : List D) | dK (kvs : List (Key × D)) | dT (kvs : List (List Key × D)) | ins (c : Nat) (fs : List (Nat × D)) | lkK (kvs : List (Key × D)) | lkT (kvs : List (List Key × D)) | tbl (n : Nat)
structure Sto where
  nx : Nat
  at_ : Id → Option Cell
def Sto.set (S : Sto) (i : Id) (c : Cell) : Sto := { S with at_ := fun j => if j = i then some c else S.at_ j }
def Sto.bump (S : Sto) : Sto := { S with nx := S.nx + 1 }
theorem Sto.set_same {S : Sto} {i : Id} {c : Cell} : (S.set i c).at_ i = some c := by simp [Sto.set]
theorem Sto.set_ne {S : Sto} {i j : Id} {c : Cell} (h : j ≠ i) : (S.set i c).at_ j = S.at_ j := by simp [Sto.set, h]
structure Exn where
  c : Nat
  fs : Option (List (Str × Int))
inductive Out (A : Type) where
  | ok (a : A) (S : Sto) | exc (x : Exn) (S : Sto) | bad
def Out.bind {A B : Type} (o : Out A) (f : A → Sto → Out B) : Out B := match o with
  | .ok a S => f a S
  | .exc x S => .exc x S
  | .bad => .bad
abbrev Env' : Type := List (Option D)
abbrev EM := Env' → Sto → Out D
abbrev AM := Env' → Sto → Out (List D)
abbrev TM := Env' → Sto → Out Bool
/-- what is fixed: the written part, the classes' addresses, the names of attributes -/
structure Ctx where
  K : PySem.W.Frag
  cad : Nat → Addr
  xad : Nat → Addr
  anm : Nat → Str
  tad : Nat → Addr
  tq : Nat → Str
/-- where the cells stand; the lists that are under way in a comprehension, which nobody holds -/
structure Lay where
  f : Id → Option Addr
  no : Addr → Prop
  lk : Addr → Option (Obj × HO)
instance : CoeFun Lay (fun _ => Id → Option Addr) := ⟨Lay.f⟩
def KTup (K : PySem.W.Frag) (a : Addr) (xs : List V) : Prop := ∃ (o : Obj) (its : Array Value) (n : Nat), K.lookup a = some o ∧ o.cls = .type "tuple" ∧ o.data = .seq its n ∧ its.size ≤ sizeLine ∧ Vals xs its.toList
def KLst (K : PySem.W.Frag) (a : Addr) (xs : List V) : Prop := ∃ (o : Obj) (its : Array Value) (n : Nat), K.lookup a = some o ∧ o.cls = .type "list" ∧ o.dict = none ∧ o.data = .seq its n ∧ its.size ≤ sizeLine ∧ Vals xs its.toList
def TupAt (K : PySem.W.Frag) (H : Hp) (a : Addr) (xs : List V) : Prop := H a = some (.tup xs)
def LstAt (K : PySem.W.Frag) (l : Lay) (H : Hp) (a : Addr) (xs : List V) : Prop := H a = some (.lst xs) ∧ (∀ i, l i ≠ some a) ∧ ¬ l.no a
theorem TupAt.sq {K : PySem.W.Frag} {H : Hp} {a : Addr} {xs : List V} (h : TupAt K H a xs) : SqT K H a xs := .inl (.inl h)
theorem LstAt.sq {K : PySem.W.Frag} {l : Lay} {H : Hp} {a : Addr} {xs : List V} (h : LstAt K l H a xs) : SqL K H a xs := by
  exact .inl (.inl h.1)
def ScrAt (K : PySem.W.Frag) (l : Lay) (H : Hp) (a : Addr) (xs : List V) : Prop := (Rd H a (.lst xs) ∧ (∀ i, l i ≠ some a) ∧ ¬ l.no a) ∨ KLst K a xs
theorem ScrAt.sq {K : PySem.W.Frag} {l : Lay} {H : Hp} {a : Addr} {xs : List V} (h : ScrAt K l H a xs) : SqL K H a xs := by
  rcases h with h | h
  · exact .inl h.1
  · exact .inr h
/-- a tuple without a dict of its own, as it was laid -/
def PTup (l : Lay) (H : Hp) (a : Addr) (xs : List V) : Prop := ∃ o, o.dict = none ∧ H a = some (.frz o (.tup xs)) ∧ (∀ i, l i ≠ some a) ∧ ¬ l.no a
theorem PTup.sq {K : PySem.W.Frag} {l : Lay} {H : Hp} {a : Addr} {xs : List V} (h : PTup l H a xs) : SqT K H a xs := by
  obtain ⟨o, _, h, _⟩ := h
  exact .inl (.inr ⟨o, h⟩)
/-- an exception's dict: numbers -/
def XdAt (l : Lay) (H : Hp) : Option (Addr × List (Str × Int)) → Prop
  | none => True
  | some (dd, fs) => H dd = some (.xd (fs.map fun p => (p.1, V.int p.2))) ∧ (∀ i, l i ≠ some dd) ∧ ¬ l.no dd
mutual
def RD (K : PySem.W.Frag) (l : Lay) (H : Hp) : D → V → Prop
  | .non, v => v = .non
  | .bl b, v => v = .bl b
  | .int i, v => v = .int i
  | .str s, v => v = .str s ∧ PySem.PyData.strOk s = true
  | .tup ds, v => ∃ a vs, v = .ref a ∧ TupAt K H a vs ∧ RDs K l H ds vs
  | .lst ds, v => ∃ a vs, v = .ref a ∧ LstAt K l H a vs ∧ RDs K l H ds vs
  | .cell i, v => ∃ a, v = .ref a ∧ l i = some a
  | .scr ns, v => ∃ a, v = .ref a ∧ ScrAt K l H a (ns.map V.int)
  | .ktup ds, v => ∃ a vs, v = .ref a ∧ KTup K a vs ∧ RDs K l H ds vs
  | .ptup ds, v => ∃ a vs, v = .ref a ∧ PTup l H a vs ∧ RDs K l H ds vs
  | .xv a x, v => v = .ref a ∧ XdAt l H x
def RDs (K : PySem.W.Frag) (l : Lay) (H : Hp) : List D → List V → Prop
  | [], vs => vs = []
  | d :: ds, vs => ∃ v r, vs = v :: r ∧ RD K l H d v ∧ RDs K l H ds r
end
/-- what is kept, so that values stay what they are -/
structure ExtW (l : Lay) (H : Hp) (l' : Lay) (H' : Hp) : Prop where
  id : ∀ i a, l i = some a → l' i = some a
  keep : ∀ a o, H a = some o → (∀ i, l i ≠ some a) → H' a = some o
  tup : ∀ a vs, H a = some (.tup vs) → H' a = some (.tup vs)
  new : ∀ i a, l i = none → l' i = some a → H a = none
  no : ∀ a, l'.no a → l.no a ∨ H a = none
structure Ext (l : Lay) (H : Hp) (l' : Lay) (H' : Hp) : Prop extends ExtW l H l' H' where
  no1 : ∀ a, l.no a → l'.no a
  lk : l'.lk = l.lk
theorem ExtW.refl (l : Lay) (H : Hp) : ExtW l H l H where
  id := fun _ _ h => h
  keep := fun _ _ h _ => h
  tup := fun _ _ h => h
  new := fun i a h h' => by
    rw [h] at h'
    cases h'
  no := fun a h => .inl h
theorem Ext.refl (l : Lay) (H : Hp) : Ext l H l H := { ExtW.refl l H with no1 := fun a h => h, lk := rfl }
theorem ExtW.out {l l' : Lay} {H H' : Hp} (e : ExtW l H l' H') {a : Addr} {o : HO} (h : H a = some o) (n : ∀ i, l i ≠ some a) : ∀ i, l' i ≠ some a := fun i hi => by
  cases q : l i with
  | none =>
    have := e.new i a q hi
    rw [h] at this
    cases this
  | some b =>
    have := e.id i b q
    rw [hi] at this
    cases this
    exact n i q
theorem ExtW.free {l l' : Lay} {H H' : Hp} (e : ExtW l H l' H') {a : Addr} {o : HO} (h : H a = some o) (n : ¬ l.no a) : ¬ l'.no a := fun q => by
  rcases e.no a q with q | q
  · exact n q
  · rw [h] at q
    cases q
theorem ExtW.none {l l' : Lay} {H H' : Hp} (e : ExtW l H l' H') (hr : ∀ i b, l i = some b → ∃ o, H' b = some o) {a : Addr} (h : H' a = none) : H a = none := by
  cases q : H a with
  | none => rfl
  | some o =>
    by_cases hn : ∀ i, l i ≠ some a
    · rw [e.keep a o q hn] at h
      cases h
    · exfalso
      refine hn fun i hi => ?_
      obtain ⟨o', ho⟩ := hr i a hi
      rw [h] at ho
      cases ho
theorem ExtW.trans {l l1 l2 : Lay} {H H1 H2 : Hp} (e : ExtW l H l1 H1) (f : ExtW l1 H1 l2 H2) (hr : ∀ i b, l i = some b → ∃ o, H1 b = some o) : ExtW l H l2 H2 where
  id := fun i a h => f.id i a (e.id i a h)
  keep := fun a o h n => f.keep a o (e.keep a o h n) (e.out h n)
  tup := fun a vs h => f.tup a vs (e.tup a vs h)
  new := fun i a h h' => by
    cases q : l1 i with
    | some b =>
      have := f.id i b q
      rw [h'] at this
      cases this
      exact e.new i a h q
    | none => exact e.none hr (f.new i a q h')
  no := fun a h => by
    rcases f.no a h with h | h
    · exact e.no a h
    · exact .inr (e.none hr h)
theorem Ext.trans {l l1 l2 : Lay} {H H1 H2 : Hp} (e : Ext l H l1 H1) (f : Ext l1 H1 l2 H2) (hr : ∀ i b, l i = some b → ∃ o, H1 b = some o) : Ext l H l2 H2 :=
  { e.toExtW.trans f.toExtW hr with no1 := fun a h => f.no1 a (e.no1 a h), lk := f.lk.trans e.lk }
/-- what values lean on -/
structure Tr (l : Lay) (H : Hp) (l' : Lay) (H' : Hp) : Prop where
  id : ∀ i a, l i = some a → l' i = some a
  tup : ∀ a vs, H a = some (.tup vs) → H' a = some (.tup vs)
  lst : ∀ a o, H a = some o → (∀ i, l i ≠ some a) → ¬ l.no a → H' a = some o ∧ (∀ i, l' i ≠ some a) ∧ ¬ l'.no a
theorem ExtW.tr {l l' : Lay} {H H' : Hp} (e : ExtW l H l' H') : Tr l H l' H' := ⟨e.id, e.tup, fun a o h n f => ⟨e.keep a o h n, e.out h n, e.free h f⟩⟩
mutual
theorem RD.tr {K : PySem.W.Frag} {l l' : Lay} {H H' : Hp} (e : Tr l H l' H') : ∀ (d : D) (v : V), RD K l H d v → RD K l' H' d v
  | .non, _, h => h
  | .bl _, _, h => h
  | .int _, _, h => h
  | .str _, _, h => h
  | .xv _ none, _, h => h
  | .xv _ (some (dd, fs)), _, h => ⟨h.1, e.lst dd _ h.2.1 h.2.2.1 h.2.2.2⟩
  | .tup ds, v, h => by
    obtain ⟨a, vs, rfl, ht, hs⟩ := h
    exact ⟨a, vs, rfl, e.tup _ _ ht, RDs.tr e ds vs hs⟩
  | .ktup ds, v, h => by
    obtain ⟨a, vs, rfl, ht, hs⟩ := h
    exact ⟨a, vs, rfl, ht, RDs.tr e ds vs hs⟩
  | .ptup ds, v, h => by
    obtain ⟨a, vs, rfl, ⟨o, hd, ho, n, f⟩, hs⟩ := h
    exact ⟨a, vs, rfl, ⟨o, hd, e.lst _ _ ho n f⟩, RDs.tr e ds vs hs⟩
  | .lst ds, v, h => by
    obtain ⟨a, vs, rfl, ht, hs⟩ := h
    exact ⟨a, vs, rfl, e.lst _ _ ht.1 ht.2.1 ht.2.2, RDs.tr e ds vs hs⟩
  | .cell i, v, h => by
    obtain ⟨a, rfl, hi⟩ := h
    exact ⟨a, rfl, e.id i a hi⟩
  | .scr ns, v, h => by
    obtain ⟨a, rfl, hs⟩ := h
    refine ⟨a, rfl, ?_⟩
    rcases hs with ⟨hs | ⟨o, hs⟩, n⟩ | hs
    · have q := e.lst _ _ hs n.1 n.2
      exact .inl ⟨.inl q.1, q.2⟩
    · have q := e.lst _ _ hs n.1 n.2
      exact .inl ⟨.inr ⟨o, q.1⟩, q.2⟩
    · exact .inr hs
theorem RDs.tr {K : PySem.W.Frag} {l l' : Lay} {H H' : Hp} (e : Tr l H l' H') : ∀ (ds : List D) (vs : List V), RDs K l H ds vs → RDs K l' H' ds vs
  | [], _, h => h
  | d :: ds, vs, h => by
    obtain ⟨v, r, rfl, h1, h2⟩ := h
    exact ⟨v, r, rfl, RD.tr e d v h1, RDs.tr e ds r h2⟩
end
theorem RD.monoW {K : PySem.W.Frag} {l l' : Lay} {H H' : Hp} (e : ExtW l H l' H') (d : D) (v : V) (h : RD K l H d v) : RD K l' H' d v := RD.tr e.tr d v h
theorem RDs.monoW {K : PySem.W.Frag} {l l' : Lay} {H H' : Hp} (e : ExtW l H l' H') (d : List D) (v : List V) (h : RDs K l H d v) : RDs K l' H' d v := RDs.tr e.tr d v h
theorem RD.mono {K : PySem.W.Frag} {l l' : Lay} {H H' : Hp} (e : Ext l H l' H') (d : D) (v : V) (h : RD K l H d v) : RD K l' H' d v := RD.monoW e.toExtW d v h
theorem RDs.mono {K : PySem.W.Frag} {l l' : Lay} {H H' : Hp} (e : Ext l H l' H') (d : List D) (v : List V) (h : RDs K l H d v) : RDs K l' H' d v := RDs.monoW e.toExtW d v h
section
variable {K : PySem.W.Frag} {l : Lay} {H : Hp}
theorem RDs.length : ∀ {ds : List D} {vs : List V}, RDs K l H ds vs → vs.length = ds.length
  | [], _, h => by
    cases h
    rfl
  | d :: ds, vs, h => by
    obtain ⟨v, r, rfl, _, h2⟩ := h
    simp [RDs.length h2]
theorem RDs.get : ∀ {ds : List D} {vs : List V} {i : Nat} {d : D}, RDs K l H ds vs → ds[i]? = some d → ∃ v, vs[i]? = some v ∧ RD K l H d v
  | [], _, _, _, _, e => by simp at e
  | d :: ds, vs, 0, x, h, e => by
    obtain ⟨v, r, rfl, h1, h2⟩ := h
    simp at e
    subst e
    exact ⟨v, rfl, h1⟩
  | d :: ds, vs, i + 1, x, h, e => by
    obtain ⟨v, r, rfl, h1, h2⟩ := h
    obtain ⟨u, hu, hr⟩ := RDs.get (i := i) h2 (by simpa using e)
    exact ⟨u, by simpa using hu, hr⟩
theorem RDs.append : ∀ {ds es : List D} {vs ws : List V}, RDs K l H ds vs → RDs K l H es ws → RDs K l H (ds ++ es) (vs ++ ws)
  | [], _, _, _, h, h' => by
    cases h
    exact h'
  | d :: ds, es, vs, ws, h, h' => by
    obtain ⟨v, r, rfl, h1, h2⟩ := h
    exact ⟨v, r ++ ws, rfl, h1, RDs.append h2 h'⟩
theorem RDs.take : ∀ {ds : List D} {vs : List V} (n : Nat), RDs K l H ds vs → RDs K l H (ds.take n) (vs.take n)
  | _, _, 0, _ => rfl
  | [], _, n + 1, h => by
    cases h
    rfl
  | d :: ds, vs, n + 1, h => by
    obtain ⟨v, r, rfl, h1, h2⟩ := h
    exact ⟨v, r.take n, rfl, h1, RDs.take n h2⟩
theorem RDs.drop : ∀ {ds : List D} {vs : List V} (n : Nat), RDs K l H ds vs → RDs K l H (ds.drop n) (vs.drop n)
  | _, _, 0, h => h
  | [], _, n + 1, h => by
    cases h
    rfl
  | d :: ds, vs, n + 1, h => by
    obtain ⟨v, r, rfl, h1, h2⟩ := h
    exact RDs.drop n h2
theorem RDs.set : ∀ {ds : List D} {vs : List V} (n : Nat) {d : D} {v : V}, RDs K l H ds vs → RD K l H d v → RDs K l H (ds.set n d) (vs.set n v)
  | [], _, n, _, _, h, _ => by
    cases h
    rfl
  | d :: ds, vs, 0, x, y, h, h' => by
    obtain ⟨v, r, rfl, h1, h2⟩ := h
    exact ⟨y, r, rfl, h', h2⟩
  | d :: ds, vs, n + 1, x, y, h, h' => by
    obtain ⟨v, r, rfl, h1, h2⟩ := h
    exact ⟨v, r.set n y, rfl, h1, RDs.set n h2 h'⟩
theorem RDs.erase : ∀ {ds : List D} {vs : List V} (n : Nat), RDs K l H ds vs → RDs K l H (ds.eraseIdx n) (vs.eraseIdx n)
  | [], _, n, h => by
    cases h
    rfl
  | d :: ds, vs, 0, h => by
    obtain ⟨v, r, rfl, h1, h2⟩ := h
    exact h2
  | d :: ds, vs, n + 1, h => by
    obtain ⟨v, r, rfl, h1, h2⟩ := h
    exact ⟨v, r.eraseIdx n, rfl, h1, RDs.erase n h2⟩
theorem RDs.reverse : ∀ {ds : List D} {vs : List V}, RDs K l H ds vs → RDs K l H ds.reverse vs.reverse
  | [], _, h => by
    cases h
    rfl
  | d :: ds, vs, h => by
    obtain ⟨v, r, rfl, h1, h2⟩ := h
    rw [List.reverse_cons, List.reverse_cons]
    exact RDs.append (RDs.reverse h2) ⟨v, [], rfl, h1, rfl⟩
theorem RDs.ints : ∀ (ns : List Int), RDs K l H (ns.map D.int) (ns.map V.int)
  | [] => rfl
  | n :: r => ⟨.int n, r.map V.int, rfl, rfl, RDs.ints r⟩
end
/-! ### the store in the heap -/
abbrev RKV {A : Type} (K : PySem.W.Frag) (l : Lay) (H : Hp) : List (A × D) → List (A × V) → Prop := Paired fun p q => p.1 = q.1 ∧ RD K l H p.2 q.2
abbrev RF (C : Ctx) (l : Lay) (H : Hp) : List (Nat × D) → List (Str × V) → Prop := Paired fun p q => C.anm p.1 = q.1 ∧ RD C.K l H p.2 q.2
def CellOk (C : Ctx) (l : Lay) (H : Hp) (a : Addr) : Cell → Prop
  | .lst ds => ∃ vs, H a = some (.lst vs) ∧ RDs C.K l H ds vs
  | .dK kvs => ∃ ws, H a = some (.dK ws) ∧ RKV C.K l H kvs ws
  | .dT kvs => ∃ ws, H a = some (.dT ws) ∧ RKV C.K l H kvs ws
  | .ins c fs => ∃ dx ws, H a = some (.ins (C.cad c) dx ws) ∧ RF C l H fs ws
  | .lkK kvs => ∃ o ws, l.lk a = some (o, .dK ws) ∧ H a = some (.frz o (.dK ws)) ∧ RKV C.K l H kvs ws
  | .lkT kvs => ∃ o ws, l.lk a = some (o, .dT ws) ∧ H a = some (.frz o (.dT ws)) ∧ RKV C.K l H kvs ws
  | .tbl n => a = C.tad n ∧ ∃ ps, H a = some (.tbl ps) ∧ TriplesOk ps.toList ∧ ∀ (pos : Pos) (cv : Value), codeAmong pos ps.toList = some cv → ∃ c, cv = .ref c ∧ H c = some (LamX.CodeO c (C.tq n)) ∧ (∀ i, l i ≠ some c) ∧ ¬ l.no c
structure Rel (C : Ctx) (l : Lay) (S : Sto) (H : Hp) : Prop where
  cells : ∀ i c, S.at_ i = some c → ∃ a, l i = some a ∧ CellOk C l H a c
  dom : ∀ i, S.at_ i = none → l i = none
  inj : ∀ i j a, l i = some a → l j = some a → i = j
  nos : ∀ a, l.no a → (∃ o, H a = some o ∧ ∀ vs, o ≠ .tup vs) ∧ ∀ i, l i ≠ some a
theorem CellOk.some {C : Ctx} {l : Lay} {H : Hp} {a : Addr} {c : Cell} (h : CellOk C l H a c) : ∃ o, H a = some o ∧ ∀ vs, o ≠ .tup vs := by
  cases c with
  | lst ds => obtain ⟨vs, h, _⟩ := h; exact ⟨_, h, fun _ => by intro e; cases e⟩
  | dK ds => obtain ⟨vs, h, _⟩ := h; exact ⟨_, h, fun _ => by intro e; cases e⟩
  | dT ds => obtain ⟨vs, h, _⟩ := h; exact ⟨_, h, fun _ => by intro e; cases e⟩
  | ins c fs => obtain ⟨dx, vs, h, _⟩ := h; exact ⟨_, h, fun _ => by intro e; cases e⟩
  | lkK ds => obtain ⟨o, ws, _, h, _⟩ := h; exact ⟨_, h, fun _ => by intro e; cases e⟩
  | lkT ds => obtain ⟨o, ws, _, h, _⟩ := h; exact ⟨_, h, fun _ => by intro e; cases e⟩
  | tbl n => obtain ⟨_, ps, h, _⟩ := h; exact ⟨_, h, fun _ => by intro e; cases e⟩
theorem Rel.at' {C : Ctx} {l : Lay} {S : Sto} {H : Hp} (r : Rel C l S H) {i : Id} {a : Addr} (h : l i = some a) : ∃ c, S.at_ i = some c ∧ CellOk C l H a c := by
  cases q : S.at_ i with
  | none =>
    rw [r.dom i q] at h
    cases h
  | some c =>
    obtain ⟨b, hb, hc⟩ := r.cells i c q
    rw [h] at hb
    cases hb
    exact ⟨c, rfl, hc⟩
theorem Rel.there {C : Ctx} {l : Lay} {S : Sto} {H : Hp} (r : Rel C l S H) {i : Id} {a : Addr} (h : l i = some a) : ∃ o, H a = some o := by
  obtain ⟨c, _, hc⟩ := r.at' h
  obtain ⟨o, ho, _⟩ := hc.some
  exact ⟨o, ho⟩
theorem Rel.notup {C : Ctx} {l : Lay} {S : Sto} {H : Hp} (r : Rel C l S H) {a : Addr} {vs : List V} (h : H a = some (.tup vs)) : ∀ i, l i ≠ some a := fun i hi => by
  obtain ⟨c, _, hc⟩ := r.at' hi
  obtain ⟨o, ho, n⟩ := hc.some
  rw [h] at ho
  cases ho
  exact n vs rfl
theorem Ext.thru {C : Ctx} {l l1 l2 : Lay} {S1 : Sto} {H H1 H2 : Hp} (e : Ext l H l1 H1) (f : Ext l1 H1 l2 H2) (r : Rel C l1 S1 H1) : Ext l H l2 H2 :=
  e.trans f fun i b hi => r.there (e.id i b hi)
theorem RKV.tr {A : Type} {K : PySem.W.Frag} {l l' : Lay} {H H' : Hp} (e : Tr l H l' H') {xs : List (A × D)} {ys : List (A × V)} (h : RKV K l H xs ys) : RKV K l' H' xs ys :=
  L2.Paired.mapP h fun p q z => ⟨z.1, RD.tr e _ _ z.2⟩
theorem RF.tr {C : Ctx} {l l' : Lay} {H H' : Hp} (e : Tr l H l' H') {xs : List (Nat × D)} {ys : List (Str × V)} (h : RF C l H xs ys) : RF C l' H' xs ys :=
  L2.Paired.mapP h fun p q z => ⟨z.1, RD.tr e _ _ z.2⟩
/-- the cell as it stood, in a heap that keeps its address -/
theorem CellOk.tr {C : Ctx} {l l' : Lay} {H H' : Hp} (e : Tr l H l' H') {a : Addr} {c : Cell} (h : CellOk C l H a c) (k : H' a = H a) (k2 : l'.lk a = l.lk a) : CellOk C l' H' a c := by
  cases c with
  | lst ds => obtain ⟨vs, h, r⟩ := h; exact ⟨vs, by rw [k]; exact h, RDs.tr e _ _ r⟩
  | dK ds => obtain ⟨vs, h, r⟩ := h; exact ⟨vs, by rw [k]; exact h, RKV.tr e r⟩
  | dT ds => obtain ⟨vs, h, r⟩ := h; exact ⟨vs, by rw [k]; exact h, RKV.tr e r⟩
  | ins c fs => obtain ⟨dx, vs, h, r⟩ := h; exact ⟨dx, vs, by rw [k]; exact h, RF.tr e r⟩
  | lkK ds => obtain ⟨o, ws, q, h, r⟩ := h; exact ⟨o, ws, by rw [k2]; exact q, by rw [k]; exact h, RKV.tr e r⟩
  | lkT ds => obtain ⟨o, ws, q, h, r⟩ := h; exact ⟨o, ws, by rw [k2]; exact q, by rw [k]; exact h, RKV.tr e r⟩
  | tbl n =>
    obtain ⟨ha, ps, h, ht, hc⟩ := h
    refine ⟨ha, ps, by rw [k]; exact h, ht, fun pos cv hq => ?_⟩
    obtain ⟨c, e1, e2, e3, e4⟩ := hc pos cv hq
    exact ⟨c, e1, e.lst c _ e2 e3 e4⟩
theorem RKV.monoW {A : Type} {K : PySem.W.Frag} {l l' : Lay} {H H' : Hp} (e : ExtW l H l' H') {xs : List (A × D)} {ys : List (A × V)} (h : RKV K l H xs ys) : RKV K l' H' xs ys := RKV.tr e.tr h
theorem RF.monoW {C : Ctx} {l l' : Lay} {H H' : Hp} (e : ExtW l H l' H') {xs : List (Nat × D)} {ys : List (Str × V)} (h : RF C l H xs ys) : RF C l' H' xs ys := RF.tr e.tr h
theorem CellOk.monoW {C : Ctx} {l l' : Lay} {H H' : Hp} (e : ExtW l H l' H') {a : Addr} {c : Cell} (h : CellOk C l H a c) (k : H' a = H a) (k2 : l'.lk a = l.lk a) : CellOk C l' H' a c := CellOk.tr e.tr h k k2
theorem RKV.mono {A : Type} {K : PySem.W.Frag} {l l' : Lay} {H H' : Hp} (e : Ext l H l' H') {xs : List (A × D)} {ys : List (A × V)} (h : RKV K l H xs ys) : RKV K l' H' xs ys := RKV.monoW e.toExtW h
theorem RF.mono {C : Ctx} {l l' : Lay} {H H' : Hp} (e : Ext l H l' H') {xs : List (Nat × D)} {ys : List (Str × V)} (h : RF C l H xs ys) : RF C l' H' xs ys := RF.monoW e.toExtW h
theorem CellOk.mono {C : Ctx} {l l' : Lay} {H H' : Hp} (e : Ext l H l' H') {a : Addr} {c : Cell} (h : CellOk C l H a c) (k : H' a = H a) (k2 : l'.lk a = l.lk a) : CellOk C l' H' a c := CellOk.monoW e.toExtW h k k2
/-- a new object that is no cell -/
theorem ext_new {l : Lay} {H : Hp} {p : Addr} {o : HO} (hp : H p = none) : Ext l H l (upd H p o) where
  id := fun _ _ h => h
  keep := fun a u h _ => by rw [upd_ne (ne_of_none h hp)]; exact h
  tup := fun a u h => by rw [upd_ne (ne_of_none h hp)]; exact h
  new := fun i a h h' => by rw [h] at h'; cases h'
  no := fun a h => .inl h
  no1 := fun a h => h
  lk := rfl
theorem rel_new {C : Ctx} {l : Lay} {S : Sto} {H : Hp} {p : Addr} {o : HO} (r : Rel C l S H) (hp : H p = none) : Rel C l S (upd H p o) where
  cells := fun i c h => by
    obtain ⟨a, ha, hc⟩ := r.cells i c h
    obtain ⟨o', ho, _⟩ := hc.some
    exact ⟨a, ha, hc.mono (ext_new hp) (upd_ne (ne_of_none ho hp)) rfl⟩
  dom := r.dom
  inj := r.inj
  nos := fun a h => by
    obtain ⟨⟨vs, hv, hz⟩, hn⟩ := r.nos a h
    exact ⟨⟨vs, by rw [upd_ne (ne_of_none hv hp)]; exact hv, hz⟩, hn⟩
theorem Rel.free {C : Ctx} {l : Lay} {S : Sto} {H : Hp} (r : Rel C l S H) {p : Addr} (hp : H p = none) : ¬ l.no p := fun h => by
  obtain ⟨⟨vs, hv, _⟩, _⟩ := r.nos p h
  rw [hp] at hv
  cases hv
theorem Rel.fresh {C : Ctx} {l : Lay} {S : Sto} {H : Hp} (r : Rel C l S H) {p : Addr} (hp : H p = none) : ∀ i, l i ≠ some p := fun i hi => by
  obtain ⟨o, ho⟩ := r.there hi
  rw [hp] at ho
  cases ho
/-- a heap grown by untracked things only -/
theorem rel_keep {C : Ctx} {l : Lay} {S : Sto} {H H' : Hp} (r : Rel C l S H) (e : Ext l H l H') (k : ∀ i a, l i = some a → H' a = H a) (k2 : ∀ a, l.no a → H' a = H a) : Rel C l S H' where
  cells := fun i c h => by
    obtain ⟨a, ha, hc⟩ := r.cells i c h
    exact ⟨a, ha, hc.mono e (k i a ha) rfl⟩
  dom := r.dom
  inj := r.inj
  nos := fun a h => by
    rw [k2 a h]
    exact r.nos a h
/-- a cell is written -/
theorem ext_set {C : Ctx} {l : Lay} {S : Sto} {H : Hp} {i : Id} {a : Addr} {o : HO} (r : Rel C l S H) (hi : l i = some a) : Ext l H l (upd H a o) where
  id := fun _ _ h => h
  keep := fun b u h n => by rw [upd_ne (fun e => n i (by rw [e]; exact hi))]; exact h
  tup := fun b u h => by rw [upd_ne (fun e => r.notup h i (by rw [e]; exact hi))]; exact h
  new := fun i a h h' => by rw [h] at h'; cases h'
  no := fun a h => .inl h
  no1 := fun a h => h
  lk := rfl
theorem rel_set {C : Ctx} {l : Lay} {S : Sto} {H : Hp} {i : Id} {a : Addr} {o : HO} {c : Cell} (r : Rel C l S H) (hi : l i = some a) (hc : CellOk C l (upd H a o) a c) : Rel C l (S.set i c) (upd H a o) where
  cells := fun j c' h => by
    by_cases hj : j = i
    · subst hj
      rw [Sto.set_same] at h
      cases h
      exact ⟨a, hi, hc⟩
    · rw [Sto.set_ne hj] at h
      obtain ⟨b, hb, hc'⟩ := r.cells j c' h
      refine ⟨b, hb, hc'.mono (ext_set r hi) (upd_ne fun e => hj (r.inj j i a (by rw [← e]; exact hb) hi)) rfl⟩
  dom := fun j h => by
    by_cases hj : j = i
    · subst hj
      rw [Sto.set_same] at h
      cases h
    · rw [Sto.set_ne hj] at h
      exact r.dom j h
  inj := r.inj
  nos := fun b h => by
    obtain ⟨⟨vs, hv, hz⟩, hn⟩ := r.nos b h
    exact ⟨⟨vs, by rw [upd_ne (fun e => hn i (by rw [e]; exact hi))]; exact hv, hz⟩, hn⟩
/-- a new cell -/
def Lay.add (l : Lay) (i : Id) (p : Addr) : Lay := ⟨fun j => if j = i then some p else l j, l.no, l.lk⟩
theorem Lay.add_same {l : Lay} {i : Id} {p : Addr} : l.add i p i = some p := by simp [Lay.add]
theorem Lay.add_ne {l : Lay} {i j : Id} {p : Addr} (h : j ≠ i) : l.add i p j = l j := by simp [Lay.add, h]
theorem ext_add {C : Ctx} {l : Lay} {S : Sto} {H : Hp} {i : Id} {p : Addr} {o : HO} (r : Rel C l S H) (hn : S.at_ i = none) (hp : H p = none) : Ext l H (l.add i p) (upd H p o) where
  id := fun j b h => by
    by_cases hj : j = i
    · subst hj
      rw [r.dom j hn] at h
      cases h
    · rw [Lay.add_ne hj]; exact h
  keep := fun b u h n => by rw [upd_ne (ne_of_none h hp)]; exact h
  tup := fun b u h => by rw [upd_ne (ne_of_none h hp)]; exact h
  new := fun j b h h' => by
    by_cases hj : j = i
    · subst hj
      rw [Lay.add_same] at h'
      cases h'
      exact hp
    · rw [Lay.add_ne hj, h] at h'
      cases h'
  no := fun a h => .inl h
  no1 := fun a h => h
  lk := rfl
theorem rel_add {C : Ctx} {l : Lay} {S : Sto} {H : Hp} {i : Id} {p : Addr} {o : HO} {c : Cell} (r : Rel C l S H) (hn : S.at_ i = none) (hp : H p = none) (hc : CellOk C (l.add i p) (upd H p o) p c) : Rel C (l.add i p) (S.set i c) (upd H p o) where
  cells := fun j c' h => by
    by_cases hj : j = i
    · subst hj
      rw [Sto.set_same] at h
      cases h
      exact ⟨p, Lay.add_same, hc⟩
    · rw [Sto.set_ne hj] at h
      obtain ⟨b, hb, hc'⟩ := r.cells j c' h
      obtain ⟨o', ho, _⟩ := hc'.some
      exact ⟨b, by rw [Lay.add_ne hj]; exact hb, hc'.mono (ext_add r hn hp) (upd_ne (ne_of_none ho hp)) rfl⟩
  dom := fun j h => by
    by_cases hj : j = i
    · subst hj
      rw [Sto.set_same] at h
      cases h
    · rw [Sto.set_ne hj] at h
      rw [Lay.add_ne hj]
      exact r.dom j h
  inj := fun j k b h h' => by
    by_cases hj : j = i
    · subst hj
      rw [Lay.add_same] at h
      cases h
      by_cases hk : k = j
      · exact hk.symm
      · rw [Lay.add_ne hk] at h'
        exact (r.fresh hp k h').elim
    · rw [Lay.add_ne hj] at h
      by_cases hk : k = i
      · subst hk
        rw [Lay.add_same] at h'
        cases h'
        exact (r.fresh hp j h).elim
      · rw [Lay.add_ne hk] at h'
        exact r.inj j k b h h'
  nos := fun b h => by
    obtain ⟨⟨vs, hv, hz⟩, hn⟩ := r.nos b h
    refine ⟨⟨vs, by rw [upd_ne (ne_of_none hv hp)]; exact hv, hz⟩, fun j hj => ?_⟩
    by_cases e : j = i
    · subst e
      rw [Lay.add_same] at hj
      cases hj
      rw [hp] at hv
      cases hv
    · rw [Lay.add_ne e] at hj
      exact hn j hj
/-! ### slots -/
def EnvR (K : PySem.W.Frag) (l : Lay) (H : Hp) (e : Env') (s : L2.St) : Prop := e.length = s.length ∧ ∀ (i : Nat) (d : D), e[i]? = some (some d) → ∃ v, s[i]? = some (some v) ∧ RD K l H d v
theorem EnvR.mono {K : PySem.W.Frag} {l l' : Lay} {H H' : Hp} {e : Env'} {s : L2.St} (x : Ext l H l' H') (h : EnvR K l H e s) : EnvR K l' H' e s :=
  ⟨h.1, fun i d hi => by
    obtain ⟨v, hv, r⟩ := h.2 i d hi
    exact ⟨v, hv, RD.mono x d v r⟩⟩
theorem EnvR.monoW {K : PySem.W.Frag} {l l' : Lay} {H H' : Hp} {e : Env'} {s : L2.St} (h : EnvR K l H e s) (x : ExtW l H l' H') : EnvR K l' H' e s :=
  ⟨h.1, fun i d hi => by
    obtain ⟨v, hv, r⟩ := h.2 i d hi
    exact ⟨v, hv, RD.monoW x d v r⟩⟩
theorem EnvR.set {K : PySem.W.Frag} {l : Lay} {H : Hp} {e : Env'} {s : L2.St} {i : Nat} {d : D} {v : V} (h : EnvR K l H e s) (r : RD K l H d v) : EnvR K l H (e.set i (some d)) (s.set i (some v)) := by
  refine ⟨by simp [h.1], fun j x hj => ?_⟩
  by_cases hij : i = j
  · subst hij
    by_cases hl : i < e.length
    · rw [List.getElem?_set_self hl] at hj
      cases hj
      exact ⟨v, List.getElem?_set_self (by rw [← h.1]; exact hl), r⟩
    · rw [List.getElem?_eq_none (by simpa using hl)] at hj
      cases hj
  · rw [List.getElem?_set_ne hij] at hj
    obtain ⟨u, hu, q⟩ := h.2 j x hj
    exact ⟨u, by rw [List.getElem?_set_ne hij]; exact hu, q⟩
theorem EnvR.clear {K : PySem.W.Frag} {l : Lay} {H : Hp} {e : Env'} {s : L2.St} {i : Nat} {o : Option V} (h : EnvR K l H e s) : EnvR K l H (e.set i none) (s.set i o) := by
  refine ⟨by simp [h.1], fun j x hj => ?_⟩
  by_cases hij : i = j
  · subst hij
    by_cases hl : i < e.length
    · rw [List.getElem?_set_self hl] at hj
      cases hj
    · rw [List.getElem?_eq_none (by simpa using hl)] at hj
      cases hj
  · rw [List.getElem?_set_ne hij] at hj
    obtain ⟨u, hu, q⟩ := h.2 j x hj
    exact ⟨u, by rw [List.getElem?_set_ne hij]; exact hu, q⟩
/-! ### exceptions, ends -/
def RX (C : Ctx) (l : Lay) (H : Hp) (x : Exn) (cls : Value) (d : Option Addr) : Prop := cls = .ref (C.xad x.c) ∧ match x.fs with
  | none => d = none
  | some fs => ∃ dd, d = some dd ∧ XdAt l H (some (dd, fs))
section
variable (C : Ctx) (W : WX)
/-- how an outcome is met -/
def Post {A : Type} (RA : Lay → Hp → A → Prop) (s : L2.St) (l : Lay) (H : Hp) : Out A → Prop
  | .ok a S => ∀ H' l', Ext l H l' H' → Rel C l' S H' → RA l' H' a
  | .exc x S => ∀ H' l' cls d, Ext l H l' H' → Rel C l' S H' → RX C l' H' x cls d → W cls d s H'
  | .bad => False
def QE (Q : VK) : Lay → Hp → D → Prop := fun l H d => ∀ v, RD C.K l H d v → Q v H
def QA (Q : List V → Hp → Prop) : Lay → Hp → List D → Prop := fun l H ds => ∀ vs, RDs C.K l H ds vs → Q vs H
def QT (Q : Bool → Hp → Prop) : Lay → Hp → Bool → Prop := fun _ H b => Q b H
def T (m : EM) : TE := fun s H Q => ∃ e S l, EnvR C.K l H e s ∧ Rel C l S H ∧ Post C W (QE C Q) s l H (m e S)
def TA' (m : AM) : TA := fun s H Q => ∃ e S l, EnvR C.K l H e s ∧ Rel C l S H ∧ Post C W (QA C Q) s l H (m e S)
def TT' (m : TM) : TT := fun s H Q => ∃ e S l, EnvR C.K l H e s ∧ Rel C l S H ∧ Post C W (QT Q) s l H (m e S)
end
section
variable {C : Ctx} {W : WX} {A : Type} {s : L2.St} {l l' : Lay} {H H' : Hp} {RA : Lay → Hp → A → Prop}
theorem Post.mono {S' : Sto} {o : Out A} (h : Post C W RA s l H o) (x : Ext l H l' H') (r : Rel C l' S' H') : Post C W RA s l' H' o := by
  cases o with
  | ok a S => exact fun H2 l2 x2 r2 => h H2 l2 (x.thru x2 r) r2
  | exc e S => exact fun H2 l2 c d x2 r2 => h H2 l2 c d (x.thru x2 r) r2
  | bad => exact h
theorem Post.imp {RB : Lay → Hp → A → Prop} {o : Out A} (h : Post C W RA s l H o) (k : ∀ H' l' a S, Ext l H l' H' → Rel C l' S H' → RA l' H' a → RB l' H' a) : Post C W RB s l H o := by
  cases o with
  | ok a S => exact fun H2 l2 x2 r2 => k _ _ _ _ x2 r2 (h H2 l2 x2 r2)
  | exc e S => exact h
  | bad => exact h
/-- a part's outcome, then the rest -/
theorem Post.bind {B : Type} {RB : Lay → Hp → B → Prop} {o : Out A} {f : A → Sto → Out B} (h : Post C W RB s l H (o.bind f))
    (k : ∀ H' l' a S, Ext l H l' H' → Rel C l' S H' → Post C W RB s l' H' (f a S) → RA l' H' a) : Post C W RA s l H o := by
  cases o with
  | ok a S => exact fun H2 l2 x2 r2 => k _ _ _ _ x2 r2 (Post.mono h x2 r2)
  | exc e S => exact h
  | bad => exact h
theorem Post.pure {a : A} {S : Sto} (r : Rel C l S H) (h : Post C W RA s l H (.ok a S)) : RA l H a := h H l (Ext.refl l H) r
end
end Pyx
namespace L2
open PySem PySem.Spec PyProof.Rows HT
theorem tuple_mul1 (l : Addr) (items : Array Value) (n : Nat) (dd : Option Addr) (sl : Array (Option Value)) (u : Tok) :
    Meets (Builtin.«tuple.__mul__» ⟨[.ref l, .int 1 u], []⟩) (fun _ R s => s.heap.get? l = some { cls := .type "tuple", dict := dd, data := .seq items n, slots := sl } ∧ R (.ok (.ret (.ref l))) s) :=
  .of_wp fun prog w A R s h => by
    obtain ⟨hp, g, d, tk, os⟩ := s
    obtain ⟨hl, h⟩ := h
    have f1 := AutoSeq1.idx_int
    have c1 : (items.isEmpty || (1 : Int) == 1) = true := by rw [beq_self_eq_true, Bool.or_true]
    wp_walk using wpAny_loadPart' hl
    repeat (first
      | (refine wpAny_ite_false (decide_eq_false (by decide)) ?_; wp_walk using wpAny_loadPart' hl)
      | (refine wpAny_ite_true (decide_eq_true c1) ?_; wp_walk using wpAny_loadPart' hl))
    exact ⟨_, rfl, h⟩
theorem op_repT1 {X : Cx} : OpR X (binaryOp .Mult) (fun x y H Q => ∃ l xs, x = .ref l ∧ y = .int 1 ∧ SqT X.K H l xs ∧ Q (.ref l) H) := by
  intro pins s σ H x y v u Q I rx ry h
  obtain ⟨l, xs, rfl, rfl, hT, q⟩ := h
  cases rx
  obtain ⟨t, rfl⟩ := ry
  obtain ⟨its, r, ⟨⟨cls, dd, data, sl⟩, ho, hc, n, hd⟩, hs⟩ := I.tuple hT
  simp only at hc hd
  subst hc hd
  refine wpAny_binaryOp_repeat_ref (T := "tuple") (U := "int") (by decide) ⟨_, ho, rfl⟩ (fun s' => typeIs_int s' 1 t) noFill_tuple_mul F.fills_int_mul F.slot_int_rmul repeat_tuple F.slot_int_index.lookup
    (call_meets F.slot_int_rmul (typeIs_int s 1 t) F.entry_int_rmul (F.args_int_rmul_2 _ _) (int_rmul_tuple 1 t l its.toArray n dd sl)
      ⟨ho, rfl, ⟨_, ho, rfl⟩, call_meets F.slot_tuple_mul ⟨_, ho, rfl⟩ F.entry_tuple_mul (F.args_tuple_mul_2 _ _) (tuple_mul1 l its.toArray n dd sl t) ⟨ho, ?_⟩⟩)
  exact ⟨.ref l, H, I, rfl, q⟩
theorem tuple_mul0 (l : Addr) (items : Array Value) (n : Nat) (dd : Option Addr) (sl : Array (Option Value)) (u : Tok) (hi : items.isEmpty = false) :
    Meets (Builtin.«tuple.__mul__» ⟨[.ref l, .int 0 u], []⟩) (fun _ R s => s.heap.get? l = some { cls := .type "tuple", dict := dd, data := .seq items n, slots := sl } ∧
      R (.ok (.ret (Value.ref s.heap.objs.size))) { s with heap := s.heap.push { cls := Value.type "tuple", data := Data.seq #[] }, toks := s.toks }) :=
  .of_wp fun prog w A R s h => by
    obtain ⟨hp, g, d, tk, os⟩ := s
    obtain ⟨hl, h⟩ := h
    have f1 := AutoSeq1.idx_int
    have c1 : ¬ (items.isEmpty || (0 : Int) == 1) = true := by
      rw [hi]
      decide
    have c2 : (decide ((0 : Int) ≤ 0) || items.isEmpty) = true := rfl
    wp_walk using wpAny_loadPart' hl
    repeat (first
      | (refine wpAny_ite_false (decide_eq_false c1) ?_; wp_walk using wpAny_loadPart' hl)
      | (refine wpAny_ite_true (decide_eq_true c2) ?_; wp_walk using wpAny_loadPart' hl)
      | (refine wpAny_ite_false (decide_eq_false (by decide)) ?_; wp_walk using wpAny_loadPart' hl))
    exact ⟨_, rfl, h⟩
theorem op_repT0 {X : Cx} : OpR X (binaryOp .Mult) (fun x y H Q => ∃ l xs, x = .ref l ∧ y = .int 0 ∧ SqT X.K H l xs ∧ xs ≠ [] ∧ ∀ p, H p = none → Q (.ref p) (upd H p (.tup []))) := by
  intro pins s σ H x y v u Q I rx ry h
  obtain ⟨l, xs, rfl, rfl, hT, hne, q⟩ := h
  cases rx
  obtain ⟨t, rfl⟩ := ry
  obtain ⟨its, r, ⟨⟨cls, dd, data, sl⟩, ho, hc, n, hd⟩, hs⟩ := I.tuple hT
  simp only at hc hd
  subst hc hd
  have hi : its.toArray.isEmpty = false := by
    cases its with
    | nil =>
      cases r
      exact absurd rfl hne
    | cons a b => rfl
  refine wpAny_binaryOp_repeat_ref (T := "tuple") (U := "int") (by decide) ⟨_, ho, rfl⟩ (fun s' => typeIs_int s' 0 t) noFill_tuple_mul F.fills_int_mul F.slot_int_rmul repeat_tuple F.slot_int_index.lookup
    (call_meets F.slot_int_rmul (typeIs_int s 0 t) F.entry_int_rmul (F.args_int_rmul_2 _ _) (int_rmul_tuple 0 t l its.toArray n dd sl)
      ⟨ho, rfl, ⟨_, ho, rfl⟩, call_meets F.slot_tuple_mul ⟨_, ho, rfl⟩ F.entry_tuple_mul (F.args_tuple_mul_2 _ _) (tuple_mul0 l its.toArray n dd sl t hi) ⟨ho, ?_⟩⟩)
  refine ⟨.ref s.heap.objs.size, _, I.laid (t' := s.toks) (o := .tup []) (fun b ob q => Heap.get?_push_of_some _ q) (Nat.le_refl _) ?_, rfl, q _ (I.hok.fresh (Nat.le_refl _))⟩
  exact ⟨Nat.zero_le _, [], .nil, IsTup.new _ _⟩
theorem op_catP {X : Cx} : OpR X (binaryOp .Add) (fun x y H Q => ∃ a b xs ys, x = .ref a ∧ y = .ref b ∧ SqT X.K H a xs ∧ SqT X.K H b ys ∧ xs.length + ys.length ≤ sizeLine ∧
    (xs = [] → Q (.ref b) H) ∧ (xs ≠ [] → ys = [] → Q (.ref a) H) ∧ (xs ≠ [] → ys ≠ [] → ∀ p o, H p = none → o.dict = none → Q (.ref p) (upd H p (.frz o (.tup (xs ++ ys)))))) := by
  intro pins s σ H x y v u Q I rx ry h
  obtain ⟨a, b, xs, ys, rfl, rfl, ha, hb, hz, q0, q1, q2⟩ := h
  by_cases hx : xs = []
  · exact op_catA pins s σ H _ _ v u Q I rx ry ⟨a, b, xs, ys, rfl, rfl, ha, hb, hz, q0, fun e => absurd hx e, fun e => absurd hx e⟩
  · by_cases hy : ys = []
    · exact op_catA pins s σ H _ _ v u Q I rx ry ⟨a, b, xs, ys, rfl, rfl, ha, hb, hz, fun e => absurd e hx, q1, fun _ e => absurd hy e⟩
    · cases rx
      cases ry
      obtain ⟨its, r1, p1, _⟩ := I.tuple ha
      obtain ⟨its2, r2, p2, _⟩ := I.tuple hb
      refine HT.cat_tup p1 p2 (fun z => hx (r1.nil_iff.mp z)) (fun z => absurd (r2.nil_iff.mp z) hy) (fun z => ?_) (by rw [← r1.length, ← r2.length]; exact hz)
      have hz' : (xs ++ ys).length ≤ sizeLine := by
        rw [List.length_append]
        exact hz
      exact ⟨.ref s.heap.objs.size, upd H s.heap.objs.size (.frz { cls := .type "tuple", data := .seq (its ++ its2).toArray } (.tup (xs ++ ys))), I.laid (t' := s.toks) (fun b o e => Heap.get?_push_of_some _ e) (Nat.le_refl _) (show ObjOk X.prog X.w _ _ _ (.frz _ (.tup (xs ++ ys))) from ⟨Heap.get?_push_size _ rfl, hz', _, r1.append r2, IsTup.new _ _⟩), rfl, q2 hx hy _ _ (I.hok.fresh (Nat.le_refl _)) rfl⟩
end L2
/-! operators by values -/
namespace Pyx
open PySem PySem.Spec PyProof.Rows L2
theorem PEmono {X : Cx} {e : Expr} {t t' : TE} (h : PE X e t) (k : ∀ s H Q, t' s H Q → t s H Q) : PE X e t' := ⟨fun pins s σ H Q I q => h.run pins s σ H Q I (k σ H Q q)⟩
theorem PTmono {X : Cx} {e : Expr} {t t' : TT} (h : PT X e t) (k : ∀ s H Q, t' s H Q → t s H Q) : PT X e t' := ⟨fun pins s σ H Q I q => h.run pins s σ H Q I (k σ H Q q)⟩
theorem PAmono {X : Cx} {e : List Expr} {t t' : TA} (h : PA X e t) (k : ∀ s H Q, t' s H Q → t s H Q) : PA X e t' := ⟨fun pos pins s σ H Q I q => h.run pos pins s σ H Q I (k σ H Q q)⟩
theorem PSmono {X : Cx} {e : Stmt} {t t' : TS} (h : PS X e t) (k : ∀ D s H, t' D s H → t D s H) : PS X e t' := ⟨fun pins s σ H D I q => h.run pins s σ H D I (k D σ H q)⟩
theorem PSsmono {X : Cx} {e : List Stmt} {t t' : TS} (h : PSs X e t) (k : ∀ D s H, t' D s H → t D s H) : PSs X e t' := ⟨fun pins s σ H D I q => h.run pins s σ H D I (k D σ H q)⟩
theorem OpRmono {X : Cx} {f : Value → Value → Sem Value} {r r' : R2} (h : OpR X f r) (k : ∀ x y H Q, r' x y H Q → r x y H Q) : OpR X f r' := fun pins s σ H x y v u Q I rx ry q => h pins s σ H x y v u Q I rx ry (k x y H Q q)
/-- what a value operation hands on -/
def VPost (C : Ctx) (S : Sto) (l : Lay) (H : Hp) (d : D) (Q : VK) : Prop := ∀ H' l', Ext l H l' H' → Rel C l' S H' → ∀ v, RD C.K l' H' d v → Q v H'
def rB (C : Ctx) (g : D → D → Sto → Option D) : R2 := fun x y H Q => ∃ S l a b d, Rel C l S H ∧ RD C.K l H a x ∧ RD C.K l H b y ∧ g a b S = some d ∧ VPost C S l H d Q
section
variable {C : Ctx} {S : Sto} {l : Lay} {H : Hp} {d : D} {Q : VK}
theorem VPost.now (h : VPost C S l H d Q) (r : Rel C l S H) {v : V} (q : RD C.K l H d v) : Q v H := h H l (Ext.refl l H) r v q
/-- a new tuple -/
theorem VPost.tup {ds : List D} {vs : List V} {p : Addr} (h : VPost C S l H (.tup ds) Q) (r : Rel C l S H) (hs : RDs C.K l H ds vs) (hp : H p = none) : Q (.ref p) (upd H p (.tup vs)) :=
  h _ l (ext_new hp) (rel_new r hp) _ ⟨p, vs, rfl, upd_same, RDs.mono (ext_new hp) _ _ hs⟩
/-- a new list that is never written -/
theorem VPost.lst {ds : List D} {vs : List V} {p : Addr} (h : VPost C S l H (.lst ds) Q) (r : Rel C l S H) (hs : RDs C.K l H ds vs) (hp : H p = none) : Q (.ref p) (upd H p (.lst vs)) :=
  h _ l (ext_new hp) (rel_new r hp) _ ⟨p, vs, rfl, ⟨upd_same, r.fresh hp, r.free hp⟩, RDs.mono (ext_new hp) _ _ hs⟩
end
/-! ### + - * // % -/
def addD : D → D → Sto → Option D
  | .int i, .int j, _ => some (.int (i + j))
  | .str i, .str j, _ => if i.length + j.length ≤ sizeLine ∧ PySem.PyData.strOk (i ++ j) = true then some (.str (i ++ j)) else none
  | .tup a, .tup b, _ => if a.length + b.length ≤ sizeLine then some (.tup (a ++ b)) else none
  | .lst a, .lst b, _ => if a.length + b.length ≤ sizeLine then some (.lst (a ++ b)) else none
  | .ptup a, .ptup b, _ => if a.length + b.length ≤ sizeLine then some (.ptup (a ++ b)) else none
  | _, _, _ => none
def subD : D → D → Sto → Option D
  | .int i, .int j, _ => some (.int (i - j))
  | _, _, _ => none
/-- a product: small, or wide -/
def mulOk (i j : Int) : Prop := (-(2 ^ 64) < i ∧ i < 2 ^ 64) ∨ (-(2 ^ 64) < j ∧ j < 2 ^ 64)
instance (i j : Int) : Decidable (mulOk i j) := by unfold mulOk; infer_instance
def mulD : D → D → Sto → Option D
  | .int i, .int j, _ => if mulOk i j then some (.int (i * j)) else none
  | .tup ds, .int k, _ => if k = 1 then some (.tup ds) else if ds ≠ [] ∧ 2 ≤ k ∧ k ≤ 1000 ∧ ds.length ≤ 1000 then some (.tup (List.replicate k.toNat ds).flatten) else if k = 0 ∧ ds ≠ [] then some (.tup []) else none
  | _, _, _ => none
def fdivD : D → D → Sto → Option D
  | .int i, .int j, _ => if 0 < j ∧ j < 1073741824 then some (.int (i / j)) else none
  | _, _, _ => none
def modD : D → D → Sto → Option D
  | .int i, .int j, _ => if 0 < j then some (.int (i % j)) else none
  | _, _, _ => none
theorem RD.tupE {K : PySem.W.Frag} {l : Lay} {H : Hp} {ds : List D} {v : V} (h : RD K l H (.tup ds) v) : ∃ a vs, v = .ref a ∧ TupAt K H a vs ∧ RDs K l H ds vs := h
theorem RD.lstE {K : PySem.W.Frag} {l : Lay} {H : Hp} {ds : List D} {v : V} (h : RD K l H (.lst ds) v) : ∃ a vs, v = .ref a ∧ LstAt K l H a vs ∧ RDs K l H ds vs := h
theorem RDs.rep0 {K : PySem.W.Frag} {l : Lay} {H : Hp} {ds : List D} {vs : List V} (h : RDs K l H ds vs) : ∀ n, RDs K l H (List.replicate n ds).flatten (List.replicate n vs).flatten
  | 0 => rfl
  | n + 1 => by
    rw [List.replicate_succ, List.replicate_succ, List.flatten_cons, List.flatten_cons]
    exact RDs.append h (RDs.rep0 h n)
section
variable {X : Cx} {C : Ctx} (hK : C.K = X.K)
include hK
theorem vo_add : OpR X (binaryOp .Add) (rB C addD) := by
  intro pins s σ H x y v u Q I rx ry h
  obtain ⟨S, l, a, b, d, hr, ha, hb, hg, hp⟩ := h
  cases a <;> cases b <;> simp only [addD] at hg <;> try cases hg
  · cases ha; cases hb
    exact op_add pins s σ H _ _ v u Q I rx ry ⟨_, _, rfl, rfl, hp.now hr rfl⟩
  · split at hg
    · rename_i hl
      cases hg; cases ha.1; cases hb.1
      exact op_add_str pins s σ H _ _ v u Q I rx ry ⟨_, _, rfl, rfl, hl.1, hp.now hr ⟨rfl, hl.2⟩⟩
    · cases hg
  · split at hg
    · rename_i xs ys hl
      cases hg
      obtain ⟨p, vs, rfl, tp, hv⟩ := ha
      obtain ⟨q, ws, rfl, tq, hw⟩ := hb
      refine op_catA pins s σ H _ _ v u Q I rx ry ⟨p, q, vs, ws, rfl, rfl, hK ▸ tp.sq, hK ▸ tq.sq, by rw [hv.length, hw.length]; exact hl, fun e => ?_, fun e e' => ?_, fun e e' n hn => ?_⟩
      · refine hp.now hr ⟨q, vs ++ ws, rfl, by rw [e]; exact tq, RDs.append hv hw⟩
      · refine hp.now hr ⟨p, vs ++ ws, rfl, by rw [e', List.append_nil]; exact tp, RDs.append hv hw⟩
      · exact hp.tup hr (RDs.append hv hw) hn
    · cases hg
  · split at hg
    · rename_i xs ys hl
      cases hg
      obtain ⟨p, vs, rfl, tp, hv⟩ := ha
      obtain ⟨q, ws, rfl, tq, hw⟩ := hb
      exact op_cat pins s σ H _ _ v u Q I rx ry ⟨p, q, vs, ws, rfl, rfl, tp.1, tq.1, by rw [hv.length, hw.length]; exact hl, fun n hn => hp.lst hr (RDs.append hv hw) hn⟩
    · cases hg
  · split at hg
    · rename_i xs ys hl
      cases hg
      obtain ⟨p, vs, rfl, tp, hv⟩ := ha
      obtain ⟨q, ws, rfl, tq, hw⟩ := hb
      refine op_catP pins s σ H _ _ v u Q I rx ry ⟨p, q, vs, ws, rfl, rfl, hK ▸ tp.sq, hK ▸ tq.sq, by rw [hv.length, hw.length]; exact hl, fun e => ?_, fun e e' => ?_, fun e e' n o hn ho => ?_⟩
      · refine hp.now hr ⟨q, vs ++ ws, rfl, by rw [e]; exact tq, RDs.append hv hw⟩
      · refine hp.now hr ⟨p, vs ++ ws, rfl, by rw [e', List.append_nil]; exact tp, RDs.append hv hw⟩
      · exact hp _ l (ext_new hn) (rel_new hr hn) _ ⟨n, vs ++ ws, rfl, ⟨o, ho, upd_same, hr.fresh hn, hr.free hn⟩, RDs.mono (ext_new hn) _ _ (RDs.append hv hw)⟩
    · cases hg
theorem vo_sub : OpR X (binaryOp .Sub) (rB C subD) := by
  intro pins s σ H x y v u Q I rx ry h
  obtain ⟨S, l, a, b, d, hr, ha, hb, hg, hp⟩ := h
  cases a <;> cases b <;> simp only [subD] at hg <;> try cases hg
  cases ha; cases hb
  exact op_sub pins s σ H _ _ v u Q I rx ry ⟨_, _, rfl, rfl, hp.now hr rfl⟩
theorem vo_mul : OpR X (binaryOp .Mult) (rB C mulD) := by
  intro pins s σ H x y v u Q I rx ry h
  obtain ⟨S, l, a, b, d, hr, ha, hb, hg, hp⟩ := h
  cases a <;> cases b <;> simp only [mulD] at hg <;> try cases hg
  split at hg
  · rename_i hc
    cases hg; cases ha; cases hb
    exact op_mul pins s σ H _ _ v u Q I rx ry ⟨_, _, rfl, rfl, hc, hp.now hr rfl⟩
  · cases hg
  · rename_i ds k
    obtain ⟨p, vs, rfl, tp, hv⟩ := ha
    cases hb
    split at hg
    · rename_i hk
      subst hk
      cases hg
      exact L2.op_repT1 pins s σ H _ _ v u Q I rx ry ⟨p, vs, rfl, rfl, hK ▸ tp.sq, hp.now hr ⟨p, vs, rfl, tp, hv⟩⟩
    · split at hg
      · rename_i hk
        cases hg
        have hl := hv.length
        refine op_repT pins s σ H _ _ v u Q I rx ry ⟨p, k, vs, rfl, rfl, hK ▸ tp.sq, fun z => hk.1 ?_, hk.2.1, hk.2.2.1, by omega, fun n hn => hp.tup hr (RDs.rep0 hv k.toNat) hn⟩
        rw [z] at hl
        exact List.eq_nil_of_length_eq_zero hl.symm
      · split at hg
        · rename_i hk0
          obtain ⟨rfl, hne⟩ := hk0
          cases hg
          have hl := hv.length
          refine L2.op_repT0 pins s σ H _ _ v u Q I rx ry ⟨p, vs, rfl, rfl, hK ▸ tp.sq, fun z => hne ?_, fun n hn => hp.tup hr rfl hn⟩
          rw [z] at hl
          exact List.eq_nil_of_length_eq_zero hl.symm
        · cases hg
theorem vo_fdiv : OpR X (binaryOp .FloorDiv) (rB C fdivD) := by
  intro pins s σ H x y v u Q I rx ry h
  obtain ⟨S, l, a, b, d, hr, ha, hb, hg, hp⟩ := h
  cases a <;> cases b <;> simp only [fdivD] at hg <;> try cases hg
  split at hg
  · rename_i hc
    cases hg; cases ha; cases hb
    exact op_fdiv pins s σ H _ _ v u Q I rx ry ⟨_, _, rfl, rfl, hc, hp.now hr rfl⟩
  · cases hg
theorem vo_mod : OpR X (binaryOp .Mod) (rB C modD) := by
  intro pins s σ H x y v u Q I rx ry h
  obtain ⟨S, l, a, b, d, hr, ha, hb, hg, hp⟩ := h
  cases a <;> cases b <;> simp only [modD] at hg <;> try cases hg
  split at hg
  · rename_i hc
    cases hg; cases ha; cases hb
    exact op_mod pins s σ H _ _ v u Q I rx ry ⟨_, _, rfl, rfl, hc, hp.now hr rfl⟩
  · cases hg
end
/-! ### comparisons of ints -/
def cmpI (p : Int → Int → Bool) : D → D → Sto → Option D
  | .int i, .int j, _ => some (.bl (p i j))
  | _, _, _ => none
section
variable {X : Cx} {C : Ctx}
theorem vo_cmpI {f : Value → Value → Sem Value} {p : Int → Int → Bool} (h0 : OpR X f (rI0 fun i j => .bl (p i j))) : OpR X f (rB C (cmpI p)) := by
  intro pins s σ H x y v u Q I rx ry h
  obtain ⟨S, l, a, b, d, hr, ha, hb, hg, hp⟩ := h
  cases a <;> cases b <;> simp only [cmpI] at hg <;> try cases hg
  cases ha; cases hb
  exact h0 pins s σ H _ _ v u Q I rx ry ⟨_, _, rfl, rfl, hp.now hr rfl⟩
theorem vo_lt : OpR X (compareOp .Lt) (rB C (cmpI fun i j => decide (i < j))) := vo_cmpI op_lt
theorem vo_le : OpR X (compareOp .LtE) (rB C (cmpI fun i j => decide (i ≤ j))) := vo_cmpI op_le
theorem vo_gt : OpR X (compareOp .Gt) (rB C (cmpI fun i j => decide (j < i))) := vo_cmpI op_gt
theorem vo_ge : OpR X (compareOp .GtE) (rB C (cmpI fun i j => decide (j ≤ i))) := vo_cmpI op_ge
end
/-! ### == as data -/
mutual
def noCell : D → Bool
  | .cell _ => false
  | .xv _ _ => false
  | .tup ds => noCells ds
  | .lst ds => noCells ds
  | .ktup ds => noCells ds
  | .ptup ds => noCells ds
  | _ => true
def noCells : List D → Bool
  | [] => true
  | d :: r => noCell d && noCells r
end
mutual
def py : D → PyData
  | .non => .none
  | .bl b => .bool b
  | .int i => .int i
  | .str s => .str s
  | .tup ds => .tuple (pys ds)
  | .lst ds => .list (pys ds)
  | .cell _ => .none
  | .xv _ _ => .none
  | .scr ns => .list (ns.map PyData.int)
  | .ktup ds => .tuple (pys ds)
  | .ptup ds => .tuple (pys ds)
def pys : List D → List PyData
  | [] => []
  | d :: r => py d :: pys r
end
theorem canLay_ints : ∀ ns : List Int, PyData.canLayAll0 (ns.map PyData.int) = true
  | [] => rfl
  | n :: r => by
    show (PyData.canLay0 (.int n) && PyData.canLayAll0 (r.map PyData.int)) = true
    rw [canLay_ints r]
    rfl
theorem dp_ints {K : PySem.W.Frag} {H : Hp} : ∀ ns : List Int, DpAll K H (ns.map V.int) (ns.map PyData.int)
  | [] => .nil
  | n :: r => .cons (.int n) (dp_ints r)
mutual
theorem RD.dp {K : PySem.W.Frag} {l : Lay} {H : Hp} : ∀ (d : D) (v : V), RD K l H d v → noCell d = true → Dp K H v (py d) ∧ (py d).canLay0 = true
  | .non, v, h, _ => by
    cases h
    exact ⟨.non, rfl⟩
  | .bl b, v, h, _ => by
    cases h
    exact ⟨.bl b, rfl⟩
  | .int i, v, h, _ => by
    cases h
    exact ⟨.int i, rfl⟩
  | .str s, v, h, _ => by
    obtain ⟨rfl, hs⟩ := h
    exact ⟨.str s, hs⟩
  | .tup ds, v, h, hn => by
    obtain ⟨a, vs, rfl, ht, hs⟩ := h
    obtain ⟨h1, h2⟩ := RDs.dp ds vs hs hn
    exact ⟨.tup ht.sq h1, h2⟩
  | .lst ds, v, h, hn => by
    obtain ⟨a, vs, rfl, ht, hs⟩ := h
    obtain ⟨h1, h2⟩ := RDs.dp ds vs hs hn
    exact ⟨.lst ht.sq h1, h2⟩
  | .ktup ds, v, h, hn => by
    obtain ⟨a, vs, rfl, ht, hs⟩ := h
    obtain ⟨h1, h2⟩ := RDs.dp ds vs hs hn
    exact ⟨.tup (.inr ht) h1, h2⟩
  | .ptup ds, v, h, hn => by
    obtain ⟨a, vs, rfl, ht, hs⟩ := h
    obtain ⟨h1, h2⟩ := RDs.dp ds vs hs hn
    exact ⟨.tup ht.sq h1, h2⟩
  | .cell i, v, h, hn => by cases hn
  | .xv i _, v, h, hn => by cases hn
  | .scr ns, v, h, _ => by
    obtain ⟨a, rfl, hs⟩ := h
    exact ⟨.lst hs.sq (dp_ints ns), canLay_ints ns⟩
theorem RDs.dp {K : PySem.W.Frag} {l : Lay} {H : Hp} : ∀ (ds : List D) (vs : List V), RDs K l H ds vs → noCells ds = true → DpAll K H vs (pys ds) ∧ PyData.canLayAll0 (pys ds) = true
  | [], vs, h, _ => by
    cases h
    exact ⟨.nil, rfl⟩
  | d :: r, vs, h, hn => by
    obtain ⟨v, ws, rfl, h1, h2⟩ := h
    have hn' : (noCell d && noCells r) = true := hn
    obtain ⟨n1, n2⟩ := Bool.and_eq_true_iff.mp hn'
    obtain ⟨p1, p2⟩ := RD.dp d v h1 n1
    obtain ⟨q1, q2⟩ := RDs.dp r ws h2 n2
    refine ⟨.cons p1 q1, ?_⟩
    show (PyData.canLay0 (py d) && PyData.canLayAll0 (pys r)) = true
    rw [p2, q2]
    rfl
end
/-- a list of the store, looked up once -/
def top1 (S : Sto) : D → D
  | .cell i => match S.at_ i with
    | some (.lst ds) => .lst ds
    | _ => .cell i
  | d => d
def eqRaw (neg : Bool) (a b : D) : Option D :=
  if noCell a && noCell b && decide (min (py a).depth (py b).depth ≤ 64) then some (.bl (neg != PyData.eqv (py a) (py b))) else match a, b with
    | .lst xs, .lst ys => if xs.length ≠ ys.length then some (.bl neg) else none
    | _, _ => none
def eqD (a b : D) (S : Sto) : Option D := eqRaw false (top1 S a) (top1 S b)
def neD (a b : D) (S : Sto) : Option D := eqRaw true (top1 S a) (top1 S b)
/-- read as data, at the top a list of the store -/
inductive RD1 (K : PySem.W.Frag) (l : Lay) (H : Hp) : D → V → Prop
  | of {d : D} {v : V} (h : RD K l H d v) : RD1 K l H d v
  | cel {ds : List D} {a : Addr} {vs : List V} (h : H a = some (.lst vs)) (q : RDs K l H ds vs) : RD1 K l H (.lst ds) (.ref a)
theorem RD1.top {C : Ctx} {l : Lay} {S : Sto} {H : Hp} (r : Rel C l S H) {d : D} {v : V} (h : RD C.K l H d v) : RD1 C.K l H (top1 S d) v := by
  cases d with
  | cell i =>
    cases q : S.at_ i with
    | none =>
      rw [show top1 S (.cell i) = .cell i by simp only [top1, q]]
      exact .of h
    | some c =>
      cases c with
      | lst ds =>
        obtain ⟨a, rfl, ha⟩ := h
        obtain ⟨b, hb, vs, hv, hs⟩ := r.cells i _ q
        rw [ha] at hb
        cases hb
        rw [show top1 S (.cell i) = .lst ds by simp only [top1, q]]
        exact .cel hv hs
      | _ =>
        rw [show top1 S (.cell i) = .cell i by simp only [top1, q]]
        exact .of h
  | _ => exact .of h
theorem RD1.dp {K : PySem.W.Frag} {l : Lay} {H : Hp} {d : D} {v : V} (h : RD1 K l H d v) (n : noCell d = true) : Dp K H v (py d) ∧ (py d).canLay0 = true := by
  cases h with
  | of h => exact RD.dp d v h n
  | cel h q =>
    obtain ⟨h1, h2⟩ := RDs.dp _ _ q n
    exact ⟨.lst (.inl (.inl h)) h1, h2⟩
theorem RD1.list {K : PySem.W.Frag} {l : Lay} {H : Hp} {ds : List D} {v : V} (h : RD1 K l H (.lst ds) v) : ∃ a vs, v = .ref a ∧ H a = some (.lst vs) ∧ vs.length = ds.length := by
  cases h with
  | of h =>
    obtain ⟨a, vs, rfl, ht, hs⟩ := h
    exact ⟨a, vs, rfl, ht.1, hs.length⟩
  | cel h q => exact ⟨_, _, rfl, h, q.length⟩
section
variable {X : Cx} {C : Ctx} (hK : C.K = X.K) (hu : X.A.units + 64 < cLine)
include hK hu
theorem vo_eqn (neg : Bool) : OpR X (compareOp (if neg then .NotEq else .Eq)) (rB C (fun a b S => eqRaw neg (top1 S a) (top1 S b))) := by
  intro pins s σ H x y v u Q I rx ry h
  obtain ⟨S, l, a, b, d, hr, ha, hb, hg, hp⟩ := h
  have a1 := RD1.top hr ha
  have b1 := RD1.top hr hb
  revert hg
  show eqRaw neg (top1 S a) (top1 S b) = some d → _
  generalize top1 S a = a' at a1
  generalize top1 S b = b' at b1
  intro hg
  unfold eqRaw at hg
  split at hg
  · rename_i hc
    simp only [Bool.and_eq_true, decide_eq_true_eq] at hc
    obtain ⟨⟨n1, n2⟩, hm⟩ := hc
    cases hg
    obtain ⟨p1, p2⟩ := a1.dp n1
    obtain ⟨q1, q2⟩ := b1.dp n2
    rw [hK] at p1 q1
    obtain ⟨as, r1⟩ := Dp.reads I _ x v p1 rx
    obtain ⟨bs, r2⟩ := Dp.reads I _ y u q1 ry
    have hmm : X.A.units + min (py a').depth (py b').depth < cLine := by omega
    cases neg with
    | false =>
      refine SeqAt.compareEq_reads r1 r2 p2 q2 hmm ⟨.bl _, H, I, rfl, ?_⟩
      have := hp.now hr (v := .bl (PyData.eqv (py a') (py b'))) (by show V.bl _ = V.bl _; cases PyData.eqv (py a') (py b') <;> rfl)
      exact this
    | true =>
      refine SeqAt.compareNe_reads r1 r2 p2 q2 hmm ⟨.bl _, H, I, rfl, ?_⟩
      have := hp.now hr (v := .bl (!PyData.eqv (py a') (py b'))) (by show V.bl _ = V.bl _; cases PyData.eqv (py a') (py b') <;> rfl)
      exact this
  · split at hg
    · split at hg
      · rename_i xs ys hl
        cases hg
        obtain ⟨p, vs, rfl, tp, lp⟩ := a1.list
        obtain ⟨q, ws, rfl, tq, lq⟩ := b1.list
        cases rx
        cases ry
        obtain ⟨is1, e1, pl1, _⟩ := I.list (.inl (.inl tp))
        obtain ⟨is2, e2, pl2, _⟩ := I.list (.inl (.inl tq))
        have hz : (is1.toArray.size != is2.toArray.size) = true := by
          have := e1.length
          have := e2.length
          simp only [List.size_toArray, bne_iff_ne, ne_eq]
          omega
        have hq := hp.now hr (v := .bl neg) rfl
        cases neg with
        | false => exact SeqAt.eq_list_lengthsAt pl1.isList pl2.isList hz (by omega) ⟨.bl _, H, I, rfl, hq⟩
        | true => exact SeqAt.RcNeAt.lists_lengths pl1.isList pl2.isList hz (by omega) _ _ _ _ ⟨.bl _, H, I, rfl, hq⟩
      · cases hg
    · cases hg
theorem vo_eq : OpR X (compareOp .Eq) (rB C eqD) := vo_eqn hK hu false
theorem vo_ne : OpR X (compareOp .NotEq) (rB C neD) := vo_eqn hK hu true
end
/-! ### is None -/
def isND (a b : D) (_ : Sto) : Option D := match a, b with
  | .non, .non => some (.bl true)
  | _, .non => some (.bl false)
  | .bl x, .bl y => some (.bl (x == y))
  | _, _ => none
def notND (a b : D) (_ : Sto) : Option D := match a, b with
  | .non, .non => some (.bl false)
  | _, .non => some (.bl true)
  | .bl x, .bl y => some (.bl (x != y))
  | _, _ => none
theorem RD.nonI {K : PySem.W.Frag} {l : Lay} {H : Hp} {d : D} (h : RD K l H d .non) : d = .non := by
  cases d with
  | non => rfl
  | bl b => cases h
  | int b => cases h
  | str b => cases h.1
  | tup ds => obtain ⟨_, _, e, _⟩ := h; cases e
  | lst ds => obtain ⟨_, _, e, _⟩ := h; cases e
  | cell i => obtain ⟨_, e, _⟩ := h; cases e
  | scr i => obtain ⟨_, e, _⟩ := h; cases e
  | ktup ds => obtain ⟨_, _, e, _⟩ := h; cases e
  | ptup ds => obtain ⟨_, _, e, _⟩ := h; cases e
  | xv a _ => cases h.1
theorem isND_non {a : D} {S : Sto} : isND a .non S = some (.bl (match a with | .non => true | _ => false)) := by cases a <;> rfl
theorem notND_non {a : D} {S : Sto} : notND a .non S = some (.bl (match a with | .non => false | _ => true)) := by cases a <;> rfl
section
variable {X : Cx} {C : Ctx}
theorem vo_is : OpR X (compareOp .Is) (rB C isND) := by
  intro pins s σ H x y v u Q I rx ry h
  obtain ⟨S, l, a, b, d, hr, ha, hb, hg, hp⟩ := h
  cases b with
  | non =>
    cases hb
    rw [isND_non] at hg
    cases hg
    refine op_isN pins s σ H x _ v u Q I rx ry ⟨rfl, hp.now hr ?_⟩
    show V.bl _ = V.bl _
    congr 1
    cases a with
    | non => cases ha; rfl
    | _ =>
      refine decide_eq_false fun e => ?_
      subst e
      have := RD.nonI ha
      cases this
  | bl k =>
    cases a <;> simp only [isND] at hg <;> try cases hg
    cases ha; cases hb
    refine op_isBl pins s σ H _ _ v u Q I rx ry ⟨_, _, rfl, rfl, ?_⟩
    have := hp.now hr rfl
    rename_i q
    cases q <;> cases k <;> exact this
  | _ => cases a <;> simp only [isND] at hg <;> cases hg
theorem vo_isnot : OpR X (compareOp .IsNot) (rB C notND) := by
  intro pins s σ H x y v u Q I rx ry h
  obtain ⟨S, l, a, b, d, hr, ha, hb, hg, hp⟩ := h
  cases b with
  | non =>
    cases hb
    rw [notND_non] at hg
    cases hg
    refine op_notN pins s σ H x _ v u Q I rx ry ⟨rfl, hp.now hr ?_⟩
    show V.bl _ = V.bl _
    congr 1
    cases a with
    | non => cases ha; rfl
    | _ =>
      have : decide (x = V.non) = false := decide_eq_false fun e => by
        subst e
        have := RD.nonI ha
        cases this
      rw [this]
      rfl
  | bl k =>
    cases a <;> simp only [notND] at hg <;> try cases hg
    cases ha; cases hb
    refine op_notBl pins s σ H _ _ v u Q I rx ry ⟨_, _, rfl, rfl, ?_⟩
    have := hp.now hr rfl
    rename_i q
    cases q <;> cases k <;> exact this
  | _ => cases a <;> simp only [notND] at hg <;> cases hg
end
end Pyx
/-! places, dicts, builtins by values -/
namespace Pyx
open PySem PySem.Spec PyProof.Rows L2
/-! ### places -/
def ixD (a b : D) (S : Sto) : Option D := match top1 S a, b with
  | .tup ds, .int i => atI ds i
  | .lst ds, .int i => atI ds i
  | .ktup ds, .int i => atI ds i
  | .ptup ds, .int i => atI ds i
  | .str s, .int i => if s.length ≤ sizeLine ∧ PySem.PyData.strOk s = true then (atI s.cps.toList i).map (fun c => .str ⟨#[c]⟩) else none
  | _, _ => none
theorem RDs.atI {K : PySem.W.Frag} {l : Lay} {H : Hp} {ds : List D} {vs : List V} {i : Int} {d : D} (h : RDs K l H ds vs) (e : atI ds i = some d) : ∃ v, L2.atI vs i = some v ∧ RD K l H d v := by
  unfold L2.atI at e ⊢
  rw [h.length]
  cases q : ixN ds.length i with
  | none =>
    rw [q] at e
    cases e
  | some j =>
    rw [q] at e
    exact h.get (i := j) e
theorem strOk_one {s : Str} {i : Int} {c : Nat} (h : PySem.PyData.strOk s = true) (e : atI s.cps.toList i = some c) : PySem.PyData.strOk ⟨#[c]⟩ = true := by
  unfold atI at e
  cases q : ixN s.cps.toList.length i with
  | none =>
    rw [q] at e
    cases e
  | some j =>
    rw [q] at e
    have hm : c ∈ s.cps.toList := List.mem_of_getElem? e
    unfold PySem.PyData.strOk at h ⊢
    rw [← Array.all_toList] at h ⊢
    have := List.all_eq_true.mp h c hm
    simp only [List.all_cons, List.all_nil, Bool.and_true]
    exact this
section
variable {X : Cx} {C : Ctx} (hK : C.K = X.K)
include hK
theorem RD1.sq {l : Lay} {H : Hp} {ds : List D} {v : V} (h : RD1 C.K l H (.lst ds) v) : ∃ a vs, v = .ref a ∧ SqL C.K H a vs ∧ RDs C.K l H ds vs := by
  cases h with
  | of h =>
    obtain ⟨a, vs, rfl, ht, hs⟩ := h
    exact ⟨a, vs, rfl, ht.sq, hs⟩
  | cel h q => exact ⟨_, _, rfl, .inl (.inl h), q⟩
theorem vo_ix : IxR X (rB C ixD) := by
  intro value slice pins s σ H x y v u Q I rx ry h hs
  obtain ⟨S, l, a, b, d, hr, ha, hb, hg, hp⟩ := h
  have a1 := RD1.top hr ha
  unfold ixD at hg
  generalize top1 S a = a' at a1 hg
  cases a' <;> cases b <;> simp only at hg <;> try cases hg
  · split at hg
    · rename_i z i hz
      cases hb
      cases a1 with
      | of a1 =>
        obtain ⟨rfl, _⟩ := a1
        cases q : atI z.cps.toList i with
        | none =>
          rw [q] at hg
          cases hg
        | some c =>
          rw [q] at hg
          cases hg
          exact ix_str value slice pins s σ H _ _ v u Q I rx ry ⟨_, _, c, rfl, rfl, hz.1, q, hp.now hr ⟨rfl, strOk_one hz.2 q⟩⟩ hs
    · cases hg
  · cases hb
    cases a1 with
    | of a1 =>
      obtain ⟨p, vs, rfl, tp, hv⟩ := a1
      obtain ⟨w, hw, hd⟩ := hv.atI hg
      exact ix_tup value slice pins s σ H _ _ v u Q I rx ry ⟨p, vs, _, w, rfl, rfl, hK ▸ tp.sq, hw, hp.now hr hd⟩ hs
  · cases hb
    obtain ⟨p, vs, rfl, tp, hv⟩ := RD1.sq hK a1
    obtain ⟨w, hw, hd⟩ := hv.atI hg
    exact ix_list value slice pins s σ H _ _ v u Q I rx ry ⟨p, vs, _, w, rfl, rfl, hK ▸ tp, hw, hp.now hr hd⟩ hs
  · cases hb
    cases a1 with
    | of a1 =>
      obtain ⟨p, vs, rfl, tp, hv⟩ := a1
      obtain ⟨w, hw, hd⟩ := hv.atI hg
      exact ix_tup value slice pins s σ H _ _ v u Q I rx ry ⟨p, vs, _, w, rfl, rfl, .inr (hK ▸ tp), hw, hp.now hr hd⟩ hs
  · cases hb
    cases a1 with
    | of a1 =>
      obtain ⟨p, vs, rfl, tp, hv⟩ := a1
      obtain ⟨w, hw, hd⟩ := hv.atI hg
      exact ix_tup value slice pins s σ H _ _ v u Q I rx ry ⟨p, vs, _, w, rfl, rfl, hK ▸ tp.sq, hw, hp.now hr hd⟩ hs
end
/-! ### slices -/
def cutD {A : Type} (xs : List A) (lo hi : Option Int) : List A := (xs.drop (HT.sIx xs.length 0 lo)).take (HT.sIx xs.length xs.length hi - HT.sIx xs.length 0 lo)
def slD (a : D) (lo hi : Option Int) (S : Sto) : Option D := match top1 S a with
  | .tup ds => some (.tup (cutD ds lo hi))
  | .lst ds => some (.lst (cutD ds lo hi))
  | .ptup ds => if HT.sIx ds.length 0 lo = 0 ∧ HT.sIx ds.length ds.length hi = ds.length then some (.ptup ds) else some (.tup (cutD ds lo hi))
  | _ => none
theorem RDs.cut {K : PySem.W.Frag} {l : Lay} {H : Hp} {ds : List D} {vs : List V} (lo hi : Option Int) (h : RDs K l H ds vs) : RDs K l H (cutD ds lo hi) (cutV vs lo hi) := by
  unfold cutD cutV
  rw [h.length]
  exact RDs.take _ (RDs.drop _ h)
def rSlD (C : Ctx) : V → Option Int → Option Int → Hp → VK → Prop := fun x lo hi H Q => ∃ S l a d, Rel C l S H ∧ RD C.K l H a x ∧ slD a lo hi S = some d ∧ VPost C S l H d Q
theorem SlRmono {X : Cx} {r r' : V → Option Int → Option Int → Hp → VK → Prop} (h : SlR X r) (k : ∀ x lo hi H Q, r' x lo hi H Q → r x lo hi H Q) : SlR X r' := by
  intro pins s σ H x v vl vu lo hi sl Q I r a b c q
  exact h pins s σ H x v vl vu lo hi sl Q I r a b c (k _ _ _ _ _ q)
theorem vo_sl {X : Cx} {C : Ctx} (hK : C.K = X.K) : SlR X (rSlD C) := by
  refine SlRmono (SlR.or (sl_tupA (X := X)) (sl_list (X := X))) fun x lo hi H Q h => ?_
  obtain ⟨S, l, a, d, hr, ha, hg, hp⟩ := h
  have a1 := RD1.top hr ha
  unfold slD at hg
  generalize top1 S a = a' at a1 hg
  cases a' <;> simp only at hg <;> try cases hg
  · left
    cases a1 with
    | of a1 =>
      obtain ⟨p, vs, rfl, tp, hv⟩ := a1
      refine ⟨p, vs, rfl, hK ▸ tp.sq, fun e => ?_, fun _ n hn => hp.tup hr (hv.cut lo hi) hn⟩
      have e2 : cutV vs lo hi = vs := by
        unfold cutV
        rw [e.1, e.2, List.drop_zero, Nat.sub_zero, List.take_length]
      have h3 := hv.cut lo hi
      rw [e2] at h3
      exact hp.now hr ⟨p, vs, rfl, tp, h3⟩
  · right
    obtain ⟨p, vs, rfl, tp, hv⟩ := RD1.sq hK a1
    exact ⟨p, vs, rfl, hK ▸ tp, fun n hn => hp.lst hr (hv.cut lo hi) hn⟩
  · left
    cases a1 with
    | of a1 =>
      obtain ⟨p, vs, rfl, tp, hv⟩ := a1
      refine ⟨p, vs, rfl, hK ▸ tp.sq, fun e => ?_, fun e n hn => ?_⟩
      · rw [hv.length] at e
        rw [if_pos e] at hg
        cases hg
        exact hp.now hr ⟨p, vs, rfl, tp, hv⟩
      · rw [hv.length] at e
        rw [if_neg e] at hg
        cases hg
        exact hp.tup hr (hv.cut lo hi) hn
/-! ### dicts -/
def keyD : D → Option Key
  | .int i => some (.inl i)
  | .str s => some (.inr s)
  | _ => none
def keysD : List D → Option (List Key)
  | [] => some []
  | d :: r => (keyD d).bind fun k => (keysD r).map (k :: ·)
def keyT : D → Option (List Key)
  | .tup ds => keysD ds
  | _ => none
def valD {A : Type} [DecidableEq A] (kvs : List (A × D)) (k : A) : Option D := (kvs.find? fun kv => decide (kv.1 = k)).map (·.2)
def putD {A : Type} [DecidableEq A] (kvs : List (A × D)) (k : A) (d : D) : List (A × D) :=
  if (kvs.any fun kv => decide (kv.1 = k)) = true then kvs.map (fun kv => if kv.1 = k then (kv.1, d) else kv) else kvs ++ [(k, d)]
def dropD {A : Type} [DecidableEq A] (kvs : List (A × D)) (k : A) : List (A × D) := kvs.filter fun kv => decide (kv.1 ≠ k)
section
variable {K : PySem.W.Frag} {l : Lay} {H : Hp}
theorem RD.key {d : D} {v : V} {k : Key} (h : RD K l H d v) (e : keyD d = some k) : v = kV k := by
  cases d <;> simp only [keyD] at e <;> cases e
  · exact h
  · exact h.1
theorem RDs.keys : ∀ {ds : List D} {vs : List V} {ks : List Key}, RDs K l H ds vs → keysD ds = some ks → vs = ks.map kV
  | [], vs, ks, h, e => by
    cases h
    cases e
    rfl
  | d :: r, vs, ks, h, e => by
    obtain ⟨v, ws, rfl, h1, h2⟩ := h
    unfold keysD at e
    obtain ⟨k, hk, e⟩ := Option.bind_eq_some_iff.mp e
    obtain ⟨ks', hks, rfl⟩ := Option.map_eq_some_iff.mp e
    rw [RD.key h1 hk, RDs.keys h2 hks]
    rfl
def RO (K : PySem.W.Frag) (l : Lay) (H : Hp) : Option D → Option V → Prop
  | none, o => o = none
  | some d, o => ∃ v, o = some v ∧ RD K l H d v
variable {A : Type} [DecidableEq A]
theorem RKV.val : ∀ {kvs : List (A × D)} {ws : List (A × V)} (k : A), RKV K l H kvs ws → RO K l H (valD kvs k) (valV ws k)
  | _, _, k, .nil => rfl
  | p :: r, q :: t, k, .cons h hr => by
    have ih := RKV.val k hr
    unfold valD valV at ih ⊢
    rw [List.find?_cons, List.find?_cons, ← h.1]
    cases e : decide (p.1 = k) with
    | true => exact ⟨q.2, rfl, h.2⟩
    | false => exact ih
theorem RKV.any {k : A} : ∀ {kvs : List (A × D)} {ws : List (A × V)}, RKV K l H kvs ws → (kvs.any fun kv => decide (kv.1 = k)) = ws.any fun kv => decide (kv.1 = k)
  | _, _, .nil => rfl
  | p :: r, q :: t, .cons h hr => by
    rw [List.any_cons, List.any_cons, RKV.any hr, h.1]
theorem RKV.mapput {k : A} {d : D} {v : V} (hd : RD K l H d v) : ∀ {kvs : List (A × D)} {ws : List (A × V)}, RKV K l H kvs ws → RKV K l H (kvs.map fun kv => if kv.1 = k then (kv.1, d) else kv) (ws.map fun kv => if kv.1 = k then (kv.1, v) else kv)
  | _, _, .nil => .nil
  | p :: r, q :: t, .cons h hr => by
    refine .cons ?_ (RKV.mapput hd hr)
    dsimp only
    rw [h.1]
    split
    · exact ⟨rfl, hd⟩
    · exact h
theorem RKV.append : ∀ {kvs es : List (A × D)} {ws us : List (A × V)}, RKV K l H kvs ws → RKV K l H es us → RKV K l H (kvs ++ es) (ws ++ us)
  | _, _, _, _, .nil, h => h
  | _, _, _, _, .cons h hr, h' => .cons h (RKV.append hr h')
theorem RKV.put {kvs : List (A × D)} {ws : List (A × V)} {k : A} {d : D} {v : V} (h : RKV K l H kvs ws) (hd : RD K l H d v) : RKV K l H (putD kvs k d) (putK ws k v) := by
  unfold putD putK
  rw [RKV.any h]
  split
  · exact RKV.mapput hd h
  · exact RKV.append h (.cons ⟨rfl, hd⟩ .nil)
theorem RKV.drop {k : A} : ∀ {kvs : List (A × D)} {ws : List (A × V)}, RKV K l H kvs ws → RKV K l H (dropD kvs k) (dropK ws k)
  | _, _, .nil => .nil
  | p :: r, q :: t, .cons h hr => by
    have ih := RKV.drop (k := k) hr
    unfold dropD dropK at ih ⊢
    rw [List.filter_cons, List.filter_cons, h.1]
    split
    · exact .cons h ih
    · exact ih
theorem RKV.len : ∀ {kvs : List (A × D)} {ws : List (A × V)}, RKV K l H kvs ws → ws.length = kvs.length
  | _, _, .nil => rfl
  | _, _, .cons h hr => by
    simp [RKV.len hr]
end
/-- what a dict holds at a key -/
def dget (a b : D) (S : Sto) : Option (Option D) := match a with
  | .cell i => match S.at_ i with
    | some (.dK kvs) => (keyD b).map (valD kvs)
    | some (.dT kvs) => (keyT b).map (valD kvs)
    | some (.lkK kvs) => (keyD b).map (valD kvs)
    | some (.lkT kvs) => (keyT b).map (valD kvs)
    | _ => none
  | _ => none
theorem dget_ok {C : Ctx} {S : Sto} {l : Lay} {H : Hp} {a b : D} {x y : V} {o : Option D} (r : Rel C l S H) (ha : RD C.K l H a x) (hb : RD C.K l H b y) (e : dget a b S = some o) :
    ∃ p ov, x = .ref p ∧ DGet H p y ov ∧ RO C.K l H o ov := by
  cases a <;> simp only [dget] at e <;> try cases e
  rename_i i
  obtain ⟨p, rfl, hp⟩ := ha
  split at e
  · rename_i kvs hS
    obtain ⟨k, hk, rfl⟩ := Option.map_eq_some_iff.mp e
    obtain ⟨p', hp', ws, hw, hkv⟩ := r.cells i _ hS
    rw [hp] at hp'
    cases hp'
    have hv := RKV.val k hkv
    refine ⟨p, valV ws k, rfl, .inl ⟨ws, k, .inl hw, RD.key hb hk, rfl⟩, hv⟩
  · rename_i kvs hS
    obtain ⟨k, hk, rfl⟩ := Option.map_eq_some_iff.mp e
    obtain ⟨p', hp', ws, hw, hkv⟩ := r.cells i _ hS
    rw [hp] at hp'
    cases hp'
    have hv := RKV.val k hkv
    cases b <;> simp only [keyT] at hk <;> try cases hk
    obtain ⟨q0, us, rfl, tq, hus⟩ := hb
    have ek := RDs.keys hus hk
    subst ek
    refine ⟨p, valV ws k, rfl, .inr ⟨ws, k, q0, .inl hw, rfl, tq, rfl⟩, hv⟩
  · rename_i kvs hS
    obtain ⟨k, hk, rfl⟩ := Option.map_eq_some_iff.mp e
    obtain ⟨p', hp', o0, ws, _, hw, hkv⟩ := r.cells i _ hS
    rw [hp] at hp'
    cases hp'
    have hv := RKV.val k hkv
    refine ⟨p, valV ws k, rfl, .inl ⟨ws, k, .inr ⟨o0, hw⟩, RD.key hb hk, rfl⟩, hv⟩
  · rename_i kvs hS
    obtain ⟨k, hk, rfl⟩ := Option.map_eq_some_iff.mp e
    obtain ⟨p', hp', o0, ws, _, hw, hkv⟩ := r.cells i _ hS
    rw [hp] at hp'
    cases hp'
    have hv := RKV.val k hkv
    cases b <;> simp only [keyT] at hk <;> try cases hk
    obtain ⟨q0, us, rfl, tq, hus⟩ := hb
    have ek := RDs.keys hus hk
    subst ek
    refine ⟨p, valV ws k, rfl, .inr ⟨ws, k, q0, .inr ⟨o0, hw⟩, rfl, tq, rfl⟩, hv⟩
  · cases e
/-- a dict with one more entry -/
def dput (a b d : D) (S : Sto) : Option Sto := match a with
  | .cell i => match S.at_ i with
    | some (.dK kvs) => if kvs.length < sizeLine then (keyD b).map fun k => S.set i (.dK (putD kvs k d)) else none
    | some (.dT kvs) => if kvs.length < sizeLine then (keyT b).map fun k => S.set i (.dT (putD kvs k d)) else none
    | _ => none
  | _ => none
theorem dput_ok {C : Ctx} {S S' : Sto} {l : Lay} {H : Hp} {a b d : D} {x y v : V} (r : Rel C l S H) (ha : RD C.K l H a x) (hb : RD C.K l H b y) (hd : RD C.K l H d v) (e : dput a b d S = some S') :
    ∃ p H', x = .ref p ∧ DPut H p y v H' ∧ Ext l H l H' ∧ Rel C l S' H' := by
  cases a <;> simp only [dput] at e <;> try cases e
  rename_i i
  obtain ⟨p, rfl, hp⟩ := ha
  split at e
  · rename_i kvs hS
    split at e
    · rename_i hl
      obtain ⟨k, hk, rfl⟩ := Option.map_eq_some_iff.mp e
      obtain ⟨p', hp', ws, hw, hkv⟩ := r.cells i _ hS
      rw [hp] at hp'
      cases hp'
      have x1 := ext_set (o := .dK (putK ws k v)) r hp
      exact ⟨p, _, rfl, .inl ⟨ws, k, hw, RD.key hb hk, by rw [hkv.len]; exact hl, rfl⟩, x1, rel_set r hp ⟨_, upd_same, RKV.mono x1 (hkv.put hd)⟩⟩
    · cases e
  · rename_i kvs hS
    split at e
    · rename_i hl
      obtain ⟨k, hk, rfl⟩ := Option.map_eq_some_iff.mp e
      obtain ⟨p', hp', ws, hw, hkv⟩ := r.cells i _ hS
      rw [hp] at hp'
      cases hp'
      cases b <;> simp only [keyT] at hk <;> try cases hk
      obtain ⟨q0, us, rfl, tq, hus⟩ := hb
      have ek := RDs.keys hus hk
      subst ek
      have x1 := ext_set (o := .dT (putK ws k v)) r hp
      exact ⟨p, _, rfl, .inr ⟨ws, k, q0, hw, rfl, tq, by rw [hkv.len]; exact hl, rfl⟩, x1, rel_set r hp ⟨_, upd_same, RKV.mono x1 (hkv.put hd)⟩⟩
    · cases e
  · cases e
/-! ### in -/
def flatD : D → Bool
  | .non => true
  | .bl _ => true
  | .int _ => true
  | .str _ => true
  | _ => false
def inSeq (a : D) (ds : List D) : Bool := ds.any fun y => PyData.eqv (py y) (py a)
def inD (neg : Bool) (a b : D) (S : Sto) : Option D := match dget b a S with
  | some o => some (.bl (neg != o.isSome))
  | none => match top1 S b with
    | .lst ds => if flatD a && ds.all flatD then some (.bl (neg != inSeq a ds)) else if noCell a && noCells ds && decide ((py a).depth ≤ 62) then some (.bl (neg != (pys ds).any fun z => PyData.eqv z (py a))) else none
    | .tup ds => if flatD a && ds.all flatD then some (.bl (neg != inSeq a ds)) else none
    | .ktup ds => if flatD a && ds.all flatD then some (.bl (neg != inSeq a ds)) else none
    | .ptup ds => if flatD a && ds.all flatD then some (.bl (neg != inSeq a ds)) else none
    | .str s => match a with
      | .str c => if c.cps.size = 1 then some (.bl (neg != decide (c.cps.toList.getD 0 0 ∈ s.cps.toList))) else none
      | _ => none
    | _ => none
theorem flat_rd {K : PySem.W.Frag} {l : Lay} {H : Hp} {d : D} {v : V} (h : RD K l H d v) (f : flatD d = true) : flatV v = true := by
  cases d <;> simp only [flatD] at f <;> try cases f
  · cases h; rfl
  · cases h; rfl
  · cases h; rfl
  · cases h.1; rfl
theorem eq_rd {K : PySem.W.Frag} {l : Lay} {H : Hp} {d e : D} {v w : V} (h : RD K l H d v) (h' : RD K l H e w) (f : flatD d = true) (f' : flatD e = true) : eqV v w = PyData.eqv (py d) (py e) := by
  cases d <;> simp only [flatD] at f <;> (try cases f) <;> cases e <;> simp only [flatD] at f' <;> (try cases f') <;> simp only [RD] at h h' <;> (try subst h) <;> (try subst h') <;>
    (try obtain ⟨rfl, _⟩ := h) <;> (try obtain ⟨rfl, _⟩ := h') <;> simp [eqV, py, PyData.eqv]
theorem in_rd {K : PySem.W.Frag} {l : Lay} {H : Hp} {d : D} {v : V} (h : RD K l H d v) (f : flatD d = true) : ∀ {ds : List D} {vs : List V}, RDs K l H ds vs → ds.all flatD = true → vs.all flatV = true ∧ inV v vs = inSeq d ds
  | [], vs, hs, _ => by
    cases hs
    exact ⟨rfl, rfl⟩
  | e :: r, vs, hs, fs => by
    obtain ⟨w, ws, rfl, h1, h2⟩ := hs
    rw [List.all_cons] at fs
    obtain ⟨f1, f2⟩ := Bool.and_eq_true_iff.mp fs
    obtain ⟨i1, i2⟩ := in_rd h f h2 f2
    refine ⟨by rw [List.all_cons, flat_rd h1 f1, i1]; rfl, ?_⟩
    unfold inV inSeq at i2 ⊢
    rw [List.any_cons, List.any_cons, i2, eq_rd h1 h f1 f]
section
variable {X : Cx} {C : Ctx} (hK : C.K = X.K) (hu : X.A.units + 64 < cLine)
include hK hu
theorem neg_if (neg b : Bool) : (if neg then !b else b) = (neg != b) := by cases neg <;> cases b <;> rfl
theorem vo_in (neg : Bool) : OpR X (compareOp (if neg then .NotIn else .In)) (rB C (inD neg)) := by
  intro pins s σ H x y v u Q I rx ry h
  obtain ⟨S, l, a, b, d, hr, ha, hb, hg, hp⟩ := h
  unfold inD at hg
  split at hg
  · rename_i o ho
    cases hg
    obtain ⟨p, ov, rfl, dg, hov⟩ := dget_ok hr hb ha ho
    cases ry
    have eo : ov.isSome = o.isSome := by
      cases o with
      | none =>
        have e : ov = none := hov
        rw [e]
        rfl
      | some d =>
        obtain ⟨w, e, _⟩ := hov
        rw [e]
        rfl
    cases neg with
    | false =>
      refine d_in (by omega) I dg rx fun s' I' => ⟨.bl (false != o.isSome), H, I', ?_, hp.now hr rfl⟩
      rw [eo]
      cases o.isSome <;> rfl
    | true =>
      refine d_notIn (by omega) I dg rx fun s' I' => ⟨.bl (true != o.isSome), H, I', ?_, hp.now hr rfl⟩
      rw [eo]
      cases o.isSome <;> rfl
  · rename_i ho
    have b1 := RD1.top hr hb
    generalize top1 S b = b' at b1 hg
    have fin : ∀ (ds : List D) (vs : List V) (p : Addr), y = .ref p → (SqL X.K H p vs ∨ SqT X.K H p vs) → RDs C.K l H ds vs → (if (flatD a && ds.all flatD) = true then some (D.bl (neg != inSeq a ds)) else none) = some d → wpAny (model X.prog X.w) X.A (compareOp (if neg then .NotIn else .In) v u) (EP X pins σ Q) X.xe s := by
      intro ds vs p e hS hR hh
      subst e
      split at hh
      · rename_i hf
        obtain ⟨f1, f2⟩ := Bool.and_eq_true_iff.mp hf
        obtain ⟨i1, i2⟩ := in_rd ha f1 hR f2
        cases hh
        cases neg with
        | false => exact op_in_seq pins s σ H _ _ v u Q I rx ry ⟨p, vs, rfl, hS, flat_rd ha f1, i1, hp.now hr (by rw [i2]; cases inSeq a ds <;> rfl)⟩
        | true => exact op_notIn_seq pins s σ H _ _ v u Q I rx ry ⟨p, vs, rfl, hS, flat_rd ha f1, i1, hp.now hr (by rw [i2]; cases inSeq a ds <;> rfl)⟩
      · cases hh
    cases b' <;> simp only at hg <;> try cases hg
    · split at hg
      · split at hg
        · rename_i z c hc
          cases hg
          cases b1 with
          | of b1 =>
            obtain ⟨rfl, _⟩ := b1
            obtain ⟨rfl, _⟩ := ha
            obtain ⟨ch, hch⟩ : ∃ ch, c = ⟨#[ch]⟩ := by
              obtain ⟨⟨cl⟩⟩ := c
              have hl : cl.length = 1 := hc
              match cl, hl with
              | [ch], _ => exact ⟨ch, rfl⟩
            subst hch
            cases neg with
            | false => exact op_in_sign pins s σ H _ _ v u Q I rx ry ⟨ch, _, rfl, rfl, hp.now hr (by show V.bl _ = V.bl _; congr 1; simp)⟩
            | true => exact op_notIn_sign pins s σ H _ _ v u Q I rx ry ⟨ch, _, rfl, rfl, hp.now hr (by show V.bl _ = V.bl _; congr 1; simp)⟩
        · cases hg
      · cases hg
    · cases b1 with
      | of b1 =>
        obtain ⟨p, vs, rfl, tp, hv⟩ := b1
        exact fin _ vs p rfl (.inr (hK ▸ tp.sq)) hv hg
    · split at hg
      · rename_i hf
        obtain ⟨p, vs, rfl, tp, hv⟩ := RD1.sq hK b1
        exact fin _ vs p rfl (.inl (hK ▸ tp)) hv (by rw [if_pos hf]; exact hg)
      · split at hg
        · rename_i hc
          simp only [Bool.and_eq_true, decide_eq_true_eq] at hc
          obtain ⟨⟨n1, n2⟩, hm⟩ := hc
          cases hg
          obtain ⟨p1, p2⟩ := RD.dp _ _ ha n1
          obtain ⟨q1, q2⟩ := b1.dp (show noCell (.lst _) = true from n2)
          rw [hK] at p1 q1
          obtain ⟨as, r1⟩ := Dp.reads I _ x v p1 rx
          obtain ⟨bs, r2⟩ := Dp.reads I _ y u q1 ry
          have room : ∀ n : Nat, X.A.units + 1 + min n (py a).depth < cLine := fun n => by
            have := Nat.min_le_right n (py a).depth
            omega
          cases neg with
          | false => exact SeqAt.in_list_reads r2 r1 q2 p2 (room _) ⟨.bl _, H, I, rfl, hp.now hr (by show V.bl _ = V.bl _; congr 1; simp)⟩
          | true => exact SeqAt.notIn_list_reads r2 r1 q2 p2 (room _) ⟨.bl _, H, I, rfl, hp.now hr (by show V.bl _ = V.bl _; congr 1; simp)⟩
        · cases hg
    · cases b1 with
      | of b1 =>
        obtain ⟨p, vs, rfl, tp, hv⟩ := b1
        exact fin _ vs p rfl (.inr (.inr (hK ▸ tp))) hv hg
    · cases b1 with
      | of b1 =>
        obtain ⟨p, vs, rfl, tp, hv⟩ := b1
        exact fin _ vs p rfl (.inr (hK ▸ tp.sq)) hv hg
end
end Pyx
/-! expressions -/
namespace Pyx
open PySem PySem.Spec PyProof.Rows L2
section
variable {C : Ctx} {W : WX} {s : L2.St} {l : Lay} {H : Hp} {e : Env'} {S : Sto}
theorem Tmono {m : EM} {G G' : VK} (h : T C W m s H G) (k : ∀ v H1, G v H1 → G' v H1) : T C W m s H G' := by
  obtain ⟨e, S, l, he, hr, hp⟩ := h
  exact ⟨e, S, l, he, hr, hp.imp fun H' l' a S' _ _ q v hv => k v H' (q v hv)⟩
theorem TTmono {m : TM} {G G' : Bool → Hp → Prop} (h : TT' C W m s H G) (k : ∀ v H1, G v H1 → G' v H1) : TT' C W m s H G' := by
  obtain ⟨e, S, l, he, hr, hp⟩ := h
  exact ⟨e, S, l, he, hr, hp.imp fun H' l' a S' _ _ q => k a H' q⟩
theorem TAmono {m : AM} {G G' : List V → Hp → Prop} (h : TA' C W m s H G) (k : ∀ v H1, G v H1 → G' v H1) : TA' C W m s H G' := by
  obtain ⟨e, S, l, he, hr, hp⟩ := h
  exact ⟨e, S, l, he, hr, hp.imp fun H' l' a S' _ _ q v hv => k v H' (q v hv)⟩
/-- where a part stands, and what is left to be met -/
structure Stt (C : Ctx) (W : WX) (e : Env') (s : L2.St) (l : Lay) (S : Sto) (H : Hp) : Prop where
  env : EnvR C.K l H e s
  rel : Rel C l S H
theorem T_run {B : Type} {RA : Lay → Hp → B → Prop} {m : EM} {f : D → Sto → Out B} (he : EnvR C.K l H e s) (hr : Rel C l S H) (hp : Post C W RA s l H ((m e S).bind f)) :
    T C W m s H fun v H1 => ∃ l1 d S1, EnvR C.K l1 H1 e s ∧ Rel C l1 S1 H1 ∧ Ext l H l1 H1 ∧ RD C.K l1 H1 d v ∧ Post C W RA s l1 H1 (f d S1) :=
  ⟨e, S, l, he, hr, Post.bind hp fun H1 l1 d S1 x r p v hv => ⟨l1, d, S1, he.mono x, r, x, hv, p⟩⟩
theorem TT_run {B : Type} {RA : Lay → Hp → B → Prop} {m : TM} {f : Bool → Sto → Out B} (he : EnvR C.K l H e s) (hr : Rel C l S H) (hp : Post C W RA s l H ((m e S).bind f)) :
    TT' C W m s H fun b H1 => ∃ l1 S1, EnvR C.K l1 H1 e s ∧ Rel C l1 S1 H1 ∧ Ext l H l1 H1 ∧ Post C W RA s l1 H1 (f b S1) :=
  ⟨e, S, l, he, hr, Post.bind hp fun H1 l1 d S1 x r p => ⟨l1, S1, he.mono x, r, x, p⟩⟩
theorem TA_run {B : Type} {RA : Lay → Hp → B → Prop} {m : AM} {f : List D → Sto → Out B} (he : EnvR C.K l H e s) (hr : Rel C l S H) (hp : Post C W RA s l H ((m e S).bind f)) :
    TA' C W m s H fun vs H1 => ∃ l1 ds S1, EnvR C.K l1 H1 e s ∧ Rel C l1 S1 H1 ∧ Ext l H l1 H1 ∧ RDs C.K l1 H1 ds vs ∧ Post C W RA s l1 H1 (f ds S1) :=
  ⟨e, S, l, he, hr, Post.bind hp fun H1 l1 d S1 x r p v hv => ⟨l1, d, S1, he.mono x, r, x, hv, p⟩⟩
end
/-- an option as an outcome -/
def ofO {A : Type} (o : Option A) (S : Sto) : Out A := match o with
  | some a => .ok a S
  | none => .bad
theorem post_ofO {A : Type} {C : Ctx} {W : WX} {RA : Lay → Hp → A → Prop} {s : L2.St} {l : Lay} {H : Hp} {S : Sto} {o : Option A} (h : Post C W RA s l H (ofO o S)) : ∃ a, o = some a ∧ ∀ H' l', Ext l H l' H' → Rel C l' S H' → RA l' H' a := by
  cases o with
  | none => exact h.elim
  | some a => exact ⟨a, rfl, h⟩
theorem VPost.of {C : Ctx} {S : Sto} {l : Lay} {H : Hp} {d : D} {Q : VK} (h : ∀ H' l', Ext l H l' H' → Rel C l' S H' → QE C Q l' H' d) : VPost C S l H d Q := fun H' l' x r v hv => h H' l' x r v hv
/-! ### the meanings -/
def varM (i : Nat) : EM := fun e S => match e[i]? with
  | some (some d) => .ok d S
  | _ => .bad
def cM (d : D) : EM := fun _ S => .ok d S
def badE : EM := fun _ _ => .bad
def binM (g : D → D → Sto → Option D) (a b : EM) : EM := fun e S => (a e S).bind fun x S1 => (b e S1).bind fun y S2 => ofO (g x y S2) S2
def chainM (g g' : D → D → Sto → Option D) (a b c : EM) : EM := fun e S => (a e S).bind fun x S1 => (b e S1).bind fun y S2 => (ofO (g x y S2) S2).bind fun z S3 => match z with
  | .bl true => (c e S3).bind fun u S4 => ofO (g' y u S4) S4
  | .bl false => .ok (.bl false) S3
  | _ => .bad
def boolOf : D → Option Bool
  | .bl b => some b
  | _ => none
def tstM (a : EM) : TM := fun e S => (a e S).bind fun x S1 => ofO (boolOf x) S1
def notM (t : TM) : TM := fun e S => (t e S).bind fun b S1 => .ok (!b) S1
def andM (t u : TM) : TM := fun e S => (t e S).bind fun b S1 => if b = true then u e S1 else .ok false S1
def orM (t u : TM) : TM := fun e S => (t e S).bind fun b S1 => if b = true then .ok true S1 else u e S1
def blM (t : TM) : EM := fun e S => (t e S).bind fun b S1 => .ok (.bl b) S1
def ifM (t : TM) (a b : EM) : EM := fun e S => (t e S).bind fun c S1 => if c = true then a e S1 else b e S1
def nilM : AM := fun _ S => .ok [] S
def consM (a : EM) (r : AM) : AM := fun e S => (a e S).bind fun x S1 => (r e S1).bind fun xs S2 => .ok (x :: xs) S2
def tupM (t : AM) : EM := fun e S => (t e S).bind fun xs S1 => if xs.length ≤ 1000 then .ok (.tup xs) S1 else .bad
def lstM (t : AM) : EM := fun e S => (t e S).bind fun xs S1 => if xs.length ≤ 1000 then .ok (.lst xs) S1 else .bad
/-- a new cell under an address: that of an attribute, if it is free; else the next one -/
def newId (h : Option Id) (S : Sto) : Id := match h with
  | some i => match S.at_ i with
    | none => i
    | some _ => .obj 0 S.nx
  | none => .obj 0 S.nx
def alloc (h : Option Id) (c : Cell) (S : Sto) : Out D := match S.at_ (newId h S) with
  | some _ => .bad
  | none => .ok (.cell (newId h S)) (S.bump.set (newId h S) c)
def subM (a b : EM) : EM := fun e S => (a e S).bind fun x S1 => (b e S1).bind fun y S2 => match dget x y S2 with
  | some o => ofO o S2
  | none => ofO (ixD x y S2) S2
/-- a part of a slice -/
abbrev OM := Env' → Sto → Out (Option Int)
def noPart : OM := fun _ S => .ok none S
def partM (a : EM) : OM := fun e S => (a e S).bind fun x S1 => match x with
  | .int i => .ok (some i) S1
  | _ => .bad
def sliceM (a : EM) (lo hi : OM) : EM := fun e S => (a e S).bind fun x S1 => (lo e S1).bind fun p S2 => (hi e S2).bind fun q S3 => ofO (slD x p q S3) S3
def fldD (f : Nat) (x : D) (S : Sto) : Option D := match x with
  | .cell i => match S.at_ i with
    | some (.ins _ fs) => fs.lookup f
    | _ => none
  | _ => none
def fldM (f : Nat) (a : EM) : EM := fun e S => (a e S).bind fun x S1 => ofO (fldD f x S1) S1
def revM (a : EM) : EM := fun e S => (a e S).bind fun x S1 => match top1 S1 x with
  | .lst ds => .ok (.lst ds.reverse) S1
  | _ => .bad
section
variable {X : Cx} {C : Ctx} {W : WX} (hK : C.K = X.K)
theorem sd_var {i : Nat} {x : Str} {pos : Pos} (hN : X.N[i]? = some x) (hv : Vis X.env.scope x) (hd : (x == ("__debug__" : Str)) = false) (hcd : (x == ("__classdict__" : Str)) = false) : PE X (.Name x pos) (T C W (varM i)) := by
  refine PEmono (pe_var hN hv hd hcd) fun s H Q h => ?_
  obtain ⟨e, S, l, he, hr, hp⟩ := h
  unfold varM at hp
  split at hp
  · rename_i d hd
    obtain ⟨v, hv, rd⟩ := he.2 i d hd
    exact ⟨v, hv, Post.pure hr hp v rd⟩
  · exact hp.elim
theorem sd_val {v : V} {d : D} {ex : Expr} (h : PE X ex (tC v)) (rd : ∀ l H, RD C.K l H d v) : PE X ex (T C W (cM d)) := by
  refine PEmono h fun s H Q h => ?_
  obtain ⟨e, S, l, he, hr, hp⟩ := h
  exact Post.pure hr hp v (rd l H)
theorem sd_bin {op : Operator} {g : D → D → Sto → Option D} {a b : Expr} {ma mb : EM} {pos : Pos} (ho : OpR X (binaryOp op) (rB C g)) (ha : PE X a (T C W ma)) (hb : PE X b (T C W mb)) : PE X (.BinOp a op b pos) (T C W (binM g ma mb)) := by
  refine PEmono (pe_op ho ha hb) fun s H Q h => ?_
  obtain ⟨e, S, l, he, hr, hp⟩ := h
  refine Tmono (T_run he hr hp) fun v H1 ⟨l1, d1, S1, he1, hr1, x1, hd1, hp1⟩ => Tmono (T_run he1 hr1 hp1) fun w H2 ⟨l2, d2, S2, he2, hr2, x2, hd2, hp2⟩ => ?_
  obtain ⟨d, hg, hp2⟩ := post_ofO hp2
  exact ⟨S2, l2, d1, d2, d, hr2, RD.mono x2 _ _ hd1, hd2, hg, VPost.of hp2⟩
theorem sd_cmp {op : CmpOp} {g : D → D → Sto → Option D} {a b : Expr} {ma mb : EM} {pos : Pos} (ho : OpR X (compareOp op) (rB C g)) (ha : PE X a (T C W ma)) (hb : PE X b (T C W mb)) (hm : behindInMarks op b = false) : PE X (.Compare a [op] [b] pos) (T C W (binM g ma mb)) := by
  refine PEmono (pe_cmpR ho ha hb hm) fun s H Q h => ?_
  obtain ⟨e, S, l, he, hr, hp⟩ := h
  refine Tmono (T_run he hr hp) fun v H1 ⟨l1, d1, S1, he1, hr1, x1, hd1, hp1⟩ => Tmono (T_run he1 hr1 hp1) fun w H2 ⟨l2, d2, S2, he2, hr2, x2, hd2, hp2⟩ => ?_
  obtain ⟨d, hg, hp2⟩ := post_ofO hp2
  exact ⟨S2, l2, d1, d2, d, hr2, RD.mono x2 _ _ hd1, hd2, hg, VPost.of hp2⟩
theorem boolOf_rd {K : PySem.W.Frag} {l : Lay} {H : Hp} {d : D} {v : V} {b : Bool} (h : RD K l H d v) (e : boolOf d = some b) : v = .bl b := by
  cases d <;> simp only [boolOf] at e <;> cases e
  exact h
theorem sdt_cmp {op : CmpOp} {g : D → D → Sto → Option D} {a b : Expr} {ma mb : EM} {pos : Pos} (ho : OpR X (compareOp op) (rB C g)) (ha : PE X a (T C W ma)) (hb : PE X b (T C W mb)) (hm : behindInMarks op b = false) : PT X (.Compare a [op] [b] pos) (TT' C W (tstM (binM g ma mb))) := by
  refine PTmono (pt_cmpR ho ha hb hm) fun s H Q h => ?_
  obtain ⟨e, S, l, he, hr, hp⟩ := h
  unfold tstM binM at hp
  have assoc : ∀ {A B D' : Type} (o : Out A) (f : A → Sto → Out B) (g : B → Sto → Out D'), (o.bind f).bind g = o.bind fun a S => (f a S).bind g := fun o f g => by cases o <;> rfl
  rw [assoc] at hp
  refine Tmono (T_run he hr hp) fun v H1 ⟨l1, d1, S1, he1, hr1, x1, hd1, hp1⟩ => ?_
  rw [assoc] at hp1
  refine Tmono (T_run he1 hr1 hp1) fun w H2 ⟨l2, d2, S2, he2, hr2, x2, hd2, hp2⟩ => ?_
  cases hg : g d1 d2 S2 with
  | none =>
    rw [hg] at hp2
    exact hp2.elim
  | some d =>
    rw [hg] at hp2
    obtain ⟨b, hb, hp3⟩ := post_ofO (show Post C W (QT Q) s l2 H2 (ofO (boolOf d) S2) from hp2)
    exact ⟨S2, l2, d1, d2, d, hr2, RD.mono x2 _ _ hd1, hd2, hg, fun H' l' x r v hv => ⟨b, boolOf_rd hv hb, hp3 H' l' x r⟩⟩
theorem out_assoc {A B D' : Type} (o : Out A) (f : A → Sto → Out B) (g : B → Sto → Out D') : (o.bind f).bind g = o.bind fun a S => (f a S).bind g := by cases o <;> rfl
theorem sd_chain {op op' : CmpOp} {g g' : D → D → Sto → Option D} {a b c : Expr} {ma mb mc : EM} {pos : Pos} (ho : OpR X (compareOp op) (rB C g)) (ho' : OpR X (compareOp op') (rB C g')) (ha : PE X a (T C W ma)) (hb : PE X b (T C W mb)) (hc : PE X c (T C W mc))
    (hm : lastMarks [op, op'] [b, c] = false) : PE X (.Compare a [op, op'] [b, c] pos) (T C W (chainM g g' ma mb mc)) := by
  refine PEmono (pe_chain ho ho' ha hb hc hm) fun s H Q h => ?_
  obtain ⟨e, S, l, he, hr, hp⟩ := h
  refine Tmono (T_run he hr hp) fun v H1 ⟨l1, d1, S1, he1, hr1, x1, hd1, hp1⟩ => Tmono (T_run he1 hr1 hp1) fun w H2 ⟨l2, d2, S2, he2, hr2, x2, hd2, hp2⟩ => ?_
  cases hg : g d1 d2 S2 with
  | none =>
    rw [hg] at hp2
    exact hp2.elim
  | some d =>
    rw [hg] at hp2
    refine ⟨S2, l2, d1, d2, d, hr2, RD.mono x2 _ _ hd1, hd2, hg, fun H3 l3 x3 hr3 z hz => ?_⟩
    have hp3 := Post.mono hp2 x3 hr3
    cases d with
    | bl k =>
      cases hz
      refine ⟨k, rfl, ?_⟩
      cases k with
      | true =>
        rw [if_pos rfl]
        refine Tmono (T_run (he2.mono x3) hr3 (show Post C W (QE C Q) s l3 H3 ((mc e S2).bind _) from hp3)) fun u H4 ⟨l4, d4, S4, he4, hr4, x4, hd4, hp4⟩ => ?_
        obtain ⟨d, hg', hp4⟩ := post_ofO hp4
        exact ⟨S4, l4, d2, d4, d, hr4, RD.mono x4 _ _ (RD.mono x3 _ _ hd2), hd4, hg', VPost.of hp4⟩
      | false =>
        rw [if_neg Bool.false_ne_true]
        exact Post.pure hr3 (show Post C W (QE C Q) s l3 H3 (.ok (.bl false) S2) from hp3) _ rfl
    | _ => exact hp3.elim
/-- a value that is a bool, as a test -/
theorem sdt_val {ex : Expr} {m : EM} (h : PE X ex (T C W m)) (he : ∀ whole, isTrue ex X.env whole = (do let v ← whole; standAt ex.pos; holding [v] (truthy v))) : PT X ex (TT' C W (tstM m)) := by
  refine PTmono (pt_val h he) fun s H Q h => ?_
  obtain ⟨e, S, l, he, hr, hp⟩ := h
  refine Tmono (T_run he hr hp) fun v H1 ⟨l1, d1, S1, he1, hr1, x1, hd1, hp1⟩ => ?_
  obtain ⟨b, hb, hp1⟩ := post_ofO hp1
  exact ⟨b, boolOf_rd hd1 hb, hp1 H1 l1 (Ext.refl _ _) hr1⟩
theorem sdt_not {ex : Expr} {pos : Pos} {m : TM} (h : PT X ex (TT' C W m)) : PT X (.UnaryOp .Not ex pos) (TT' C W (notM m)) := by
  refine PTmono (pt_not h) fun s H Q h => ?_
  obtain ⟨e, S, l, he, hr, hp⟩ := h
  exact TTmono (TT_run he hr hp) fun b H1 ⟨l1, S1, he1, hr1, x1, hp1⟩ => Post.pure hr1 hp1
theorem sdw_one {ex : Expr} {pos : Pos} {op : BoolOp} {m : TM} (h : PT X ex (TT' C W m)) : PW X (.BoolOp op [ex] pos) (TT' C W m) := by
  cases op with
  | And => exact pw_and1 h
  | Or => exact pw_or1 h
theorem sdw_and {a b : Expr} {rest : List Expr} {pos : Pos} {ma mb : TM} (ha : PT X a (TT' C W ma)) (hb : PW X (.BoolOp .And (b :: rest) pos) (TT' C W mb)) : PW X (.BoolOp .And (a :: b :: rest) pos) (TT' C W (andM ma mb)) := by
  have h0 := pw_and ha hb
  refine ⟨fun whole pins s σ H Q I h => h0.run whole pins s σ H Q I ?_⟩
  obtain ⟨e, S, l, he, hr, hp⟩ := h
  refine TTmono (TT_run he hr hp) fun c H1 ⟨l1, S1, he1, hr1, x1, hp1⟩ => ?_
  cases c with
  | true => exact iteT ⟨e, S1, l1, he1, hr1, hp1⟩
  | false => exact iteF (Post.pure hr1 (show Post C W (QT Q) σ l1 H1 (.ok false S1) from hp1))
theorem sdw_or {a b : Expr} {rest : List Expr} {pos : Pos} {ma mb : TM} (ha : PT X a (TT' C W ma)) (hb : PW X (.BoolOp .Or (b :: rest) pos) (TT' C W mb)) : PW X (.BoolOp .Or (a :: b :: rest) pos) (TT' C W (orM ma mb)) := by
  have h0 := pw_or ha hb
  refine ⟨fun whole pins s σ H Q I h => h0.run whole pins s σ H Q I ?_⟩
  obtain ⟨e, S, l, he, hr, hp⟩ := h
  refine TTmono (TT_run he hr hp) fun c H1 ⟨l1, S1, he1, hr1, x1, hp1⟩ => ?_
  cases c with
  | true => exact iteT (Post.pure hr1 (show Post C W (QT Q) σ l1 H1 (.ok true S1) from hp1))
  | false => exact iteF ⟨e, S1, l1, he1, hr1, hp1⟩
/-- and, or, not as values of bools -/
def andV (a b : EM) : EM := fun e S => (a e S).bind fun x S1 => match x with
  | .bl true => b e S1
  | .bl false => .ok (.bl false) S1
  | _ => .bad
def orV (a b : EM) : EM := fun e S => (a e S).bind fun x S1 => match x with
  | .bl true => .ok (.bl true) S1
  | .bl false => b e S1
  | _ => .bad
def notV (a : EM) : EM := fun e S => (a e S).bind fun x S1 => match x with
  | .bl b => .ok (.bl (!b)) S1
  | _ => .bad
theorem sd_andV {a b : Expr} {rest : List Expr} {pos : Pos} {ma mb : EM} (ha : PE X a (T C W ma)) (hb : PE X (.BoolOp .And (b :: rest) pos) (T C W mb)) : PE X (.BoolOp .And (a :: b :: rest) pos) (T C W (andV ma mb)) := by
  refine PEmono (pe_and ha hb) fun s H Q h => ?_
  obtain ⟨e, S, l, he, hr, hp⟩ := h
  refine Tmono (T_run he hr hp) fun c H1 ⟨l1, d1, S1, he1, hr1, x1, hd1, hp1⟩ => ?_
  cases d1 with
  | bl k =>
    cases hd1
    refine ⟨k, rfl, ?_⟩
    cases k with
    | true => exact iteT ⟨e, S1, l1, he1, hr1, hp1⟩
    | false => exact iteF (Post.pure hr1 (show Post C W (QE C Q) s l1 H1 (.ok (.bl false) S1) from hp1) _ rfl)
  | _ => exact hp1.elim
theorem sd_orV {a b : Expr} {rest : List Expr} {pos : Pos} {ma mb : EM} (ha : PE X a (T C W ma)) (hb : PE X (.BoolOp .Or (b :: rest) pos) (T C W mb)) : PE X (.BoolOp .Or (a :: b :: rest) pos) (T C W (orV ma mb)) := by
  refine PEmono (pe_or ha hb) fun s H Q h => ?_
  obtain ⟨e, S, l, he, hr, hp⟩ := h
  refine Tmono (T_run he hr hp) fun c H1 ⟨l1, d1, S1, he1, hr1, x1, hd1, hp1⟩ => ?_
  cases d1 with
  | bl k =>
    cases hd1
    refine ⟨k, rfl, ?_⟩
    cases k with
    | true => exact iteT (Post.pure hr1 (show Post C W (QE C Q) s l1 H1 (.ok (.bl true) S1) from hp1) _ rfl)
    | false => exact iteF ⟨e, S1, l1, he1, hr1, hp1⟩
  | _ => exact hp1.elim
theorem sd_notV {a : Expr} {pos : Pos} {ma : EM} (ha : PE X a (T C W ma)) : PE X (.UnaryOp .Not a pos) (T C W (notV ma)) := by
  refine PEmono (pe_not ha) fun s H Q h => ?_
  obtain ⟨e, S, l, he, hr, hp⟩ := h
  refine Tmono (T_run he hr hp) fun c H1 ⟨l1, d1, S1, he1, hr1, x1, hd1, hp1⟩ => ?_
  cases d1 with
  | bl k =>
    cases hd1
    exact ⟨k, rfl, Post.pure hr1 (show Post C W (QE C Q) s l1 H1 (.ok (.bl (!k)) S1) from hp1) _ rfl⟩
  | _ => exact hp1.elim
theorem sd_if {c a b : Expr} {pos : Pos} {mc : TM} {ma mb : EM} (hc : PT X c (TT' C W mc)) (ha : PE X a (T C W ma)) (hb : PE X b (T C W mb)) : PE X (.IfExp c a b pos) (T C W (ifM mc ma mb)) := by
  refine PEmono (pe_ifExp hc ha hb) fun s H Q h => ?_
  obtain ⟨e, S, l, he, hr, hp⟩ := h
  refine TTmono (TT_run he hr hp) fun c H1 ⟨l1, S1, he1, hr1, x1, hp1⟩ => ?_
  cases c with
  | true => exact iteT ⟨e, S1, l1, he1, hr1, hp1⟩
  | false => exact iteF ⟨e, S1, l1, he1, hr1, hp1⟩
theorem sda_nil : PA X [] (TA' C W nilM) := by
  refine PAmono pa_nil fun s H Q h => ?_
  obtain ⟨e, S, l, he, hr, hp⟩ := h
  exact Post.pure hr hp _ rfl
theorem sda_cons {a : Expr} {es : List Expr} {ma : EM} {mr : AM} (ha : PE X a (T C W ma)) (hr : PA X es (TA' C W mr)) (hs : starEach (a :: es) X.env = (false, eval a X.env) :: starEach es X.env) : PA X (a :: es) (TA' C W (consM ma mr)) := by
  refine PAmono (pa_cons ha hr hs) fun s H Q h => ?_
  obtain ⟨e, S, l, he, hr, hp⟩ := h
  refine Tmono (T_run he hr hp) fun v H1 ⟨l1, d1, S1, he1, hr1, x1, hd1, hp1⟩ => TAmono (TA_run he1 hr1 hp1) fun vs H2 ⟨l2, d2, S2, he2, hr2, x2, hd2, hp2⟩ => ?_
  exact Post.pure hr2 hp2 _ ⟨v, vs, rfl, RD.mono x2 _ _ hd1, hd2⟩
theorem line1000 {n : Nat} (h : n ≤ 1000) : n ≤ sizeLine := Nat.le_trans h (by decide)
theorem sd_tup {es : List Expr} {k : Nat} {pos : Pos} {m : AM} (h : PA X es (TA' C W m)) : PE X (.Tuple es k pos) (T C W (tupM m)) := by
  refine PEmono (pe_tup h) fun s H Q h => ?_
  obtain ⟨e, S, l, he, hr, hp⟩ := h
  refine TAmono (TA_run he hr hp) fun vs H1 ⟨l1, ds, S1, he1, hr1, x1, hd1, hp1⟩ => ?_
  split at hp1
  · rename_i hl
    exact ⟨by rw [hd1.length]; exact line1000 hl, fun p hp => (VPost.of hp1).tup hr1 hd1 hp⟩
  · exact hp1.elim
theorem sd_lst {es : List Expr} {pos : Pos} {m : AM} (h : PA X es (TA' C W m)) : PE X (.List es pos) (T C W (lstM m)) := by
  refine PEmono (pe_lst h) fun s H Q h => ?_
  obtain ⟨e, S, l, he, hr, hp⟩ := h
  refine TAmono (TA_run he hr hp) fun vs H1 ⟨l1, ds, S1, he1, hr1, x1, hd1, hp1⟩ => ?_
  split at hp1
  · rename_i hl
    exact ⟨by rw [hd1.length]; exact line1000 hl, fun p hp => (VPost.of hp1).lst hr1 hd1 hp⟩
  · exact hp1.elim
/-- a new cell's place -/
theorem alloc_ok {h : Option Id} {c : Cell} {S : Sto} {Q : VK} {s : L2.St} {l : Lay} {H : Hp} {p : Addr} {o : HO} (hp : Post C W (QE C Q) s l H (alloc h c S)) (hr : Rel C l S H) (hn : H p = none)
    (hc : ∀ l', Ext l H l' (upd H p o) → CellOk C l' (upd H p o) p c) : Q (.ref p) (upd H p o) := by
  unfold alloc at hp
  split at hp
  · exact hp.elim
  · rename_i hz
    have x := ext_add (i := newId h S) (o := o) hr hz hn
    have r := rel_add (i := newId h S) (o := o) (c := c) hr hz hn (hc _ x)
    exact hp _ _ x ⟨r.cells, r.dom, r.inj, r.nos⟩ _ ⟨p, rfl, Lay.add_same⟩
def lstC (h : Option Id) (t : AM) : EM := fun e S => (t e S).bind fun xs S1 => if xs.length ≤ 1000 then alloc h (.lst xs) S1 else .bad
theorem sd_lstC {es : List Expr} {pos : Pos} {m : AM} {i : Option Id} (h : PA X es (TA' C W m)) : PE X (.List es pos) (T C W (lstC i m)) := by
  refine PEmono (pe_lst h) fun s H Q h => ?_
  obtain ⟨e, S, l, he, hr, hp⟩ := h
  refine TAmono (TA_run he hr hp) fun vs H1 ⟨l1, ds, S1, he1, hr1, x1, hd1, hp1⟩ => ?_
  split at hp1
  · rename_i hl
    exact ⟨by rw [hd1.length]; exact line1000 hl, fun p hp => alloc_ok hp1 hr1 hp fun l' x => ⟨vs, upd_same, RDs.mono x _ _ hd1⟩⟩
  · exact hp1.elim
def dctK (h : Option Id) : EM := fun _ S => alloc h (.dK []) S
def dctT (h : Option Id) : EM := fun _ S => alloc h (.dT []) S
theorem sd_dctK {pos : Pos} {i : Option Id} : PE X (.Dict [] [] pos) (T C W (dctK i)) := by
  refine PEmono pe_dnewK fun s H Q h => ?_
  obtain ⟨e, S, l, he, hr, hp⟩ := h
  exact fun p hn => alloc_ok hp hr hn fun l' x => ⟨[], upd_same, .nil⟩
theorem sd_dctT {pos : Pos} {i : Option Id} : PE X (.Dict [] [] pos) (T C W (dctT i)) := by
  refine PEmono pe_dnewT fun s H Q h => ?_
  obtain ⟨e, S, l, he, hr, hp⟩ := h
  exact fun p hn => alloc_ok hp hr hn fun l' x => ⟨[], upd_same, .nil⟩
include hK
theorem sd_sub {a b : Expr} {pos : Pos} {ma mb : EM} (hu : X.A.units + 1 < cLine) (ha : PE X a (T C W ma)) (hb : PE X b (T C W mb)) (hs : PlainIx b) (hs' : NoSl b) : PE X (.Subscript a b pos) (T C W (subM ma mb)) := by
  have h1 := pe_ix (pos := pos) (vo_ix hK) ha hb hs
  have h2 := pe_dget (pos := pos) hu ha hb hs'
  refine ⟨fun pins s0 s H Q I h => ?_⟩
  obtain ⟨e, S, l, he, hr, hp⟩ := h
  by_cases hc : ∃ x S1 y S2 o, ma e S = .ok x S1 ∧ mb e S1 = .ok y S2 ∧ dget x y S2 = some o
  · obtain ⟨x, S1, y, S2, o, e1, e2, e3⟩ := hc
    refine h2.run pins s0 s H Q I ?_
    refine ⟨e, S, l, he, hr, ?_⟩
    rw [e1]
    intro H1 l1 x1 r1 v hv
    refine ⟨e, S1, l1, he.mono x1, r1, ?_⟩
    rw [e2]
    intro H2 l2 x2 r2 w hw
    obtain ⟨p, ov, rfl, dg, hov⟩ := dget_ok r2 (RD.mono x2 _ _ hv) hw e3
    unfold subM at hp
    rw [e1] at hp
    have hp' : Post C W (QE C Q) s l H ((mb e S1).bind fun y S2 => match dget x y S2 with
      | some o => ofO o S2
      | none => ofO (ixD x y S2) S2) := hp
    rw [e2] at hp'
    have hp2 : Post C W (QE C Q) s l H (match dget x y S2 with
      | some o => ofO o S2
      | none => ofO (ixD x y S2) S2) := hp'
    rw [e3] at hp2
    obtain ⟨d, rfl, hp3⟩ := post_ofO hp2
    obtain ⟨v', rfl, hd⟩ := hov
    exact ⟨p, v', rfl, dg, hp3 H2 l2 (x1.thru x2 r1) r2 _ hd⟩
  · refine h1.run pins s0 s H Q I ?_
    have hp' : Post C W (QE C Q) s l H (binM ixD ma mb e S) := by
      unfold subM at hp
      unfold binM
      cases e1 : ma e S with
      | bad => rw [e1] at hp; exact hp
      | exc x S1 => rw [e1] at hp; exact hp
      | ok x S1 =>
        rw [e1] at hp
        have hp2 : Post C W (QE C Q) s l H ((mb e S1).bind fun y S2 => match dget x y S2 with
          | some o => ofO o S2
          | none => ofO (ixD x y S2) S2) := hp
        show Post C W (QE C Q) s l H ((mb e S1).bind fun y S2 => ofO (ixD x y S2) S2)
        cases e2 : mb e S1 with
        | bad => rw [e2] at hp2; exact hp2
        | exc x S1 => rw [e2] at hp2; exact hp2
        | ok y S2 =>
          rw [e2] at hp2
          have hp3 : Post C W (QE C Q) s l H (match dget x y S2 with
            | some o => ofO o S2
            | none => ofO (ixD x y S2) S2) := hp2
          show Post C W (QE C Q) s l H (ofO (ixD x y S2) S2)
          cases e3 : dget x y S2 with
          | some o => exact (hc ⟨x, S1, y, S2, o, e1, e2, e3⟩).elim
          | none => rw [e3] at hp3; exact hp3
    refine Tmono (T_run he hr hp') fun v H1 ⟨l1, d1, S1, he1, hr1, x1, hd1, hp1⟩ => Tmono (T_run he1 hr1 hp1) fun w H2 ⟨l2, d2, S2, he2, hr2, x2, hd2, hp2⟩ => ?_
    obtain ⟨d, hg, hp2⟩ := post_ofO hp2
    exact ⟨S2, l2, d1, d2, d, hr2, RD.mono x2 _ _ hd1, hd2, hg, VPost.of hp2⟩
omit hK
/-- slices -/
def TO' (C : Ctx) (W : WX) (m : OM) : TO := fun s H Q => ∃ e S l, EnvR C.K l H e s ∧ Rel C l S H ∧ Post C W (fun _ H o => Q o H) s l H (m e S)
theorem TOmono {m : OM} {s : L2.St} {H : Hp} {G G' : Option Int → Hp → Prop} (h : TO' C W m s H G) (k : ∀ v H1, G v H1 → G' v H1) : TO' C W m s H G' := by
  obtain ⟨e, S, l, he, hr, hp⟩ := h
  exact ⟨e, S, l, he, hr, hp.imp fun H' l' a S' _ _ q => k a H' q⟩
theorem TO_run {B : Type} {s : L2.St} {l : Lay} {H : Hp} {e : Env'} {S : Sto} {RA : Lay → Hp → B → Prop} {m : OM} {f : Option Int → Sto → Out B} (he : EnvR C.K l H e s) (hr : Rel C l S H) (hp : Post C W RA s l H ((m e S).bind f)) :
    TO' C W m s H fun b H1 => ∃ l1 S1, EnvR C.K l1 H1 e s ∧ Rel C l1 S1 H1 ∧ Ext l H l1 H1 ∧ Post C W RA s l1 H1 (f b S1) :=
  ⟨e, S, l, he, hr, Post.bind hp fun H1 l1 d S1 x r p => ⟨l1, S1, he.mono x, r, x, p⟩⟩
theorem POmono {ex : Option Expr} {t t' : TO} (h : PO X ex t) (k : ∀ s H Q, t' s H Q → t s H Q) : PO X ex t' := ⟨fun pins s σ H Q I q => h.run pins s σ H Q I (k σ H Q q)⟩
theorem sdo_none : PO X none (TO' C W noPart) := by
  refine POmono po_none fun s H Q h => ?_
  obtain ⟨e, S, l, he, hr, hp⟩ := h
  exact Post.pure hr hp
theorem sdo_some {a : Expr} {ma : EM} (ha : PE X a (T C W ma)) : PO X (some a) (TO' C W (partM ma)) := by
  refine POmono (po_some ha) fun s H Q h => ?_
  obtain ⟨e, S, l, he, hr, hp⟩ := h
  refine Tmono (T_run he hr hp) fun v H1 ⟨l1, d1, S1, he1, hr1, x1, hd1, hp1⟩ => ?_
  cases d1 with
  | int i =>
    cases hd1
    exact ⟨i, rfl, Post.pure hr1 hp1⟩
  | _ => exact hp1.elim
theorem sd_slice {a : Expr} {lo hi : Option Expr} {p2 pos : Pos} {ma : EM} {ml mh : OM} (hK : C.K = X.K) (ha : PE X a (T C W ma)) (hl : PO X lo (TO' C W ml)) (hh : PO X hi (TO' C W mh)) : PE X (.Subscript a (.Slice lo hi none p2) pos) (T C W (sliceM ma ml mh)) := by
  refine PEmono (pe_slice (vo_sl hK) ha hl hh) fun s H Q h => ?_
  obtain ⟨e, S, l, he, hr, hp⟩ := h
  refine Tmono (T_run he hr hp) fun v H1 ⟨l1, d1, S1, he1, hr1, x1, hd1, hp1⟩ => TOmono (TO_run he1 hr1 hp1) fun p H2 ⟨l2, S2, he2, hr2, x2, hp2⟩ => TOmono (TO_run he2 hr2 hp2) fun q H3 ⟨l3, S3, he3, hr3, x3, hp3⟩ => ?_
  obtain ⟨d, hg, hp3⟩ := post_ofO hp3
  exact ⟨S3, l3, d1, d, hr3, RD.mono x3 _ _ (RD.mono x2 _ _ hd1), hg, VPost.of hp3⟩
end
end Pyx
/-! built-in functions by values -/
namespace Pyx
open PySem PySem.Spec PyProof.Rows L2
def rC (C : Ctx) (g : List D → Sto → Option D) : List V → Hp → VK → Prop := fun vs H Q => ∃ S l ds d, Rel C l S H ∧ RDs C.K l H ds vs ∧ g ds S = some d ∧ VPost C S l H d Q
theorem RDs.one {K : PySem.W.Frag} {l : Lay} {H : Hp} {d : D} {vs : List V} (h : RDs K l H [d] vs) : ∃ v, vs = [v] ∧ RD K l H d v := by
  obtain ⟨v, r, rfl, h1, h2⟩ := h
  cases h2
  exact ⟨v, rfl, h1⟩
theorem RDs.two {K : PySem.W.Frag} {l : Lay} {H : Hp} {d e : D} {vs : List V} (h : RDs K l H [d, e] vs) : ∃ v w, vs = [v, w] ∧ RD K l H d v ∧ RD K l H e w := by
  obtain ⟨v, r, rfl, h1, h2⟩ := h
  obtain ⟨w, rfl, h3⟩ := RDs.one h2
  exact ⟨v, w, rfl, h1, h3⟩
/-- things of a list, a tuple, as they stand -/
def itemsD (S : Sto) (d : D) : Option (List D) := match top1 S d with
  | .lst ds => some ds
  | .tup ds => some ds
  | .ktup ds => some ds
  | .ptup ds => some ds
  | .scr ns => some (ns.map D.int)
  | _ => none
theorem items_ok {C : Ctx} {S : Sto} {l : Lay} {H : Hp} {d : D} {v : V} {ds : List D} (r : Rel C l S H) (h : RD C.K l H d v) (e : itemsD S d = some ds) : ∃ a vs, v = .ref a ∧ (SqL C.K H a vs ∨ SqT C.K H a vs) ∧ RDs C.K l H ds vs := by
  have h1 := RD1.top r h
  unfold itemsD at e
  generalize top1 S d = d' at h1 e
  cases d' <;> simp only at e <;> cases e
  · cases h1 with
    | of h1 =>
      obtain ⟨a, vs, rfl, t, q⟩ := h1
      exact ⟨a, vs, rfl, .inr t.sq, q⟩
  · cases h1 with
    | of h1 =>
      obtain ⟨a, vs, rfl, t, q⟩ := h1
      exact ⟨a, vs, rfl, .inl t.sq, q⟩
    | cel t q => exact ⟨_, _, rfl, .inl (.inl (.inl t)), q⟩
  · cases h1 with
    | of h1 =>
      obtain ⟨a, rfl, t⟩ := h1
      exact ⟨a, _, rfl, .inl t.sq, RDs.ints _⟩
  · cases h1 with
    | of h1 =>
      obtain ⟨a, vs, rfl, t, q⟩ := h1
      exact ⟨a, vs, rfl, .inr (.inr t), q⟩
  · cases h1 with
    | of h1 =>
      obtain ⟨a, vs, rfl, t, q⟩ := h1
      exact ⟨a, vs, rfl, .inr t.sq, q⟩
/-- the items of a list that is one -/
def listD (S : Sto) (d : D) : Option (List D) := match top1 S d with
  | .lst ds => some ds
  | .scr ns => some (ns.map D.int)
  | _ => none
theorem list_ok {C : Ctx} {S : Sto} {l : Lay} {H : Hp} {d : D} {v : V} {ds : List D} (r : Rel C l S H) (h : RD C.K l H d v) (e : listD S d = some ds) : ∃ a vs, v = .ref a ∧ SqL C.K H a vs ∧ RDs C.K l H ds vs := by
  have h1 := RD1.top r h
  unfold listD at e
  generalize top1 S d = d' at h1 e
  cases d' <;> simp only at e <;> cases e
  · cases h1 with
    | of h1 =>
      obtain ⟨a, vs, rfl, t, q⟩ := h1
      exact ⟨a, vs, rfl, t.sq, q⟩
    | cel t q => exact ⟨_, _, rfl, .inl (.inl t), q⟩
  · cases h1 with
    | of h1 =>
      obtain ⟨a, rfl, t⟩ := h1
      exact ⟨a, _, rfl, t.sq, RDs.ints _⟩
def tupD (d : D) : Option (List D) := match d with
  | .tup ds => some ds
  | .ktup ds => some ds
  | .ptup ds => some ds
  | _ => none
theorem tup_ok {C : Ctx} {l : Lay} {H : Hp} {d : D} {v : V} {ds : List D} (h : RD C.K l H d v) (e : tupD d = some ds) : ∃ a vs, v = .ref a ∧ SqT C.K H a vs ∧ RDs C.K l H ds vs := by
  cases d <;> simp only [tupD] at e <;> cases e
  · obtain ⟨a, vs, rfl, t, q⟩ := h
    exact ⟨a, vs, rfl, t.sq, q⟩
  · obtain ⟨a, vs, rfl, t, q⟩ := h
    exact ⟨a, vs, rfl, .inr t, q⟩
  · obtain ⟨a, vs, rfl, t, q⟩ := h
    exact ⟨a, vs, rfl, t.sq, q⟩
def intsD : List D → Option (List Int)
  | [] => some []
  | .int i :: r => (intsD r).map (i :: ·)
  | _ => none
theorem ints_ok {K : PySem.W.Frag} {l : Lay} {H : Hp} : ∀ {ds : List D} {vs : List V} {ns : List Int}, RDs K l H ds vs → intsD ds = some ns → vs = ns.map V.int
  | [], vs, ns, h, e => by
    cases h
    cases e
    rfl
  | d :: r, vs, ns, h, e => by
    obtain ⟨v, ws, rfl, h1, h2⟩ := h
    cases d <;> simp only [intsD] at e <;> try cases e
    obtain ⟨ns', e', rfl⟩ := Option.map_eq_some_iff.mp e
    cases h1
    rw [ints_ok h2 e']
    rfl
def boolsD : List D → Option (List Bool)
  | [] => some []
  | .bl i :: r => (boolsD r).map (i :: ·)
  | _ => none
theorem bools_ok {K : PySem.W.Frag} {l : Lay} {H : Hp} : ∀ {ds : List D} {vs : List V} {ns : List Bool}, RDs K l H ds vs → boolsD ds = some ns → vs = ns.map V.bl
  | [], vs, ns, h, e => by
    cases h
    cases e
    rfl
  | d :: r, vs, ns, h, e => by
    obtain ⟨v, ws, rfl, h1, h2⟩ := h
    cases d <;> simp only [boolsD] at e <;> try cases e
    obtain ⟨ns', e', rfl⟩ := Option.map_eq_some_iff.mp e
    cases h1
    rw [bools_ok h2 e']
    rfl
/-! ### what they tell -/
def lenF : List D → Sto → Option D
  | [.str s], _ => if s.length ≤ sizeLine then some (.int s.length) else none
  | [d], S => (itemsD S d).map fun ds => .int ds.length
  | _, _ => none
def sumF : List D → Sto → Option D
  | [d], S => (itemsD S d).bind fun ds => (intsD ds).map fun ns => .int ns.sum
  | _, _ => none
def allF : List D → Sto → Option D
  | [d], S => (listD S d).bind fun ds => (boolsD ds).map fun ns => .bl (ns.all id)
  | _, _ => none
def minF : List D → Sto → Option D
  | [.int i, .int j], _ => some (.int (if j < i then j else i))
  | _, _ => none
def maxL : Int → List Int → Int
  | m, [] => m
  | m, x :: r => maxL (if m < x then x else m) r
def maxF : List D → Sto → Option D
  | [.int i, .int j], _ => some (.int (if j > i then j else i))
  | [d], S => (listD S d).bind fun ds => (intsD ds).bind fun ns => match ns with
    | [] => none
    | m :: r => some (.int (maxL m r))
  | _, _ => none
def intF : List D → Sto → Option D
  | [.int i], _ => some (.int i)
  | [.bl b], _ => some (.int (if b then 1 else 0))
  | [.str s], _ => if s.length ≤ 640 then (PySem.intText? s).map D.int else none
  | _, _ => none
def listF : List D → Sto → Option D
  | [d], S => (itemsD S d).map D.lst
  | _, _ => none
def tupF : List D → Sto → Option D
  | [d], S => match tupD d with
    | some ds => some (match d with | .ktup _ => .ktup ds | .ptup _ => .ptup ds | _ => .tup ds)
    | none => (listD S d).map D.tup
  | _, _ => none
/-- the name of a value's class, of the built-in ones -/
def tyName (S : Sto) : D → Option String
  | .non => some "NoneType"
  | .bl _ => some "bool"
  | .int _ => some "int"
  | .str _ => some "str"
  | .tup _ => some "tuple"
  | .ktup _ => some "tuple"
  | .ptup _ => some "tuple"
  | .lst _ => some "list"
  | .scr _ => none
  | .xv _ _ => none
  | .cell i => match S.at_ i with
    | some (.lst _) => some "list"
    | some (.dK _) => some "dict"
    | some (.dT _) => some "dict"
    | _ => none
def isiF (T : String) (d : D) (S : Sto) : Option D := (tyName S d).bind fun t => (kitB t T).map D.bl
theorem maxL_spec : ∀ (r : List Int) (m : Int), maxL m r ∈ m :: r ∧ ∀ y ∈ m :: r, y ≤ maxL m r
  | [], m => ⟨by simp [maxL], by simp [maxL]⟩
  | x :: r, m => by
    obtain ⟨h1, h2⟩ := maxL_spec r (if m < x then x else m)
    unfold maxL
    refine ⟨?_, fun y hy => ?_⟩
    · rcases List.mem_cons.mp h1 with h | h
      · rw [h]
        split <;> simp
      · exact List.mem_cons_of_mem _ (List.mem_cons_of_mem _ h)
    · have h0 := h2 (if m < x then x else m) (by simp)
      rcases List.mem_cons.mp hy with rfl | hy
      · refine Int.le_trans ?_ h0
        split <;> omega
      · rcases List.mem_cons.mp hy with rfl | hy
        · refine Int.le_trans ?_ h0
          split <;> omega
        · exact h2 y (List.mem_cons_of_mem _ hy)
section
variable {X : Cx} {C : Ctx} (hK : C.K = X.K)
include hK
theorem cl_len : CallR X (.builtin "len") (rC C lenF) := by
  intro pins s σ H xs us Q I rs h
  obtain ⟨S, l, ds, d, hr, hd, hg, hp⟩ := h
  unfold lenF at hg
  split at hg
  · obtain ⟨v, rfl, hv⟩ := hd.one
    split at hg
    · rename_i hl
      cases hg
      obtain ⟨rfl, _⟩ := hv
      exact call_len_str pins s σ H _ us Q I rs ⟨_, rfl, hl, hp.now hr rfl⟩
    · cases hg
  · obtain ⟨v, rfl, hv⟩ := hd.one
    obtain ⟨es, he, rfl⟩ := Option.map_eq_some_iff.mp hg
    obtain ⟨a, vs, rfl, hq, hes⟩ := items_ok hr hv he
    rw [hK] at hq
    exact call_len_seq pins s σ H _ us Q I rs ⟨a, vs, rfl, hq, hp.now hr (by rw [hes.length]; rfl)⟩
  · cases hg
omit hK in
theorem sum_rawT {prog : Program} {w : World} {A : Around} {E : Value → Shared → Prop} {s : Shared} {l : Addr} {its : List Value} {ns : List Int} {Q : Value → Shared → Prop} (hh : A.handled = none) (hl : s.heap.IsTuple l its.toArray) (hi : IntsAre its ns)
    (h : ∀ h' tk t', (∀ b o, s.heap.get? b = some o → h'.get? b = some o) → Q (.int ns.sum t') { s with heap := h', toks := tk }) : wpAny (model prog w) A (call (.builtin "sum") [.ref l]) Q E s := by
  obtain ⟨xs, e⟩ := hi.allInts.items
  have hn : numsOf (intItems xs).toList = ns := by
    rw [← e]
    exact hi.numsOf
  rw [nums_intItems] at hn
  rw [e] at hl
  refine PySem.W.ktm_sumG hh hl fun h' tk t' hk => ?_
  have := h h' tk t' hk
  rw [preSum_eq, List.take_of_length_le (by simp), hn]
  exact this
theorem cl_sum (hc : X.calm = true) : CallR X (.builtin "sum") (rC C sumF) := by
  intro pins s σ H xs us Q I rs h
  obtain ⟨S, l, ds, d, hr, hd, hg, hp⟩ := h
  unfold sumF at hg
  split at hg
  · rename_i x
    obtain ⟨v, rfl, hv⟩ := hd.one
    obtain ⟨es, he, hg⟩ := Option.bind_eq_some_iff.mp hg
    obtain ⟨ns, hn, rfl⟩ := Option.map_eq_some_iff.mp hg
    obtain ⟨a, vs, rfl, hq, hes⟩ := items_ok hr hv he
    have e := ints_ok hes hn
    subst e
    rcases hq with hq | hq
    · exact cr_sum hc pins s σ H _ us Q I rs ⟨a, ns, rfl, hK ▸ hq, hp.now hr rfl⟩
    · obtain ⟨its, rv, tp, _⟩ := I.tuple (hK ▸ hq)
      have tp' : s.heap.IsTuple a its.toArray := tp
      rw [Vals.ref1 rs]
      exact sum_rawT (I.ok.hd hc) tp' rv.ints fun h' tk t' hk => ⟨.int _, H, I.kept hk, ⟨_, rfl⟩, hp.now hr rfl⟩
  · cases hg
theorem cl_all (hc : X.calm = true) : CallR X (.builtin "all") (rC C allF) := by
  intro pins s σ H xs us Q I rs h
  obtain ⟨S, l, ds, d, hr, hd, hg, hp⟩ := h
  unfold allF at hg
  split at hg
  · rename_i x
    obtain ⟨v, rfl, hv⟩ := hd.one
    obtain ⟨es, he, hg⟩ := Option.bind_eq_some_iff.mp hg
    obtain ⟨ns, hn, rfl⟩ := Option.map_eq_some_iff.mp hg
    obtain ⟨a, vs, rfl, hq, hes⟩ := list_ok hr hv he
    have e := bools_ok hes hn
    subst e
    exact cr_all hc pins s σ H _ us Q I rs ⟨a, ns, rfl, hK ▸ hq, hp.now hr rfl⟩
  · cases hg
theorem cl_list : CallR X (.type "list") (rC C listF) := by
  intro pins s σ H xs us Q I rs h
  obtain ⟨S, l, ds, d, hr, hd, hg, hp⟩ := h
  unfold listF at hg
  split at hg
  · rename_i x
    obtain ⟨v, rfl, hv⟩ := hd.one
    obtain ⟨es, he, rfl⟩ := Option.map_eq_some_iff.mp hg
    obtain ⟨a, vs, rfl, hq, hes⟩ := items_ok hr hv he
    rw [hK] at hq
    exact call_list_of pins s σ H _ us Q I rs ⟨a, vs, rfl, hq, fun p hn => hp.lst hr hes hn⟩
  · cases hg
theorem cl_tuple : CallR X (.type "tuple") (rC C tupF) := by
  intro pins s σ H xs us Q I rs h
  obtain ⟨S, l, ds, d, hr, hd, hg, hp⟩ := h
  unfold tupF at hg
  split at hg
  · rename_i x
    obtain ⟨v, rfl, hv⟩ := hd.one
    split at hg
    · rename_i es he
      obtain ⟨a, vs, rfl, hq, hes⟩ := tup_ok hv he
      refine call_tuple_of pins s σ H _ us Q I rs ⟨a, vs, rfl, .inr ⟨hK ▸ hq, ?_⟩⟩
      cases hg
      cases x <;> simp only [tupD] at he <;> cases he
      · exact hp.now hr hv
      · exact hp.now hr hv
      · exact hp.now hr hv
    · obtain ⟨es, he, rfl⟩ := Option.map_eq_some_iff.mp hg
      obtain ⟨a, vs, rfl, hq, hes⟩ := list_ok hr hv he
      exact call_tuple_of pins s σ H _ us Q I rs ⟨a, vs, rfl, .inl ⟨hK ▸ hq, fun p hn => hp.tup hr hes hn⟩⟩
  · cases hg
omit hK
theorem cl_min (hc : X.calm = true) : CallR X (.builtin "min") (rC C minF) := by
  intro pins s σ H xs us Q I rs h
  obtain ⟨S, l, ds, d, hr, hd, hg, hp⟩ := h
  unfold minF at hg
  split at hg
  · cases hg
    obtain ⟨v, w, rfl, h1, h2⟩ := hd.two
    cases h1
    cases h2
    exact call_min2 hc pins s σ H _ us Q I rs ⟨_, _, rfl, hp.now hr rfl⟩
  · cases hg
theorem cl_int : CallR X (.type "int") (rC C intF) := by
  intro pins s σ H xs us Q I rs h
  obtain ⟨S, l, ds, d, hr, hd, hg, hp⟩ := h
  unfold intF at hg
  split at hg
  · cases hg
    obtain ⟨v, rfl, h1⟩ := hd.one
    cases h1
    exact call_int1 pins s σ H _ us Q I rs (.inl ⟨_, rfl, hp.now hr rfl⟩)
  · cases hg
    obtain ⟨v, rfl, h1⟩ := hd.one
    cases h1
    exact call_int1 pins s σ H _ us Q I rs (.inr ⟨_, rfl, hp.now hr rfl⟩)
  · split at hg
    · rename_i hl
      obtain ⟨n, hn, rfl⟩ := Option.map_eq_some_iff.mp hg
      obtain ⟨v, rfl, rfl, h1⟩ := hd.one
      exact call_int_str pins s σ H _ us Q I rs ⟨_, n, rfl, hn, hl, hp.now hr rfl⟩
    · cases hg
  · cases hg
include hK
theorem cl_max (hc : X.calm = true) : CallR X (.builtin "max") (rC C maxF) := by
  intro pins s σ H xs us Q I rs h
  obtain ⟨S, l, ds, d, hr, hd, hg, hp⟩ := h
  unfold maxF at hg
  split at hg
  · cases hg
    obtain ⟨v, w, rfl, h1, h2⟩ := hd.two
    cases h1
    cases h2
    exact call_max2 hc pins s σ H _ us Q I rs ⟨_, _, rfl, hp.now hr rfl⟩
  · obtain ⟨v, rfl, hv⟩ := hd.one
    obtain ⟨es, he, hg'⟩ := Option.bind_eq_some_iff.mp hg
    obtain ⟨ns, hn, hg'⟩ := Option.bind_eq_some_iff.mp hg'
    obtain ⟨a, vs, rfl, hq, hes⟩ := list_ok hr hv he
    have e := ints_ok hes hn
    subst e
    cases ns with
    | nil => cases hg'
    | cons m r =>
      cases hg'
      refine cr_max hc pins s σ H _ us Q I rs ⟨a, m :: r, rfl, hK ▸ hq, Nat.succ_pos _, fun z hz hz2 => ?_⟩
      obtain ⟨s1, s2⟩ := maxL_spec r m
      have e : z = maxL m r := Int.le_antisymm (s2 z hz) (hz2 _ s1)
      rw [e]
      exact hp.now hr rfl
  · cases hg
theorem ty_ok {S : Sto} {l : Lay} {H : Hp} {d : D} {v : V} {t : String} (hr : Rel C l S H) (h : RD C.K l H d v) (e : tyName S d = some t) : TyX X.K H v (.type t) := by
  cases d <;> simp only [tyName] at e <;> (try cases e)
  · cases h; exact .base .non
  · cases h; exact .base (.bl _)
  · cases h; exact .base (.int _)
  · cases h.1; exact .base (.str _)
  · obtain ⟨a, vs, rfl, q, _⟩ := h
    exact .base (.tup q)
  · obtain ⟨a, vs, rfl, q, _⟩ := h
    exact .base (.lst q.1)
  · rename_i i
    obtain ⟨a, rfl, hi⟩ := h
    split at e
    · rename_i ds hS
      cases e
      obtain ⟨b, hb, vs, hv, _⟩ := hr.cells i _ hS
      rw [hi] at hb
      cases hb
      exact .base (.lst hv)
    · rename_i ds hS
      cases e
      obtain ⟨b, hb, vs, hv, _⟩ := hr.cells i _ hS
      rw [hi] at hb
      cases hb
      exact .base (.dK hv)
    · rename_i ds hS
      cases e
      obtain ⟨b, hb, vs, hv, _⟩ := hr.cells i _ hS
      rw [hi] at hb
      cases hb
      exact .base (.dT hv)
    · cases e
  · obtain ⟨a, vs, rfl, q, _⟩ := h
    obtain ⟨o, its, n, h1, h2, _⟩ := q
    rw [hK] at h1
    exact .kTuple h1 h2
  · obtain ⟨a, vs, rfl, ⟨o, _, q, _⟩, _⟩ := h
    exact .fTuple q
omit hK
def isiM (T : String) (a : EM) : EM := fun e S => (a e S).bind fun x S1 => ofO (isiF T x S1) S1
/-- the built-in functions that are called by values -/
def calM (g : List D → Sto → Option D) (t : AM) : EM := fun e S => (t e S).bind fun ds S1 => ofO (g ds S1) S1
variable {W : WX} {x : Str} {p pos : Pos} {ex : Expr} {es : List Expr} {id ty : String}
theorem post_cal {g : List D → Sto → Option D} {m : AM} {s : L2.St} {H : Hp} {Q : VK} (h : T C W (calM g m) s H Q) : TA' C W m s H fun vs H1 => rC C g vs H1 Q := by
  obtain ⟨e, S, l, he, hr, hp⟩ := h
  refine TAmono (TA_run he hr hp) fun vs H1 ⟨l1, ds, S1, he1, hr1, x1, hd1, hp1⟩ => ?_
  obtain ⟨d, hg, hp1⟩ := post_ofO hp1
  exact ⟨S1, l1, ds, d, hr1, hd1, hg, VPost.of hp1⟩
theorem sd_calB {g : List D → Sto → Option D} {m : AM} (hc : CallR X (.builtin id) (rC C g)) (hg : Gl X x) (hm : X.mg x = none) (hv : bootBuiltins x = some (.builtin id)) (ha : PA X (ex :: es) (TA' C W m)) (hn : x ≠ "__name__") (hdb : (x == ("__debug__" : Str)) = false)
    (he : starEach (ex :: es) X.env = (false, eval ex X.env) :: starEach es X.env) (hpl : (backTo pos (starEach es X.env)).any (·.1) = false) : PE X (.Call (.Name x p) (ex :: es) [] pos) (T C W (calM g m)) :=
  PEmono (pe_callB hc hg hm hv ha hn hdb he hpl) fun s H Q h => post_cal h
theorem sd_calT {g : List D → Sto → Option D} {m : AM} (hc : CallR X (.type ty) (rC C g)) (hg : Gl X x) (hm : X.mg x = none) (hv : bootBuiltins x = some (.type ty)) (ha : PA X (ex :: es) (TA' C W m)) (hn : x ≠ "__name__") (hdb : (x == ("__debug__" : Str)) = false)
    (he : starEach (ex :: es) X.env = (false, eval ex X.env) :: starEach es X.env) (hpl : (backTo pos (starEach es X.env)).any (·.1) = false) : PE X (.Call (.Name x p) (ex :: es) [] pos) (T C W (calM g m)) :=
  PEmono (pe_callTy hc hg hm hv ha hn hdb he hpl) fun s H Q h => post_cal h
/-- a list made for a cell -/
def listC (i : Option Id) (a : EM) : EM := fun e S => (a e S).bind fun x S1 => match itemsD S1 x with
  | some ds => alloc i (.lst ds) S1
  | none => .bad
end
end Pyx
/-! forms of the text; attributes, calls -/
namespace Pyx
open PySem PySem.Spec PyProof.Rows L2
/-! ### forms -/
def noStar : Expr → Bool
  | .Starred _ _ => false
  | _ => true
theorem star_eq {e : Expr} {es : List Expr} {env : Env} (h : noStar e = true) : starEach (e :: es) env = (false, eval e env) :: starEach es env := by
  cases e with
  | Starred a b => cases h
  | _ => rfl
theorem star_any {env : Env} {pos : Pos} : ∀ {es : List Expr}, es.all noStar = true → (backTo pos (starEach es env)).any (·.1) = false
  | [], _ => rfl
  | e :: r, h => by
    rw [List.all_cons] at h
    obtain ⟨h1, h2⟩ := Bool.and_eq_true_iff.mp h
    rw [star_eq h1]
    show (false || (backTo pos (starEach r env)).any (·.1)) = false
    rw [star_any h2]
    rfl
theorem star_all {env : Env} {pos : Pos} : ∀ {es : List Expr}, es.all noStar = true → (backTo pos (starEach es env)).all (fun x => !x.1) = true
  | [], _ => rfl
  | e :: r, h => by
    rw [List.all_cons] at h
    obtain ⟨h1, h2⟩ := Bool.and_eq_true_iff.mp h
    rw [star_eq h1]
    show (true && (backTo pos (starEach r env)).all (fun x => !x.1)) = true
    rw [star_all h2]
    rfl
def noSuper : Expr → Bool
  | .Call _ [] [] _ => false
  | _ => true
theorem base_eq {o : Expr} {m : Str} {env : Env} (h : noSuper o = true) : attributeBase o m env (eval o env) = eval o env := by
  unfold attributeBase
  split
  · cases h
  · rfl
def plainTest : Expr → Bool
  | .UnaryOp .Not _ _ => false
  | .BoolOp _ _ _ => false
  | .IfExp _ _ _ _ => false
  | .Compare _ _ _ _ => false
  | _ => true
theorem test_eq {e : Expr} {env : Env} (h : plainTest e = true) (whole : Sem Value) : isTrue e env whole = (do let v ← whole; standAt e.pos; holding [v] (truthy v)) := by
  cases e <;> first | rfl | cases h | (rename_i op a b; cases op <;> first | rfl | cases h)
def noComp : Expr → Bool
  | .ListComp _ _ _ _ => false
  | .SetComp _ _ _ _ => false
  | .DictComp _ _ _ _ _ => false
  | _ => true
theorem swap_eq {e : Expr} {t : Option Expr} {n : Nat} {env : Env} (h : noComp e = true) : swapsWith e t n env = pure false := by
  cases e <;> first | rfl | cases h
def noSlice : Expr → Bool
  | .Slice _ _ _ _ => false
  | _ => true
theorem ix_eq {e : Expr} (h : noSlice e = true) (o i : Value) : subscripted e false o i = operate [o, i] (getItem o i) := by
  cases e <;> first | rfl | cases h
def noSet : Expr → Bool
  | .Set _ _ _ => false
  | _ => true
theorem fold_eq {e : Expr} {env : Env} {x : Value} (h : noSet e = true) : foldedSetIterable e env x = pure x := by
  cases e <;> first | rfl | cases h
/-- a method's call on one line -/
theorem meth_eq {o : Expr} {m : Str} {apos pos : Pos} {es : List Expr} {env : Env} (hb : noSuper o = true) (he : es.all noStar = true) (hn : es.length < 30) (hl : (apos.endLine == pos.line) = true) :
    eval (.Call (.Attribute o m apos) es [] pos) env = (do
      let ov ← eval o env
      standAt apos.atName
      let (f, first) ← holding [ov] (getMethod ov m (plainOf o env))
      callWith pos f first (backTo pos (starEach es env)) (backToKw pos (keywordEach [] env))) := by
  have hf : methodCallForm (es.length + ([] : List Keyword).length) (backTo pos (starEach es env)) (backToKw pos (keywordEach [] env)) = true := by
    unfold methodCallForm
    rw [star_all he]
    show (true && true && decide (es.length + 0 + 0 < 30)) = true
    rw [decide_eq_true (by omega : es.length + 0 + 0 < 30)]
    rfl
  have e0 : eval (.Call (.Attribute o m apos) es [] pos) env = (do
      let ov ← attributeBase o m env (eval o env)
      standAt apos.atName
      methodCall o m apos pos env ov (es.length + ([] : List Keyword).length) (backTo pos (starEach es env)) (backToKw pos (keywordEach [] env))) := by
    rfl
  rw [e0, base_eq hb]
  congr 1
  funext ov
  congr 1
  funext _
  exact mcall_line hf hl
/-! ### tables -/
abbrev Fn : Type := Nat → List D → Sto → Out D
structure Tb where
  pl : Nat → Nat → Bool
  mt : Nat → Nat → Option Nat
  df : Nat → Nat → Option (List D)
  kw : Nat → List Str → Nat → Option (List D → List D → List D)
/-- a def's promise by its meaning -/
def spM (C : Ctx) (n : Nat) (mu : List D → Sto → Out D) : Sp := fun vs H Q E => vs.length = n ∧ ∃ S l ds, Rel C l S H ∧ RDs C.K l H ds vs ∧ Post C (fun cls d _ H => E cls d H) (QE C Q) [] l H (mu ds S)
structure FnIs (X : Cx) (C : Ctx) (tb : Tb) (G : Fn) (k : Nat) (f : Nat) (np : Nat) (a : Addr) : Prop where
  ok : ∃ fd ps, ps.length = np ∧ FnOk X.prog X.w X.K X.mg X.base (L2.CX X.prog X.w) k a fd ps (spM C np (G f)) ∧ ∀ n dd, tb.df f n = some dd → n + dd.length = np ∧ ∃ ds dvs, Binds X.K fd ps ds ∧ Vals dvs ds ∧ ∀ l H, RDs C.K l H dd dvs
/-! ### attributes -/
structure AOk (C : Ctx) (tb : Tb) : Prop where
  inj : ∀ f g, C.anm f = C.anm g → f = g
  pl : ∀ c f, tb.pl c f = true → Cls C.K (C.cad c) ∧ NoAttr C.K (C.cad c) (C.anm f)
theorem RF.get {C : Ctx} {l : Lay} {H : Hp} {f : Nat} (inj : ∀ f g, C.anm f = C.anm g → f = g) : ∀ {fs : List (Nat × D)} {ws : List (Str × V)}, RF C l H fs ws → RO C.K l H (fs.lookup f) (ws.lookup (C.anm f))
  | _, _, .nil => rfl
  | (g, d) :: r, (n, v) :: t, .cons h hr => by
    have ih := RF.get (f := f) inj hr
    obtain ⟨h1, h2⟩ := h
    have h1' : C.anm g = n := h1
    subst h1'
    by_cases e : f = g
    · subst e
      rw [List.lookup_cons, List.lookup_cons, beq_self_eq_true, beq_self_eq_true]
      exact ⟨v, rfl, h2⟩
    · have e1 : (f == g) = false := beq_eq_false_iff_ne.mpr e
      have e2 : (C.anm f == C.anm g) = false := beq_eq_false_iff_ne.mpr fun q => e (inj _ _ q)
      rw [List.lookup_cons, List.lookup_cons, e1, e2]
      exact ih
def putA (f : Nat) (d : D) : List (Nat × D) → List (Nat × D)
  | [] => [(f, d)]
  | (g, x) :: r => if g = f then (g, d) :: r else (g, x) :: putA f d r
theorem RF.put {C : Ctx} {l : Lay} {H : Hp} {f : Nat} {d : D} {v : V} (inj : ∀ f g, C.anm f = C.anm g → f = g) (hd : RD C.K l H d v) : ∀ {fs : List (Nat × D)} {ws : List (Str × V)}, RF C l H fs ws → RF C l H (putA f d fs) (putF (C.anm f) v ws)
  | _, _, .nil => .cons ⟨rfl, hd⟩ .nil
  | (g, x) :: r, (n, y) :: t, .cons h hr => by
    obtain ⟨h1, h2⟩ := h
    have h1' : C.anm g = n := h1
    subst h1'
    by_cases e : g = f
    · subst e
      show RF C l H (if g = g then _ else _) (if C.anm g = C.anm g then _ else _)
      rw [if_pos rfl, if_pos rfl]
      exact .cons ⟨rfl, hd⟩ hr
    · show RF C l H (if g = f then _ else _) (if C.anm g = C.anm f then _ else _)
      rw [if_neg e, if_neg fun q => e (inj _ _ q)]
      exact .cons ⟨rfl, h2⟩ (RF.put inj hd hr)
theorem RF.len {C : Ctx} {l : Lay} {H : Hp} : ∀ {fs : List (Nat × D)} {ws : List (Str × V)}, RF C l H fs ws → ws.length = fs.length
  | _, _, .nil => rfl
  | _, _, .cons h hr => by
    simp [RF.len hr]
def getA (tb : Tb) (f : Nat) (x : D) (S : Sto) : Option D := match x with
  | .cell i => match S.at_ i with
    | some (.ins c fs) => if tb.pl c f = true then fs.lookup f else none
    | _ => none
  | _ => none
def attM (tb : Tb) (f : Nat) (a : EM) : EM := fun e S => (a e S).bind fun x S1 => ofO (getA tb f x S1) S1
def clsOf (x : D) (S : Sto) : Option Nat := match x with
  | .cell i => match S.at_ i with
    | some (.ins c _) => some c
    | _ => none
  | _ => none
theorem getA_ok {C : Ctx} {tb : Tb} {S : Sto} {l : Lay} {H : Hp} {f : Nat} {x d : D} {v : V} (ok : AOk C tb) (hr : Rel C l S H) (hx : RD C.K l H x v) (e : getA tb f x S = some d) :
    ∃ a c dx ws w, v = .ref a ∧ H a = some (.ins (C.cad c) dx ws) ∧ Cls C.K (C.cad c) ∧ NoAttr C.K (C.cad c) (C.anm f) ∧ ws.lookup (C.anm f) = some w ∧ RD C.K l H d w ∧ clsOf x S = some c := by
  unfold getA at e
  split at e
  · rename_i i
    obtain ⟨a, rfl, hi⟩ := hx
    split at e
    · rename_i c fs hS
      split at e
      · rename_i hpl
        obtain ⟨b, hb, dx, ws, hw, hf⟩ := hr.cells i _ hS
        rw [hi] at hb
        cases hb
        have h := RF.get (f := f) ok.inj hf
        rw [e] at h
        obtain ⟨w, hw2, hd⟩ := h
        obtain ⟨c1, c2⟩ := ok.pl c f hpl
        exact ⟨a, c, dx, ws, w, rfl, hw, c1, c2, hw2, hd, by simp only [clsOf, hS]⟩
      · cases e
    · cases e
  · cases e
section
variable {X : Cx} {C : Ctx} {W : WX} {tb : Tb} (hK : C.K = X.K) (ok : AOk C tb)
include hK ok
theorem sd_att {a : Expr} {f : Nat} {x : Str} {pos : Pos} {ma : EM} (hx : C.anm f = x) (ha : PE X a (T C W ma)) (hb : noSuper a = true) : PE X (.Attribute a x pos) (T C W (attM tb f ma)) := by
  subst hx
  refine PEmono (pe_fld ha (base_eq hb)) fun s H Q h => ?_
  obtain ⟨e, S, l, he, hr, hp⟩ := h
  refine Tmono (T_run he hr hp) fun v H1 ⟨l1, d1, S1, he1, hr1, x1, hd1, hp1⟩ => ?_
  obtain ⟨d, hg, hp1⟩ := post_ofO hp1
  obtain ⟨a, c, dx, ws, w, rfl, h1, h2, h3, h4, h5, _⟩ := getA_ok ok hr1 hd1 hg
  rw [hK] at h2 h3
  exact ⟨a, _, dx, ws, w, rfl, h1, h2, h3, h4, VPost.now (VPost.of hp1) hr1 h5⟩
end
/-! ### calls -/
def callM (np : Nat) (dd : List D) (g : List D → Sto → Out D) (t : AM) : EM := fun e S => (t e S).bind fun ds S1 => if (ds ++ dd).length = np then g (ds ++ dd) S1 else .bad
def methM (tb : Tb) (np : Nat → Nat) (G : Fn) (m n : Nat) (a : EM) (t : AM) : EM := fun e S => (a e S).bind fun x S1 => match x with
  | .cell i => match S1.at_ i with
    | some (.ins c fs) => match tb.mt c m, fs.lookup m with
      | some f, none => match tb.df f n with
        | some dd => (t e S1).bind fun ds S2 => if (x :: (ds ++ dd)).length = np f then G f (x :: (ds ++ dd)) S2 else .bad
        | none => .bad
      | _, _ => .bad
    | _ => .bad
  | _ => .bad
section
variable {X : Cx} {C : Ctx} {W : WX} {tb : Tb} {G : Fn} {k : Nat} (hK : C.K = X.K) (tk : Takes X W) (hr : Room k X.A)
theorem post_wish {mu : Out D} {s : L2.St} {l : Lay} {H : Hp} {Q : VK} (h : Post C W (QE C Q) s l H mu) : Post C (fun cls d _ H => WE W s cls d H) (QE C Q) [] l H mu := by
  cases mu with
  | ok a S => exact h
  | exc x S => exact h
  | bad => exact h
include tk hr
theorem sd_call {f np : Nat} {a : Addr} {x : Str} {p pos : Pos} {ex : Expr} {es : List Expr} {dd : List D} {m : AM} (F : FnIs X C tb G k f np a) (hg : Gl X x) (hm : X.mg x = some (.ref a)) (hk : PySem.W.keepIn X.K (.ref a) = true)
    (hd : tb.df f (ex :: es).length = some dd) (ha : PA X (ex :: es) (TA' C W m)) (hdb : (x == ("__debug__" : Str)) = false) (hs : (ex :: es).all noStar = true) : PE X (.Call (.Name x p) (ex :: es) [] pos) (T C W (callM np dd (G f) m)) := by
  obtain ⟨fd, ps, hl, F0, hb⟩ := F.ok
  obtain ⟨hn, ds, dvs, b1, b2, b3⟩ := hb _ _ hd
  have h1 : noStar ex = true := by
    rw [List.all_cons] at hs
    exact (Bool.and_eq_true_iff.mp hs).1
  have h2 : es.all noStar = true := by
    rw [List.all_cons] at hs
    exact (Bool.and_eq_true_iff.mp hs).2
  refine PEmono (pe_callSD F0 hr hg hm hk b1 b2 (fun s => passAt tk s) ha hdb (star_eq h1) (star_any h2)) fun s H Q h => ?_
  obtain ⟨e, S, l, he, hr, hp⟩ := h
  refine TAmono (TA_run he hr hp) fun vs H1 ⟨l1, es1, S1, he1, hr1, x1, hd1, hp1⟩ => ?_
  split at hp1
  · rename_i hl2
    have hap := RDs.append hd1 (b3 l1 H1)
    exact ⟨by rw [hap.length, hl2], S1, l1, es1 ++ dd, hr1, hap, post_wish hp1⟩
  · exact hp1.elim
theorem sd_call0 {f np : Nat} {a : Addr} {x : Str} {p pos : Pos} {dd : List D} (F : FnIs X C tb G k f np a) (hg : Gl X x) (hm : X.mg x = some (.ref a)) (hk : PySem.W.keepIn X.K (.ref a) = true)
    (hd : tb.df f 0 = some dd) (hdb : (x == ("__debug__" : Str)) = false) (hW : ∃ E : XK, W = fun cls d _ H => E cls d H) : PE X (.Call (.Name x p) [] [] pos) (T C W (callM np dd (G f) nilM)) := by
  obtain ⟨fd, ps, hl, F0, hb⟩ := F.ok
  obtain ⟨hn, ds, dvs, b1, b2, b3⟩ := hb _ _ hd
  obtain ⟨E, rfl⟩ := hW
  refine PEmono (pe_call0 F0 hr hg hm hk b1 b2 (passes_call tk fun _ _ _ _ h => h) hdb) fun s H Q h => ?_
  obtain ⟨e, S, l, he, hr, hp⟩ := h
  have hp' : Post C _ (QE C Q) s l H (if ([] ++ dd).length = np then G f ([] ++ dd) S else .bad) := hp
  split at hp'
  · rename_i hl2
    have hap := b3 l H
    refine ⟨?_, S, l, dd, hr, hap, post_wish hp'⟩
    show ([] ++ dvs).length = np
    rw [List.nil_append, hap.length]
    exact hl2
  · exact hp'.elim
end
section
variable {X : Cx} {C : Ctx} {W : WX} {tb : Tb} {G : Fn} {k : Nat} {np : Nat → Nat}
/-- what is known of the methods -/
structure MOk (X : Cx) (C : Ctx) (tb : Tb) (np : Nat → Nat) (G : Fn) (k : Nat) : Prop where
  mt : ∀ c m f, tb.mt c m = some f → Cls C.K (C.cad c) ∧ ∃ a, Meth C.K (C.cad c) (C.anm m) a ∧ FnIs X C tb G k f (np f) a
theorem sd_meth {o : Expr} {m : Nat} {x : Str} {apos pos : Pos} {es : List Expr} {mo : EM} {ma : AM} (hK : C.K = X.K) (ok : AOk C tb) (M : MOk X C tb np G k) (tk : Takes X W) (hr : Room k X.A) (hx : C.anm m = x) (ho : PE X o (T C W mo)) (ha : PA X es (TA' C W ma))
    (hb : noSuper o = true) (hs : es.all noStar = true) (hn : es.length < 30) (hl : (apos.endLine == pos.line) = true) (h00 : es = [] → ma = nilM) : PE X (.Call (.Attribute o x apos) es [] pos) (T C W (methM tb np G m (es.length + 1) mo ma)) := by
  subst hx
  refine ⟨fun pins s0 s H Q I h => ?_⟩
  obtain ⟨e, S, l, he, hrl, hp⟩ := h
  have h0 := ho.run pins s0 s H _ I (T_run he hrl hp)
  refine PySem.W.methodCall_KW (pl := plainOf o X.env) (thn h0 ?_) (meth_eq hb hs hn hl)
  rintro u s1 ⟨v, H1, I1, rv, l1, d1, S1, he1, hr1, x1, hd1, hp1⟩
  cases d1 with
  | cell i =>
    have hp2 : Post C W (QE C Q) s l1 H1 (match S1.at_ i with
      | some (.ins c fs) => match tb.mt c m, fs.lookup m with
        | some f, none => match tb.df f (es.length + 1) with
          | some dd => (ma e S1).bind fun ds S2 => if (D.cell i :: (ds ++ dd)).length = np f then G f (D.cell i :: (ds ++ dd)) S2 else .bad
          | none => .bad
        | _, _ => .bad
      | _ => .bad) := hp1
    split at hp2
    · rename_i c fs hS
      split at hp2
      · rename_i f hmt hlk
        split at hp2
        · rename_i dd hdd
          obtain ⟨a, rfl, hi⟩ := hd1
          cases rv
          obtain ⟨b, hbb, dx, ws, hw, hf⟩ := hr1.cells i _ hS
          rw [hi] at hbb
          cases hbb
          obtain ⟨c1, fa, hM, F⟩ := M.mt c m f hmt
          have hnone := RF.get (f := m) ok.inj hf
          rw [hlk] at hnone
          have hnone' : ws.lookup (C.anm m) = none := hnone
          rw [hK] at c1 hM
          refine getmeth_ok I1 hw c1 hM hnone' ?_
          obtain ⟨fd, ps, hpl, F0, hbd⟩ := F.ok
          obtain ⟨hnn, ds, dvs, b1, b2, b3⟩ := hbd _ _ hdd
          have fin : ∀ (us : List Value) (s2 : Shared), AP X pins s (fun vs H2 => ∃ l2 ds S2, EnvR C.K l2 H2 e s ∧ Rel C l2 S2 H2 ∧ Ext l1 H1 l2 H2 ∧ RDs C.K l2 H2 ds vs ∧ Post C W (QE C Q) s l2 H2 (if (D.cell i :: (ds ++ dd)).length = np f then G f (D.cell i :: (ds ++ dd)) S2 else .bad)) us s2 →
              X.K.In s2.heap ∧ wpAny (model X.prog X.w) X.A (call (.ref fa) ([.ref a] ++ us)) (EP X pins s Q) X.xe s2 := by
            rintro us s2 ⟨vs, H2, I2, rvs, l2, ds2, S2, he2, hr2, x2, hd2, hp3⟩
            refine ⟨I2.kIn, ?_⟩
            split at hp3
            · rename_i hlen
              have hcell : RD C.K l2 H2 (.cell i) (.ref a) := ⟨a, rfl, x2.id i a hi⟩
              have hap : RDs C.K l2 H2 (.cell i :: (ds2 ++ dd)) (.ref a :: (vs ++ dvs)) := ⟨_, _, rfl, hcell, RDs.append hd2 (b3 l2 H2)⟩
              refine run_fnSD (us := .ref a :: us) (vs := .ref a :: vs) (E := fun s => WE W s) F0 hr b1 b2 (passAt tk s) I2 (.cons rfl rvs) ⟨?_, S2, l2, _, hr2, hap, post_wish hp3⟩
              have := hap.length
              rw [hlen] at this
              exact this
            · exact hp3.elim
          cases es with
          | nil =>
            cases h00 rfl
            have h4 := fin [] s1 ⟨[], H1, I1, .nil, l1, [], S1, he1, hr1, Ext.refl _ _, rfl, hp2⟩
            exact PySem.W.callWith_K0 I1.kIn hM.kp h4.2
          | cons ex er =>
            have q1 : noStar ex = true := by
              rw [List.all_cons] at hs
              exact (Bool.and_eq_true_iff.mp hs).1
            have q2 : er.all noStar = true := by
              rw [List.all_cons] at hs
              exact (Bool.and_eq_true_iff.mp hs).2
            exact PySem.W.callWith_K (first := [.ref a]) (h₀ := X.base) I.ok.mod.kin hM.kp (thn (ha.run pos pins s1 s H1 _ I1 (TA_run he1 hr1 hp2)) fin) (star_eq q1) (star_any q2)
        · exact hp2.elim
      · exact hp2.elim
    · exact hp2.elim
  | _ => exact hp1.elim
end
end Pyx
/-! instances made; methods of built-in types -/
namespace Pyx
open PySem PySem.Spec PyProof.Rows L2
/-- a new instance, then its __init__ -/
def mkM (np : Nat) (c : Nat) (dd : List D) (g : List D → Sto → Out D) (t : AM) : EM := fun e S => (t e S).bind fun ds S1 => match S1.at_ (.obj c S1.nx) with
  | some _ => .bad
  | none => if (D.cell (.obj c S1.nx) :: (ds ++ dd)).length = np then (g (.cell (.obj c S1.nx) :: (ds ++ dd)) (S1.bump.set (.obj c S1.nx) (.ins c []))).bind fun r S2 => match r with
      | .non => .ok (.cell (.obj c S1.nx)) S2
      | _ => .bad
    else .bad
section
variable {X : Cx} {C : Ctx} {tb : Tb} {G : Fn} {k : Nat} {E : XK}
theorem passW {A : Type} {W W' : WX} {RA : Lay → Hp → A → Prop} {s s' : L2.St} {l : Lay} {H : Hp} {o : Out A} (h : Post C W RA s l H o) (k : ∀ cls d H, W cls d s H → W' cls d s' H) : Post C W' RA s' l H o := by
  cases o with
  | ok a S => exact h
  | exc x S => exact fun H' l' cls d x r q => k _ _ _ (h H' l' cls d x r q)
  | bad => exact h
/-- what is to be shown of a new instance's __init__ -/
theorem make_ok {c np : Nat} {dd ds : List D} {S1 : Sto} {l1 : Lay} {H1 : Hp} {vs : List V} {s : L2.St} {Q : VK} {g : List D → Sto → Out D} (hr1 : Rel C l1 S1 H1) (hd1 : RDs C.K l1 H1 (ds ++ dd) vs)
    (hp1 : Post C (fun cls d _ H => E cls d H) (QE C Q) s l1 H1 (match S1.at_ (.obj c S1.nx) with
      | some _ => .bad
      | none => if (D.cell (.obj c S1.nx) :: (ds ++ dd)).length = np then (g (.cell (.obj c S1.nx) :: (ds ++ dd)) (S1.bump.set (.obj c S1.nx) (.ins c []))).bind fun r S2 => match r with
          | .non => .ok (.cell (.obj c S1.nx)) S2
          | _ => .bad
        else .bad)) (x dx : Addr) (hx : H1 x = none) (hdx : H1 dx = none) (ne : dx ≠ x) :
    spM C np g (.ref x :: vs) (upd (upd H1 dx (.own x)) x (.ins (C.cad c) dx [])) (fun v H2 => v = .non ∧ Q (.ref x) H2) E := by
  split at hp1
  · exact hp1.elim
  · rename_i hS
    split at hp1
    · rename_i hlen
      have x1 := ext_new (l := l1) (o := .own x) hdx
      have r1 := rel_new (o := .own x) hr1 hdx
      have hx' : (upd H1 dx (.own x)) x = none := by
        rw [upd_ne (Ne.symm ne)]
        exact hx
      have x2 := ext_add (i := .obj c S1.nx) (o := .ins (C.cad c) dx []) r1 hS hx'
      have r2 := rel_add (i := .obj c S1.nx) (o := .ins (C.cad c) dx []) (c := .ins c []) r1 hS hx' ⟨dx, [], upd_same, .nil⟩
      have x3 := x1.thru x2 r1
      have hcell : RD C.K (l1.add (.obj c S1.nx) x) (upd (upd H1 dx (.own x)) x (.ins (C.cad c) dx [])) (.cell (.obj c S1.nx)) (.ref x) := ⟨x, rfl, Lay.add_same⟩
      have hds : RDs C.K (l1.add (.obj c S1.nx) x) (upd (upd H1 dx (.own x)) x (.ins (C.cad c) dx [])) (.cell (.obj c S1.nx) :: (ds ++ dd)) (.ref x :: vs) := ⟨_, _, rfl, hcell, RDs.mono x3 _ _ hd1⟩
      refine ⟨by rw [hds.length]; exact hlen, S1.bump.set (.obj c S1.nx) (.ins c []), _, _, ⟨r2.cells, r2.dom, r2.inj, r2.nos⟩, hds, ?_⟩
      have hp2 := Post.mono hp1 x3 (S' := S1.bump.set (.obj c S1.nx) (.ins c [])) ⟨r2.cells, r2.dom, r2.inj, r2.nos⟩
      refine passW (s := s) (Post.bind hp2 fun H' l' r S2 xx rr pp v hv => ?_) fun _ _ _ h => h
      cases r with
      | non =>
        cases hv
        exact ⟨rfl, Post.pure rr pp _ ⟨x, rfl, xx.id _ _ Lay.add_same⟩⟩
      | _ => exact pp.elim
    · exact hp1.elim
theorem sd_mk {c f np : Nat} {a Ca : Addr} {x : Str} {p pos : Pos} {ex : Expr} {es : List Expr} {dd : List D} {m : AM} (hK : C.K = X.K) (tk : Takes X (fun cls d _ H => E cls d H)) (hr : Room (k + 1) X.A) (hC : C.cad c = Ca) (M : Mk X.K Ca a) (F : FnIs X C tb G k f np a)
    (hg : Gl X x) (hm : X.mg x = some (.ref Ca)) (hd : tb.df f ((ex :: es).length + 1) = some dd) (ha : PA X (ex :: es) (TA' C (fun cls d _ H => E cls d H) m)) (hdb : (x == ("__debug__" : Str)) = false) (hs : (ex :: es).all noStar = true) :
    PE X (.Call (.Name x p) (ex :: es) [] pos) (T C (fun cls d _ H => E cls d H) (mkM np c dd (G f) m)) := by
  subst hC
  obtain ⟨fd, ps, hl, F0, hb⟩ := F.ok
  obtain ⟨hn, ds, dvs, b1, b2, b3⟩ := hb _ _ hd
  have h1 : noStar ex = true := by
    rw [List.all_cons] at hs
    exact (Bool.and_eq_true_iff.mp hs).1
  have h2 : es.all noStar = true := by
    rw [List.all_cons] at hs
    exact (Bool.and_eq_true_iff.mp hs).2
  refine PEmono (pe_make (E := E) M F0 hr hg hm b1 b2 (passes_call tk fun _ _ _ _ h => h) ha hdb (star_eq h1) (star_any h2)) fun s H Q h => ?_
  obtain ⟨e, S, l, he, hrl, hp⟩ := h
  refine TAmono (TA_run he hrl hp) fun vs H1 ⟨l1, es1, S1, he1, hr1, x1, hd1, hp1⟩ => ?_
  exact make_ok hr1 (RDs.append hd1 (b3 l1 H1)) hp1
/-- C(e, .., k = v, ..): gD puts positional values and keywords' values in the parameters' order -/
def mkKM (np c : Nat) (n m : Nat) (gD : List D → List D → List D) (g : List D → Sto → Out D) (t tk : AM) : EM := fun e S => (t e S).bind fun ds S1 => (tk e S1).bind fun es S2 => if ds.length = n ∧ es.length = m then match S2.at_ (.obj c S2.nx) with
  | some _ => .bad
  | none => if (D.cell (.obj c S2.nx) :: (gD ds es ++ [])).length = np then (g (.cell (.obj c S2.nx) :: (gD ds es ++ [])) (S2.bump.set (.obj c S2.nx) (.ins c []))).bind fun r S2' => match r with
      | .non => .ok (.cell (.obj c S2.nx)) S2'
      | _ => .bad
    else .bad else .bad
theorem PKmono {kws : List Keyword} {t t' : TA} (h : PK X kws t) (k : ∀ s H Q, t' s H Q → t s H Q) : PK X kws t' := ⟨fun pos pins s σ H Q I q => h.run pos pins s σ H Q I (k σ H Q q)⟩
theorem sdk_nil {W : WX} : PK X [] (TA' C W nilM) := by
  refine PKmono pk_nil fun s H Q h => ?_
  obtain ⟨e, S, l, he, hr, hp⟩ := h
  exact Post.pure hr hp _ rfl
theorem sdk_cons {W : WX} {a : Expr} {nm : Option Str} {kpos : Pos} {kws : List Keyword} {ma : EM} {mr : AM} (ha : PE X a (T C W ma)) (hr : PK X kws (TA' C W mr)) : PK X (⟨nm, a, kpos⟩ :: kws) (TA' C W (consM ma mr)) := by
  refine PKmono (pk_cons ha hr) fun s H Q h => ?_
  obtain ⟨e, S, l, he, hr, hp⟩ := h
  refine Tmono (T_run he hr hp) fun v H1 ⟨l1, d1, S1, he1, hr1, x1, hd1, hp1⟩ => TAmono (TA_run he1 hr1 hp1) fun vs H2 ⟨l2, d2, S2, he2, hr2, x2, hd2, hp2⟩ => ?_
  exact Post.pure hr2 hp2 _ ⟨v, vs, rfl, RD.mono x2 _ _ hd1, hd2⟩
/-- how a call by keywords of a def binds, on all three levels; self ahead -/
structure KwIs (X : Cx) (C : Ctx) (fd : FuncData) (ps ks : List Str) (n : Nat) (gD : List D → List D → List D) : Prop where
  ex : ∃ (g : List Value → List Value → List Value) (gV : List V → List V → List V), KBn X.K fd ps (n + 1) ks g gV ∧ ∀ (l : Lay) (H : Hp) (v : V) (vs zs : List V) (ds es : List D), RDs C.K l H ds vs → RDs C.K l H es zs → ds.length = n → es.length = ks.length → ∃ r, gV (v :: vs) zs = v :: r ∧ RDs C.K l H (gD ds es) r
theorem sd_mkK {c f np n : Nat} {a Ca : Addr} {x : Str} {p pos : Pos} {ex : Expr} {es : List Expr} {kws : List Keyword} {ks : List Str} {gD : List D → List D → List D} {m mk : AM} (hK : C.K = X.K) (tk : Takes X (fun cls d _ H => E cls d H)) (hr : Room (k + 1) X.A) (hC : C.cad c = Ca) (M : Mk X.K Ca a)
    (F : ∃ fd ps, ps.length = np ∧ FnOk X.prog X.w X.K X.mg X.base (L2.CX X.prog X.w) k a fd ps (spM C np (G f)) ∧ KwIs X C fd ps ks n gD)
    (hg : Gl X x) (hm : X.mg x = some (.ref Ca)) (ha : PA X (ex :: es) (TA' C (fun cls d _ H => E cls d H) m)) (hkw : PK X kws (TA' C (fun cls d _ H => E cls d H) mk)) (hall : (backToKw pos (keywordEach kws X.env)).all (·.1.isSome) = true) (hks : (backToKw pos (keywordEach kws X.env)).filterMap (·.1) = ks)
    (hdb : (x == ("__debug__" : Str)) = false) (hs : (ex :: es).all noStar = true) (hpl : ((backTo pos (starEach (ex :: es) X.env)).any (·.1) || (backToKw pos (keywordEach kws X.env)).any (·.1.isNone)) = false) :
    PE X (.Call (.Name x p) (ex :: es) kws pos) (T C (fun cls d _ H => E cls d H) (mkKM np c n ks.length gD (G f) m mk)) := by
  subst hC
  obtain ⟨fd, ps, hl, F0, KW⟩ := F
  obtain ⟨g, gV, hkb, hgv⟩ := KW.ex
  have h1 : noStar ex = true := by
    rw [List.all_cons] at hs
    exact (Bool.and_eq_true_iff.mp hs).1
  refine PEmono (pe_makeN (E := E) M F0 hr hg hm hkb (passes_call tk fun _ _ _ _ h => h) ha hkw hall hks hdb (star_eq h1) hpl) fun s H Q h => ?_
  obtain ⟨e, S, l, he, hrl, hp⟩ := h
  refine TAmono (TA_run he hrl hp) fun vs H1 ⟨l1, es1, S1, he1, hr1, x1, hd1, hp1⟩ => TAmono (TA_run he1 hr1 hp1) fun zs H2 ⟨l2, es2, S2, he2, hr2, x2, hd2, hp2⟩ => ?_
  split at hp2
  · rename_i hlen
    have hd1' := RDs.mono x2 _ _ hd1
    refine ⟨by rw [hd1.length]; exact hlen.1, by rw [hd2.length]; exact hlen.2, fun x dx hx hdx ne => ?_⟩
    obtain ⟨r, er, hrr⟩ := hgv l2 H2 (.ref x) vs zs es1 es2 hd1' hd2 hlen.1 hlen.2
    rw [er]
    exact make_ok hr2 (by rw [List.append_nil]; exact hrr) hp2 x dx hx hdx ne
  · exact hp2.elim
end
/-! ### methods of built-in types -/
def rM (C : Ctx) (g : D → List D → Sto → Option (D × Sto)) : V → List V → Hp → VK → Prop := fun x vs H Q => ∃ S l a ds d S', Rel C l S H ∧ RD C.K l H a x ∧ RDs C.K l H ds vs ∧ g a ds S = some (d, S') ∧ ∀ H' l', Ext l H l' H' → Rel C l' S' H' → ∀ v, RD C.K l' H' d v → Q v H'
/-- whether a value is of the built-in type, for its methods -/
def tyIs (t : Nat) (x : D) (S : Sto) : Bool := match t, x with
  | 0, .str _ => true
  | 1, .lst _ => true
  | 1, .cell i => match S.at_ i with
    | some (.lst _) => true
    | _ => false
  | 2, .cell i => match S.at_ i with
    | some (.dK _) => true
    | some (.dT _) => true
    | _ => false
  | _, _ => false
def tyS : Nat → String
  | 0 => "str"
  | 1 => "list"
  | _ => "dict"
theorem tyIs_ok {C : Ctx} {S : Sto} {l : Lay} {H : Hp} {t : Nat} {x : D} {v : V} (hr : Rel C l S H) (hx : RD C.K l H x v) (h : tyIs t x S = true) : tyV C.K (tyS t) v H := by
  unfold tyIs at h
  split at h
  · obtain ⟨rfl, _⟩ := hx
    rfl
  · obtain ⟨a, vs, rfl, q, _⟩ := hx
    exact .inl ⟨rfl, vs, q.sq⟩
  · obtain ⟨a, rfl, hi⟩ := hx
    split at h
    · rename_i ds hS
      obtain ⟨b, hb, vs, hv, _⟩ := hr.cells _ _ hS
      rw [hi] at hb
      cases hb
      exact .inl ⟨rfl, vs, .inl (.inl hv)⟩
    · cases h
  · obtain ⟨a, rfl, hi⟩ := hx
    split at h
    · rename_i ds hS
      obtain ⟨b, hb, vs, hv, _⟩ := hr.cells _ _ hS
      rw [hi] at hb
      cases hb
      exact .inr (.inr (.inl ⟨rfl, .inl ⟨vs, hv⟩⟩))
    · rename_i ds hS
      obtain ⟨b, hb, vs, hv, _⟩ := hr.cells _ _ hS
      rw [hi] at hb
      cases hb
      exact .inr (.inr (.inl ⟨rfl, .inr ⟨vs, hv⟩⟩))
    · cases h
  · cases h
def bmM (t : Nat) (g : D → List D → Sto → Option (D × Sto)) (a : EM) (ta : AM) : EM := fun e S => (a e S).bind fun x S1 => if tyIs t x S1 = true then (ta e S1).bind fun ds S2 => match g x ds S2 with
    | some (d, S') => .ok d S'
    | none => .bad
  else .bad
section
variable {X : Cx} {C : Ctx} {W : WX} (hK : C.K = X.K)
include hK
theorem sd_bm {o ex : Expr} {es : List Expr} {name : Str} {id : String} {apos pos : Pos} {t : Nat} {g : D → List D → Sto → Option (D × Sto)} {mo : EM} {ma : AM} (pa : PlainAttrs (tyS t)) (slot : Slot (tyS t) name id) (hty : typeOf (.builtin id) = pure (.type "method_descriptor"))
    (hm : MtR X id (rM C g)) (ho : PE X o (T C W mo)) (ha : PA X (ex :: es) (TA' C W ma)) (hb : noSuper o = true) (hs : (ex :: es).all noStar = true) (hn : (ex :: es).length < 29) (hl : (apos.endLine == pos.line) = true) :
    PE X (.Call (.Attribute o name apos) (ex :: es) [] pos) (T C W (bmM t g mo ma)) := by
  have h1 : noStar ex = true := by
    rw [List.all_cons] at hs
    exact (Bool.and_eq_true_iff.mp hs).1
  have h2 : es.all noStar = true := by
    rw [List.all_cons] at hs
    exact (Bool.and_eq_true_iff.mp hs).2
  refine PEmono (pe_bm pa slot hty hm ho ha (base_eq hb) ?_ hl (star_eq h1) (star_any h2)) fun s H Q h => ?_
  · rw [star_all hs]
    show (true && true && decide ((ex :: es).length + 0 + 0 < 30)) = true
    rw [decide_eq_true (by omega : (ex :: es).length + 0 + 0 < 30)]
    rfl
  · obtain ⟨e, S, l, he, hr, hp⟩ := h
    refine Tmono (T_run he hr hp) fun v H1 ⟨l1, d1, S1, he1, hr1, x1, hd1, hp1⟩ => ?_
    split at hp1
    · rename_i hty2
      refine ⟨hK ▸ tyIs_ok hr1 hd1 hty2, TAmono (TA_run he1 hr1 hp1) fun vs H2 ⟨l2, ds, S2, he2, hr2, x2, hd2, hp2⟩ => ?_⟩
      split at hp2
      · rename_i d S' hg
        exact ⟨S2, l2, d1, ds, d, S', hr2, RD.mono x2 _ _ hd1, hd2, hg, fun H' l' x r v hv => hp2 H' l' x r v hv⟩
      · exact hp2.elim
    · exact hp1.elim
theorem sd_bm0 {o : Expr} {name : Str} {id : String} {apos pos : Pos} {t : Nat} {g : D → List D → Sto → Option (D × Sto)} {mo : EM} (pa : PlainAttrs (tyS t)) (slot : Slot (tyS t) name id) (hty : typeOf (.builtin id) = pure (.type "method_descriptor"))
    (hm : MtR X id (rM C g)) (ho : PE X o (T C W mo)) (hb : noSuper o = true) (hl : (apos.endLine == pos.line) = true) :
    PE X (.Call (.Attribute o name apos) [] [] pos) (T C W (bmM t g mo nilM)) := by
  refine PEmono (pe_bm0 pa slot hty hm ho (base_eq hb) hl) fun s H Q h => ?_
  obtain ⟨e, S, l, he, hr, hp⟩ := h
  refine Tmono (T_run he hr hp) fun v H1 ⟨l1, d1, S1, he1, hr1, x1, hd1, hp1⟩ => ?_
  split at hp1
  · rename_i hty2
    refine ⟨hK ▸ tyIs_ok hr1 hd1 hty2, ?_⟩
    have hp2 : Post C W (QE C Q) s l1 H1 (match g d1 [] S1 with
      | some (d, S') => .ok d S'
      | none => .bad) := hp1
    split at hp2
    · rename_i d S' hg
      exact ⟨S1, l1, d1, [], d, S', hr1, hd1, rfl, hg, fun H' l' x r v hv => hp2 H' l' x r v hv⟩
    · exact hp2.elim
  · exact hp1.elim
end
/-! the lists' and dicts' own -/
def appG : D → List D → Sto → Option (D × Sto)
  | .cell i, [d], S => match S.at_ i with
    | some (.lst ds) => if ds.length < 1000000 then some (.non, S.set i (.lst (ds ++ [d]))) else none
    | _ => none
  | _, _, _ => none
def popG : D → List D → Sto → Option (D × Sto)
  | .cell i, [.int j], S => match S.at_ i with
    | some (.lst ds) => if ds.length < 1000000 then match ixN ds.length j with
        | some k => (ds[k]?).map fun d => (d, S.set i (.lst (ds.eraseIdx k)))
        | none => none
      else none
    | _ => none
  | _, _, _ => none
def insG : D → List D → Sto → Option (D × Sto)
  | .cell i, [.int j, d], S => match S.at_ i with
    | some (.lst ds) => if ds.length < 1000000 ∧ 0 ≤ j ∧ j < 1000000 then some (.non, S.set i (.lst (ds.take j.toNat ++ [d] ++ ds.drop j.toNat))) else none
    | _ => none
  | _, _, _ => none
def extG : D → List D → Sto → Option (D × Sto)
  | .cell i, [.lst es], S => match S.at_ i with
    | some (.lst ds) => if ds.length + es.length < 1000000 then some (.non, S.set i (.lst (ds ++ es))) else none
    | _ => none
  | _, _, _ => none
/-- pop of a dict: the key there, or the value handed in besides -/
def dpopG : D → List D → Sto → Option (D × Sto)
  | .cell i, [k, x], S => match S.at_ i with
    | some (.dT kvs) => (keyT k).map fun k => match valD kvs k with
      | some d => (d, S.set i (.dT (dropD kvs k)))
      | none => (x, S)
    | _ => none
  | _, _, _ => none
theorem line_small {n : Nat} (h : n < 1000000) : n < sizeLine := Nat.lt_of_lt_of_le h (by decide)
section
variable {X : Cx} {C : Ctx}
theorem mg_app : MtR X "list.append" (rM C appG) := by
  intro pins s σ H x xs v us Q I rx rs h
  obtain ⟨S, l, a, ds, d, S', hr, ha, hd, hg, hp⟩ := h
  unfold appG at hg
  split at hg
  · rename_i i d0
    obtain ⟨w, rfl, hw⟩ := hd.one
    split at hg
    · rename_i es hS
      split at hg
      · rename_i hl
        cases hg
        obtain ⟨p, rfl, hi⟩ := ha
        obtain ⟨q, hq, ws, hv, hs⟩ := hr.cells i _ hS
        rw [hi] at hq
        cases hq
        have x1 := ext_set (o := .lst (ws ++ [w])) hr hi
        exact mt_append pins s σ H _ _ v us Q I rx rs ⟨p, ws, w, rfl, rfl, hv, by rw [hs.length]; exact line_small hl, hp _ l x1 (rel_set hr hi ⟨_, upd_same, RDs.mono x1 _ _ (RDs.append hs ⟨w, [], rfl, hw, rfl⟩)⟩) _ rfl⟩
      · cases hg
    · cases hg
  · cases hg
theorem mg_pop : MtR X "list.pop" (rM C popG) := by
  intro pins s σ H x xs v us Q I rx rs h
  obtain ⟨S, l, a, ds, d, S', hr, ha, hd, hg, hp⟩ := h
  unfold popG at hg
  split at hg
  · rename_i i j
    obtain ⟨w, rfl, hw⟩ := hd.one
    cases hw
    split at hg
    · rename_i es hS
      split at hg
      · rename_i hl
        split at hg
        · rename_i k hk
          obtain ⟨d', hd', e⟩ := Option.map_eq_some_iff.mp hg
          cases e
          obtain ⟨p, rfl, hi⟩ := ha
          obtain ⟨q, hq, ws, hv, hs⟩ := hr.cells i _ hS
          rw [hi] at hq
          cases hq
          obtain ⟨w, hw, hwd⟩ := hs.get hd'
          rw [← hs.length] at hk
          obtain ⟨s1, s2, s3, s4⟩ := ixN_seq hk
          have hlen := hs.length
          have x1 := ext_set (o := .lst (ws.eraseIdx k)) hr hi
          exact mt_popAt pins s σ H _ _ v us Q I rx rs ⟨p, ws, j, k, w, rfl, rfl, hv, by omega, by omega, s1, hw, hp _ l x1 (rel_set hr hi ⟨_, upd_same, RDs.mono x1 _ _ (RDs.erase k hs)⟩) _ (RD.mono x1 _ _ hwd)⟩
        · cases hg
      · cases hg
    · cases hg
  · cases hg
theorem mg_ins : MtR X "list.insert" (rM C insG) := by
  intro pins s σ H x xs v us Q I rx rs h
  obtain ⟨S, l, a, ds, d, S', hr, ha, hd, hg, hp⟩ := h
  unfold insG at hg
  split at hg
  · rename_i i j d0
    obtain ⟨w1, w2, rfl, hw1, hw⟩ := hd.two
    cases hw1
    split at hg
    · rename_i es hS
      split at hg
      · rename_i hl
        cases hg
        obtain ⟨p, rfl, hi⟩ := ha
        obtain ⟨q, hq, ws, hv, hs⟩ := hr.cells i _ hS
        rw [hi] at hq
        cases hq
        have x1 := ext_set (o := .lst (ws.take j.toNat ++ [w2] ++ ws.drop j.toNat)) hr hi
        exact mt_insert pins s σ H _ _ v us Q I rx rs ⟨p, ws, j, w2, rfl, rfl, hv, by rw [hs.length]; exact line_small hl.1, hl.2.1, by omega, hp _ l x1 (rel_set hr hi ⟨_, upd_same, RDs.mono x1 _ _ (RDs.append (RDs.append (RDs.take _ hs) ⟨w2, [], rfl, hw, rfl⟩) (RDs.drop _ hs))⟩) _ rfl⟩
      · cases hg
    · cases hg
  · cases hg
theorem mg_ext : MtR X "list.extend" (rM C extG) := by
  intro pins s σ H x xs v us Q I rx rs h
  obtain ⟨S, l, a, ds, d, S', hr, ha, hd, hg, hp⟩ := h
  unfold extG at hg
  split at hg
  · rename_i i es0
    obtain ⟨w, rfl, hw⟩ := hd.one
    split at hg
    · rename_i es hS
      split at hg
      · rename_i hl
        cases hg
        obtain ⟨p, rfl, hi⟩ := ha
        obtain ⟨b, zs, rfl, hb, hz⟩ := hw
        obtain ⟨q, hq, ws, hv, hs⟩ := hr.cells i _ hS
        rw [hi] at hq
        cases hq
        have x1 := ext_set (o := .lst (ws ++ zs)) hr hi
        exact mt_extend pins s σ H _ _ v us Q I rx rs ⟨p, b, ws, zs, rfl, rfl, hv, hb.1, by rw [hs.length, hz.length]; exact Nat.le_of_lt (line_small hl), hp _ l x1 (rel_set hr hi ⟨_, upd_same, RDs.mono x1 _ _ (RDs.append hs hz)⟩) _ rfl⟩
      · cases hg
    · cases hg
  · cases hg
theorem mg_dpop (hu : X.A.units + 1 < cLine) : MtR X "dict.pop" (rM C dpopG) := by
  intro pins s σ H x xs v us Q I rx rs h
  obtain ⟨S, l, a, ds, d, S', hr, ha, hd, hg, hp⟩ := h
  unfold dpopG at hg
  split at hg
  · rename_i i k0 x0
    obtain ⟨w1, w2, rfl, hw1, hw⟩ := hd.two
    split at hg
    · rename_i kvs hS
      obtain ⟨k, hk, e⟩ := Option.map_eq_some_iff.mp hg
      obtain ⟨p, rfl, hi⟩ := ha
      obtain ⟨q, hq, ws, hv, hkv⟩ := hr.cells i _ hS
      rw [hi] at hq
      cases hq
      cases k0 <;> simp only [keyT] at hk <;> try cases hk
      obtain ⟨q0, zs, rfl, tq, hus⟩ := hw1
      have ek := RDs.keys hus hk
      subst ek
      have hval := RKV.val k hkv
      refine DX.mt_popT hu pins s σ H _ _ v us Q I rx rs ⟨p, ws, k, q0, w2, rfl, rfl, hv, tq, fun v' hv' => ?_, fun hv' => ?_⟩
      · cases hvd : valD kvs k with
        | none =>
          rw [hvd] at hval
          rw [show valV ws k = none from hval] at hv'
          cases hv'
        | some d1 =>
          rw [hvd] at hval e
          cases e
          obtain ⟨w', hw', hd'⟩ := hval
          rw [hw'] at hv'
          cases hv'
          have x1 := ext_set (o := .dT (dropK ws k)) hr hi
          exact hp _ l x1 (rel_set hr hi ⟨_, upd_same, RKV.mono x1 (RKV.drop hkv)⟩) _ (RD.mono x1 _ _ hd')
      · cases hvd : valD kvs k with
        | some d1 =>
          rw [hvd] at hval
          obtain ⟨w', hw', _⟩ := hval
          rw [hw'] at hv'
          cases hv'
        | none =>
          rw [hvd] at e
          cases e
          exact hp H l (Ext.refl _ _) hr _ hw
    · cases hg
  · cases hg
end
end Pyx
/-! statements, targets, loops -/
namespace Pyx
open PySem PySem.Spec PyProof.Rows L2
/-! ### slots changed -/
def Chg (is : List Nat) (s s' : L2.St) : Prop := s'.length = s.length ∧ ∀ j, j ∉ is → s'[j]? = s[j]?
theorem Chg.refl (is : List Nat) (s : L2.St) : Chg is s s := ⟨rfl, fun _ _ => rfl⟩
theorem Chg.trans {is js : List Nat} {s s1 s2 : L2.St} (a : Chg is s s1) (b : Chg js s1 s2) : Chg (is ++ js) s s2 := ⟨b.1.trans a.1, fun j hj => by
  rw [b.2 j fun h => hj (List.mem_append_right _ h), a.2 j fun h => hj (List.mem_append_left _ h)]⟩
theorem Chg.set {s : L2.St} {i : Nat} {o : Option V} : Chg [i] s (s.set i o) := ⟨by simp, fun j hj => by
  rw [List.getElem?_set_ne fun e => hj (by simp [e])]⟩
def wipeE (e : Env') : List Nat → Env'
  | [] => e
  | v :: vs => (wipeE e vs).set v none
theorem wipeE_env {K : PySem.W.Frag} {l : Lay} {H : Hp} {e : Env'} {s : L2.St} (h : EnvR K l H e s) : ∀ vs, EnvR K l H (wipeE e vs) (wipe s vs)
  | [] => h
  | v :: vs => (wipeE_env h vs).clear
theorem wipe_in {s : L2.St} {i : Nat} : ∀ {vs : List Nat}, i ∈ vs → (wipe s vs)[i]? = if i < s.length then some none else none
  | v :: vs, h => by
    show ((wipe s vs).set v none)[i]? = _
    by_cases e : v = i
    · subst e
      by_cases hl : v < s.length
      · rw [if_pos hl, List.getElem?_set_self (by rw [wipe_length]; exact hl)]
      · rw [if_neg hl, List.getElem?_eq_none (by rw [List.length_set, wipe_length]; omega)]
    · rw [List.getElem?_set_ne e]
      rcases List.mem_cons.mp h with h | h
      · exact (e h.symm).elim
      · exact wipe_in h
theorem wipe_chg {vs is : List Nat} {s s2 : L2.St} (h : Chg is (wipe s vs) s2) (hi : ∀ j, j ∈ is → j ∈ vs) : wipe s2 vs = wipe s vs := by
  have hl : s2.length = s.length := h.1.trans (wipe_length _ _)
  refine List.ext_getElem? fun j => ?_
  by_cases hj : j ∈ vs
  · rw [wipe_in hj, wipe_in hj, hl]
  · rw [wipe_out hj, h.2 j fun q => hj (hi j q)]
/-! ### targets -/
abbrev GM := D → Env' → Option Env'
abbrev GMs := List D → Env' → Option Env'
def gNm (i : Nat) : GM := fun d e => some (e.set i (some d))
def gsNil : GMs := fun ds e => match ds with
  | [] => some e
  | _ => none
def gsCons (g : GM) (r : GMs) : GMs := fun ds e => match ds with
  | d :: ds => (g d e).bind fun e' => r ds e'
  | [] => none
def gTp (n : Nat) (g : GMs) : GM := fun d e => match d with
  | .tup ds => if ds.length = n then g ds e else none
  | _ => none
def G' (C : Ctx) (is : List Nat) (m : GM) : TG := fun v s H Q => ∃ e S l d e', EnvR C.K l H e s ∧ Rel C l S H ∧ RD C.K l H d v ∧ m d e = some e' ∧ ∀ s', EnvR C.K l H e' s' → Chg is s s' → Q s' H
def Gs' (C : Ctx) (is : List Nat) (m : GMs) : TGs := fun vs s H Q => ∃ e S l ds e', EnvR C.K l H e s ∧ Rel C l S H ∧ RDs C.K l H ds vs ∧ m ds e = some e' ∧ ∀ s', EnvR C.K l H e' s' → Chg is s s' → Q s' H
section
variable {X : Cx} {C : Ctx}
theorem PGmono {tg : Expr} {t t' : TG} (h : PG X tg t) (k : ∀ v s H Q, t' v s H Q → t v s H Q) : PG X tg t' := ⟨fun pins s σ H v u Q I r q => h.run pins s σ H v u Q I r (k v σ H Q q)⟩
theorem PGsmono {tg : List Expr} {t t' : TGs} (h : PGs X tg t) (k : ∀ v s H Q, t' v s H Q → t v s H Q) : PGs X tg t' := ⟨fun pins s σ H v u Q I r q => h.run pins s σ H v u Q I r (k v σ H Q q)⟩
theorem sg_name {i : Nat} {x : Str} {pos : Pos} (hN : X.N.Nodup) (hi : X.N[i]? = some x) (hx : Loc X.env.scope x) (hf : X.fn x = true ∨ X.env.scope.names.lookup x = some .local) : PG X (.Name x pos) (G' C [i] (gNm i)) := by
  refine PGmono (pg_name hN hi hx hf) fun v s H Q h => ?_
  obtain ⟨e, S, l, d, e', he, hr, hd, hm, hq⟩ := h
  cases hm
  exact hq _ (he.set hd) Chg.set
theorem sgs_nil {is : List Nat} : PGs X [] (Gs' C is gsNil) := by
  refine PGsmono pgs_nil fun vs s H Q h => ?_
  obtain ⟨e, S, l, ds, e', he, hr, hd, hm, hq⟩ := h
  cases ds with
  | nil =>
    cases hm
    cases hd
    exact ⟨rfl, hq _ he (Chg.refl _ _)⟩
  | cons a r => cases hm
theorem gCons_mono {t t1 : TG} {u u1 : TGs} (k1 : ∀ v s H Q, t v s H Q → t1 v s H Q) (k2 : ∀ v s H Q, u v s H Q → u1 v s H Q) : True := trivial
theorem noStarA {e : Expr} {es : List Expr} {env : Env} (h : noStar e = true) : (assignEach (e :: es) env).map (·.2) = assign e env :: (assignEach es env).map (·.2) := by
  cases e with
  | Starred a b => cases h
  | _ => rfl
theorem assign_len {env : Env} : ∀ es : List Expr, (assignEach es env).length = es.length
  | [] => rfl
  | e :: r => by
    cases e <;> (show (assignEach r env).length + 1 = r.length + 1; rw [assign_len r])
theorem assign_nostar {env : Env} : ∀ {es : List Expr}, es.all noStar = true → (assignEach es env).findIdx? (·.1) = none
  | [], _ => rfl
  | e :: r, h => by
    rw [List.all_cons] at h
    obtain ⟨h1, h2⟩ := Bool.and_eq_true_iff.mp h
    have ih := assign_nostar (env := env) h2
    cases e with
    | Starred a b => cases h1
    | _ =>
      show List.findIdx? (·.1) ((false, _) :: assignEach r env) = none
      rw [List.findIdx?_cons, ih]
      rfl
theorem sgs_cons {e : Expr} {es : List Expr} {is js : List Nat} {g : GM} {r : GMs} (h1 : PG X e (G' C is g)) (h2 : PGs X es (Gs' C js r)) (hs : noStar e = true) : PGs X (e :: es) (Gs' C (is ++ js) (gsCons g r)) := by
  refine PGsmono (pgs_cons h1 h2 (noStarA hs)) fun vs s H Q h => ?_
  obtain ⟨e, S, l, ds, e', he, hr, hd, hm, hq⟩ := h
  cases ds with
  | nil => cases hm
  | cons d ds =>
    obtain ⟨v, ws, rfl, hv, hw⟩ := hd
    obtain ⟨e1, hm1, hm2⟩ := Option.bind_eq_some_iff.mp hm
    refine ⟨v, ws, rfl, e, S, l, d, e1, he, hr, hv, hm1, fun s1 he1 c1 => ?_⟩
    exact ⟨e1, S, l, ds, e', he1, hr, hw, hm2, fun s2 he2 c2 => hq s2 he2 (c1.trans c2)⟩
theorem sg_tup {es : List Expr} {k : Nat} {pos : Pos} {is : List Nat} {g : GMs} (hK : C.K = X.K) (hc : X.calm = true) (h : PGs X es (Gs' C is g)) (hs : es.all noStar = true) : PG X (.Tuple es k pos) (G' C is (gTp es.length g)) := by
  refine PGmono (pg_tup hc h (assign_len es) (assign_nostar hs)) fun v s H Q h => ?_
  obtain ⟨e, S, l, d, e', he, hr, hd, hm, hq⟩ := h
  cases d with
  | tup ds =>
    obtain ⟨a, vs, rfl, ht, hv⟩ := hd
    have hm' : (if ds.length = es.length then g ds e else none) = some e' := hm
    split at hm'
    · rename_i hl
      exact ⟨a, vs, rfl, hK ▸ ht.sq, by rw [hv.length]; exact hl, e, S, l, ds, e', he, hr, hv, hm', hq⟩
    · cases hm'
  | _ => cases hm
end
/-! ### statements -/
inductive SO where
  | nx (e : Env') (S : Sto) | rt (d : D) (S : Sto) | bk (e : Env') (S : Sto) | ct (e : Env') (S : Sto) | exc (x : Exn) (e : Env') (S : Sto) | bad
abbrev SM := Env' → Sto → SO
def liftS {A : Type} (o : Out A) (e : Env') (f : A → Sto → SO) : SO := match o with
  | .ok a S => f a S
  | .exc x S => .exc x e S
  | .bad => .bad
section
variable (C : Ctx) (W : WX) (D' : Ends)
def PostS (l : Lay) (H : Hp) : SO → Prop
  | .nx e S => ∀ s' H' l', Ext l H l' H' → Rel C l' S H' → EnvR C.K l' H' e s' → D'.nx s' H'
  | .rt d S => ∀ H' l', Ext l H l' H' → Rel C l' S H' → ∀ v, RD C.K l' H' d v → D'.rt v H'
  | .bk e S => ∀ s' H' l', Ext l H l' H' → Rel C l' S H' → EnvR C.K l' H' e s' → D'.bk s' H'
  | .ct e S => ∀ s' H' l', Ext l H l' H' → Rel C l' S H' → EnvR C.K l' H' e s' → D'.ct s' H'
  | .exc x e S => ∀ s' H' l' cls d, Ext l H l' H' → Rel C l' S H' → EnvR C.K l' H' e s' → RX C l' H' x cls d → W cls d s' H'
  | .bad => False
end
def TS' (C : Ctx) (W : WX) (m : SM) : TS := fun D' s H => ∃ e S l, EnvR C.K l H e s ∧ Rel C l S H ∧ PostS C W D' l H (m e S)
section
variable {C : Ctx} {W : WX} {D' : Ends} {l l' : Lay} {H H' : Hp} {s : L2.St} {e : Env'} {S : Sto}
theorem PostS.mono {S' : Sto} {o : SO} (h : PostS C W D' l H o) (x : Ext l H l' H') (r : Rel C l' S' H') : PostS C W D' l' H' o := by
  cases o with
  | nx e S => exact fun s2 H2 l2 x2 r2 => h s2 H2 l2 (x.thru x2 r) r2
  | rt d S => exact fun H2 l2 x2 r2 => h H2 l2 (x.thru x2 r) r2
  | bk e S => exact fun s2 H2 l2 x2 r2 => h s2 H2 l2 (x.thru x2 r) r2
  | ct e S => exact fun s2 H2 l2 x2 r2 => h s2 H2 l2 (x.thru x2 r) r2
  | exc x0 e S => exact fun s2 H2 l2 c d x2 r2 => h s2 H2 l2 c d (x.thru x2 r) r2
  | bad => exact h
theorem S_run {m : EM} {f : D → Sto → SO} (he : EnvR C.K l H e s) (hr : Rel C l S H) (hp : PostS C W D' l H (liftS (m e S) e f)) :
    T C W m s H fun v H1 => ∃ l1 d S1, EnvR C.K l1 H1 e s ∧ Rel C l1 S1 H1 ∧ Ext l H l1 H1 ∧ RD C.K l1 H1 d v ∧ PostS C W D' l1 H1 (f d S1) := by
  refine ⟨e, S, l, he, hr, ?_⟩
  cases q : m e S with
  | ok d S1 =>
    rw [q] at hp
    exact fun H1 l1 x r v hv => ⟨l1, d, S1, he.mono x, r, x, hv, PostS.mono (show PostS C W D' l H (f d S1) from hp) x r⟩
  | exc x S1 =>
    rw [q] at hp
    exact fun H1 l1 cls d x r q => hp s H1 l1 cls d x r (he.mono x) q
  | bad =>
    rw [q] at hp
    exact hp
theorem ST_run {m : TM} {f : Bool → Sto → SO} (he : EnvR C.K l H e s) (hr : Rel C l S H) (hp : PostS C W D' l H (liftS (m e S) e f)) :
    TT' C W m s H fun b H1 => ∃ l1 S1, EnvR C.K l1 H1 e s ∧ Rel C l1 S1 H1 ∧ Ext l H l1 H1 ∧ PostS C W D' l1 H1 (f b S1) := by
  refine ⟨e, S, l, he, hr, ?_⟩
  cases q : m e S with
  | ok d S1 =>
    rw [q] at hp
    exact fun H1 l1 x r => ⟨l1, S1, he.mono x, r, x, PostS.mono (show PostS C W D' l H (f d S1) from hp) x r⟩
  | exc x S1 =>
    rw [q] at hp
    exact fun H1 l1 cls d x r q => hp s H1 l1 cls d x r (he.mono x) q
  | bad =>
    rw [q] at hp
    exact hp
theorem SA_run {m : AM} {f : List D → Sto → SO} (he : EnvR C.K l H e s) (hr : Rel C l S H) (hp : PostS C W D' l H (liftS (m e S) e f)) :
    TA' C W m s H fun vs H1 => ∃ l1 ds S1, EnvR C.K l1 H1 e s ∧ Rel C l1 S1 H1 ∧ Ext l H l1 H1 ∧ RDs C.K l1 H1 ds vs ∧ PostS C W D' l1 H1 (f ds S1) := by
  refine ⟨e, S, l, he, hr, ?_⟩
  cases q : m e S with
  | ok d S1 =>
    rw [q] at hp
    exact fun H1 l1 x r vs hv => ⟨l1, d, S1, he.mono x, r, x, hv, PostS.mono (show PostS C W D' l H (f d S1) from hp) x r⟩
  | exc x S1 =>
    rw [q] at hp
    exact fun H1 l1 cls d x r q => hp s H1 l1 cls d x r (he.mono x) q
  | bad =>
    rw [q] at hp
    exact hp
theorem PostS.now {S : Sto} {e : Env'} (r : Rel C l S H) (he : EnvR C.K l H e s) (h : PostS C W D' l H (.nx e S)) : D'.nx s H := h s H l (Ext.refl l H) r he
theorem PostS.ret {S : Sto} {d : D} {v : V} (r : Rel C l S H) (h : PostS C W D' l H (.rt d S)) (hd : RD C.K l H d v) : D'.rt v H := h H l (Ext.refl l H) r v hd
end
def skipM : SM := fun e S => .nx e S
def breakM : SM := fun e S => .bk e S
def contM : SM := fun e S => .ct e S
def seqM (a b : SM) : SM := fun e S => match a e S with
  | .nx e' S' => b e' S'
  | o => o
def exprM (a : EM) : SM := fun e S => liftS (a e S) e fun _ S1 => .nx e S1
def retM (a : EM) : SM := fun e S => liftS (a e S) e fun d S1 => .rt d S1
def ifS (c : TM) (a b : SM) : SM := fun e S => liftS (c e S) e fun k S1 => if k = true then a e S1 else b e S1
def asgM (g : GM) (a : EM) : SM := fun e S => liftS (a e S) e fun d S1 => match g d e with
  | some e' => .nx e' S1
  | none => .bad
def setAt (tb : Tb) (f : Nat) (x d : D) (S : Sto) : Option Sto := match x with
  | .cell i => match S.at_ i with
    | some (.ins c fs) => if tb.pl c f = true ∧ fs.length < 900 then some (S.set i (.ins c (putA f d fs))) else none
    | _ => none
  | _ => none
def ofS (o : Option Sto) (e : Env') : SO := match o with
  | some S => .nx e S
  | none => .bad
/-- o.f = e -/
def satM (tb : Tb) (f : Nat) (o a : EM) : SM := fun e S => liftS (a e S) e fun d S1 => liftS (o e S1) e fun x S2 => ofS (setAt tb f x d S2) e
/-- o.f op= e -/
def augM (tb : Tb) (f : Nat) (g : D → D → Sto → Option D) (o a : EM) : SM := fun e S => liftS (o e S) e fun x S1 => match getA tb f x S1 with
  | some y => liftS (a e S1) e fun d S2 => match g y d S2 with
    | some z => if clsOf x S2 = clsOf x S1 then ofS (setAt tb f x z S2) e else .bad
    | none => .bad
  | none => .bad
section
variable {X : Cx} {C : Ctx} {W : WX}
theorem ss_skip {pos : Pos} : PS X (.Pass pos) (TS' C W skipM) := by
  refine PSmono ps_pass fun D' s H h => ?_
  obtain ⟨e, S, l, he, hr, hp⟩ := h
  exact PostS.now hr he hp
theorem ss_break {pos : Pos} : PS X (.Break pos) (TS' C W breakM) := by
  refine PSmono ps_break fun D' s H h => ?_
  obtain ⟨e, S, l, he, hr, hp⟩ := h
  exact hp s H l (Ext.refl l H) hr he
theorem ss_cont {pos : Pos} : PS X (.Continue pos) (TS' C W contM) := by
  refine PSmono ps_continue fun D' s H h => ?_
  obtain ⟨e, S, l, he, hr, hp⟩ := h
  exact hp s H l (Ext.refl l H) hr he
theorem sss_nil : PSs X [] (TS' C W skipM) := by
  refine PSsmono pss_nil fun D' s H h => ?_
  obtain ⟨e, S, l, he, hr, hp⟩ := h
  exact PostS.now hr he hp
theorem sss_cons {st : Stmt} {rest : List Stmt} {a b : SM} (h1 : PS X st (TS' C W a)) (h2 : PSs X rest (TS' C W b)) : PSs X (st :: rest) (TS' C W (seqM a b)) := by
  refine PSsmono (pss_cons h1 h2) fun D' s H h => ?_
  obtain ⟨e, S, l, he, hr, hp⟩ := h
  refine ⟨e, S, l, he, hr, ?_⟩
  unfold seqM at hp
  cases q : a e S with
  | nx e' S' =>
    rw [q] at hp
    exact fun s' H' l' x r he' => ⟨e', S', l', he', r, PostS.mono hp x r⟩
  | rt d S' =>
    rw [q] at hp
    exact hp
  | bk e' S' =>
    rw [q] at hp
    exact hp
  | ct e' S' =>
    rw [q] at hp
    exact hp
  | exc x e' S' =>
    rw [q] at hp
    exact hp
  | bad =>
    rw [q] at hp
    exact hp
theorem ss_expr {ex : Expr} {pos : Pos} {m : EM} (h : PE X ex (T C W m)) (hc : noComp ex = true) : PS X (.Expr ex pos) (TS' C W (exprM m)) := by
  refine PSmono (ps_expr h (swap_eq hc)) fun D' s H h => ?_
  obtain ⟨e, S, l, he, hr, hp⟩ := h
  exact Tmono (S_run he hr hp) fun v H1 ⟨l1, d1, S1, he1, hr1, x1, hd1, hp1⟩ => PostS.now hr1 he1 hp1
theorem ss_ret {ex : Expr} {pos : Pos} {m : EM} (h : PE X ex (T C W m)) : PS X (.Return (some ex) pos) (TS' C W (retM m)) := by
  refine PSmono (ps_ret h) fun D' s H h => ?_
  obtain ⟨e, S, l, he, hr, hp⟩ := h
  exact Tmono (S_run he hr hp) fun v H1 ⟨l1, d1, S1, he1, hr1, x1, hd1, hp1⟩ => PostS.ret hr1 hp1 hd1
theorem ss_retN {pos : Pos} : PS X (.Return none pos) (TS' C W (retM (cM .non))) := by
  refine PSmono ps_retN fun D' s H h => ?_
  obtain ⟨e, S, l, he, hr, hp⟩ := h
  exact PostS.ret hr hp rfl
theorem ss_if {c : Expr} {a b : List Stmt} {pos : Pos} {mc : TM} {ma mb : SM} (hc : PT X c (TT' C W mc)) (ha : PSs X a (TS' C W ma)) (hb : PSs X b (TS' C W mb)) : PS X (.If c a b pos) (TS' C W (ifS mc ma mb)) := by
  refine PSmono (ps_if hc ha hb) fun D' s H h => ?_
  obtain ⟨e, S, l, he, hr, hp⟩ := h
  refine TTmono (ST_run he hr hp) fun k H1 ⟨l1, S1, he1, hr1, x1, hp1⟩ => ?_
  cases k with
  | true => exact iteT ⟨e, S1, l1, he1, hr1, hp1⟩
  | false => exact iteF ⟨e, S1, l1, he1, hr1, hp1⟩
theorem ss_asg {tg ex : Expr} {pos : Pos} {is : List Nat} {g : GM} {m : EM} (h : PE X ex (T C W m)) (hg : PG X tg (G' C is g)) (hc : noComp ex = true) (hs : noStar tg = true) (hw : swappedStores [tg] ex X.env = pure none) : PS X (.Assign [tg] ex pos) (TS' C W (asgM g m)) := by
  refine PSmono (ps_asg h hg (swap_eq hc) hw (noStarA hs)) fun D' s H h => ?_
  obtain ⟨e, S, l, he, hr, hp⟩ := h
  refine Tmono (S_run he hr hp) fun v H1 ⟨l1, d1, S1, he1, hr1, x1, hd1, hp1⟩ => ?_
  cases q : g d1 e with
  | none =>
    rw [q] at hp1
    exact hp1.elim
  | some e' =>
    rw [q] at hp1
    exact ⟨e, S1, l1, d1, e', he1, hr1, hd1, q, fun s' he' _ => PostS.now hr1 he' hp1⟩
theorem ss_set {i : Nat} {x : Str} {ex : Expr} {pos pos' : Pos} {m : EM} (hN : X.N.Nodup) (hi : X.N[i]? = some x) (hx : Loc X.env.scope x) (hf : X.fn x = true ∨ X.env.scope.names.lookup x = some .local) (h : PE X ex (T C W m)) (hs : swapsWith ex (some (.Name x pos')) pos.line X.env = pure false) :
    PS X (.Assign [.Name x pos'] ex pos) (TS' C W (asgM (gNm i) m)) := by
  refine PSmono (ps_set hN hi hx h hs hf) fun D' s H h => ?_
  obtain ⟨e, S, l, he, hr, hp⟩ := h
  exact Tmono (S_run he hr hp) fun v H1 ⟨l1, d1, S1, he1, hr1, x1, hd1, hp1⟩ => PostS.now hr1 (he1.set hd1) hp1
theorem setAt_ok {tb : Tb} (ok : AOk C tb) {f : Nat} {x d : D} {S S' : Sto} {l : Lay} {H : Hp} {v w : V} (hr : Rel C l S H) (hx : RD C.K l H x v) (hd : RD C.K l H d w) (e : setAt tb f x d S = some S') :
    ∃ a c dx ws, v = .ref a ∧ clsOf x S = some c ∧ H a = some (.ins (C.cad c) dx ws) ∧ Cls C.K (C.cad c) ∧ NoAttr C.K (C.cad c) (C.anm f) ∧ ws.length < 1000 ∧ Ext l H l (upd H a (.ins (C.cad c) dx (putF (C.anm f) w ws))) ∧ Rel C l S' (upd H a (.ins (C.cad c) dx (putF (C.anm f) w ws))) := by
  unfold setAt at e
  split at e
  · rename_i i
    obtain ⟨a, rfl, hi⟩ := hx
    split at e
    · rename_i c fs hS
      split at e
      · rename_i hpl
        cases e
        obtain ⟨b, hb, dx, ws, hw, hf⟩ := hr.cells i _ hS
        rw [hi] at hb
        cases hb
        obtain ⟨c1, c2⟩ := ok.pl c f hpl.1
        have x1 := ext_set (o := .ins (C.cad c) dx (putF (C.anm f) w ws)) hr hi
        exact ⟨a, c, dx, ws, rfl, by simp only [clsOf, hS], hw, c1, c2, by rw [hf.len]; omega, x1, rel_set hr hi ⟨dx, _, upd_same, RF.mono x1 (RF.put ok.inj hd hf)⟩⟩
      · cases e
    · cases e
  · cases e
theorem ss_sat {tb : Tb} {f : Nat} {x : Str} {o ex : Expr} {pos pos' : Pos} {mo m : EM} (hK : C.K = X.K) (ok : AOk C tb) (hx : C.anm f = x) (ho : PE X o (T C W mo)) (h : PE X ex (T C W m)) (hs : swapsWith ex (some (.Attribute o x pos')) pos.line X.env = pure false) :
    PS X (.Assign [.Attribute o x pos'] ex pos) (TS' C W (satM tb f mo m)) := by
  subst hx
  refine PSmono (ps_fld ho h hs) fun D' s H h => ?_
  obtain ⟨e, S, l, he, hr, hp⟩ := h
  refine Tmono (S_run he hr hp) fun v H1 ⟨l1, d1, S1, he1, hr1, x1, hd1, hp1⟩ => Tmono (S_run he1 hr1 hp1) fun w H2 ⟨l2, d2, S2, he2, hr2, x2, hd2, hp2⟩ => ?_
  cases q : setAt tb f d2 d1 S2 with
  | none =>
    rw [q] at hp2
    exact hp2.elim
  | some S' =>
    rw [q] at hp2
    obtain ⟨a, c, dx, ws, rfl, _, h1, h2, h3, h4, h5, h6⟩ := setAt_ok ok hr2 hd2 (RD.mono x2 _ _ hd1) q
    rw [hK] at h2 h3
    exact ⟨a, _, dx, ws, rfl, h1, h2, h3, h4, hp2 s _ l2 h5 h6 (he2.mono h5)⟩
def InS (X : Cx) (C : Ctx) (op : Operator) (g : D → D → Sto → Option D) : Prop := InOp X op (rB C g)
theorem ss_aug {tb : Tb} {f : Nat} {x : Str} {o ex : Expr} {op : Operator} {g : D → D → Sto → Option D} {pos tpos : Pos} {mo m : EM} (hK : C.K = X.K) (ok : AOk C tb) (hx : C.anm f = x) (ho : PE X o (T C W mo)) (h : PE X ex (T C W m)) (hop : InOp X op (rB C g)) :
    PS X (.AugAssign (.Attribute o x tpos) op ex pos) (TS' C W (augM tb f g mo m)) := by
  subst hx
  refine PSmono (ps_fldaug ho h hop) fun D' s H h => ?_
  obtain ⟨e, S, l, he, hr, hp⟩ := h
  refine Tmono (S_run he hr hp) fun v H1 ⟨l1, d1, S1, he1, hr1, x1, hd1, hp1⟩ => ?_
  split at hp1
  · rename_i y q
    obtain ⟨a, c, dx, ws, w, rfl, h1, h2, h3, h4, h5, h6⟩ := getA_ok ok hr1 hd1 q
    rw [hK] at h2 h3
    refine ⟨a, _, dx, ws, w, rfl, h1, h2, h3, h4, Tmono (S_run he1 hr1 hp1) fun u H2 ⟨l2, d2, S2, he2, hr2, x2, hd2, hp2⟩ => ?_⟩
    split at hp2
    · rename_i z qg
      refine ⟨S2, l2, y, d2, z, hr2, RD.mono x2 _ _ h5, hd2, qg, fun H3 l3 x3 hr3 zv hz => ?_⟩
      have hp3 := PostS.mono hp2 x3 hr3
      split at hp3
      · rename_i hcl
        cases qs : setAt tb f d1 z S2 with
        | none =>
          rw [qs] at hp3
          exact hp3.elim
        | some S' =>
          rw [qs] at hp3
          obtain ⟨a', c', dx', ws', e', g0, g1, g2, g3, g4, g5, g6⟩ := setAt_ok ok hr3 (RD.mono x3 _ _ (RD.mono x2 _ _ hd1)) hz qs
          cases e'
          rw [h6, g0] at hcl
          cases hcl
          exact ⟨dx', ws', g1, g4, hp3 s _ l3 g5 g6 ((he2.mono x3).mono g5)⟩
      · exact hp3.elim
    · exact hp2.elim
  · exact hp1.elim
end
end Pyx
/-! what is walked; for, while; list comprehensions -/
namespace Pyx
open PySem PySem.Spec PyProof.Rows L2
inductive Src where
  | fix (ds : List D) | rng (lo c : Int) (n : Nat) | cel (i : Id) | cen (i : Id) | vals (i : Id) | keys (i : Id)
def keyAt (kvs : List (Key × D)) (k : Nat) : Option (Option D) := match kvs[k]? with
  | none => some none
  | some p => match p.1 with
    | .inl n => some (some (.int n))
    | .inr s => if PySem.PyData.strOk s = true then some (some (.str s)) else none
def Src.get (S : Sto) (k : Nat) : Src → Option (Option D)
  | .fix ds => some ds[k]?
  | .rng lo c n => some (if k < n then some (.int (lo + (k : Nat) * c)) else none)
  | .cel i => match S.at_ i with
    | some (.lst ds) => some ds[k]?
    | _ => none
  | .cen i => match S.at_ i with
    | some (.lst ds) => some (ds[k]?.map fun d => .tup [.int (k : Nat), d])
    | _ => none
  | .vals i => match S.at_ i with
    | some (.lkK kvs) => some (kvs[k]?.map (·.2))
    | some (.lkT kvs) => some (kvs[k]?.map (·.2))
    | _ => none
  | .keys i => match S.at_ i with
    | some (.lkK kvs) => keyAt kvs k
    | _ => none
def Src.fuel (S : Sto) : Src → Nat
  | .fix ds => ds.length + 1
  | .rng _ _ n => n + 1
  | .cel i => match S.at_ i with
    | some (.lst ds) => ds.length + 1
    | _ => 0
  | .cen i => match S.at_ i with
    | some (.lst ds) => ds.length + 1
    | _ => 0
  | .vals i => match S.at_ i with
    | some (.lkK kvs) => kvs.length + 1
    | some (.lkT kvs) => kvs.length + 1
    | _ => 0
  | .keys i => match S.at_ i with
    | some (.lkK kvs) => kvs.length + 1
    | _ => 0
abbrev IM := Env' → Sto → Out Src
/-- the iterator J walks what src tells, from here on -/
def Yld (C : Ctx) (J : It) (src : Src) (l0 : Lay) (H0 : Hp) : Prop := ∀ S l H k, ExtW l0 H0 l H → l.lk = l0.lk → Rel C l S H →
  match src.get S k with
  | none => True
  | some none => J.stop k H
  | some (some d) => J.go k H ∧ ∀ x H', J.yld k H x H' → Ext l H l H' ∧ Rel C l S H' ∧ RD C.K l H' d x
def TI' (C : Ctx) (W : WX) (m : IM) : TI := fun s H R => ∃ e S l, EnvR C.K l H e s ∧ Rel C l S H ∧ Post C W (fun l' H' src => ∀ J, Yld C J src l' H' → R J H') s l H (m e S)
/-! ### for -/
def loopM (src : Src) (g : GM) (body : SM) : Nat → Nat → SM
  | 0, _ => fun _ _ => .bad
  | f + 1, k => fun e S => match src.get S k with
    | none => .bad
    | some none => .nx e S
    | some (some d) => match g d e with
      | none => .bad
      | some e1 => match body e1 S with
        | .nx e' S' => loopM src g body f (k + 1) e' S'
        | .ct e' S' => loopM src g body f (k + 1) e' S'
        | .bk e' S' => .nx e' S'
        | o => o
def forM (im : IM) (g : GM) (body : SM) : SM := fun e S => liftS (im e S) e fun src S1 => loopM src g body (src.fuel S1) 0 e S1
section
variable {X : Cx} {C : Ctx} {W : WX}
theorem ss_for {tg iter : Expr} {body : List Stmt} {pos : Pos} {im : IM} {is : List Nat} {g : GM} {mb : SM} (hp : PassesOwn (model X.prog X.w) X.A X.env X.xe) (hc : X.calm = true) (hi : PI X tg iter (TI' C W im)) (hg : PG X tg (G' C is g)) (hb : PSs X body (TS' C W mb)) (hs : noSet iter = true) :
    PS X (.For tg iter body [] pos) (TS' C W (forM im g mb)) := by
  refine PSmono (ps_for hp hc hi hg hb fun x => fold_eq hs) fun D' s H h => ?_
  obtain ⟨e, S, l, he, hr, hP⟩ := h
  refine ⟨e, S, l, he, hr, ?_⟩
  unfold forM at hP
  cases q : im e S with
  | bad =>
    rw [q] at hP
    exact hP
  | exc x S1 =>
    rw [q] at hP
    exact fun H1 l1 cls d x r q => hP s H1 l1 cls d x r (he.mono x) q
  | ok src S1 =>
    rw [q] at hP
    have hP' : PostS C W D' l H (loopM src g mb (src.fuel S1) 0 e S1) := hP
    intro H1 l1 x1 r1 J hY
    refine ⟨fun k m s2 H2 => ∃ e2 S2 l2, Ext l1 H1 l2 H2 ∧ EnvR C.K l2 H2 e2 s2 ∧ Rel C l2 S2 H2 ∧ PostS C W D' l2 H2 (loopM src g mb m k e2 S2), ⟨src.fuel S1, e, S1, l1, Ext.refl _ _, he.mono x1, r1, PostS.mono hP' x1 r1⟩, ?_⟩
    rintro k m s2 H2 ⟨e2, S2, l2, x2, he2, r2, hp2⟩
    cases m with
    | zero => exact hp2.elim
    | succ m =>
      have hy := hY S2 l2 H2 k x2.toExtW x2.lk r2
      unfold loopM at hp2
      split at hp2
      · exact hp2.elim
      · rename_i hget
        rw [hget] at hy
        exact .inl ⟨hy, PostS.now r2 he2 hp2⟩
      · rename_i d hget
        rw [hget] at hy
        refine .inr ⟨hy.1, fun s' H' => ∃ m', m' < m + 1 ∧ ∃ e2 S2 l2, Ext l1 H1 l2 H' ∧ EnvR C.K l2 H' e2 s' ∧ Rel C l2 S2 H' ∧ PostS C W D' l2 H' (loopM src g mb m' (k + 1) e2 S2), fun s' H' hn => hn, fun v H3 hv => ?_⟩
        obtain ⟨x3, r3, hd⟩ := hy.2 v H3 hv
        split at hp2
        · exact hp2.elim
        · rename_i e1 hge
          refine ⟨e2, S2, l2, d, e1, he2.mono x3, r3, hd, hge, fun s4 he4 _ => ⟨e1, S2, l2, he4, r3, ?_⟩⟩
          have hp3 := PostS.mono hp2 x3 r3
          have x13 := x2.thru x3 r2
          split at hp3
          · rename_i e' S' hb'
            rw [hb']
            exact fun s5 H5 l5 x5 r5 he5 => ⟨m, Nat.lt_succ_self m, e', S', l5, x13.thru x5 r3, he5, r5, PostS.mono hp3 x5 r5⟩
          · rename_i e' S' hb'
            rw [hb']
            exact fun s5 H5 l5 x5 r5 he5 => ⟨m, Nat.lt_succ_self m, e', S', l5, x13.thru x5 r3, he5, r5, PostS.mono hp3 x5 r5⟩
          · rename_i e' S' hb'
            rw [hb']
            exact hp3
          · rename_i o h1 h2 h3
            cases hb' : mb e1 S2 with
            | nx e' S' => exact (h1 _ _ hb').elim
            | ct e' S' => exact (h2 _ _ hb').elim
            | bk e' S' => exact (h3 _ _ hb').elim
            | rt d S' =>
              rw [hb'] at hp3
              exact hp3
            | exc x e' S' =>
              rw [hb'] at hp3
              exact hp3
            | bad =>
              rw [hb'] at hp3
              exact hp3.elim
end
/-! ### while -/
def whM (c : TM) (body : SM) : Nat → SM
  | 0 => fun _ _ => .bad
  | f + 1 => fun e S => liftS (c e S) e fun b S1 => if b = true then match body e S1 with
      | .nx e' S' => whM c body f e' S'
      | .ct e' S' => whM c body f e' S'
      | .bk e' S' => .nx e' S'
      | o => o
    else .nx e S1
def whileFuel : Nat := 100000
def whileM (c : TM) (body : SM) : SM := whM c body whileFuel
section
variable {X : Cx} {C : Ctx} {W : WX}
theorem ss_while {c : Expr} {body : List Stmt} {pos : Pos} {mc : TM} {mb : SM} (hp : PassesOwn (model X.prog X.w) X.A X.env X.xe) (hc : PT X c (TT' C W mc)) (hb : PSs X body (TS' C W mb)) : PS X (.While c body [] pos) (TS' C W (whileM mc mb)) := by
  refine PSmono (ps_while hp hc hb) fun D' s H h => ?_
  obtain ⟨e, S, l, he, hr, hP⟩ := h
  refine ⟨fun m s2 H2 => ∃ e2 S2 l2, EnvR C.K l2 H2 e2 s2 ∧ Rel C l2 S2 H2 ∧ PostS C W D' l2 H2 (whM mc mb m e2 S2), ⟨whileFuel, e, S, l, he, hr, hP⟩, ?_⟩
  rintro m s2 H2 ⟨e2, S2, l2, he2, r2, hp2⟩
  cases m with
  | zero => exact hp2.elim
  | succ m =>
    refine TTmono (ST_run he2 r2 hp2) fun b H3 ⟨l3, S3, he3, r3, x3, hp3⟩ => ?_
    cases b with
    | false => exact iteF (PostS.now r3 he3 hp3)
    | true =>
      refine iteT ⟨fun s' H' => ∃ m', m' < m + 1 ∧ ∃ e2 S2 l2, EnvR C.K l2 H' e2 s' ∧ Rel C l2 S2 H' ∧ PostS C W D' l2 H' (whM mc mb m' e2 S2), fun s' H' hn => hn, ⟨e2, S3, l3, he3, r3, ?_⟩⟩
      have hp4 : PostS C W D' l3 H3 (match mb e2 S3 with
        | .nx e' S' => whM mc mb m e' S'
        | .ct e' S' => whM mc mb m e' S'
        | .bk e' S' => .nx e' S'
        | o => o) := hp3
      split at hp4
      · rename_i e' S' hb'
        rw [hb']
        exact fun s5 H5 l5 x5 r5 he5 => ⟨m, Nat.lt_succ_self m, e', S', l5, he5, r5, PostS.mono hp4 x5 r5⟩
      · rename_i e' S' hb'
        rw [hb']
        exact fun s5 H5 l5 x5 r5 he5 => ⟨m, Nat.lt_succ_self m, e', S', l5, he5, r5, PostS.mono hp4 x5 r5⟩
      · rename_i e' S' hb'
        rw [hb']
        exact hp4
      · rename_i o h1 h2 h3
        cases hb' : mb e2 S3 with
        | nx e' S' => exact (h1 _ _ hb').elim
        | ct e' S' => exact (h2 _ _ hb').elim
        | bk e' S' => exact (h3 _ _ hb').elim
        | rt d S' =>
          rw [hb'] at hp4
          exact hp4
        | exc x e' S' =>
          rw [hb'] at hp4
          exact hp4
        | bad =>
          rw [hb'] at hp4
          exact hp4.elim
end
/-! ### what is walked -/
def srcOf (x : D) (S : Sto) : Option Src := match x with
  | .lst ds => some (.fix ds)
  | .tup ds => some (.fix ds)
  | .ktup ds => some (.fix ds)
  | .ptup ds => some (.fix ds)
  | .scr ns => some (.fix (ns.map D.int))
  | .str z => some (.fix (z.cps.toList.map fun c => .str ⟨#[c]⟩))
  | .cell i => match S.at_ i with
    | some (.lst _) => some (.cel i)
    | _ => none
  | _ => none
def seqI (a : EM) : IM := fun e S => (a e S).bind fun x S1 => ofO (srcOf x S1) S1
section
variable {C : Ctx}
/-- a list that stands -/
theorem yld_lst {l : Lay} {H : Hp} {ds : List D} {a : Addr} (h : ∀ l' H', ExtW l H l' H' → ∃ vs, SqL C.K H' a vs ∧ RDs C.K l' H' ds vs) : Yld C (Itl C.K a) (.fix ds) l H := by
  intro S' l' H' k x _ r
  obtain ⟨vs, h1, h2⟩ := h l' H' x
  show match some ds[k]? with | none => True | some none => (Itl C.K a).stop k H' | some (some d) => _
  cases q : ds[k]? with
  | none => exact ⟨vs, h1, by rw [h2.length]; exact List.getElem?_eq_none_iff.mp q⟩
  | some d =>
    obtain ⟨v, hv, hd⟩ := h2.get q
    refine ⟨⟨vs, v, h1, hv⟩, fun w H2 hw => ?_⟩
    obtain ⟨rfl, hw2⟩ := hw
    have e : w = v := Option.some.inj ((hw2 vs h1).symm.trans hv)
    subst e
    exact ⟨Ext.refl _ _, r, hd⟩
theorem yld_tup {l : Lay} {H : Hp} {ds : List D} {a : Addr} (h : ∀ l' H', ExtW l H l' H' → ∃ vs, SqT C.K H' a vs ∧ RDs C.K l' H' ds vs) : Yld C (Itt C.K a) (.fix ds) l H := by
  intro S' l' H' k x _ r
  obtain ⟨vs, h1, h2⟩ := h l' H' x
  show match some ds[k]? with | none => True | some none => (Itt C.K a).stop k H' | some (some d) => _
  cases q : ds[k]? with
  | none => exact ⟨vs, h1, by rw [h2.length]; exact List.getElem?_eq_none_iff.mp q⟩
  | some d =>
    obtain ⟨v, hv, hd⟩ := h2.get q
    refine ⟨⟨vs, v, h1, hv⟩, fun w H2 hw => ?_⟩
    obtain ⟨rfl, hw2⟩ := hw
    have e : w = v := Option.some.inj ((hw2 vs h1).symm.trans hv)
    subst e
    exact ⟨Ext.refl _ _, r, hd⟩
theorem yld_str {l : Lay} {H : Hp} {z : Str} (hz : PySem.PyData.strOk z = true) : Yld C (Its z) (.fix (z.cps.toList.map fun c => D.str ⟨#[c]⟩)) l H := by
  intro S' l' H' k x _ r
  show match some (z.cps.toList.map fun c => D.str ⟨#[c]⟩)[k]? with | none => True | some none => (Its z).stop k H' | some (some d) => _
  rw [List.getElem?_map]
  cases q : z.cps.toList[k]? with
  | none =>
    have := List.getElem?_eq_none_iff.mp q
    show z.cps.size ≤ k
    simpa using this
  | some c =>
    obtain ⟨hk, hc⟩ := List.getElem?_eq_some_iff.mp q
    refine ⟨by show k < z.cps.size; simpa using hk, fun w H2 hw => ?_⟩
    obtain ⟨rfl, c', hc', rfl⟩ := hw
    have e : c' = c := by
      rw [← Array.getElem?_toList] at hc'
      exact Option.some.inj (hc'.symm.trans q)
    subst e
    refine ⟨Ext.refl _ _, r, rfl, ?_⟩
    have hm : c' ∈ z.cps.toList := List.mem_of_getElem? q
    unfold PySem.PyData.strOk at hz ⊢
    rw [← Array.all_toList] at hz ⊢
    have := List.all_eq_true.mp hz c' hm
    simp only [List.all_cons, List.all_nil, Bool.and_true]
    exact this
theorem yld_cel {l : Lay} {H : Hp} {i : Id} {a : Addr} (hi : l i = some a) : Yld C (Itl C.K a) (.cel i) l H := by
  intro S' l' H' k x _ r
  show match (match S'.at_ i with | some (.lst ds) => some ds[k]? | _ => none) with | none => True | some none => (Itl C.K a).stop k H' | some (some d) => _
  cases hS : S'.at_ i with
  | none => exact True.intro
  | some c =>
    cases c with
    | lst ds =>
      obtain ⟨b, hb, vs, hv, hs⟩ := r.cells i _ hS
      rw [x.id i a hi] at hb
      cases hb
      show match some ds[k]? with | none => True | some none => (Itl C.K a).stop k H' | some (some d) => _
      cases q : ds[k]? with
      | none => exact ⟨vs, .inl (.inl hv), by rw [hs.length]; exact List.getElem?_eq_none_iff.mp q⟩
      | some d =>
        obtain ⟨v, hv2, hd⟩ := hs.get q
        refine ⟨⟨vs, v, .inl (.inl hv), hv2⟩, fun w H2 hw => ?_⟩
        obtain ⟨rfl, hw2⟩ := hw
        have e : w = v := Option.some.inj ((hw2 vs (.inl (.inl hv))).symm.trans hv2)
        subst e
        exact ⟨Ext.refl _ _, r, hd⟩
    | _ => exact True.intro
theorem yld_rng {l : Lay} {H : Hp} {lo : Int} {n : Nat} : Yld C (Itr lo n) (.rng lo 1 n) l H := by
  intro S' l' H' k x _ r
  show match some (if k < n then some (D.int (lo + (k : Nat) * 1)) else none) with | none => True | some none => (Itr lo n).stop k H' | some (some d) => _
  by_cases h : k < n
  · rw [if_pos h]
    refine ⟨h, fun w H2 hw => ?_⟩
    obtain ⟨rfl, rfl⟩ := hw
    exact ⟨Ext.refl _ _, r, by rw [Int.mul_one]; rfl⟩
  · rw [if_neg h]
    exact Nat.le_of_not_lt h
theorem yld_rngC {l : Lay} {H : Hp} {lo c : Int} {n : Nat} : Yld C (Itc lo c n) (.rng lo c n) l H := by
  intro S' l' H' k x _ r
  show match some (if k < n then some (D.int (lo + (k : Nat) * c)) else none) with | none => True | some none => (Itc lo c n).stop k H' | some (some d) => _
  by_cases h : k < n
  · rw [if_pos h]
    refine ⟨h, fun w H2 hw => ?_⟩
    obtain ⟨rfl, rfl⟩ := hw
    exact ⟨Ext.refl _ _, r, rfl⟩
  · rw [if_neg h]
    exact Nat.le_of_not_lt h
theorem stays_ptup {l : Lay} {H : Hp} {ds : List D} {a : Addr} {vs : List V} (h : PTup l H a vs) (q : RDs C.K l H ds vs) : ∀ l' H', ExtW l H l' H' → ∃ vs, SqT C.K H' a vs ∧ RDs C.K l' H' ds vs := fun l' H' x => by
  obtain ⟨o, h1, h2, h3, h4⟩ := h
  exact ⟨vs, .inl (.inr ⟨o, x.keep a _ h2 h3⟩), RDs.monoW x _ _ q⟩
/-- a list, a tuple that is known at a place stays -/
theorem stays_lst {l : Lay} {H : Hp} {ds : List D} {a : Addr} {vs : List V} (h : LstAt C.K l H a vs) (q : RDs C.K l H ds vs) : ∀ l' H', ExtW l H l' H' → ∃ vs, SqL C.K H' a vs ∧ RDs C.K l' H' ds vs :=
  fun l' H' x => ⟨vs, .inl (.inl (x.keep _ _ h.1 h.2.1)), RDs.monoW x _ _ q⟩
theorem stays_tup {l : Lay} {H : Hp} {ds : List D} {a : Addr} {vs : List V} (h : TupAt C.K H a vs) (q : RDs C.K l H ds vs) : ∀ l' H', ExtW l H l' H' → ∃ vs, SqT C.K H' a vs ∧ RDs C.K l' H' ds vs :=
  fun l' H' x => ⟨vs, .inl (.inl (x.tup _ _ h)), RDs.monoW x _ _ q⟩
end
section
variable {X : Cx} {C : Ctx} {W : WX}
theorem PImono {tg ex : Expr} {t t' : TI} (h : PI X tg ex t) (k : ∀ s H R, t' s H R → t s H R) : PI X tg ex t' := ⟨fun pins s σ H R I q => h.run pins s σ H R I (k σ H R q)⟩
theorem T_runE {B : Type} {RA : Lay → Hp → B → Prop} {m : EM} {f : D → Sto → Out B} {s : L2.St} {l : Lay} {H : Hp} {e : Env'} {S : Sto} (he : EnvR C.K l H e s) (hr : Rel C l S H) (hp : Post C W RA s l H ((m e S).bind f)) :
    T C W m s H fun v H1 => ∃ l1 d S1, m e S = .ok d S1 ∧ EnvR C.K l1 H1 e s ∧ Rel C l1 S1 H1 ∧ Ext l H l1 H1 ∧ RD C.K l1 H1 d v ∧ Post C W RA s l1 H1 (f d S1) := by
  refine ⟨e, S, l, he, hr, ?_⟩
  cases q : m e S with
  | ok d S1 =>
    rw [q] at hp
    exact fun H1 l1 x r v hv => ⟨l1, d, S1, rfl, he.mono x, r, x, hv, Post.mono (show Post C W RA s l H (f d S1) from hp) x r⟩
  | exc x S1 =>
    rw [q] at hp
    exact hp
  | bad =>
    rw [q] at hp
    exact hp
/-- a list, a tuple, a text, as it stands -/
theorem sp_seq {tg ex : Expr} {m : EM} (hK : C.K = X.K) (h : PE X ex (T C W m)) : PI X tg ex (TI' C W (seqI m)) := by
  refine ⟨fun pins s0 s H R I q => ?_⟩
  obtain ⟨e, S, l, he, hr, hp⟩ := q
  have h0 := T_runE (RA := fun l' H' src => ∀ J, Yld C J src l' H' → R J H') he hr hp
  by_cases hc : ∃ z S1, m e S = .ok (.str z) S1
  · refine (pi_str h).run pins s0 s H R I (Tmono h0 fun v H1 ⟨l1, d1, S1, he0, he1, hr1, x1, hd1, hp1⟩ => ?_)
    obtain ⟨z, S2, e2⟩ := hc
    rw [he0] at e2
    cases e2
    obtain ⟨rfl, hz⟩ := hd1
    exact ⟨z, rfl, Post.pure hr1 hp1 _ (yld_str hz)⟩
  · by_cases hc2 : ∃ ds S1, m e S = .ok (.tup ds) S1 ∨ m e S = .ok (.ktup ds) S1 ∨ m e S = .ok (.ptup ds) S1
    · refine (pi_tup h).run pins s0 s H R I (Tmono h0 fun v H1 ⟨l1, d1, S1, he0, he1, hr1, x1, hd1, hp1⟩ => ?_)
      obtain ⟨ds, S2, e2⟩ := hc2
      rw [he0] at e2
      rcases e2 with e2 | e2 | e2
      · cases e2
        obtain ⟨a, vs, rfl, ht, hv⟩ := hd1
        exact ⟨a, rfl, ⟨vs, hK ▸ ht.sq⟩, hK ▸ Post.pure hr1 hp1 _ (yld_tup (stays_tup ht hv))⟩
      · cases e2
        obtain ⟨a, vs, rfl, ht, hv⟩ := hd1
        exact ⟨a, rfl, ⟨vs, .inr (hK ▸ ht)⟩, hK ▸ Post.pure hr1 hp1 _ (yld_tup fun l' H' x => ⟨vs, .inr ht, RDs.monoW x _ _ hv⟩)⟩
      · cases e2
        obtain ⟨a, vs, rfl, ht, hv⟩ := hd1
        exact ⟨a, rfl, ⟨vs, hK ▸ ht.sq⟩, hK ▸ Post.pure hr1 hp1 _ (yld_tup (stays_ptup ht hv))⟩
    · refine (pi_list h).run pins s0 s H R I (Tmono h0 fun v H1 ⟨l1, d1, S1, he0, he1, hr1, x1, hd1, hp1⟩ => ?_)
      cases d1 with
      | str z => exact (hc ⟨z, S1, he0⟩).elim
      | tup ds => exact (hc2 ⟨ds, S1, .inl he0⟩).elim
      | ktup ds => exact (hc2 ⟨ds, S1, .inr (.inl he0)⟩).elim
      | ptup ds => exact (hc2 ⟨ds, S1, .inr (.inr he0)⟩).elim
      | lst ds =>
        obtain ⟨a, vs, rfl, ht, hv⟩ := hd1
        exact ⟨a, rfl, ⟨vs, hK ▸ ht.sq⟩, hK ▸ Post.pure hr1 hp1 _ (yld_lst (stays_lst ht hv))⟩
      | scr ns =>
        obtain ⟨a, rfl, ht⟩ := hd1
        refine ⟨a, rfl, ⟨_, hK ▸ ht.sq⟩, hK ▸ Post.pure hr1 hp1 _ (yld_lst fun l' H' x => ⟨_, ?_, RDs.ints ns⟩)⟩
        have h2 : RD C.K l' H' (.scr ns) (.ref a) := RD.monoW x _ _ ⟨a, rfl, ht⟩
        obtain ⟨a', e', hs⟩ := h2
        cases e'
        exact hs.sq
      | cell i =>
        cases hS : S1.at_ i with
        | none =>
          rw [show srcOf (.cell i) S1 = none by simp only [srcOf, hS]] at hp1
          exact hp1.elim
        | some c =>
          cases c with
          | lst ds =>
            rw [show srcOf (.cell i) S1 = some (.cel i) by simp only [srcOf, hS]] at hp1
            obtain ⟨a, rfl, hi⟩ := hd1
            obtain ⟨b, hb, vs, hv, _⟩ := hr1.cells i _ hS
            rw [hi] at hb
            cases hb
            exact ⟨a, rfl, ⟨vs, .inl (.inl hv)⟩, hK ▸ Post.pure hr1 hp1 _ (yld_cel hi)⟩
          | _ =>
            rw [show srcOf (.cell i) S1 = none by simp only [srcOf, hS]] at hp1
            exact hp1.elim
      | _ => exact hp1.elim
/-- range(n), range(a, b), range(a, b, -1) -/
def rng1I (t : AM) : IM := fun e S => (t e S).bind fun ds S1 => match ds with
  | [.int n] => if n < 1000000 ∧ -1000000 < n then .ok (.rng 0 1 n.toNat) S1 else .bad
  | _ => .bad
def rng2I (t : AM) : IM := fun e S => (t e S).bind fun ds S1 => match ds with
  | [.int a, .int b] => if (a < 1000000 ∧ -1000000 < a) ∧ (b < 1000000 ∧ -1000000 < b) then .ok (.rng a 1 (b - a).toNat) S1 else .bad
  | _ => .bad
def rng3I (t : AM) : IM := fun e S => (t e S).bind fun ds S1 => match ds with
  | [.int a, .int b, .int c] => if c = -1 ∧ (a < 1000000 ∧ -1000000 < a) ∧ (b < 1000000 ∧ -1000000 < b) then .ok (.rng a (-1) (a - b).toNat) S1 else .bad
  | _ => .bad
theorem RDs.three {K : PySem.W.Frag} {l : Lay} {H : Hp} {d e f : D} {vs : List V} (h : RDs K l H [d, e, f] vs) : ∃ v w u, vs = [v, w, u] ∧ RD K l H d v ∧ RD K l H e w ∧ RD K l H f u := by
  obtain ⟨v, r, rfl, h1, h2⟩ := h
  obtain ⟨w, u, rfl, h3, h4⟩ := RDs.two h2
  exact ⟨v, w, u, rfl, h1, h3, h4⟩
theorem sp_range1 {tg a : Expr} {p pos : Pos} {m : AM} (hg : Gl X "range") (hm : X.mg "range" = none) (ha : PA X [a] (TA' C W m)) (h1 : noStar a = true) : PI X tg (.Call (.Name "range" p) [a] [] pos) (TI' C W (rng1I m)) := by
  refine PImono (pi_range1 hg hm ha (star_eq h1)) fun s H R q => ?_
  obtain ⟨e, S, l, he, hr, hp⟩ := q
  refine TAmono (TA_run (RA := fun l' H' src => ∀ J, Yld C J src l' H' → R J H') he hr hp) fun vs H1 ⟨l1, ds, S1, he1, hr1, x1, hd1, hp1⟩ => ?_
  split at hp1
  · rename_i n
    obtain ⟨v, rfl, hv⟩ := hd1.one
    cases hv
    split at hp1
    · exact ⟨n, rfl, by omega, by omega, Post.pure hr1 hp1 _ yld_rng⟩
    · exact hp1.elim
  · exact hp1.elim
theorem sp_range2 {tg a b : Expr} {p pos : Pos} {m : AM} (hg : Gl X "range") (hm : X.mg "range" = none) (ha : PA X [a, b] (TA' C W m)) (h1 : noStar a = true) (h2 : noStar b = true) : PI X tg (.Call (.Name "range" p) [a, b] [] pos) (TI' C W (rng2I m)) := by
  refine PImono (pi_range2 hg hm ha (by rw [star_eq h1, star_eq h2]; rfl) (star_eq h2)) fun s H R q => ?_
  obtain ⟨e, S, l, he, hr, hp⟩ := q
  refine TAmono (TA_run (RA := fun l' H' src => ∀ J, Yld C J src l' H' → R J H') he hr hp) fun vs H1 ⟨l1, ds, S1, he1, hr1, x1, hd1, hp1⟩ => ?_
  split at hp1
  · rename_i a b
    obtain ⟨v, w, rfl, hv, hw⟩ := hd1.two
    cases hv
    cases hw
    split at hp1
    · exact ⟨a, b, rfl, by omega, Post.pure hr1 hp1 _ yld_rng⟩
    · exact hp1.elim
  · exact hp1.elim
theorem sp_range3 {tg a b c : Expr} {p pos : Pos} {m : AM} (hg : Gl X "range") (hm : X.mg "range" = none) (ha : PA X [a, b, c] (TA' C W m)) (h : [a, b, c].all noStar = true) : PI X tg (.Call (.Name "range" p) [a, b, c] [] pos) (TI' C W (rng3I m)) := by
  have h1 : noStar a = true := List.all_eq_true.mp h a (by simp)
  have h2 : [b, c].all noStar = true := by
    rw [List.all_cons] at h
    exact (Bool.and_eq_true_iff.mp h).2
  refine PImono (pi_range3 hg hm ha (star_eq h1) (star_any h2)) fun s H R q => ?_
  obtain ⟨e, S, l, he, hr, hp⟩ := q
  refine TAmono (TA_run (RA := fun l' H' src => ∀ J, Yld C J src l' H' → R J H') he hr hp) fun vs H1 ⟨l1, ds, S1, he1, hr1, x1, hd1, hp1⟩ => ?_
  split at hp1
  · rename_i a b c
    obtain ⟨v, w, u, rfl, hv, hw, hu⟩ := hd1.three
    cases hv
    cases hw
    cases hu
    split at hp1
    · rename_i hh
      obtain ⟨rfl, ha, hb⟩ := hh
      exact ⟨a, b, -1, _, rfl, RgC.neg (by omega) (by omega) (by omega) (by omega), Post.pure hr1 hp1 _ yld_rngC⟩
    · exact hp1.elim
  · exact hp1.elim
/-- zip of two lists, of two tuples -/
def pairD (x y : D) : D := .tup [x, y]
def zipS (x y : D) (S : Sto) : Option Src := match x, y with
  | .lst a, .lst b => some (.fix (List.zipWith pairD a b))
  | .tup a, .tup b => some (.fix (List.zipWith pairD a b))
  | _, _ => none
def zipI (t : AM) : IM := fun e S => (t e S).bind fun ds S1 => match ds with
  | [x, y] => ofO (zipS x y S1) S1
  | _ => .bad
theorem yld_pair {l : Lay} {H : Hp} {xs ys : List D} {J : It} (h : ∀ l' H', ExtW l H l' H' → ∃ vs ws, RDs C.K l' H' xs vs ∧ RDs C.K l' H' ys ws ∧ (∀ k, vs.length ≤ k ∨ ws.length ≤ k → J.stop k H') ∧ (∀ k v w, vs[k]? = some v → ws[k]? = some w → J.go k H' ∧ ∀ x H2, J.yld k H' x H2 → ∃ T, x = .ref T ∧ H' T = none ∧ H2 = upd H' T (.tup [v, w]))) :
    Yld C J (.fix (List.zipWith pairD xs ys)) l H := by
  intro S' l' H' k x _ r
  obtain ⟨vs, ws, h1, h2, h3, h4⟩ := h l' H' x
  show match some (List.zipWith pairD xs ys)[k]? with | none => True | some none => J.stop k H' | some (some d) => _
  cases q1 : xs[k]? with
  | none =>
    rw [show (List.zipWith pairD xs ys)[k]? = none by
      rw [List.getElem?_eq_none_iff, List.length_zipWith]
      have := List.getElem?_eq_none_iff.mp q1
      omega]
    exact h3 k (.inl (by rw [h1.length]; exact List.getElem?_eq_none_iff.mp q1))
  | some d =>
    cases q2 : ys[k]? with
    | none =>
      rw [show (List.zipWith pairD xs ys)[k]? = none by
        rw [List.getElem?_eq_none_iff, List.length_zipWith]
        have := List.getElem?_eq_none_iff.mp q2
        omega]
      exact h3 k (.inr (by rw [h2.length]; exact List.getElem?_eq_none_iff.mp q2))
    | some f =>
      rw [show (List.zipWith pairD xs ys)[k]? = some (pairD d f) by
        rw [List.getElem?_zipWith, q1, q2]]
      obtain ⟨v, hv, hd⟩ := h1.get q1
      obtain ⟨w, hw, hf⟩ := h2.get q2
      obtain ⟨g1, g2⟩ := h4 k v w hv hw
      refine ⟨g1, fun z H2 hz => ?_⟩
      obtain ⟨T, rfl, hT, rfl⟩ := g2 z H2 hz
      have x1 := ext_new (l := l') (o := .tup [v, w]) hT
      exact ⟨x1, rel_new r hT, T, [v, w], rfl, upd_same, ⟨v, [w], rfl, RD.mono x1 _ _ hd, w, [], rfl, RD.mono x1 _ _ hf, rfl⟩⟩
theorem sp_zip {a b : Expr} {p pos tpos : Pos} {elts : List Expr} {kk : Nat} {m : AM} (hK : C.K = X.K) (hg : Gl X "zip") (hm : X.mg "zip" = none) (ha : PA X [a, b] (TA' C W m)) (h1 : noStar a = true) (h2 : noStar b = true) :
    PI X (.Tuple elts kk tpos) (.Call (.Name "zip" p) [a, b] [] pos) (TI' C W (zipI m)) := by
  have hb : [b].all noStar = true := by
    rw [List.all_cons, h2]
    rfl
  refine PImono (RZ.pi_zipA hg hm ha (star_eq h1) (star_any hb)) fun s H R q => ?_
  obtain ⟨e, S, l, he, hr, hp⟩ := q
  refine TAmono (TA_run (RA := fun l' H' src => ∀ J, Yld C J src l' H' → R J H') he hr hp) fun vs H1 ⟨l1, ds, S1, he1, hr1, x1, hd1, hp1⟩ => ?_
  split at hp1
  · rename_i x y
    obtain ⟨v, w, rfl, hv, hw⟩ := hd1.two
    obtain ⟨src, hs, hp1⟩ := post_ofO hp1
    have hp2 := hp1 H1 l1 (Ext.refl _ _) hr1
    unfold zipS at hs
    split at hs
    · cases hs
      obtain ⟨p, xs, rfl, tp, hx⟩ := hv
      obtain ⟨q, ys, rfl, tq, hy⟩ := hw
      refine ⟨p, q, xs, ys, rfl, .inl ⟨hK ▸ tp.sq, hK ▸ tq.sq, hp2 _ (yld_pair fun l' H' x => ⟨xs, ys, RDs.monoW x _ _ hx, RDs.monoW x _ _ hy, fun k hk => ?_, fun k v w hv hw => ⟨?_, ?_⟩⟩)⟩⟩
      · exact ⟨xs, ys, .inl (.inl (x.keep _ _ tp.1 tp.2.1)), .inl (.inl (x.keep _ _ tq.1 tq.2.1)), hk⟩
      · exact ⟨xs, ys, v, w, .inl (.inl (x.keep _ _ tp.1 tp.2.1)), .inl (.inl (x.keep _ _ tq.1 tq.2.1)), hv, hw⟩
      · rintro z H2 ⟨T, u1, u2, e1, e2, e3, f1, f2⟩
        have g1 := f1 xs (.inl (.inl (x.keep _ _ tp.1 tp.2.1)))
        have g2 := f2 ys (.inl (.inl (x.keep _ _ tq.1 tq.2.1)))
        rw [hv] at g1
        rw [hw] at g2
        cases g1
        cases g2
        exact ⟨T, e1, e2, e3⟩
    · cases hs
      obtain ⟨p, xs, rfl, tp, hx⟩ := hv
      obtain ⟨q, ys, rfl, tq, hy⟩ := hw
      refine ⟨p, q, xs, ys, rfl, .inr ⟨hK ▸ tp.sq, hK ▸ tq.sq, hp2 _ (yld_pair fun l' H' x => ⟨xs, ys, RDs.monoW x _ _ hx, RDs.monoW x _ _ hy, fun k hk => ?_, fun k v w hv hw => ⟨?_, ?_⟩⟩)⟩⟩
      · exact ⟨xs, ys, .inl (.inl (x.tup _ _ tp)), .inl (.inl (x.tup _ _ tq)), hk⟩
      · exact ⟨xs, ys, v, w, .inl (.inl (x.tup _ _ tp)), .inl (.inl (x.tup _ _ tq)), hv, hw⟩
      · rintro z H2 ⟨T, u1, u2, e1, e2, e3, f1, f2⟩
        have g1 := f1 xs (.inl (.inl (x.tup _ _ tp)))
        have g2 := f2 ys (.inl (.inl (x.tup _ _ tq)))
        rw [hv] at g1
        rw [hw] at g2
        cases g1
        cases g2
        exact ⟨T, e1, e2, e3⟩
    · cases hs
  · exact hp1.elim
/-- enumerate of a list -/
def enum0 (ds : List D) : List D := ds.mapIdx fun k d => .tup [.int (k : Nat), d]
def enumS (x : D) (S : Sto) : Option Src := match x with
  | .lst ds => some (.fix (enum0 ds))
  | .cell i => match S.at_ i with
    | some (.lst _) => some (.cen i)
    | _ => none
  | _ => none
def enumI (t : AM) : IM := fun e S => (t e S).bind fun ds S1 => match ds with
  | [x] => ofO (enumS x S1) S1
  | _ => .bad
theorem sp_enum {a : Expr} {p pos tpos : Pos} {elts : List Expr} {kk : Nat} {m : AM} (hK : C.K = X.K) (hg : Gl X "enumerate") (hm : X.mg "enumerate" = none) (ha : PA X [a] (TA' C W m)) (h1 : noStar a = true) :
    PI X (.Tuple elts kk tpos) (.Call (.Name "enumerate" p) [a] [] pos) (TI' C W (enumI m)) := by
  refine PImono (pi_enum hg hm ha (star_eq h1)) fun s H R q => ?_
  obtain ⟨e, S, l, he, hr, hp⟩ := q
  refine TAmono (TA_run (RA := fun l' H' src => ∀ J, Yld C J src l' H' → R J H') he hr hp) fun vs H1 ⟨l1, ds, S1, he1, hr1, x1, hd1, hp1⟩ => ?_
  split at hp1
  · rename_i x
    obtain ⟨v, rfl, hv⟩ := hd1.one
    obtain ⟨src, hs, hp1⟩ := post_ofO hp1
    have hp2 := hp1 H1 l1 (Ext.refl _ _) hr1
    unfold enumS at hs
    split at hs
    · rename_i es
      cases hs
      obtain ⟨p, xs, rfl, tp, hx⟩ := hv
      refine ⟨p, xs, rfl, hK ▸ tp.sq, hK ▸ hp2 _ fun S' l' H' k x _ r => ?_⟩
      have sq : SqL C.K H' p xs := .inl (.inl (x.keep _ _ tp.1 tp.2.1))
      have hx' := RDs.monoW x _ _ hx
      show match some (enum0 es)[k]? with | none => True | some none => (Ite C.K p).stop k H' | some (some d) => _
      unfold enum0
      rw [List.getElem?_mapIdx]
      cases q1 : es[k]? with
      | none => exact ⟨xs, sq, by rw [hx'.length]; exact List.getElem?_eq_none_iff.mp q1⟩
      | some d =>
        obtain ⟨w, hw, hd⟩ := hx'.get q1
        refine ⟨⟨xs, w, sq, hw⟩, ?_⟩
        rintro z H2 ⟨T, u, rfl, hT, rfl, f1⟩
        have e1 : u = w := Option.some.inj ((f1 xs sq).symm.trans hw)
        subst e1
        have x2 := ext_new (l := l') (o := .tup [.int (k : Nat), u]) hT
        exact ⟨x2, rel_new r hT, T, _, rfl, upd_same, ⟨_, _, rfl, rfl, _, _, rfl, RD.mono x2 _ _ hd, rfl⟩⟩
    · rename_i i
      split at hs
      · rename_i es hS
        cases hs
        obtain ⟨p, rfl, hi⟩ := hv
        obtain ⟨b, hb, xs, hxs, _⟩ := hr1.cells i _ hS
        rw [hi] at hb
        cases hb
        refine ⟨p, xs, rfl, .inl (.inl hxs), hK ▸ hp2 _ fun S' l' H' k x _ r => ?_⟩
        show match (match S'.at_ i with | some (.lst ds) => some (ds[k]?.map fun d => D.tup [.int (k : Nat), d]) | _ => none) with | none => True | some none => (Ite C.K p).stop k H' | some (some d) => _
        cases hS' : S'.at_ i with
        | none => exact True.intro
        | some c =>
          cases c with
          | lst fs =>
            obtain ⟨b, hb, ys, hv, hs⟩ := r.cells i _ hS'
            rw [x.id i p hi] at hb
            cases hb
            have sq : SqL C.K H' p ys := .inl (.inl hv)
            show match some (fs[k]?.map fun d => D.tup [.int (k : Nat), d]) with | none => True | some none => (Ite C.K p).stop k H' | some (some d) => _
            cases q1 : fs[k]? with
            | none => exact ⟨ys, sq, by rw [hs.length]; exact List.getElem?_eq_none_iff.mp q1⟩
            | some d =>
              obtain ⟨w, hw, hd⟩ := hs.get q1
              refine ⟨⟨ys, w, sq, hw⟩, ?_⟩
              rintro z H2 ⟨T, u, rfl, hT, rfl, f1⟩
              have e1 : u = w := Option.some.inj ((f1 ys sq).symm.trans hw)
              subst e1
              have x2 := ext_new (l := l') (o := .tup [.int (k : Nat), u]) hT
              exact ⟨x2, rel_new r hT, T, _, rfl, upd_same, ⟨_, _, rfl, rfl, _, _, rfl, RD.mono x2 _ _ hd, rfl⟩⟩
          | _ => exact True.intro
      · cases hs
    · cases hs
  · exact hp1.elim
end
end Pyx
/-! list comprehensions -/
namespace Pyx
open PySem PySem.Spec PyProof.Rows L2
def noX {A : Type} (o : Out A) : Out A := match o with
  | .exc _ _ => .bad
  | o => o
def W0 : WX := fun _ _ _ _ => False
def lcLoop (src : Src) (g : GM) (tt : TM) (te : EM) : Nat → Nat → Env' → Sto → List D → Out (List D)
  | 0, _ => fun _ _ _ => .bad
  | f + 1, k => fun e S acc => match src.get S k with
    | none => .bad
    | some none => .ok acc S
    | some (some d) => match g d e with
      | none => .bad
      | some e1 => (noX (tt e1 S)).bind fun b S1 => if b = true then (noX (te e1 S1)).bind fun y S2 => if acc.length < 1000000 then lcLoop src g tt te f (k + 1) e S2 (acc ++ [y]) else .bad
        else lcLoop src g tt te f (k + 1) e S1 acc
def yesM : TM := fun _ S => .ok true S
/-- what becomes of the list: it is never written, or a cell -/
def endL (h : Option (Option Id)) (ds : List D) (S : Sto) : Out D := match h with
  | none => .ok (.lst ds) S
  | some i => alloc i (.lst ds) S
def lcM (h : Option (Option Id)) (vs : List Nat) (im : IM) (g : GM) (tt : TM) (te : EM) : EM := fun e S => (im e S).bind fun src S1 => (lcLoop src g tt te (src.fuel S1) 0 (wipeE e vs) S1 []).bind fun ds S2 => endL h ds S2
theorem post_noX {A B : Type} {C : Ctx} {W : WX} {RA : Lay → Hp → B → Prop} {s : L2.St} {l : Lay} {H : Hp} {o : Out A} {f : A → Sto → Out B} (h : Post C W RA s l H ((noX o).bind f)) : ∃ a S, o = .ok a S ∧ Post C W RA s l H (f a S) := by
  cases o with
  | ok a S => exact ⟨a, S, rfl, h⟩
  | exc x S => exact h.elim
  | bad => exact h.elim
/-! the list under way, at Dl: nobody holds it; it grows -/
theorem tr_grow {l : Lay} {H : Hp} {Dl : Addr} {o o' : HO} (hD : H Dl = some o) (ht : ∀ vs, o ≠ .tup vs) (hn : l.no Dl) : Tr l H l (upd H Dl o') where
  id := fun _ _ h => h
  tup := fun a vs h => by
    rw [upd_ne (ne_of h hD fun e => ht vs e.symm)]
    exact h
  lst := fun a o h n f => by
    rw [upd_ne fun e => f (by rw [e]; exact hn)]
    exact ⟨h, n, f⟩
theorem Rel.grow {C : Ctx} {l : Lay} {S : Sto} {H : Hp} {Dl : Addr} {o o' : HO} (r : Rel C l S H) (hD : H Dl = some o) (ht : ∀ vs, o ≠ .tup vs) (ht' : ∀ vs, o' ≠ .tup vs) (hn : l.no Dl) : Rel C l S (upd H Dl o') where
  cells := fun i c h => by
    obtain ⟨a, ha, hc⟩ := r.cells i c h
    exact ⟨a, ha, hc.tr (tr_grow hD ht hn) (upd_ne fun e => (r.nos Dl hn).2 i (by rw [← e]; exact ha)) rfl⟩
  dom := r.dom
  inj := r.inj
  nos := fun a h => by
    refine ⟨?_, (r.nos a h).2⟩
    by_cases e : a = Dl
    · subst e
      exact ⟨o', upd_same, ht'⟩
    · obtain ⟨⟨u, hv, hz⟩, _⟩ := r.nos a h
      exact ⟨u, by rw [upd_ne e]; exact hv, hz⟩
/-- a base where Dl is free does not see it -/
theorem ExtW.under {l l' : Lay} {H H' : Hp} {Dl : Addr} {o : HO} (x : ExtW l H l' H') (h : H Dl = Option.none) : ExtW l H l' (upd H' Dl o) where
  id := x.id
  keep := fun a u h1 h2 => by
    rw [upd_ne (ne_of_none h1 h)]
    exact x.keep a u h1 h2
  tup := fun a u h1 => by
    rw [upd_ne (ne_of_none h1 h)]
    exact x.tup a u h1
  new := x.new
  no := x.no
/-- one more list under way -/
def Lay.forb (l : Lay) (p : Addr) : Lay := ⟨l.f, fun a => l.no a ∨ a = p, l.lk⟩
/-- .. and no more -/
def Lay.unf (l : Lay) (n : Addr → Prop) : Lay := ⟨l.f, n, l.lk⟩
theorem ext_forb {l : Lay} {H : Hp} {p : Addr} {o : HO} (hp : H p = none) : Ext l H (l.forb p) (upd H p o) where
  id := fun _ _ h => h
  keep := fun a u h _ => by
    rw [upd_ne (ne_of_none h hp)]
    exact h
  tup := fun a u h => by
    rw [upd_ne (ne_of_none h hp)]
    exact h
  new := fun i a h h' => by
    have h'' : l i = some a := h'
    rw [h] at h''
    cases h''
  no := fun a h => by
    rcases h with h | rfl
    · exact .inl h
    · exact .inr hp
  no1 := fun a h => .inl h
  lk := rfl
theorem rel_forb {C : Ctx} {l : Lay} {S : Sto} {H : Hp} {p : Addr} {o : HO} (r : Rel C l S H) (hp : H p = none) (ht : ∀ vs, o ≠ .tup vs) : Rel C (l.forb p) S (upd H p o) where
  cells := fun i c h => by
    obtain ⟨a, ha, hc⟩ := r.cells i c h
    obtain ⟨o', ho, _⟩ := hc.some
    exact ⟨a, ha, hc.mono (ext_forb hp) (upd_ne (ne_of_none ho hp)) rfl⟩
  dom := r.dom
  inj := r.inj
  nos := fun a h => by
    rcases h with h | rfl
    · obtain ⟨⟨vs, hv, hz⟩, hn⟩ := r.nos a h
      exact ⟨⟨vs, by rw [upd_ne (ne_of_none hv hp)]; exact hv, hz⟩, hn⟩
    · exact ⟨⟨o, upd_same, ht⟩, r.fresh hp⟩
/-- the list is done: it is a value, as any other -/
theorem unf_w {l : Lay} {H : Hp} {n : Addr → Prop} (h : ∀ a, n a → l.no a) : ExtW l H (l.unf n) H where
  id := fun _ _ h => h
  keep := fun _ _ h _ => h
  tup := fun _ _ h => h
  new := fun i a h h' => by
    have h'' : l i = some a := h'
    rw [h] at h''
    cases h''
  no := fun a q => .inl (h a q)
theorem rel_unf {C : Ctx} {l : Lay} {S : Sto} {H : Hp} {n : Addr → Prop} (r : Rel C l S H) (h : ∀ a, n a → l.no a) : Rel C (l.unf n) S H where
  cells := fun i c q => by
    obtain ⟨a, ha, hc⟩ := r.cells i c q
    exact ⟨a, ha, hc.monoW (unf_w h) rfl rfl⟩
  dom := r.dom
  inj := r.inj
  nos := fun a q => r.nos a (h a q)
/-- back at the base: all of l but what is under way -/
theorem ext_back {l1 l : Lay} {H1 H : Hp} (x : ExtW l1 H1 l H) (hl : l.lk = l1.lk) : Ext l1 H1 (l.unf l1.no) H where
  id := x.id
  keep := x.keep
  tup := x.tup
  new := x.new
  no := fun a h => .inl h
  no1 := fun a h => h
  lk := hl
/-- the list that was under way becomes a cell -/
theorem tr_adopt {l : Lay} {H : Hp} {p : Addr} {i : Id} {n : Addr → Prop} (hp : l.no p) (hn : ∀ a, n a → l.no a) (hi : l i = none) (hf : ¬ n p) : Tr l H ((l.unf n).add i p) H where
  id := fun j b hj => by
    by_cases e : j = i
    · subst e
      rw [hi] at hj
      cases hj
    · rw [Lay.add_ne e]
      exact hj
  tup := fun _ _ h => h
  lst := fun a o h c f => by
    refine ⟨h, fun j hj => ?_, fun q => f (hn a q)⟩
    by_cases e : j = i
    · subst e
      rw [Lay.add_same] at hj
      cases hj
      exact f hp
    · rw [Lay.add_ne e] at hj
      exact c j hj
section
variable {X : Cx} {C : Ctx} {W : WX}
theorem Tof {m : EM} {s : L2.St} {l : Lay} {H : Hp} {e : Env'} {S S1 : Sto} {d : D} {Q : VK} (he : EnvR C.K l H e s) (hr : Rel C l S H) (hm : m e S = .ok d S1) (k : ∀ v H' l', Ext l H l' H' → Rel C l' S1 H' → RD C.K l' H' d v → Q v H') : T C W m s H Q :=
  ⟨e, S, l, he, hr, by
    rw [hm]
    exact fun H' l' x r v hv => k v H' l' x r hv⟩
theorem TTof {m : TM} {s : L2.St} {l : Lay} {H : Hp} {e : Env'} {S S1 : Sto} {b : Bool} {Q : Bool → Hp → Prop} (he : EnvR C.K l H e s) (hr : Rel C l S H) (hm : m e S = .ok b S1) (k : ∀ H' l', Ext l H l' H' → Rel C l' S1 H' → Q b H') : TT' C W m s H Q :=
  ⟨e, S, l, he, hr, by
    rw [hm]
    exact fun H' l' x r => k H' l' x r⟩
/-- the comprehension's own reading is met -/
theorem lc_ok {vs : List Nat} {im : IM} {is : List Nat} {g : GM} {tt : TM} {te : EM} {h : Option (Option Id)} (his : ∀ j, j ∈ is → j ∈ vs) (s : L2.St) (H : Hp) (Q : VK) (q : T C W (lcM h vs im g tt te) s H Q) : tLc (TI' C W im) (G' C is g) (TT' C W0 tt) (T C W0 te) vs s H Q := by
  obtain ⟨e, S, l, he, hr, hp⟩ := q
  refine ⟨e, S, l, he, hr, ?_⟩
  refine Post.bind hp fun H1 l1 src S1 x1 r1 p1 J hY Dl hD => ?_
  have hew : EnvR C.K l1 H1 (wipeE e vs) (wipe s vs) := wipeE_env (he.mono x1) vs
  have x2 := ext_forb (l := l1) (o := .lst []) hD
  have r2 := rel_forb (o := .lst []) r1 hD (fun _ e => by cases e)
  refine ⟨fun k m H2 => ∃ S2 l2 acc ws, ExtW l1 H1 l2 H2 ∧ l2.lk = l1.lk ∧ (∀ a, l1.no a → l2.no a) ∧ l2.no Dl ∧ Rel C l2 S2 H2 ∧ H2 Dl = some (.lst ws) ∧ RDs C.K l2 H2 acc ws ∧
    Post C W (QE C Q) s l1 H1 ((lcLoop src g tt te m k (wipeE e vs) S2 acc).bind fun ds S2 => endL h ds S2),
    ⟨src.fuel S1, S1, l1.forb Dl, [], [], x2.toExtW, rfl, fun a h => .inl h, .inr rfl, r2, upd_same, rfl, p1⟩, ?_⟩
  rintro k m H2 ⟨S2, l2, acc, ws, x3, hlk, hno, hnD, r3, hw, hacc, p3⟩
  cases m with
  | zero => exact p3.elim
  | succ m =>
    have hy := hY S2 l2 H2 k x3 hlk r3
    unfold lcLoop at p3
    split at p3
    · exact p3.elim
    · rename_i hget
      rw [hget] at hy
      refine .inl ⟨hy, ?_⟩
      have hx := ext_back x3 hlk
      have hr' := rel_unf (n := l1.no) r3 hno
      have hds := RDs.monoW (unf_w (n := l1.no) (H := H2) hno) _ _ hacc
      have hDn : ∀ i, l2 i ≠ some Dl := (r3.nos Dl hnD).2
      have p3' : Post C W (QE C Q) s l1 H1 (endL h acc S2) := p3
      cases h with
      | none => exact p3' H2 _ hx hr' _ ⟨Dl, ws, rfl, ⟨hw, hDn, r1.free hD⟩, hds⟩
      | some i =>
        have p4 : Post C W (QE C Q) s l1 H1 (alloc i (.lst acc) S2) := p3'
        unfold alloc at p4
        split at p4
        · exact p4.elim
        · rename_i hz
          have hdom : l2 (newId i S2) = none := r3.dom _ hz
          have t5 := tr_adopt (H := H2) (i := newId i S2) (n := l1.no) hnD hno hdom (r1.free hD)
          have e5 : Ext l1 H1 ((l2.unf l1.no).add (newId i S2) Dl) H2 := {
            id := fun j b hj => t5.id j b (x3.id j b hj)
            keep := x3.keep
            tup := x3.tup
            new := fun j b h1 h2 => by
              by_cases e : j = newId i S2
              · subst e
                rw [Lay.add_same] at h2
                cases h2
                exact hD
              · rw [Lay.add_ne e] at h2
                exact x3.new j b h1 h2
            no := fun a h => .inl h
            no1 := fun a h => h
            lk := hlk }
          refine p4 H2 _ e5 ?_ _ ⟨Dl, rfl, Lay.add_same⟩
          exact {
            cells := fun j c hj => by
              by_cases e : j = newId i S2
              · subst e
                rw [Sto.set_same] at hj
                cases hj
                exact ⟨Dl, Lay.add_same, ws, hw, RDs.tr t5 _ _ hacc⟩
              · rw [Sto.set_ne e] at hj
                obtain ⟨a, ha, hc⟩ := r3.cells j c hj
                exact ⟨a, t5.id j a ha, hc.tr t5 rfl rfl⟩
            dom := fun j hj => by
              by_cases e : j = newId i S2
              · subst e
                rw [Sto.set_same] at hj
                cases hj
              · rw [Sto.set_ne e] at hj
                rw [Lay.add_ne e]
                exact r3.dom j hj
            inj := fun j k a h1 h2 => by
              by_cases e : j = newId i S2
              · subst e
                rw [Lay.add_same] at h1
                cases h1
                by_cases e2 : k = newId i S2
                · exact e2.symm
                · rw [Lay.add_ne e2] at h2
                  exact (hDn k h2).elim
              · rw [Lay.add_ne e] at h1
                by_cases e2 : k = newId i S2
                · subst e2
                  rw [Lay.add_same] at h2
                  cases h2
                  exact (hDn j h1).elim
                · rw [Lay.add_ne e2] at h2
                  exact r3.inj j k a h1 h2
            nos := fun a ha => by
              obtain ⟨hv, hn⟩ := r3.nos a (hno a ha)
              refine ⟨hv, fun j hj => ?_⟩
              by_cases e : j = newId i S2
              · subst e
                rw [Lay.add_same] at hj
                cases hj
                exact r1.free hD ha
              · rw [Lay.add_ne e] at hj
                exact hn j hj }
    · rename_i d hget
      rw [hget] at hy
      refine .inr ⟨hy.1, fun H' => ∃ m', m' < m + 1 ∧ ∃ S2 l2 acc ws, ExtW l1 H1 l2 H' ∧ l2.lk = l1.lk ∧ (∀ a, l1.no a → l2.no a) ∧ l2.no Dl ∧ Rel C l2 S2 H' ∧ H' Dl = some (.lst ws) ∧ RDs C.K l2 H' acc ws ∧
        Post C W (QE C Q) s l1 H1 ((lcLoop src g tt te m' (k + 1) (wipeE e vs) S2 acc).bind fun ds S2 => endL h ds S2), fun H' hn => hn, fun v H3 hv => ?_⟩
      obtain ⟨x4, r4, hd⟩ := hy.2 v H3 hv
      split at p3
      · exact p3.elim
      · rename_i e1 hge
        have hthr : ∀ i b, l1 i = some b → ∃ o, H2 b = some o := fun i b hi => r3.there (x3.id i b hi)
        have x14 := x3.trans x4.toExtW hthr
        refine ⟨wipeE e vs, S2, l2, d, e1, EnvR.mono x4 (hew.monoW x3), r4, hd, hge, fun s4 he4 hch => ⟨wipe_chg hch his, ?_⟩⟩
        rw [out_assoc] at p3
        obtain ⟨b, S3, hb, p4⟩ := post_noX p3
        refine TTof he4 r4 hb fun H5 l5 x5 r5 => ?_
        have hthr5 : ∀ i b, l1 i = some b → ∃ o, H3 b = some o := fun i b hi => r4.there (x14.id i b hi)
        have x15 := x14.trans x5.toExtW hthr5
        cases b with
        | false =>
          refine iteF ⟨m, Nat.lt_succ_self m, S3, l5, acc, ws, x15, (x5.lk.trans (x4.lk.trans hlk)), fun a ha => x5.no1 a (x4.no1 a (hno a ha)), x5.no1 _ (x4.no1 _ hnD), r5, ?_, RDs.mono x5 _ _ (RDs.mono x4 _ _ hacc), p4⟩
          have hn2 : ∀ i, l2 i ≠ some Dl := (r3.nos Dl hnD).2
          exact x5.keep _ _ (x4.keep _ _ hw hn2) (x4.out hw hn2)
        | true =>
          refine iteT ?_
          have p5 : Post C W (QE C Q) s l1 H1 (((noX (te e1 S3)).bind fun y S2 => if acc.length < 1000000 then lcLoop src g tt te m (k + 1) (wipeE e vs) S2 (acc ++ [y]) else .bad).bind fun ds S2 => endL h ds S2) := p4
          rw [out_assoc] at p5
          obtain ⟨y, S4, hy4, p6⟩ := post_noX p5
          refine Tof (he4.mono x5) r5 hy4 fun w H6 l6 x6 r6 hw6 => ?_
          have hn2 : ∀ i, l2 i ≠ some Dl := (r3.nos Dl hnD).2
          have hw4 := x4.keep _ _ hw hn2
          have hn4 := x4.out hw hn2
          have hw5 := x5.keep _ _ hw4 hn4
          have hn5 := x5.out hw4 hn4
          have hw6' := x6.keep _ _ hw5 hn5
          have hnf := x6.no1 _ (x5.no1 _ (x4.no1 _ hnD))
          have hthr6 : ∀ i b, l1 i = some b → ∃ o, H5 b = some o := fun i b hi => r5.there (x15.id i b hi)
          have x16 := x15.trans x6.toExtW hthr6
          split at p6
          · rename_i hlen
            have hacc6 := RDs.mono x6 _ _ (RDs.mono x5 _ _ (RDs.mono x4 _ _ hacc))
            refine ⟨ws, hw6', by rw [hacc.length]; exact line_small hlen, m, Nat.lt_succ_self m, S4, l6, acc ++ [y], ws ++ [w], x16.under hD, (x6.lk.trans (x5.lk.trans (x4.lk.trans hlk))), fun a ha => x6.no1 a (x5.no1 a (x4.no1 a (hno a ha))), hnf, r6.grow hw6' (fun _ e => by cases e) (fun _ e => by cases e) hnf, upd_same,
              RDs.tr (tr_grow hw6' (fun _ e => by cases e) hnf) _ _ (RDs.append hacc6 ⟨w, [], rfl, hw6, rfl⟩), p6⟩
          · exact p6.elim
theorem PTsmono {ifs : List Expr} {t t' : TT} (h : PTs X ifs t) (k : ∀ s H Q, t' s H Q → t s H Q) : PTs X ifs t' := ⟨fun pins s σ H Q I q => h.run pins s σ H Q I (k σ H Q q)⟩
theorem sdts_nil : PTs X [] (TT' C W yesM) := by
  refine PTsmono pts_nil fun s H Q h => ?_
  obtain ⟨e, S, l, he, hr, hp⟩ := h
  exact Post.pure hr hp
theorem sd_lc {vs : List Nat} {own : List (Str × Nat)} {elt tg iter : Expr} {ifs : List Expr} {scope : Scope} {pos : Pos} {im : IM} {is : List Nat} {g : GM} {tt : TM} {te : EM} {h : Option (Option Id)} (hvs : own.map (·.2) = vs) (his : ∀ j, j ∈ is → j ∈ vs) (hc : X.calm = true) (hN : X.N.Nodup) (hi : PI X tg iter (TI' C W im)) (ok : BlkOk X.N X.env.scope scope own)
    (hg : ∀ (s : Shared) (H : Hp) (Ca : Addr) (cl : List (Str × Addr)) (fp : List Addr), PG (X.blk s H scope (compEnvC scope cl Ca X.env) fp) tg (G' C is g)) (ht : ∀ (s : Shared) (H : Hp) (Ca : Addr) (cl : List (Str × Addr)) (fp : List Addr), PTs (X.blk s H scope (compEnvC scope cl Ca X.env) fp) ifs (TT' C W0 tt))
    (he : ∀ (s : Shared) (H : Hp) (Ca : Addr) (cl : List (Str × Addr)) (fp : List Addr), PE (X.blk s H scope (compEnvC scope cl Ca X.env) fp) elt (T C W0 te)) (hs : noSet iter = true) : PE X (.ListComp elt [⟨tg, iter, ifs, 0⟩] scope pos) (T C W (lcM h vs im g tt te)) := by
  subst hvs
  exact PEmono (pe_lc hc hN hi ok hg ht he fun x => fold_eq hs) fun s H Q q => lc_ok his s H Q q
theorem ss_setLc {vs : List Nat} {own : List (Str × Nat)} {i : Nat} {y : Str} {py : Pos} {elt tg iter : Expr} {ifs : List Expr} {scope : Scope} {pos spos : Pos} {im : IM} {is : List Nat} {g : GM} {tt : TM} {te : EM} {h : Option (Option Id)} (hvs : own.map (·.2) = vs) (his : ∀ j, j ∈ is → j ∈ vs) (hc : X.calm = true) (hN : X.N.Nodup) (hy : X.N[i]? = some y) (hyl : X.env.scope.names.lookup y = some .local)
    (hsw : swapsWith (.ListComp elt [⟨tg, iter, ifs, 0⟩] scope pos) (some (.Name y py)) spos.line X.env = pure true) (hi : PI X tg iter (TI' C W im)) (ok : BlkOk X.N X.env.scope scope own)
    (hg : ∀ (s : Shared) (H : Hp) (Ca : Addr) (cl : List (Str × Addr)) (fp : List Addr), PG (X.blk s H scope (compEnvC scope cl Ca X.env) fp) tg (G' C is g)) (ht : ∀ (s : Shared) (H : Hp) (Ca : Addr) (cl : List (Str × Addr)) (fp : List Addr), PTs (X.blk s H scope (compEnvC scope cl Ca X.env) fp) ifs (TT' C W0 tt))
    (he : ∀ (s : Shared) (H : Hp) (Ca : Addr) (cl : List (Str × Addr)) (fp : List Addr), PE (X.blk s H scope (compEnvC scope cl Ca X.env) fp) elt (T C W0 te)) (hs : noSet iter = true) : PS X (.Assign [.Name y py] (.ListComp elt [⟨tg, iter, ifs, 0⟩] scope pos) spos) (TS' C W (asgM (gNm i) (lcM h vs im g tt te))) := by
  subst hvs
  refine PSmono (ps_setLc hc hN hy hyl hsw hi ok hg ht he fun x => fold_eq hs) fun D' s H q => ?_
  obtain ⟨e, S, l, he, hr, hp⟩ := q
  refine lc_ok his s H _ (Tmono (S_run he hr hp) fun v H1 ⟨l1, d1, S1, he1, hr1, x1, hd1, hp1⟩ => ?_)
  exact PostS.now hr1 (he1.set hd1) hp1
end
end Pyx
/-! enumerate of a tuple -/
namespace PySem
abbrev tupIt (l : Addr) : Obj := { cls := .type "tuple_iterator", data := .fields #[.ref l, .int 0 0] }
abbrev enumOb (a : Addr) : Obj := { cls := .type "enumerate", data := .fields #[.none, .bool false, .ref a, rawInt 0, .none, .none] }
theorem enumTup_new (l : Addr) (its : Array Value) : Meets (Builtin.«enumerate.__new__» ⟨[.type "enumerate", .ref l], []⟩) (fun _ R s =>
    s.heap.IsTuple l its ∧ R (.ok (.ret (.ref (s.heap.push (tupIt l)).objs.size))) { s with heap := (s.heap.push (tupIt l)).push (enumOb s.heap.objs.size) }) :=
  .of_wp fun prog w A R s h => by
    obtain ⟨hp, g, d, tk, os⟩ := s
    obtain ⟨ht, h⟩ := h
    obtain ⟨ob, ho, _⟩ := id ht
    have sb := sub_enumerate
    have ht2 : Heap.IsTuple (Shared.heap ⟨hp, g, d, tk, os⟩) l its := ht
    wp_walk using wpAny_loadPart' ho
    refine wpAny_stack_any fun _ => wpAny_pure ?_
    split
    · rename_i c _ _ _ _ _
      cases (c == Value.type "enumerate") <;> (wp_walk using wpAny_loadPart' ho, wpAny_pyIter_tuple ht2) <;> exact ⟨_, rfl, h⟩
    · wp_walk using wpAny_loadPart' ho, wpAny_pyIter_tuple ht2
      exact ⟨_, rfl, h⟩
section
variable {prog : Program} {w : World} {A : Around} {E : Value → Shared → Prop} {s : Shared}
theorem enumTup_call {l : Addr} {its : Array Value} {Q : Value → Shared → Prop} (hT : s.heap.IsTuple l its)
    (k : ∀ h', IsEnum h' (s.heap.objs.size + 1) s.heap.objs.size 0 .none → h'.IsTupleIter s.heap.objs.size l 0 → h'.objs.size = s.heap.objs.size + 2 → (∀ b o, s.heap.get? b = some o → h'.get? b = some o) →
      Q (.ref (s.heap.objs.size + 1)) { s with heap := h' }) : wpAny (model prog w) A (call (.type "enumerate") [.ref l]) Q E s := by
  refine callType_new F.called_enumerate (by decide) (F.typeCall_enumerate_1 _) (F.newCall_enumerate_1 _)
    (fun o => F.args_object_init_2 o _) F.entry_enumerate_new (enumTup_new l its) ⟨hT, ?_⟩
  have z : (s.heap.push (tupIt l)).objs.size = s.heap.objs.size + 1 := Heap.size_push ..
  show _ ∧ _
  rw [z]
  have he : IsEnum ((s.heap.push (tupIt l)).push (enumOb s.heap.objs.size)) (s.heap.objs.size + 1) s.heap.objs.size 0 .none := by
    have q := Heap.get?_push_size (s.heap.push (tupIt l)) (o := enumOb s.heap.objs.size) rfl
    rw [z] at q
    exact q
  exact ⟨⟨_, he, rfl⟩, k _ he ⟨_, Heap.get?_push_of_some _ (Heap.get?_push_size _ rfl), rfl, rfl⟩
    (by rw [Heap.size_push, z]) fun b o x => Heap.get?_push_of_some _ (Heap.get?_push_of_some _ x)⟩
end
end PySem
namespace Pyx
open PySem PySem.Spec PyProof.Rows L2
def IteT (K : PySem.W.Frag) (a : Addr) : It where
  go := fun i H => ∃ (xs : List V) (x : V), SqT K H a xs ∧ xs[i]? = some x
  yld := fun i H v H' => ∃ T x, v = .ref T ∧ H T = none ∧ H' = upd H T (.tup [.int (i : Nat), x]) ∧ ∀ xs, SqT K H a xs → xs[i]? = some x
  stop := fun i H => ∃ xs : List V, SqT K H a xs ∧ xs.length ≤ i
theorem turnEnumT {P : Program} {w : World} {K : PySem.W.Frag} {elts : List Expr} {kk : Nat} {tpos : Pos} (a e it : Addr) :
    Turn P w K (.Tuple elts kk tpos) (IteT K a) [e, it] e (fun i h => (∃ old, IsEnum h e it ((i : Nat) : Int) old) ∧ h.IsTupleIter it a i ∧ e ≠ it ∧ a ≠ it ∧ a ≠ e) where
  mem := by simp
  obj := fun i h st b hb => by
    obtain ⟨⟨old, he⟩, ⟨o, ho, hc, hd⟩, _⟩ := st
    rcases (show b = e ∨ b = it by simpa using hb) with rfl | rfl
    · exact ⟨_, he, fun v q => nomatch q⟩
    · exact ⟨o, ho, fun v q => by
        rw [hd] at q
        cases q⟩
  keep := fun i h h' st k => by
    obtain ⟨⟨old, he⟩, hi, hne, h4, h5⟩ := st
    exact ⟨⟨old, k e (by simp) _ he⟩, hi.at fun o q => k it (by simp) o q, hne, h4, h5⟩
  item := by
    intro X hP hw hK hc i pins s σ H E I hf st hg
    subst hP hw hK
    obtain ⟨⟨old, he⟩, hit, hne, h4, h5⟩ := st
    obtain ⟨xs, x, hq, hx⟩ := hg
    obtain ⟨its, rv, tp, hz⟩ := I.tuple hq
    have tp' : s.heap.IsTuple a its.toArray := tp
    obtain ⟨u, hu, ru⟩ := rv.get hx
    have el : e < s.heap.objs.size := Heap.lt_size he
    have il : it < s.heap.objs.size := by
      obtain ⟨_, q, _⟩ := hit
      exact Heap.lt_size q
    have hi : i < its.toArray.size := by
      have := (List.getElem?_eq_some_iff.mp hu).1
      simpa using this
    have Dr := Draws.tuple (prog := X.prog) (w := X.w) (A := X.A.in1) (by exact I.ok.hd hc) it a h4 its.toArray
    refine wpAny_pyNext_enum_itemD Dr he ⟨hit, tp'⟩ hi hne (by simp [hne, h5.symm]) fun y h' tk hy ho hst hT hsz hk => ?_
    have hyu : y = u := by
      have hy' : its.toArray[i]? = some y := hy
      have hy2 : its[i]? = some y := by simpa using hy'
      exact Option.some.inj (hy2.symm.trans hu)
    subst hyu
    refine ⟨_, rfl, wpAny_letOwnedTupleGo_enum (s := { s with heap := h', toks := tk + 1 }) ho fun h'' he' sb => ?_⟩
    have tT : h''.get? s.heap.objs.size = some { cls := .type "tuple", data := .seq #[.int i tk, y] } := (sb.2 _ (Nat.ne_of_gt el)).trans hT
    have nw : ObjOk X.prog X.w (upd H s.heap.objs.size (.tup [.int (i : Nat), x])) h'' s.heap.objs.size (.tup [.int (i : Nat), x]) :=
      ⟨by show 2 ≤ sizeLine; decide, [.int i tk, y], .cons ⟨_, rfl⟩ (.cons ru .nil), ⟨_, tT, rfl, _, rfl⟩⟩
    have I1 : Inv X pins σ (upd H s.heap.objs.size (.tup [.int (i : Nat), x])) { s with heap := h'', toks := tk + 1 } := by
      refine I.turnedNew (ch := [e, it]) (fun b ob hb q => ?_) hf (Nat.le_refl _) nw
      have b1 : b ≠ e := fun z => hb (by simp [z])
      have b2 : b ≠ it := fun z => hb (by simp [z])
      exact (sb.2 b b1).trans (hk b ob b1 b2 q)
    refine ⟨.ref s.heap.objs.size, _, I1, rfl, ⟨_, x, rfl, I.hok.fresh (Nat.le_refl _), rfl, fun ys hy => ?_⟩, ⟨⟨y, ?_⟩, hst.1.at fun o q => (sb.2 it (Ne.symm hne)).trans q, hne, h4, h5⟩, fun b hb => ?_⟩
    · rw [I.tuple_inj hy hq]
      exact hx
    · rw [show ((i + 1 : Nat) : Int) = (i : Int) + 1 by omega]
      exact he'
    · have bl : b < s.heap.objs.size := by
        rcases (show b = e ∨ b = it by simpa using hb) with rfl | rfl
        · exact el
        · exact il
      rw [upd_ne (Nat.ne_of_lt bl)]
      exact (hf b hb).1
  done := by
    intro X hP hw hK hc i pins s σ H E I hf st hg
    subst hP hw hK
    obtain ⟨⟨old, he⟩, hit, hne, h4, h5⟩ := st
    obtain ⟨xs, hq, hx⟩ := hg
    obtain ⟨its, rv, tp, hz⟩ := I.tuple hq
    have tp' : s.heap.IsTuple a its.toArray := tp
    obtain ⟨f0, f1, f2, f3, f4, f5⟩ := hf it (by simp)
    have hl := rv.length
    have hno : its.toArray[i]? = none := by
      rw [Array.getElem?_eq_none_iff]
      simp only [List.size_toArray]
      omega
    have Dn : Draws X.prog X.w X.A.in1 it [it, a] 0 (fun _ _ => False) (fun j h => h.IsTupleIter it a i ∧ h.IsTuple a its.toArray) := {
      live := fun _ _ z => by
        obtain ⟨o, ho, _⟩ := z.1
        exact ⟨o, ho⟩
      frame := fun _ _ _ z hk => ⟨z.1.at fun o q => hk it (by simp) o q, z.2.at fun o q => hk a (by simp) o q⟩
      item := fun j s' Q' E' hj => absurd hj (Nat.not_lt_zero j)
      done := fun s' Q' E' z hE => wpAny_nextOf_tuple_end (show X.A.in1.handled = none from I.ok.hd hc) z.1 z.2 hno hE }
    exact wpAny_pyNext_enum_endD Dn he ⟨hit, tp'⟩ fun h' eb => ⟨rfl, I.turned (t' := s.toks) (fun b o hb q => eb b o hb q) f0 f1 f3 f4 f5⟩
  self := fun A i s Q E st h => by
    obtain ⟨⟨_, he⟩, _⟩ := st
    exact wpAny_pyIter_enum he h
def iEnumT (K : PySem.W.Frag) (ta : TA) : TI := fun σ H R => ta σ H fun vs H1 => ∃ a xs, vs = [.ref a] ∧ SqT K H1 a xs ∧ R (IteT K a) H1
theorem pi_enumT {X : Cx} {e : Expr} {ta : TA} {p pos tpos : Pos} {elts : List Expr} {kk : Nat} (hg : Gl X "enumerate") (hm : X.mg "enumerate" = none) (ha : PA X [e] ta) (hs : starEach [e] X.env = [(false, eval e X.env)] := by rfl) :
    PI X (.Tuple elts kk tpos) (.Call (.Name "enumerate" p) [e] [] pos) (iEnumT X.K ta) := by
  refine ⟨fun pins s σ H R I h => ?_⟩
  refine Call_ (ld_blt I hg hm boot_enumerate (PyProof.Rows.callWith_type1 (thn (ha.run pos pins s σ H _ I h) fun us s1 ⟨vs, H1, I1, r1, q1⟩ => ?_) hs rfl))
  obtain ⟨a, xs, rfl, hq, q⟩ := q1
  obtain ⟨u, rfl, ru⟩ := vals1 r1
  obtain rfl : u = Value.ref a := ru
  obtain ⟨its, rv, tp, hz⟩ := I1.tuple hq
  have tp' : s1.heap.IsTuple a its.toArray := tp
  have al : a < s1.heap.objs.size := by
    obtain ⟨o, ho, _⟩ := id tp'
    exact Heap.lt_size ho
  refine enumTup_call tp' fun h' he hit hsz hk => wpAny_pyIter_enum he ?_
  have I2 : Inv X pins σ H1 { s1 with heap := h' } := I1.kept (t' := s1.toks) hk
  refine ⟨s1.heap.objs.size + 1, [s1.heap.objs.size + 1, s1.heap.objs.size], _, _, H1, rfl, I2, turnEnumT a (s1.heap.objs.size + 1) s1.heap.objs.size, ⟨⟨.none, he⟩, hit, Nat.succ_ne_self _, Nat.ne_of_lt al, Nat.ne_of_lt (Nat.lt_succ_of_lt al)⟩, fun b hb => ?_, q⟩
  have hle : s1.heap.objs.size ≤ b := by
    rcases (show b = s1.heap.objs.size + 1 ∨ b = s1.heap.objs.size by simpa using hb) with rfl | rfl
    · exact Nat.le_add_right _ _
    · exact Nat.le_refl _
  exact I1.fpOk hle (I1.hok.fresh hle)
/-- enumerate of a list, of a tuple -/
def enumS2 (x : D) (S : Sto) : Option Src := match x with
  | .tup ds => some (.fix (enum0 ds))
  | .ktup ds => some (.fix (enum0 ds))
  | .ptup ds => some (.fix (enum0 ds))
  | x => enumS x S
def enumI2 (t : AM) : IM := fun e S => (t e S).bind fun ds S1 => match ds with
  | [x] => ofO (enumS2 x S1) S1
  | _ => .bad
def isTup : D → Bool
  | .tup _ => true
  | .ktup _ => true
  | .ptup _ => true
  | _ => false
theorem enumS2_no {x : D} {S : Sto} (h : isTup x = false) : enumS2 x S = enumS x S := by
  cases x <;> first | rfl | cases h
section
variable {X : Cx} {C : Ctx} {W : WX}
theorem yld_enumT {l : Lay} {H : Hp} {es : List D} {p : Addr} (h : ∀ l' H', ExtW l H l' H' → ∃ vs, SqT C.K H' p vs ∧ RDs C.K l' H' es vs) : Yld C (IteT C.K p) (.fix (enum0 es)) l H := by
  intro S' l' H' k x _ r
  obtain ⟨xs, sq, hx'⟩ := h l' H' x
  show match some (enum0 es)[k]? with | none => True | some none => (IteT C.K p).stop k H' | some (some d) => _
  unfold enum0
  rw [List.getElem?_mapIdx]
  cases q1 : es[k]? with
  | none => exact ⟨xs, sq, by rw [hx'.length]; exact List.getElem?_eq_none_iff.mp q1⟩
  | some d =>
    obtain ⟨w, hw, hd⟩ := hx'.get q1
    refine ⟨⟨xs, w, sq, hw⟩, ?_⟩
    rintro z H2 ⟨T, u, rfl, hT, rfl, f1⟩
    have e1 : u = w := Option.some.inj ((f1 xs sq).symm.trans hw)
    subst e1
    have x2 := ext_new (l := l') (o := .tup [.int (k : Nat), u]) hT
    exact ⟨x2, rel_new r hT, T, _, rfl, upd_same, ⟨_, _, rfl, rfl, _, _, rfl, RD.mono x2 _ _ hd, rfl⟩⟩
theorem sp_enum2 {a : Expr} {p pos tpos : Pos} {elts : List Expr} {kk : Nat} {m : AM} (hK : C.K = X.K) (hg : Gl X "enumerate") (hm : X.mg "enumerate" = none) (ha : PA X [a] (TA' C W m)) (h1 : noStar a = true) :
    PI X (.Tuple elts kk tpos) (.Call (.Name "enumerate" p) [a] [] pos) (TI' C W (enumI2 m)) := by
  have q1 := sp_enum (W := W) (p := p) (pos := pos) (tpos := tpos) (elts := elts) (kk := kk) hK hg hm ha h1
  have q2 := pi_enumT (p := p) (pos := pos) (tpos := tpos) (elts := elts) (kk := kk) hg hm ha (star_eq h1)
  refine ⟨fun pins s σ H R I h => ?_⟩
  obtain ⟨e, S, l, he, hr, hp⟩ := h
  by_cases hc : ∃ x S1, m e S = .ok [x] S1 ∧ isTup x = true
  · obtain ⟨x, S1, em, ht⟩ := hc
    refine q2.run pins s σ H R I ?_
    refine ⟨e, S, l, he, hr, ?_⟩
    unfold enumI2 at hp
    rw [em] at hp ⊢
    have hp' : Post C W (fun l' H' src => ∀ J, Yld C J src l' H' → R J H') σ l H (ofO (enumS2 x S1) S1) := hp
    intro H1 l1 x1 r1 ws hv
    obtain ⟨v, rfl, hw⟩ := hv.one
    cases x with
    | tup es =>
      obtain ⟨b, xs, rfl, tp, hx⟩ := RD.tupE hw
      refine ⟨b, xs, rfl, hK ▸ tp.sq, hp' H1 l1 x1 r1 _ ?_⟩
      exact hK ▸ yld_enumT (stays_tup tp hx)
    | ktup es =>
      obtain ⟨b, xs, rfl, tp, hx⟩ := (show ∃ a vs, v = .ref a ∧ KTup C.K a vs ∧ RDs C.K l1 H1 es vs from hw)
      refine ⟨b, xs, rfl, hK ▸ .inr tp, hp' H1 l1 x1 r1 _ ?_⟩
      exact hK ▸ yld_enumT fun l' H' x => ⟨xs, .inr tp, RDs.monoW x _ _ hx⟩
    | ptup es =>
      obtain ⟨b, xs, rfl, tp, hx⟩ := (show ∃ a vs, v = .ref a ∧ PTup l1 H1 a vs ∧ RDs C.K l1 H1 es vs from hw)
      refine ⟨b, xs, rfl, hK ▸ tp.sq, hp' H1 l1 x1 r1 _ ?_⟩
      exact hK ▸ yld_enumT (stays_ptup tp hx)
    | _ => cases ht
  · refine q1.run pins s σ H R I ⟨e, S, l, he, hr, ?_⟩
    have ee : enumI m e S = enumI2 m e S := by
      unfold enumI enumI2
      cases em : m e S with
      | bad => rfl
      | exc x S1 => rfl
      | ok ds S1 =>
        rcases ds with _ | ⟨x, _ | ⟨y, r⟩⟩
        · rfl
        · show ofO (enumS x S1) S1 = ofO (enumS2 x S1) S1
          rw [enumS2_no]
          cases ht : isTup x with
          | false => rfl
          | true => exact (hc ⟨x, S1, em, ht⟩).elim
        · rfl
    rw [ee]
    exact hp
end
end Pyx
/-! a tuple turned round -/
namespace HTR
open PySem PySem.Spec PyProof.Rows HT
section
variable {prog : Program} {w : World} {A : Around} {E : Value → Shared → Prop} {s : Shared}
theorem revAdjust (n : Nat) : Builtin.Slice.sliceAdjust none none (-1) (n : Int) = ((n : Int) - 1, -1) := rfl
theorem revPlaces (n : Nat) : Builtin.Slice.slicePlaces ((n : Int) - 1) (-1) (-1) = n := by
  unfold Builtin.Slice.slicePlaces
  have h1 : ¬ ((-1 : Int) > 0) := by decide
  rw [if_neg h1]
  split
  · rw [show (- -1 : Int) = 1 by decide, Int.ediv_one]
    omega
  · omega
theorem revApplied {sl : Addr} {vk : Value} {n : Nat} {Q : Int × Int × Nat → Shared → Prop} (hs : s.heap.IsSliceOf sl .none .none vk) (pk : IsPart vk (some (-1)))
    (h : Q ((n : Int) - 1, -1, n) s) : wpAny (model prog w) A (Builtin.Slice.sliceApplied (.ref sl) (pure (n : Int))) Q E s := by
  obtain ⟨os, hos, hcs, hds⟩ := id hs
  unfold Builtin.Slice.sliceApplied Builtin.Slice.sliceFields
  refine wpAny_bind (wpAny_bind (wpAny_field hos hds (x := .none) rfl (wpAny_bind (wpAny_field hos hds (x := .none) rfl (wpAny_bind (wpAny_field hos hds (x := vk) rfl (wpAny_pure ?_)))))))
  refine wpAny_bind (slicePart_ pk ?_)
  show wpAny _ _ (if ((-1 : Int) == 0) = true then _ else _) _ _ s
  rw [if_neg (by decide)]
  refine wpAny_bind (slicePart_none (wpAny_bind (slicePart_none (wpAny_bind (wpAny_pure ?_)))))
  show wpAny _ _ (match Builtin.Slice.sliceAdjust none none (-1) (n : Int) with | (lo, hi) => pure (lo, (-1 : Int), Builtin.Slice.slicePlaces lo hi (-1))) _ _ s
  rw [revAdjust n]
  show wpAny _ _ (pure ((n : Int) - 1, (-1 : Int), Builtin.Slice.slicePlaces ((n : Int) - 1) (-1) (-1))) _ _ s
  rw [revPlaces n]
  exact wpAny_pure h
theorem fmCongr {α β : Type} {f g : α → Option β} : ∀ {l : List α}, (∀ x ∈ l, f x = g x) → l.filterMap f = l.filterMap g
  | [], _ => rfl
  | x :: l, h => by
    have h1 := h x (List.mem_cons_self ..)
    have h2 := fmCongr (l := l) fun y hy => h y (List.mem_cons_of_mem _ hy)
    rw [List.filterMap_cons, List.filterMap_cons, h1, h2]
theorem revPick (xs : Array Value) : ((List.range xs.size).filterMap fun (k : Nat) => xs[(((xs.size : Int) - 1) + (k : Int) * (-1)).toNat]?).toArray = xs.toList.reverse.toArray := by
  have e : (List.range xs.size).filterMap (fun (k : Nat) => xs[(((xs.size : Int) - 1) + (k : Int) * (-1)).toNat]?) = ((List.range xs.size).map fun k => xs.size - 1 - k).filterMap (xs[·]?) := by
    rw [List.filterMap_map]
    refine fmCongr fun k hk => ?_
    have := List.mem_range.mp hk
    have h2 : (((xs.size : Int) - 1) + (k : Int) * (-1)).toNat = xs.size - 1 - k := by omega
    rw [h2]
    rfl
  rw [e, PySem.W.krv_range, List.filterMap_reverse, PySem.W.krv_all]
theorem getItem_tuple_rev {t sl : Addr} {items : Array Value} {vk : Value} {Q : Value → Shared → Prop} (ht : IsTup s.heap t items) (hs : s.heap.IsSliceOf sl .none .none vk) (pk : IsPart vk (some (-1)))
    (h : Q (.ref s.heap.objs.size) { s with heap := s.heap.push { cls := .type "tuple", data := .seq items.toList.reverse.toArray } })
    (hsz : items.size ≤ sizeLine) : wpAny (model prog w) A (getItem (.ref t) (.ref sl)) Q E s := by
  have hrev : sizeOk (.seq items.toList.reverse.toArray) := by
    show items.toList.reverse.toArray.size ≤ sizeLine
    rw [List.size_toArray, List.length_reverse, Array.length_toList]
    exact hsz
  obtain ⟨os, hos, hcs, hds⟩ := id hs
  have hTs : s.TypeIs (.ref sl) "slice" := ⟨os, hos, hcs⟩
  unfold getItem
  try with_reducible refine wpAny_holding ?_
  first | refine wpAny_bind (wpAny_pure ?_) | skip
  refine wpAny_bind (wpAny_sequenceKey ht.typeIs (by decide) ?_)
  refine wpAny_bind (wpAny_callSpecial?_slot (name := Str.ofString "__getitem__") ht.typeIs PyProof.Rows.slot_tuple_getitem
    (wpAny_call_entry PyProof.Rows.slot_tuple_getitem ht.typeIs entry_tuple_getitem ?_ (args_tuple_getitem _ _)))
  show wpAny _ _ (Builtin.Tuple.tupleItemsOf (.ref t) >>= _) _ _ s
  refine wpAny_bind (tupleItemsOf_ ht ?_)
  refine wpAny_bind (wpAny_typeOf hTs ?_)
  rw [if_pos (by decide)]
  refine wpAny_bind (revApplied hs pk ?_)
  have hno : ¬ ((((items.size : Int) - 1) == 0 && (-1 : Int) == 1 && items.size == items.size) = true) := by
    rw [show ((-1 : Int) == 1) = false by decide, Bool.and_false, Bool.false_and]
    exact Bool.false_ne_true
  show wpAny _ _ (if (((items.size : Int) - 1) == 0 && (-1 : Int) == 1 && items.size == items.size) = true then _ else _) _ _ s
  rw [if_neg hno, revPick]
  first
    | exact wpAny_bind (m := Builtin.Tuple.tupleExact _) (wpAny_newObj_type (wpAny_pure ⟨_, rfl, wpAny_pure h⟩) hrev)
    | exact wpAny_bind (m := Builtin.Tuple.tupleExact _) (wpAny_newObj_type (wpAny_bind (wpAny_pure (wpAny_pure ⟨_, rfl, wpAny_pure h⟩))) hrev)
    | exact wpAny_bind (wpAny_bind (m := Builtin.Tuple.tupleExact _) (wpAny_newObj_type (wpAny_pure (wpAny_pure ⟨_, rfl, wpAny_pure h⟩)) hrev))
    | exact wpAny_bind (wpAny_bind (m := Builtin.Tuple.tupleExact _) (wpAny_newObj_type (wpAny_pure ⟨_, rfl, wpAny_pure h⟩) hrev))
end
end HTR
namespace Pyx
open PySem PySem.Spec PyProof.Rows L2
section
variable {X : Cx}
def tRevT (K : PySem.W.Frag) (te : TE) : TE := fun σ H Q => te σ H fun x H1 => ∃ a xs, x = .ref a ∧ SqT K H1 a xs ∧ ∀ p, H1 p = none → Q (.ref p) (upd H1 p (.tup xs.reverse))
theorem pe_revT {e : Expr} {te : TE} {k : Nat} {p1 p2 p3 pos : Pos} (he : PE X e te) : PE X (.Subscript e (.Slice none none (some (.UnaryOp .USub (.Constant (.int 1) k p1) p2)) p3) pos) (tRevT X.K te) := by
  refine ⟨fun pins s σ H Q I h => ?_⟩
  refine Subscript_ (thn (he.run pins s σ H _ I h) fun v s1 ⟨x, H1, I1, r1, q1⟩ => ?_)
  obtain ⟨a, xs, rfl, hx, q⟩ := q1
  cases r1
  have hst : PO X (some (.UnaryOp .USub (.Constant (.int 1) k p1) p2)) (tPart (tUn (rU fun i => .int (-i)) (tC (.int 1)))) := po_some (pe_un un_neg pe_int)
  refine wpAny_Slice (thn (po_none.run pins s1 σ H1 (fun o H2 => o = none ∧ H2 = H1) I1 ⟨rfl, rfl⟩) fun vl s2 ⟨l, H2, I2, pl, el, e2⟩ => ?_)
  subst el e2
  refine thn (po_none.run pins s2 σ H2 (fun o H3 => o = none ∧ H3 = H2) I2 ⟨rfl, rfl⟩) fun vu s3 ⟨u, H3, I3, pu, eu, e3⟩ => ?_
  subst eu e3
  refine thn (hst.run pins s3 σ H3 (fun o H4 => o = some (-1) ∧ H4 = H3) I3 ⟨1, rfl, -1, rfl, rfl, rfl⟩) fun vs s4 ⟨o, H4, I4, ps, eo, e4⟩ => ?_
  subst eo e4
  cases pl
  cases pu
  have I5 : Inv X pins σ H4 { s4 with heap := s4.heap.push { cls := .type "slice", data := .fields #[.none, .none, vs] } } := I4.kept (t' := s4.toks) fun b ob q => Heap.get?_push_of_some _ q
  obtain ⟨its, r, ht, hz⟩ := I5.tuple hx
  have hlen := r.length
  show wpAny (model X.prog X.w) X.A (subscriptTail e (.Slice none none (some (.UnaryOp .USub (.Constant (.int 1) k p1) p2)) p3) (.ref a) (.ref s4.heap.objs.size)) (EP X pins σ Q) X.xe { s4 with heap := s4.heap.push { cls := .type "slice", data := .fields #[.none, .none, vs] } }
  refine tail_any (ops := [.ref a, .ref s4.heap.objs.size]) ht.typeIs (PyProof.Rows.slot_tuple_getitem.lookup) ?_ (by with_unfolding_all rfl)
  refine HTR.getItem_tuple_rev ht (Heap.IsSliceOf.new _ _ _ vs) ps ?_ (by rw [List.size_toArray]; omega)
  refine ⟨.ref _, _, I5.laid (t' := s4.toks) (o := .tup xs.reverse) (fun b ob q => Heap.get?_push_of_some _ q) (Nat.le_refl _) ?_, rfl, q _ (I5.hok.fresh (Nat.le_refl _))⟩
  exact ⟨by rw [List.length_reverse]; exact hz, _, r.reverse, IsTup.new _ _⟩
end
def revT (a : EM) : EM := fun e S => (a e S).bind fun x S1 => match x with
  | .tup ds => .ok (.tup ds.reverse) S1
  | _ => .bad
section
variable {X : Cx} {C : Ctx} {W : WX} (hK : C.K = X.K)
include hK
theorem sd_revT {e : Expr} {k : Nat} {p1 p2 p3 pos : Pos} {m : EM} (he : PE X e (T C W m)) : PE X (.Subscript e (.Slice none none (some (.UnaryOp .USub (.Constant (.int 1) k p1) p2)) p3) pos) (T C W (revT m)) := by
  refine PEmono (pe_revT he) fun s H Q h => ?_
  obtain ⟨e, S, l, he, hr, hp⟩ := h
  refine Tmono (T_run he hr hp) fun v H1 ⟨l1, d, S1, he1, hr1, x1, hd1, hp1⟩ => ?_
  cases d with
  | tup ds =>
    obtain ⟨a, xs, rfl, tp, hx⟩ := RD.tupE hd1
    refine ⟨a, xs, rfl, hK ▸ tp.sq, fun p hn => ?_⟩
    exact (VPost.of (show ∀ H' l', Ext l1 H1 l' H' → Rel C l' S1 H' → QE C Q l' H' (.tup ds.reverse) from hp1)).tup hr1 hx.reverse hn
  | _ => exact hp1.elim
/-! ### isinstance -/
theorem sd_isi {t : String} {x : Str} {p p2 pos : Pos} {ex : Expr} {m : EM} (hg : Gl X "isinstance") (hm : X.mg "isinstance" = none) (hgx : Gl X x) (hmx : X.mg x = none) (hvx : bootBuiltins x = some (.type t)) (hnx : x ≠ "__name__") (hdx : (x == ("__debug__" : Str)) = false)
    (ha : PE X ex (T C W m)) (hs : noStar ex = true) : PE X (.Call (.Name "isinstance" p) [ex, .Name x p2] [] pos) (T C W (isiM t m)) := by
  refine PEmono (pe_callB call_isi hg hm rfl (pa_cons ha (pa_cons (pe_bltn (v := .ty t) hgx hmx hvx rfl hnx hdx) pa_nil) (star_eq hs)) (by decide) (by decide) (star_eq hs) (star_any (es := [.Name x p2]) rfl)) fun s H Q h => ?_
  obtain ⟨e, S, l, he, hr, hp⟩ := h
  refine Tmono (T_run he hr hp) fun v H1 ⟨l1, d, S1, he1, hr1, x1, hd1, hp1⟩ => ?_
  obtain ⟨r, hs, hp1⟩ := post_ofO hp1
  unfold isiF at hs
  cases ht : tyName S1 d with
  | none =>
    rw [ht] at hs
    cases hs
  | some n =>
    rw [ht] at hs
    cases hk : kitB n t with
    | none =>
      have : (kitB n t).map D.bl = some r := hs
      rw [hk] at this
      cases this
    | some b =>
      have : (kitB n t).map D.bl = some r := hs
      rw [hk] at this
      cases this
      refine ⟨v, .ty t, .type n, .type t, b, rfl, .ty t, hK ▸ ty_ok hK hr1 hd1 ht, kit_ty hk, hp1 H1 l1 (Ext.refl _ _) hr1 _ rfl⟩
/-! ### sorted -/
def alikeB (ds : List PyData) : Bool := ds.all fun d => ds.all fun d' => PySem.W.alike d d'
def sortableB (ds : List PyData) : Bool := (ds.all fun d => match d with
    | .tuple (_ :: _) => true
    | _ => false) || ds.all fun d => match d with
    | .none => false
    | .tuple _ => false
    | _ => true
omit hK in
theorem alike_by {ds : List PyData} (h : alikeB ds = true) : PySem.W.AllAlike ds := fun d hd d' hd' => by
  unfold alikeB at h
  exact List.all_eq_true.mp (List.all_eq_true.mp h d hd) d' hd'
omit hK in
theorem sortable_by {ds : List PyData} (h : sortableB ds = true) : PySem.W.Sortable ds := by
  unfold sortableB at h
  rcases Bool.or_eq_true_iff.mp h with h | h
  · refine .inl fun d hd => ?_
    have := List.all_eq_true.mp h d hd
    split at this
    · exact ⟨_, _, rfl⟩
    · cases this
  · refine .inr fun d hd => ?_
    have := List.all_eq_true.mp h d hd
    split at this
    · cases this
    · cases this
    · rename_i h1 h2
      exact ⟨h1, h2⟩
def sortF : List D → Sto → Option D
  | [d], S => (listD S d).bind fun ds => if noCells ds && alikeB (ds.map py) && sortableB (ds.map py) && ds.all (fun d => decide ((py d).depth ≤ 50)) then some (.lst (ds.mergeSort (PySem.W.dataLe false py))) else none
  | _, _ => none
omit hK in
theorem each_of {K : PySem.W.Frag} {l : Lay} {H : Hp} {R : Value → D → Prop} : ∀ {ds : List D} {vs : List V} {us : List Value}, RDs K l H ds vs → Vals vs us → (∀ d v u, d ∈ ds → RD K l H d v → RelV v u → R u d) → PySem.W.EachIs R us ds
  | [], vs, us, h, r, k => by
    cases h
    cases r
    exact .nil
  | d :: ds, vs, us, h, r, k => by
    obtain ⟨v, ws, rfl, h1, h2⟩ := h
    cases r with
    | cons r rr => exact .cons (k d v _ (List.mem_cons_self ..) h1 r) (each_of h2 rr fun d v u hd => k d v u (List.mem_cons_of_mem _ hd))
omit hK in
theorem of_each {K : PySem.W.Frag} {l : Lay} {H : Hp} : ∀ {us : List Value} {ds : List D}, PySem.W.EachIs (fun u d => ∃ v, RelV v u ∧ RD K l H d v) us ds → ∃ vs, Vals vs us ∧ RDs K l H ds vs
  | _, _, .nil => ⟨[], .nil, rfl⟩
  | _, _, .cons ⟨v, r, h⟩ t => by
    obtain ⟨vs, rr, hh⟩ := of_each t
    exact ⟨v :: vs, .cons r rr, v, vs, rfl, h, hh⟩
omit hK in
theorem noCells_mem : ∀ {ds : List D}, noCells ds = true → ∀ d ∈ ds, noCell d = true
  | [], _, d, h => by cases h
  | e :: ds, h, d, hd => by
    unfold noCells at h
    rw [Bool.and_eq_true] at h
    rcases List.mem_cons.mp hd with rfl | hd
    · exact h.1
    · exact noCells_mem h.2 d hd
theorem cl_sorted (hu : X.A.units + 64 < cLine) : CallR X (.builtin "sorted") (rC C sortF) := by
  intro pins s σ H xs us Q I rs h
  obtain ⟨S, l, ds, d, hr, hd, hg, hp⟩ := h
  unfold sortF at hg
  split at hg
  · rename_i x
    obtain ⟨v, rfl, h1⟩ := hd.one
    cases hL : listD S x with
    | none =>
      rw [hL] at hg
      cases hg
    | some es =>
      rw [hL] at hg
      have hg' : (if (noCells es && alikeB (es.map py) && sortableB (es.map py) && es.all (fun d => decide ((py d).depth ≤ 50))) = true then some (D.lst (es.mergeSort (PySem.W.dataLe false py))) else none) = some d := hg
      split at hg'
      · rename_i hc
        cases hg'
        simp only [Bool.and_eq_true] at hc
        obtain ⟨⟨⟨n1, n2⟩, n3⟩, n4⟩ := hc
        obtain ⟨a, vs, rfl, sq, hes⟩ := list_ok hr h1 hL
        obtain ⟨u, rfl, ru⟩ := vals1 rs
        obtain rfl : u = Value.ref a := ru
        obtain ⟨its, rv, pl, hz⟩ := I.list (hK ▸ sq)
        have e1 : PySem.W.EachIs (fun u d => ∃ v, RelV v u ∧ RD C.K l H d v) its es := each_of hes rv fun d v u _ h r => ⟨v, r, h⟩
        have e2 : PySem.W.EachIs (fun u d => ∃ as, Reads s.heap u (py d) as) its es := each_of hes rv fun d v u hm h r => Dp.reads I _ v u (hK ▸ (RD.dp d v h (noCells_mem n1 d hm)).1) r
        have hlen : es.length = vs.length := hes.length.symm
        refine PySem.W.sorted_data pl.isList e1 e2 (alike_by n2) (sortable_by n3) (by rw [hlen]; exact hz) (fun b hb => ?_) fun out ho eo => ?_
        · have := of_decide_eq_true (List.all_eq_true.mp n4 b hb)
          omega
        · obtain ⟨ws, r2, h2⟩ := of_each eo
          obtain ⟨n, hn⟩ := sortedAll_at s.heap its out.toArray
          refine ⟨.ref (s.heap.objs.size + 1), _, I.laid (t' := s.toks) (o := .lst ws) (fun b o e => sortedAll_old e) (Nat.le_succ _) ⟨?_, out, n, r2, hn⟩, rfl, hp.lst hr h2 (I.hok.fresh (Nat.le_succ _))⟩
          rw [r2.length, ho, hlen]
          exact hz
      · cases hg'
  · cases hg
/-! ### list(x), as a cell -/
theorem sd_listC {i : Option Id} {p pos : Pos} {ex : Expr} {m : EM} (hg : Gl X "list") (hm : X.mg "list" = none) (ha : PE X ex (T C W m)) (hs : noStar ex = true) : PE X (.Call (.Name "list" p) [ex] [] pos) (T C W (listC i m)) := by
  refine PEmono (pe_callTy call_list_of hg hm rfl (pa_cons ha pa_nil (star_eq hs)) (by decide) (by decide) (star_eq hs) rfl) fun s H Q h => ?_
  obtain ⟨e, S, l, he, hr, hp⟩ := h
  refine Tmono (T_run he hr hp) fun v H1 ⟨l1, d, S1, he1, hr1, x1, hd1, hp1⟩ => ?_
  split at hp1
  · rename_i ds hi
    obtain ⟨a, vs, rfl, sq, hd⟩ := items_ok hr1 hd1 hi
    exact ⟨a, vs, rfl, hK ▸ sq, fun p hn => alloc_ok hp1 hr1 hn fun l' x => ⟨vs, upd_same, RDs.mono x _ _ hd⟩⟩
  · exact hp1.elim
end
end Pyx
/-! o[i] = e; raise; the rest of the statements -/
namespace Pyx
open PySem PySem.Spec PyProof.Rows L2
def lput (x i d : D) (S : Sto) : Option Sto := match x with
  | .cell j => match S.at_ j with
    | some (.lst ds) => match i with
      | .int k => (ixN ds.length k).map fun n => S.set j (.lst (ds.set n d))
      | _ => none
    | _ => none
  | _ => none
def setI (x i d : D) (S : Sto) : Option Sto := match dput x i d S with
  | some S' => some S'
  | none => lput x i d S
def putM (o i a : EM) : SM := fun e S => liftS (a e S) e fun d S1 => liftS (o e S1) e fun x S2 => liftS (i e S2) e fun y S3 => ofS (setI x y d S3) e
theorem lput_ok {C : Ctx} {S S' : Sto} {l : Lay} {H : Hp} {a b d : D} {x y v : V} (r : Rel C l S H) (ha : RD C.K l H a x) (hb : RD C.K l H b y) (hd : RD C.K l H d v) (e : lput a b d S = some S') :
    ∃ p xs k j, x = .ref p ∧ y = .int k ∧ H p = some (.lst xs) ∧ ixN xs.length k = some j ∧ Ext l H l (upd H p (.lst (xs.set j v))) ∧ Rel C l S' (upd H p (.lst (xs.set j v))) := by
  unfold lput at e
  split at e
  · rename_i i
    split at e
    · rename_i ds hS
      split at e
      · rename_i k
        obtain ⟨n, hn, rfl⟩ := Option.map_eq_some_iff.mp e
        obtain ⟨p, rfl, hi⟩ := ha
        obtain ⟨p', hp', vs, hv, hq⟩ := r.cells i _ hS
        rw [hi] at hp'
        cases hp'
        cases hb
        have x := ext_set (i := i) (o := .lst (vs.set n v)) r hi
        refine ⟨p, vs, k, n, rfl, rfl, hv, by rw [hq.length]; exact hn, x, rel_set r hi ⟨vs.set n v, upd_same, ?_⟩⟩
        exact RDs.mono x _ _ (hq.set n hd)
      · cases e
    · cases e
  · cases e
theorem S_runE {C : Ctx} {W : WX} {D' : Ends} {s : L2.St} {l : Lay} {H : Hp} {e : Env'} {S : Sto} {m : EM} {f : D → Sto → SO} (he : EnvR C.K l H e s) (hr : Rel C l S H) (hp : PostS C W D' l H (liftS (m e S) e f)) :
    T C W m s H fun v H1 => ∃ l1 d S1, m e S = .ok d S1 ∧ EnvR C.K l1 H1 e s ∧ Rel C l1 S1 H1 ∧ Ext l H l1 H1 ∧ RD C.K l1 H1 d v ∧ PostS C W D' l1 H1 (f d S1) := by
  refine ⟨e, S, l, he, hr, ?_⟩
  cases q : m e S with
  | bad =>
    rw [q] at hp
    exact hp
  | exc x S1 =>
    rw [q] at hp
    intro H' l' c d x r rx
    exact hp s H' l' c d x r (he.mono x) rx
  | ok d S1 =>
    rw [q] at hp
    intro H1 l1 x r v hv
    exact ⟨l1, d, S1, rfl, he.mono x, r, x, hv, PostS.mono (show PostS C W D' l H (f d S1) from hp) x r⟩
def noSl (e : Expr) : Bool := match e with
  | .Slice _ _ _ _ => false
  | .Tuple es _ _ => es.all fun x => match x with
    | .Slice _ _ _ _ => false
    | _ => true
  | _ => true
theorem swap_sub {e o i : Expr} {p : Pos} {n : Nat} {env : Env} : swapsWith e (some (.Subscript o i p)) n env = pure false := by
  cases e <;> rfl
theorem swap_att {e o : Expr} {x : Str} {p : Pos} {n : Nat} {env : Env} : swapsWith e (some (.Attribute o x p)) n env = pure false := by
  cases e <;> rfl
theorem asg_sub {o i : Expr} {pos : Pos} {env : Env} (h : noSlice i = true) (v : Value) : assign (.Subscript o i pos) env v = (do
      let ov ← holding [v] (eval o env)
      let iv ← holding [v, ov] (eval i env)
      standAt pos
      holding [v, ov, iv] (setItem ov iv v)
      release [v, ov, iv] []) := by
  cases i <;> first
    | rfl
    | cases h
section
variable {X : Cx} {C : Ctx} {W : WX}
theorem ss_put {o i ex : Expr} {pos pos' : Pos} {mo mi m : EM} (hu : X.A.units + 1 < cLine) (ho : PE X o (T C W mo)) (hi : PE X i (T C W mi)) (h : PE X ex (T C W m)) (hs : noSlice i = true) :
    PS X (.Assign [.Subscript o i pos'] ex pos) (TS' C W (putM mo mi m)) := by
  have h1 := ps_asg (pos := pos) h (pg_sub (pos := pos') ho hi set_list (asg_sub hs)) (show swapsWith ex (some (.Subscript o i pos')) pos.line X.env = pure false from swap_sub) rfl rfl
  have h2 := ps_dput (pos := pos) (pos' := pos') hu ho hi h swap_sub
  refine ⟨fun pins s σ H D' I q => ?_⟩
  obtain ⟨e, S, l, he, hr, hp⟩ := q
  by_cases hc : ∃ d S1 x S2 y S3 S', m e S = .ok d S1 ∧ mo e S1 = .ok x S2 ∧ mi e S2 = .ok y S3 ∧ dput x y d S3 = some S'
  · obtain ⟨d, S1, x, S2, y, S3, S', e1, e2, e3, e4⟩ := hc
    refine h2.run pins s σ H D' I ?_
    refine ⟨e, S, l, he, hr, ?_⟩
    have hp' : PostS C W D' l H (.nx e S') := by
      have : putM mo mi m e S = .nx e S' := by
        unfold putM
        rw [e1]
        show liftS (mo e S1) e _ = _
        rw [e2]
        show liftS (mi e S2) e _ = _
        rw [e3]
        show ofS (setI x y d S3) e = _
        unfold setI
        rw [e4]
        rfl
      rw [← this]
      exact hp
    rw [e1]
    intro H1 l1 x1 r1 v hv
    refine ⟨e, S1, l1, he.mono x1, r1, ?_⟩
    rw [e2]
    intro H2 l2 x2 r2 w hw
    refine ⟨e, S2, l2, (he.mono x1).mono x2, r2, ?_⟩
    rw [e3]
    intro H3 l3 x3 r3 u hu
    obtain ⟨p, H', rfl, dp, x4, r4⟩ := dput_ok r3 (RD.mono x3 _ _ hw) hu (RD.mono x3 _ _ (RD.mono x2 _ _ hv)) e4
    exact ⟨p, H', rfl, dp, hp' σ H' l3 ((x1.thru (x2.thru (x3.thru x4 r3) r2) r1)) r4 (((he.mono x1).mono x2).mono x3 |>.mono x4)⟩
  · refine h1.run pins s σ H D' I ?_
    refine Tmono (S_runE he hr hp) fun v H1 ⟨l1, d1, S1, em1, he1, hr1, x1, hd1, hp1⟩ => Tmono (S_runE he1 hr1 hp1) fun w H2 ⟨l2, d2, S2, em2, he2, hr2, x2, hd2, hp2⟩ => Tmono (S_runE he2 hr2 hp2) fun u H3 ⟨l3, d3, S3, em3, he3, hr3, x3, hd3, hp3⟩ => ?_
    have hz : dput d2 d3 d1 S3 = none := by
      cases q : dput d2 d3 d1 S3 with
      | none => rfl
      | some S' => exact (hc ⟨_, _, _, _, _, _, _, em1, em2, em3, q⟩).elim
    unfold setI at hp3
    rw [hz] at hp3
    have hp4 : PostS C W D' l3 H3 (ofS (lput d2 d3 d1 S3) e) := hp3
    cases q : lput d2 d3 d1 S3 with
    | none =>
      rw [q] at hp4
      exact hp4.elim
    | some S' =>
      rw [q] at hp4
      obtain ⟨p, xs, k, j, rfl, rfl, h1, h2, h3, h4⟩ := lput_ok hr3 (RD.mono x3 _ _ hd2) hd3 (RD.mono x3 _ _ (RD.mono x2 _ _ hd1)) q
      exact ⟨p, xs, k, j, rfl, rfl, h1, h2, hp4 σ _ l3 h3 h4 (he3.mono h3)⟩
end
/-! ### raise X('..'), X an exception class without its own __init__ -/
def raiseM (c : Nat) : SM := fun e S => .exc ⟨c, none⟩ e S
/-- what is known of such a class -/
structure ExcIs (X : Cx) (C : Ctx) (x : Str) (c : Nat) : Prop where
  mg : X.mg x = some (.ref (C.xad c))
  ex : PySem.W.excIn X.K (C.xad c) He.veBase "ValueError.__new__" = true
  kp : PySem.W.keepIn X.K (.ref (C.xad c)) = true
  sub : PySem.W.subIn X.K (.ref (C.xad c)) (.type "BaseException") = some true
  ty : PySem.W.typeIn X.K (.ref (C.xad c)) = some (.type "type")
section
variable {X : Cx} {C : Ctx} {W : WX}
theorem ss_raise {x m : Str} {j c : Nat} {p p2 cpos pos : Pos} (hc : X.calm = true) (tk : Takes X W) (E : ExcIs X C x c) (hg : Gl X x) (hd : (x == ("__debug__" : Str)) = false) :
    PS X (.Raise (some (.Call (.Name x p) [.Constant (.str m) j p2] [] cpos)) none pos) (TS' C W (raiseM c)) := by
  refine PSmono (ps_raise hc tk (pmk_own F.excBase_ValueError E.ex E.mg E.kp (raises_own E.sub E.ty) hg hd)) fun D' s H h => ?_
  obtain ⟨e, S, l, he, hr, hp⟩ := h
  exact hp s H l _ _ (Ext.refl _ _) hr he ⟨rfl, rfl⟩
end
/-! ### try .. except X: return .. -/
def tryM (ca : Nat → Bool) (body hand : SM) : SM := fun e S => match body e S with
  | .exc x e' S' => if ca x.c = true then hand e' S' else .bad
  | o => o
section
variable {X : Cx} {C : Ctx} {W : WX}
theorem ss_try {x : Str} {c : Value} {body suite : List Stmt} {b0 : Stmt} {np pos pos' : Pos} {mb mh : SM} {ca : Nat → Bool} (hs : X.stack = X.env :: X.outer) (hf : X.env.frame = some X.env.locals) (hc : Names X x c) (tk : Takes X W) (hca : ∀ k, ca k = true → PySem.W.exmOne X.K (.ref (C.xad k)) c = some true)
    (hb : ∀ (W' : WX) (pn : List (Addr × Obj)) (xe : Value → Shared → Prop), Takes (X.tr pn xe) W' → PassesOwn (model X.prog X.w) X.A X.env xe → PSs (X.tr pn xe) body (TS' C W' mb))
    (hh : ∀ (a : Addr) (pn : List (Addr × Obj)), PSs (X.suite a pn) (b0 :: suite) (TS' C W0 mh))
    (hx : ∀ e S, match mh e S with | .exc _ _ _ => False | _ => True) : PS X (.Try body [.ExceptHandler (some (.Name x np)) none (b0 :: suite) pos'] [] [] pos) (TS' C W (tryM ca mb mh)) := by
  refine PSmono (ps_try_only (Wout := W) (tb := fun W' => TS' C W' mb) (ts := fun _ _ _ => TS' C W0 mh) hs hf hc tk hb (fun a oe cls d pn _ _ => hh a _)) fun D' s H h => ?_
  obtain ⟨e, S, l, he, hr, hp⟩ := h
  refine ⟨e, S, l, he, hr, ?_⟩
  unfold tryM at hp
  generalize mb e S = o at hp ⊢
  cases o with
  | nx e' S' => exact hp
  | rt d S' => exact hp
  | bk e' S' => exact hp
  | ct e' S' => exact hp
  | bad => exact hp
  | exc y e' S' =>
    have hp' : PostS C W D' l H (if ca y.c = true then mh e' S' else .bad) := hp
    split at hp'
    · rename_i hy
      intro s' H' l' cls d x1 r1 he1 rx
      obtain ⟨rx1, _⟩ := rx
      subst rx1
      refine ⟨true, hca _ hy, fun _ a ha => ⟨e', S', l', he1, r1, ?_⟩, fun z => by cases z⟩
      have := PostS.mono hp' x1 r1
      have nx := hx e' S'
      revert this nx
      generalize mh e' S' = o
      intro this nx
      cases o with
      | exc _ _ _ => exact nx.elim
      | nx e2 S2 => exact this
      | rt d S2 => exact this
      | bk e2 S2 => exact this
      | ct e2 S2 => exact this
      | bad => exact this
    · exact hp'.elim
end
end Pyx
/-! more statements and expressions (built behind Py13, ahead of Py14) -/
namespace Pyx
open PySem PySem.Spec PyProof.Rows L2
/-- d[k] op= e -/
def daugM (g : D → D → Sto → Option D) (o i a : EM) : SM := fun e S => liftS (o e S) e fun x S1 => liftS (i e S1) e fun y S2 => match dget x y S2 with
  | some (some v) => liftS (a e S2) e fun d S3 => match g v d S3 with
    | some z => ofS (dput x y z S3) e
    | none => .bad
  | _ => .bad
theorem aug_ix {i : Expr} (h : noSlice i = true) : ∀ ov iv new, augStore i ov iv new = (do holding [new, ov, iv] (setItem ov iv new); release [new, ov, iv] []; pure .next) := by
  intro ov iv new
  cases i <;> first
    | rfl
    | cases h
section
variable {X : Cx} {C : Ctx} {W : WX}
theorem ss_daug {o i ex : Expr} {op : Operator} {g : D → D → Sto → Option D} {pos tpos : Pos} {mo mi m : EM} (hu : X.A.units + 1 < cLine) (ho : PE X o (T C W mo)) (hi : PE X i (T C W mi)) (h : PE X ex (T C W m)) (hop : InOp X op (rB C g)) (hs : noSlice i = true) :
    PS X (.AugAssign (.Subscript o i tpos) op ex pos) (TS' C W (daugM g mo mi m)) := by
  refine PSmono (ps_daug hu ho hi h hop (aug_ix hs)) fun D' s H h => ?_
  obtain ⟨e, S, l, he, hr, hp⟩ := h
  refine Tmono (S_run he hr hp) fun v H1 ⟨l1, d1, S1, he1, hr1, x1, hd1, hp1⟩ => Tmono (S_run he1 hr1 hp1) fun w H2 ⟨l2, d2, S2, he2, hr2, x2, hd2, hp2⟩ => ?_
  split at hp2
  · rename_i v2 hg
    obtain ⟨p, ov, rfl, dg, hov⟩ := dget_ok hr2 (RD.mono x2 _ _ hd1) hd2 hg
    obtain ⟨v', rfl, hv'⟩ := hov
    refine ⟨p, v', rfl, dg, Tmono (S_run he2 hr2 hp2) fun u H3 ⟨l3, d3, S3, he3, hr3, x3, hd3, hp3⟩ => ?_⟩
    split at hp3
    · rename_i z hz
      refine ⟨S3, l3, v2, d3, z, hr3, RD.mono x3 _ _ hv', hd3, hz, fun H4 l4 x4 r4 y hy => ?_⟩
      cases q : dput d1 d2 z S3 with
      | none =>
        rw [q] at hp3
        exact hp3.elim
      | some S' =>
        rw [q] at hp3
        obtain ⟨p', H5, e1, dp, x5, r5⟩ := dput_ok r4 (RD.mono x4 _ _ (RD.mono x3 _ _ (RD.mono x2 _ _ hd1))) (RD.mono x4 _ _ (RD.mono x3 _ _ hd2)) hy q
        cases e1
        exact ⟨H5, dp, hp3 s H5 l4 (x4.thru x5 r4) r5 ((he3.mono x4).mono x5)⟩
    · exact hp3.elim
  · exact hp2.elim
end
/-! ### xs[k] op= e of a list of the store, k at 0 or above -/
def lget (x i : D) (S : Sto) : Option D := match x, i with
  | .cell j, .int k => match S.at_ j with
    | some (.lst ds) => if 0 ≤ k then ds[k.toNat]? else none
    | _ => none
  | _, _ => none
def laugM (g : D → D → Sto → Option D) (o i a : EM) : SM := fun e S => liftS (o e S) e fun x S1 => liftS (i e S1) e fun y S2 => match lget x y S2 with
  | some v => liftS (a e S2) e fun d S3 => match g v d S3 with
    | some z => ofS (lput x y z S3) e
    | none => .bad
  | none => .bad
theorem lget_ok {C : Ctx} {S : Sto} {l : Lay} {H : Hp} {a b d : D} {x y : V} (r : Rel C l S H) (ha : RD C.K l H a x) (hb : RD C.K l H b y) (e : lget a b S = some d) :
    ∃ p xs k v, x = .ref p ∧ y = .int k ∧ H p = some (.lst xs) ∧ 0 ≤ k ∧ xs[k.toNat]? = some v ∧ RD C.K l H d v := by
  unfold lget at e
  split at e
  · rename_i j k
    split at e
    · rename_i ds hS
      split at e
      · rename_i hk
        obtain ⟨p, rfl, hi⟩ := ha
        obtain ⟨p', hp', vs, hv, hq⟩ := r.cells j _ hS
        rw [hi] at hp'
        cases hp'
        cases hb
        obtain ⟨v, h1, h2⟩ := hq.get e
        exact ⟨p, vs, k, v, rfl, rfl, hv, hk, h1, h2⟩
      · cases e
    · cases e
  · cases e
section
variable {X : Cx} {C : Ctx} {W : WX}
theorem ss_laug {o i ex : Expr} {op : Operator} {g : D → D → Sto → Option D} {pos tpos : Pos} {mo mi m : EM} (ho : PE X o (T C W mo)) (hi : PE X i (T C W mi)) (h : PE X ex (T C W m)) (hop : InOp X op (rB C g)) (hs : noSlice i = true) :
    PS X (.AugAssign (.Subscript o i tpos) op ex pos) (TS' C W (laugM g mo mi m)) := by
  refine ⟨fun pins s0 s H D' I q => ?_⟩
  obtain ⟨e, S, l, he, hr, hp⟩ := q
  refine wpAny_AugAssign_SubscriptAny (thn (ho.run pins s0 s H _ I (S_run he hr hp)) fun ov s1 ⟨x, H1, I1, rx, l1, d1, S1, he1, hr1, x1, hd1, hp1⟩ => thn (hi.run pins s1 s H1 _ I1 (S_run he1 hr1 hp1)) fun iv s2 ⟨y, H2, I2, ry, l2, d2, S2, he2, hr2, x2, hd2, hp2⟩ => ?_) (aug_ix hs)
  split at hp2
  · rename_i v2 hg
    obtain ⟨p, xs, k, v, rfl, rfl, hv, hk, hx, hdv⟩ := lget_ok hr2 (RD.mono x2 _ _ hd1) hd2 hg
    cases rx
    obtain ⟨t, rfl⟩ := ry
    obtain ⟨its, n, r, hob, hz⟩ := I2.lst hv
    obtain ⟨u, hu, ru⟩ := r.get hx
    have hfit : k < 2 ^ 63 := by
      have h1 := (List.getElem?_eq_some_iff.mp hx).1
      have h2 := line63
      omega
    refine getItem_listL (l := its) ⟨_, hob, rfl, n, rfl⟩ hk hfit hu ?_
    refine thn (h.run pins s2 s H2 _ I2 (S_run he2 hr2 hp2)) fun w s3 ⟨y2, H3, I3, ry2, l3, d3, S3, he3, hr3, x3, hd3, hp3⟩ => ?_
    split at hp3
    · rename_i z hzz
      cases q : lput d1 d2 z S3 with
      | none =>
        rw [q] at hp3
        exact hp3.elim
      | some S' =>
        rw [q] at hp3
        refine thn (hop pins s3 s H3 v y2 u w (fun z' H4 => ∃ H5, rSetL (.ref p) (.int k) z' H4 (fun H5' => H5' = H5) ∧ D'.nx s H5) I3 ru ry2 ⟨S3, l3, v2, d3, z, hr3, RD.mono x3 _ _ hdv, hd3, hzz, fun H4 l4 x4 r4 y hy => ?_⟩) fun w3 s4 ⟨z', H4, I4, rz, H5, hset, hnx⟩ => ?_
        · obtain ⟨p', xs', k', j, e1, e2, h1, h2, h3, h4⟩ := lput_ok r4 (RD.mono x4 _ _ (RD.mono x3 _ _ (RD.mono x2 _ _ hd1))) (RD.mono x4 _ _ (RD.mono x3 _ _ hd2)) hy q
          cases e1
          cases e2
          exact ⟨_, ⟨p, xs', k, j, rfl, rfl, h1, h2, rfl⟩, hp3 s _ l4 (x4.thru h3 r4) h4 ((he3.mono x4).mono h3)⟩
        · refine thn (set_list pins s4 s H4 (.ref p) (.int k) z' (.ref p) (.int k t) w3 _ I4 rfl ⟨t, rfl⟩ rz hset) fun _ s5 ⟨H6, I5, e6⟩ => ?_
          subst e6
          exact ⟨s, _, I5, hnx⟩
    · exact hp3.elim
  · exact hp2.elim
end
end Pyx
/-! [..] * n, made for a cell (built behind Py26, ahead of Py14) -/
namespace Pyx
open PySem PySem.Spec PyProof.Rows L2
def repC (h : Option Id) (a b : EM) : EM := fun e S => (a e S).bind fun x S1 => (b e S1).bind fun y S2 => match x, y with
  | .lst ds, .int k => if 0 ≤ k ∧ k < 1000 ∧ ds.length < 1000 then alloc h (.lst (List.replicate k.toNat ds).flatten) S2 else .bad
  | _, _ => .bad
theorem RDs.rep {K : PySem.W.Frag} {l : Lay} {H : Hp} {ds : List D} {vs : List V} (h : RDs K l H ds vs) : ∀ n, RDs K l H (List.replicate n ds).flatten (List.replicate n vs).flatten
  | 0 => rfl
  | n + 1 => by
    rw [List.replicate_succ, List.replicate_succ, List.flatten_cons, List.flatten_cons]
    exact RDs.append h (RDs.rep h n)
section
variable {X : Cx} {C : Ctx} {W : WX}
theorem sd_repC {i : Option Id} {a b : Expr} {ma mb : EM} {pos : Pos} (ha : PE X a (T C W ma)) (hb : PE X b (T C W mb)) : PE X (.BinOp a .Mult b pos) (T C W (repC i ma mb)) := by
  refine PEmono (pe_op op_rep ha hb) fun s H Q h => ?_
  obtain ⟨e, S, l, he, hr, hp⟩ := h
  refine Tmono (T_run he hr hp) fun v H1 ⟨l1, d1, S1, he1, hr1, x1, hd1, hp1⟩ => Tmono (T_run he1 hr1 hp1) fun w H2 ⟨l2, d2, S2, he2, hr2, x2, hd2, hp2⟩ => ?_
  cases d1 with
  | lst ds =>
    cases d2 with
    | int k =>
      have hp3 : Post C W (QE C Q) s l2 H2 (if 0 ≤ k ∧ k < 1000 ∧ ds.length < 1000 then alloc i (.lst (List.replicate k.toNat ds).flatten) S2 else .bad) := hp2
      split at hp3
      · rename_i hk
        obtain ⟨p, vs, rfl, tp, hx⟩ := RD.lstE (RD.mono x2 _ _ hd1)
        cases hd2
        have hlen : vs.length * k.toNat ≤ sizeLine := by
          have h1 := hx.length
          have : vs.length * k.toNat ≤ 1000 * 1000 := Nat.mul_le_mul (by omega) (by omega)
          exact Nat.le_trans this (by decide)
        exact ⟨p, k, vs, rfl, rfl, tp.1, by omega, by omega, hlen, fun q hq => alloc_ok hp3 hr2 hq fun l' x => ⟨_, upd_same, RDs.mono x _ _ (RDs.rep hx k.toNat)⟩⟩
      · exact hp3.elim
    | _ => exact hp2.elim
  | _ => exact hp2.elim
/-- .. that is never written -/
def repF (a b : EM) : EM := fun e S => (a e S).bind fun x S1 => (b e S1).bind fun y S2 => match x, y with
  | .lst ds, .int k => if 0 ≤ k ∧ k < 1000 ∧ ds.length < 1000 then .ok (.lst (List.replicate k.toNat ds).flatten) S2 else .bad
  | _, _ => .bad
theorem sd_repF {a b : Expr} {ma mb : EM} {pos : Pos} (ha : PE X a (T C W ma)) (hb : PE X b (T C W mb)) : PE X (.BinOp a .Mult b pos) (T C W (repF ma mb)) := by
  refine PEmono (pe_op op_rep ha hb) fun s H Q h => ?_
  obtain ⟨e, S, l, he, hr, hp⟩ := h
  refine Tmono (T_run he hr hp) fun v H1 ⟨l1, d1, S1, he1, hr1, x1, hd1, hp1⟩ => Tmono (T_run he1 hr1 hp1) fun w H2 ⟨l2, d2, S2, he2, hr2, x2, hd2, hp2⟩ => ?_
  cases d1 with
  | lst ds =>
    cases d2 with
    | int k =>
      have hp3 : Post C W (QE C Q) s l2 H2 (if 0 ≤ k ∧ k < 1000 ∧ ds.length < 1000 then .ok (.lst (List.replicate k.toNat ds).flatten) S2 else .bad) := hp2
      split at hp3
      · rename_i hk
        obtain ⟨p, vs, rfl, tp, hx⟩ := RD.lstE (RD.mono x2 _ _ hd1)
        cases hd2
        have hlen : vs.length * k.toNat ≤ sizeLine := by
          have h1 := hx.length
          have : vs.length * k.toNat ≤ 1000 * 1000 := Nat.mul_le_mul (by omega) (by omega)
          exact Nat.le_trans this (by decide)
        exact ⟨p, k, vs, rfl, rfl, tp.1, by omega, by omega, hlen, fun q hq => (VPost.of hp3).lst hr2 (RDs.rep hx k.toNat) hq⟩
      · exact hp3.elim
    | _ => exact hp2.elim
  | _ => exact hp2.elim
end
end Pyx
/-! dict comprehensions (built behind Py27, ahead of Py14) -/
namespace Pyx
open PySem PySem.Spec PyProof.Rows L2
def dcLoop (src : Src) (g : GM) (tt : TM) (tk te : EM) : Nat → Nat → Env' → Sto → List (Key × D) → Out (List (Key × D))
  | 0, _ => fun _ _ _ => .bad
  | f + 1, k => fun e S acc => match src.get S k with
    | none => .bad
    | some none => .ok acc S
    | some (some d) => match g d e with
      | none => .bad
      | some e1 => (noX (tt e1 S)).bind fun b S1 => if b = true then (noX (tk e1 S1)).bind fun q S2 => (noX (te e1 S2)).bind fun y S3 => match keyD q with
          | some q => if acc.length < 1000000 then dcLoop src g tt tk te f (k + 1) e S3 (putD acc q y) else .bad
          | none => .bad
        else dcLoop src g tt tk te f (k + 1) e S1 acc
def dcM (h : Option Id) (vs : List Nat) (im : IM) (g : GM) (tt : TM) (tk te : EM) : EM := fun e S => (im e S).bind fun src S1 => (dcLoop src g tt tk te (src.fuel S1) 0 (wipeE e vs) S1 []).bind fun ds S2 => alloc h (.dK ds) S2
section
variable {X : Cx} {C : Ctx} {W : WX}
/-- the comprehension's own reading is met -/
theorem dc_ok {vs : List Nat} {im : IM} {is : List Nat} {g : GM} {tt : TM} {tk te : EM} {i : Option Id} (his : ∀ j, j ∈ is → j ∈ vs) (s : L2.St) (H : Hp) (Q : VK) (q : T C W (dcM i vs im g tt tk te) s H Q) : tDc (TI' C W im) (G' C is g) (TT' C W0 tt) (T C W0 tk) (T C W0 te) vs s H Q := by
  obtain ⟨e, S, l, he, hr, hp⟩ := q
  refine ⟨e, S, l, he, hr, ?_⟩
  refine Post.bind hp fun H1 l1 src S1 x1 r1 p1 J hY Dl hD => ?_
  have hew : EnvR C.K l1 H1 (wipeE e vs) (wipe s vs) := wipeE_env (he.mono x1) vs
  have x2 := ext_forb (l := l1) (o := .dK []) hD
  have r2 := rel_forb (o := .dK []) r1 hD (fun _ e => by cases e)
  refine ⟨fun k m H2 => ∃ S2 l2 acc ws, ExtW l1 H1 l2 H2 ∧ l2.lk = l1.lk ∧ (∀ a, l1.no a → l2.no a) ∧ l2.no Dl ∧ Rel C l2 S2 H2 ∧ H2 Dl = some (.dK ws) ∧ RKV C.K l2 H2 acc ws ∧
    Post C W (QE C Q) s l1 H1 ((dcLoop src g tt tk te m k (wipeE e vs) S2 acc).bind fun ds S2 => alloc i (.dK ds) S2),
    ⟨src.fuel S1, S1, l1.forb Dl, [], [], x2.toExtW, rfl, fun a h => .inl h, .inr rfl, r2, upd_same, .nil, p1⟩, ?_⟩
  rintro k m H2 ⟨S2, l2, acc, ws, x3, hlk, hno, hnD, r3, hw, hacc, p3⟩
  cases m with
  | zero => exact p3.elim
  | succ m =>
    have hy := hY S2 l2 H2 k x3 hlk r3
    unfold dcLoop at p3
    split at p3
    · exact p3.elim
    · rename_i hget
      rw [hget] at hy
      refine .inl ⟨hy, ?_⟩
      have hx := ext_back x3 hlk
      have hr' := rel_unf (n := l1.no) r3 hno
      have hDn : ∀ i, l2 i ≠ some Dl := (r3.nos Dl hnD).2
      have p4 : Post C W (QE C Q) s l1 H1 (alloc i (.dK acc) S2) := p3
      unfold alloc at p4
      split at p4
      · exact p4.elim
      · rename_i hz
        have hdom : l2 (newId i S2) = none := r3.dom _ hz
        have t5 := tr_adopt (H := H2) (i := newId i S2) (n := l1.no) hnD hno hdom (r1.free hD)
        have e5 : Ext l1 H1 ((l2.unf l1.no).add (newId i S2) Dl) H2 := {
          id := fun j b hj => t5.id j b (x3.id j b hj)
          keep := x3.keep
          tup := x3.tup
          new := fun j b h1 h2 => by
            by_cases e : j = newId i S2
            · subst e
              rw [Lay.add_same] at h2
              cases h2
              exact hD
            · rw [Lay.add_ne e] at h2
              exact x3.new j b h1 h2
          no := fun a h => .inl h
          no1 := fun a h => h
          lk := hlk }
        refine p4 H2 _ e5 ?_ _ ⟨Dl, rfl, Lay.add_same⟩
        exact {
          cells := fun j c hj => by
            by_cases e : j = newId i S2
            · subst e
              rw [Sto.set_same] at hj
              cases hj
              exact ⟨Dl, Lay.add_same, ws, hw, RKV.tr t5 hacc⟩
            · rw [Sto.set_ne e] at hj
              obtain ⟨a, ha, hc⟩ := r3.cells j c hj
              exact ⟨a, t5.id j a ha, hc.tr t5 rfl rfl⟩
          dom := fun j hj => by
            by_cases e : j = newId i S2
            · subst e
              rw [Sto.set_same] at hj
              cases hj
            · rw [Sto.set_ne e] at hj
              rw [Lay.add_ne e]
              exact r3.dom j hj
          inj := fun j k a h1 h2 => by
            by_cases e : j = newId i S2
            · subst e
              rw [Lay.add_same] at h1
              cases h1
              by_cases e2 : k = newId i S2
              · exact e2.symm
              · rw [Lay.add_ne e2] at h2
                exact (hDn k h2).elim
            · rw [Lay.add_ne e] at h1
              by_cases e2 : k = newId i S2
              · subst e2
                rw [Lay.add_same] at h2
                cases h2
                exact (hDn j h1).elim
              · rw [Lay.add_ne e2] at h2
                exact r3.inj j k a h1 h2
          nos := fun a ha => by
            obtain ⟨hv, hn⟩ := r3.nos a (hno a ha)
            refine ⟨hv, fun j hj => ?_⟩
            by_cases e : j = newId i S2
            · subst e
              rw [Lay.add_same] at hj
              cases hj
              exact r1.free hD ha
            · rw [Lay.add_ne e] at hj
              exact hn j hj }
    · rename_i d hget
      rw [hget] at hy
      refine .inr ⟨hy.1, fun H' => ∃ m', m' < m + 1 ∧ ∃ S2 l2 acc ws, ExtW l1 H1 l2 H' ∧ l2.lk = l1.lk ∧ (∀ a, l1.no a → l2.no a) ∧ l2.no Dl ∧ Rel C l2 S2 H' ∧ H' Dl = some (.dK ws) ∧ RKV C.K l2 H' acc ws ∧
        Post C W (QE C Q) s l1 H1 ((dcLoop src g tt tk te m' (k + 1) (wipeE e vs) S2 acc).bind fun ds S2 => alloc i (.dK ds) S2), fun H' hn => hn, fun v H3 hv => ?_⟩
      obtain ⟨x4, r4, hd⟩ := hy.2 v H3 hv
      split at p3
      · exact p3.elim
      · rename_i e1 hge
        have hthr : ∀ i b, l1 i = some b → ∃ o, H2 b = some o := fun i b hi => r3.there (x3.id i b hi)
        have x14 := x3.trans x4.toExtW hthr
        refine ⟨wipeE e vs, S2, l2, d, e1, EnvR.mono x4 (hew.monoW x3), r4, hd, hge, fun s4 he4 hch => ⟨wipe_chg hch his, ?_⟩⟩
        rw [out_assoc] at p3
        obtain ⟨b, S3, hb, p4⟩ := post_noX p3
        refine TTof he4 r4 hb fun H5 l5 x5 r5 => ?_
        have hthr5 : ∀ i b, l1 i = some b → ∃ o, H3 b = some o := fun i b hi => r4.there (x14.id i b hi)
        have x15 := x14.trans x5.toExtW hthr5
        cases b with
        | false =>
          refine iteF ⟨m, Nat.lt_succ_self m, S3, l5, acc, ws, x15, (x5.lk.trans (x4.lk.trans hlk)), fun a ha => x5.no1 a (x4.no1 a (hno a ha)), x5.no1 _ (x4.no1 _ hnD), r5, ?_, RKV.mono x5 (RKV.mono x4 hacc), p4⟩
          have hn2 : ∀ i, l2 i ≠ some Dl := (r3.nos Dl hnD).2
          exact x5.keep _ _ (x4.keep _ _ hw hn2) (x4.out hw hn2)
        | true =>
          refine iteT ?_
          have p5 : Post C W (QE C Q) s l1 H1 (((noX (tk e1 S3)).bind fun q S2 => (noX (te e1 S2)).bind fun y S3 => match keyD q with
            | some q => if acc.length < 1000000 then dcLoop src g tt tk te m (k + 1) (wipeE e vs) S3 (putD acc q y) else .bad
            | none => .bad).bind fun ds S2 => alloc i (.dK ds) S2) := p4
          rw [out_assoc] at p5
          obtain ⟨q, S4, hq4, p6⟩ := post_noX p5
          rw [out_assoc] at p6
          obtain ⟨y, S5, hy5, p7⟩ := post_noX p6
          refine Tof (he4.mono x5) r5 hq4 fun u H6 l6 x6 r6 hu6 => Tof ((he4.mono x5).mono x6) r6 hy5 fun w H7 l7 x7 r7 hw7 => ?_
          have hn2 : ∀ i, l2 i ≠ some Dl := (r3.nos Dl hnD).2
          have hw4 := x4.keep _ _ hw hn2
          have hn4 := x4.out hw hn2
          have hw5 := x5.keep _ _ hw4 hn4
          have hn5 := x5.out hw4 hn4
          have hw6 := x6.keep _ _ hw5 hn5
          have hn6 := x6.out hw5 hn5
          have hw7' := x7.keep _ _ hw6 hn6
          have hnf := x7.no1 _ (x6.no1 _ (x5.no1 _ (x4.no1 _ hnD)))
          have hthr6 : ∀ i b, l1 i = some b → ∃ o, H5 b = some o := fun i b hi => r5.there (x15.id i b hi)
          have x16 := x15.trans x6.toExtW hthr6
          have hthr7 : ∀ i b, l1 i = some b → ∃ o, H6 b = some o := fun i b hi => r6.there (x16.id i b hi)
          have x17 := x16.trans x7.toExtW hthr7
          cases hkq : keyD q with
          | none =>
            rw [hkq] at p7
            exact p7.elim
          | some kq =>
            rw [hkq] at p7
            have p8 : Post C W (QE C Q) s l1 H1 ((if acc.length < 1000000 then dcLoop src g tt tk te m (k + 1) (wipeE e vs) S5 (putD acc kq y) else .bad).bind fun ds S2 => alloc i (.dK ds) S2) := p7
            split at p8
            · rename_i hlen
              have hacc7 := RKV.mono x7 (RKV.mono x6 (RKV.mono x5 (RKV.mono x4 hacc)))
              refine ⟨ws, kq, RD.key hu6 hkq, hw7', by rw [hacc.len]; exact line_small hlen, m, Nat.lt_succ_self m, S5, l7, putD acc kq y, putK ws kq w, x17.under hD, (x7.lk.trans (x6.lk.trans (x5.lk.trans (x4.lk.trans hlk)))), fun a ha => x7.no1 a (x6.no1 a (x5.no1 a (x4.no1 a (hno a ha)))), hnf, r7.grow hw7' (fun _ e => by cases e) (fun _ e => by cases e) hnf, upd_same,
                RKV.tr (tr_grow hw7' (fun _ e => by cases e) hnf) (RKV.put hacc7 hw7), p8⟩
            · exact p8.elim
theorem sd_dc {vs : List Nat} {own : List (Str × Nat)} {kx vx tg iter : Expr} {ifs : List Expr} {scope : Scope} {pos : Pos} {im : IM} {is : List Nat} {g : GM} {tt : TM} {tk te : EM} {h : Option Id} (hvs : own.map (·.2) = vs) (his : ∀ j, j ∈ is → j ∈ vs) (hc : X.calm = true) (hN : X.N.Nodup) (hi : PI X tg iter (TI' C W im)) (ok : BlkOk X.N X.env.scope scope own)
    (hg : ∀ (s : Shared) (H : Hp) (Ca : Addr) (cl : List (Str × Addr)) (fp : List Addr), PG (X.blk s H scope (compEnvC scope cl Ca X.env) fp) tg (G' C is g)) (ht : ∀ (s : Shared) (H : Hp) (Ca : Addr) (cl : List (Str × Addr)) (fp : List Addr), PTs (X.blk s H scope (compEnvC scope cl Ca X.env) fp) ifs (TT' C W0 tt))
    (hk : ∀ (s : Shared) (H : Hp) (Ca : Addr) (cl : List (Str × Addr)) (fp : List Addr), PE (X.blk s H scope (compEnvC scope cl Ca X.env) fp) kx (T C W0 tk)) (he : ∀ (s : Shared) (H : Hp) (Ca : Addr) (cl : List (Str × Addr)) (fp : List Addr), PE (X.blk s H scope (compEnvC scope cl Ca X.env) fp) vx (T C W0 te)) (hs : noSet iter = true) :
    PE X (.DictComp kx vx [⟨tg, iter, ifs, 0⟩] scope pos) (T C W (dcM h vs im g tt tk te)) := by
  subst hvs
  exact PEmono (pe_dc hc hN hi ok hg ht hk he fun x => fold_eq hs) fun s H Q q => dc_ok his s H Q q
end
end Pyx
/-! parallel assignment; dicts walked, locked (built behind Py28, ahead of Py14) -/
namespace Pyx
open PySem PySem.Spec PyProof.Rows L2
/-! ### a, b = x, y of plain local names -/
section
variable {X : Cx} {C : Ctx} {W : WX}
theorem nodup_of {N : List Str} (h : N.Nodup) {i j : Nat} {x y : Str} (hi : N[i]? = some x) (hj : N[j]? = some y) (hxy : x ≠ y) : i ≠ j := fun e => by
  subst e
  rw [hi] at hj
  exact hxy (Option.some.inj hj)
theorem ss_par2 {i j : Nat} {x y : Str} {a b : Expr} {m : AM} {px py pt pos : Pos} {kt k2 : Nat} {pt2 : Pos} (hc : X.calm = true) (hN : X.N.Nodup) (hi : X.N[i]? = some x) (hj : X.N[j]? = some y) (hxy : x ≠ y)
    (hx : X.env.scope.names.lookup x = some .local) (hy : X.env.scope.names.lookup y = some .local) (ha : PA X [a, b] (TA' C W m))
    (hw : swappedStores [.Tuple [.Name x px, .Name y py] kt pt] (.Tuple [a, b] k2 pt2) X.env = pure (some [x, y])) :
    PS X (.Assign [.Tuple [.Name x px, .Name y py] kt pt] (.Tuple [a, b] k2 pt2) pos) (TS' C W (asgM (gTp 2 (gsCons (gNm i) (gsCons (gNm j) gsNil))) (tupM m))) := by
  refine PSmono (ps_par hc hN hi hj (nodup_of hN hi hj hxy) hx hy ha hw) fun D' s H h => ?_
  obtain ⟨e, S, l, he, hr, hp⟩ := h
  have hp2 : PostS C W D' l H (liftS (m e S) e fun ds S1 => if ds.length ≤ 1000 then (match gTp 2 (gsCons (gNm i) (gsCons (gNm j) gsNil)) (.tup ds) e with
    | some e' => .nx e' S1
    | none => .bad) else .bad) := by
    revert hp
    unfold asgM tupM
    cases m e S with
    | ok ds S1 =>
      show PostS C W D' l H (liftS (if ds.length ≤ 1000 then Out.ok (D.tup ds) S1 else .bad) e _) → PostS C W D' l H (if ds.length ≤ 1000 then _ else SO.bad)
      split
      · exact id
      · exact id
    | exc x S1 => exact id
    | bad => exact id
  refine TAmono (SA_run he hr hp2) fun vs H1 ⟨l1, ds, S1, he1, hr1, x1, hd1, hp1⟩ => ?_
  split at hp1
  · match ds, hd1, hp1 with
    | [], _, hp1 => exact hp1.elim
    | [_], _, hp1 => exact hp1.elim
    | [d1, d2], hd1, hp1 =>
      obtain ⟨v, w, rfl, r1, r2⟩ := hd1.two
      exact ⟨v, w, rfl, hp1 _ H1 l1 (Ext.refl _ _) hr1 ((he1.set r1).set r2)⟩
    | _ :: _ :: _ :: _, _, hp1 => exact hp1.elim
  · exact hp1.elim
theorem ss_par3 {i j q : Nat} {x y z : Str} {a b c : Expr} {m : AM} {px py pz pt pos : Pos} {kt k2 : Nat} {pt2 : Pos} (hc : X.calm = true) (hN : X.N.Nodup) (hi : X.N[i]? = some x) (hj : X.N[j]? = some y) (hq : X.N[q]? = some z) (hxy : x ≠ y) (hxz : x ≠ z) (hyz : y ≠ z)
    (hx : X.env.scope.names.lookup x = some .local) (hy : X.env.scope.names.lookup y = some .local) (hz : X.env.scope.names.lookup z = some .local) (ha : PA X [a, b, c] (TA' C W m))
    (hw : swappedStores [.Tuple [.Name x px, .Name y py, .Name z pz] kt pt] (.Tuple [a, b, c] k2 pt2) X.env = pure (some [x, y, z])) :
    PS X (.Assign [.Tuple [.Name x px, .Name y py, .Name z pz] kt pt] (.Tuple [a, b, c] k2 pt2) pos) (TS' C W (asgM (gTp 3 (gsCons (gNm i) (gsCons (gNm j) (gsCons (gNm q) gsNil)))) (tupM m))) := by
  refine PSmono (ps_par3 hc hN hi hj hq (nodup_of hN hi hj hxy) (nodup_of hN hi hq hxz) (nodup_of hN hj hq hyz) hx hy hz ha hw) fun D' s H h => ?_
  obtain ⟨e, S, l, he, hr, hp⟩ := h
  have hp2 : PostS C W D' l H (liftS (m e S) e fun ds S1 => if ds.length ≤ 1000 then (match gTp 3 (gsCons (gNm i) (gsCons (gNm j) (gsCons (gNm q) gsNil))) (.tup ds) e with
    | some e' => .nx e' S1
    | none => .bad) else .bad) := by
    revert hp
    unfold asgM tupM
    cases m e S with
    | ok ds S1 =>
      show PostS C W D' l H (liftS (if ds.length ≤ 1000 then Out.ok (D.tup ds) S1 else .bad) e _) → PostS C W D' l H (if ds.length ≤ 1000 then _ else SO.bad)
      split
      · exact id
      · exact id
    | exc x S1 => exact id
    | bad => exact id
  refine TAmono (SA_run he hr hp2) fun vs H1 ⟨l1, ds, S1, he1, hr1, x1, hd1, hp1⟩ => ?_
  split at hp1
  · match ds, hd1, hp1 with
    | [], _, hp1 => exact hp1.elim
    | [_], _, hp1 => exact hp1.elim
    | [_, _], _, hp1 => exact hp1.elim
    | [d1, d2, d3], hd1, hp1 =>
      obtain ⟨v, w, u, rfl, r1, r2, r3⟩ := hd1.three
      exact ⟨v, w, u, rfl, hp1 _ H1 l1 (Ext.refl _ _) hr1 (((he1.set r1).set r2).set r3)⟩
    | _ :: _ :: _ :: _ :: _, _, hp1 => exact hp1.elim
  · exact hp1.elim
end
/-- when stores of names stand swapped: the written forms that are looked at -/
def nameOf (line : Nat) : Expr → Option Str
  | .Name x p => if p.line = line then some x else none
  | _ => none
def line1 (ts : List Expr) : Nat := (ts.head?.map (·.pos.line)).getD 0
def isStar : Expr → Bool
  | .Starred .. => true
  | _ => false
def swp2 (sc : Scope) (ts vs : List Expr) : Bool := match ts with
  | [.Name x px, .Name y py] => decide (vs.length = 2) && !vs.any isStar && (px.line == px.line) && (py.line == px.line) && decide (x ≠ y) && decide (sc.names.lookup x = some .local) && decide (sc.names.lookup y = some .local) && !vs.all (foldedForSure 8) && !vs.all (constantsAlone 8) && (match sc.kind with | .function => true | _ => false)
  | _ => false
def swp3 (sc : Scope) (ts vs : List Expr) : Bool := match ts with
  | [.Name x px, .Name y py, .Name z pz] => decide (vs.length = 3) && !vs.any isStar && (py.line == px.line) && (pz.line == px.line) && decide (x ≠ y) && decide (x ≠ z) && decide (y ≠ z) && decide (sc.names.lookup x = some .local) && decide (sc.names.lookup y = some .local) && decide (sc.names.lookup z = some .local) && !vs.all (foldedForSure 8) && !vs.all (constantsAlone 8) && (match sc.kind with | .function => true | _ => false)
  | _ => false
theorem erase2 {x y : Str} (h : x ≠ y) : [x, y].eraseDups = [x, y] := by
  have : (y == x) = false := by simpa using (Ne.symm h)
  rw [List.eraseDups_cons]
  simp [this, List.eraseDups_cons]
theorem erase3 {x y z : Str} (h : x ≠ y) (h2 : x ≠ z) (h3 : y ≠ z) : [x, y, z].eraseDups = [x, y, z] := by
  have a : (y == x) = false := by simpa using (Ne.symm h)
  have b : (z == x) = false := by simpa using (Ne.symm h2)
  have c : (z == y) = false := by simpa using (Ne.symm h3)
  rw [List.eraseDups_cons]
  simp [a, b, c, List.eraseDups_cons]
theorem swp2_ok {env : Env} {ts vs : List Expr} {kt k2 : Nat} {pt pt2 : Pos} (h : swp2 env.scope ts vs = true) : ∃ x px y py a b, ts = [.Name x px, .Name y py] ∧ vs = [a, b] ∧ x ≠ y ∧ env.scope.names.lookup x = some .local ∧ env.scope.names.lookup y = some .local ∧
    swappedStores [.Tuple ts kt pt] (.Tuple vs k2 pt2) env = pure (some [x, y]) := by
  unfold swp2 at h
  split at h
  · rename_i x px y py
    simp only [Bool.and_eq_true, decide_eq_true_eq, Bool.not_eq_true', beq_iff_eq] at h
    obtain ⟨⟨⟨⟨⟨⟨⟨⟨⟨h1, h2⟩, _⟩, h3⟩, h4⟩, h5⟩, h6⟩, h7⟩, h8⟩, h9⟩ := h
    match vs, h1 with
    | [a, b], _ =>
      refine ⟨x, px, y, py, a, b, rfl, rfl, h4, h5, h6, ?_⟩
      have hb : env.blockKind = .function := by
        unfold Env.blockKind
        split at h9
        · rename_i e
          rw [e]
          rfl
        · cases h9
      have gl : (some NameKind.local == some NameKind.local) = true := rfl
      have k1 : env.kindOf x = some .local := h5
      have k2 : env.kindOf y = some .local := h6
      unfold swappedStores
      simp only [List.length_cons, List.length_nil, hb, List.head?_cons, Option.map_some, Option.getD_some, List.filterMap_cons, List.filterMap_nil, k1, k2, Expr.pos, h3, erase2 h4, h7, h8]
      split
      · rename_i q
        exact absurd q (by decide)
      · split
        · rename_i q
          exact absurd (show [a, b].any isStar = true from q) (by rw [h2]; decide)
        · simp only [gl, beq_self_eq_true, Bool.and_self, if_true, erase2 h4, List.length_cons, List.length_nil]
          rfl
  · cases h
theorem swp3_ok {env : Env} {ts vs : List Expr} {kt k2 : Nat} {pt pt2 : Pos} (h : swp3 env.scope ts vs = true) : ∃ x px y py z pz a b c, ts = [.Name x px, .Name y py, .Name z pz] ∧ vs = [a, b, c] ∧ x ≠ y ∧ x ≠ z ∧ y ≠ z ∧ env.scope.names.lookup x = some .local ∧ env.scope.names.lookup y = some .local ∧ env.scope.names.lookup z = some .local ∧
    swappedStores [.Tuple ts kt pt] (.Tuple vs k2 pt2) env = pure (some [x, y, z]) := by
  unfold swp3 at h
  split at h
  · rename_i x px y py z pz
    simp only [Bool.and_eq_true, decide_eq_true_eq, Bool.not_eq_true', beq_iff_eq] at h
    obtain ⟨⟨⟨⟨⟨⟨⟨⟨⟨⟨⟨⟨h1, h2⟩, h3⟩, h3'⟩, h4⟩, h4'⟩, h4''⟩, h5⟩, h6⟩, h6'⟩, h7⟩, h8⟩, h9⟩ := h
    match vs, h1 with
    | [a, b, c], _ =>
      refine ⟨x, px, y, py, z, pz, a, b, c, rfl, rfl, h4, h4', h4'', h5, h6, h6', ?_⟩
      have hb : env.blockKind = .function := by
        unfold Env.blockKind
        split at h9
        · rename_i e
          rw [e]
          rfl
        · cases h9
      have gl : (some NameKind.local == some NameKind.local) = true := rfl
      have k1 : env.kindOf x = some .local := h5
      have k2 : env.kindOf y = some .local := h6
      have k3 : env.kindOf z = some .local := h6'
      unfold swappedStores
      simp only [List.length_cons, List.length_nil, hb, List.head?_cons, Option.map_some, Option.getD_some, List.filterMap_cons, List.filterMap_nil, k1, k2, k3, Expr.pos, h3, h3', erase3 h4 h4' h4'', h7, h8]
      split
      · rename_i q
        exact absurd q (by decide)
      · split
        · rename_i q
          exact absurd (show [a, b, c].any isStar = true from q) (by rw [h2]; decide)
        · simp only [gl, beq_self_eq_true, Bool.and_self, if_true, erase3 h4 h4' h4'', List.length_cons, List.length_nil]
          rfl
  · cases h
theorem swp4_ok {env : Env} {ts vs : List Expr} {kt k2 : Nat} {pt pt2 : Pos} (h : 4 ≤ ts.length) : swappedStores [.Tuple ts kt pt] (.Tuple vs k2 pt2) env = pure none := by
  unfold swappedStores
  have a : (ts.length == 2) = false := by simp; omega
  have b : (ts.length == 3) = false := by simp; omega
  simp [a, b]
end Pyx
/-! dicts walked, locked (built behind Py29) -/
namespace Pyx
open PySem PySem.Spec PyProof.Rows L2
/-! ### the lock -/
def unlk (i : Id) (c c' : Cell) (o : Out D) : Out D := match o with
  | .ok d S => match S.at_ i, c' with
    | some (.lkK ks), .lkK _ => .ok d (S.set i (.dK ks))
    | some (.lkT ks), .lkT _ => .ok d (S.set i (.dT ks))
    | _, _ => .bad
  | _ => .bad
def dLock (m0 m : EM) : EM := fun e S => match m0 e S with
  | .ok (.cell i) _ => match S.at_ i with
    | some (.dK kvs) => unlk i (.dK kvs) (.lkK kvs) (m e (S.set i (.lkK kvs)))
    | some (.dT kvs) => unlk i (.dT kvs) (.lkT kvs) (m e (S.set i (.lkT kvs)))
    | _ => .bad
  | _ => .bad
def Lay.lock (l : Lay) (a : Addr) (o : Obj) (u : HO) : Lay := ⟨l.f, l.no, fun b => if b = a then some (o, u) else l.lk b⟩
section
variable {C : Ctx} {l : Lay} {S : Sto} {H : Hp} {i : Id} {a : Addr} {u : HO} {o : Obj}
theorem lock_tr (hr : Rel C l S H) (hi : l i = some a) : Tr l H (l.lock a o u) (upd H a (.frz o u)) where
  id := fun _ _ h => h
  tup := fun b vs h => by
    rw [upd_ne (fun e => hr.notup h i (by rw [e]; exact hi))]
    exact h
  lst := fun b w h n f => by
    refine ⟨?_, n, f⟩
    rw [upd_ne (fun e => n i (by rw [e]; exact hi))]
    exact h
theorem lock_rel {c : Cell} (hr : Rel C l S H) (hi : l i = some a) (hc : CellOk C (l.lock a o u) (upd H a (.frz o u)) a c) : Rel C (l.lock a o u) (S.set i c) (upd H a (.frz o u)) where
  cells := fun j c' h => by
    by_cases hj : j = i
    · subst hj
      rw [Sto.set_same] at h
      cases h
      exact ⟨a, hi, hc⟩
    · rw [Sto.set_ne hj] at h
      obtain ⟨b, hb, hc'⟩ := hr.cells j c' h
      have hne : b ≠ a := fun e => hj (hr.inj j i a (by rw [← e]; exact hb) hi)
      refine ⟨b, hb, hc'.tr (lock_tr hr hi) (upd_ne hne) ?_⟩
      show (if b = a then some (o, u) else l.lk b) = l.lk b
      rw [if_neg hne]
  dom := fun j h => by
    by_cases hj : j = i
    · subst hj
      rw [Sto.set_same] at h
      cases h
    · rw [Sto.set_ne hj] at h
      exact hr.dom j h
  inj := hr.inj
  nos := fun b hb => by
    obtain ⟨⟨w, hw, nt⟩, nl⟩ := hr.nos b hb
    have hne : b ≠ a := fun e => nl i (by rw [e]; exact hi)
    exact ⟨⟨w, by rw [upd_ne hne]; exact hw, nt⟩, nl⟩
end
section
variable {C : Ctx} {W : WX} {l l' : Lay} {S S' : Sto} {H H' : Hp} {i : Id} {a : Addr} {u : HO} {o : Obj}
/-- back: what was locked stands as before -/
def Lay.free (l : Lay) (k : Addr → Option (Obj × HO)) : Lay := ⟨l.f, l.no, k⟩
theorem unlock_ext (hr : Rel C l S H) (hi : l i = some a) (hu : H a = some u) (x : Ext (l.lock a o u) (upd H a (.frz o u)) l' H') : Ext l H (l'.free l.lk) (upd H' a u) where
  id := x.id
  keep := fun b w h n => by
    have hne : b ≠ a := fun e => n i (by rw [e]; exact hi)
    rw [upd_ne hne]
    exact x.keep b w (by rw [upd_ne hne]; exact h) n
  tup := fun b vs h => by
    have hne : b ≠ a := fun e => hr.notup h i (by rw [e]; exact hi)
    rw [upd_ne hne]
    exact x.tup b vs (by rw [upd_ne hne]; exact h)
  new := fun j b h h' => by
    have := x.new j b h h'
    by_cases hb : b = a
    · subst hb
      rw [upd_same] at this
      cases this
    · rw [upd_ne hb] at this
      exact this
  no := fun b h => by
    rcases x.no b h with q | q
    · exact .inl q
    · by_cases hb : b = a
      · subst hb
        rw [upd_same] at q
        cases q
      · rw [upd_ne hb] at q
        exact .inr q
  no1 := x.no1
  lk := rfl
theorem unlock_rel {c : Cell} (hi' : l' i = some a) (hlk : l'.lk = (l.lock a o u).lk) (r' : Rel C l' S' H') (hf : H' a = some (.frz o u)) (hc : CellOk C (l'.free l.lk) (upd H' a u) a c) : Rel C (l'.free l.lk) (S'.set i c) (upd H' a u) := by
  have tr : Tr l' H' (l'.free l.lk) (upd H' a u) := {
    id := fun _ _ h => h
    tup := fun b vs h => by
      rw [upd_ne (fun e => by rw [e, hf] at h; cases h)]
      exact h
    lst := fun b w h n f => by
      refine ⟨?_, n, f⟩
      rw [upd_ne (fun e => n i (by rw [e]; exact hi'))]
      exact h }
  exact {
    cells := fun j c' h => by
      by_cases hj : j = i
      · subst hj
        rw [Sto.set_same] at h
        cases h
        exact ⟨a, hi', hc⟩
      · rw [Sto.set_ne hj] at h
        obtain ⟨b, hb, hc'⟩ := r'.cells j c' h
        have hne : b ≠ a := fun e => hj (r'.inj j i a (by rw [← e]; exact hb) hi')
        refine ⟨b, hb, hc'.tr tr (upd_ne hne) ?_⟩
        show l.lk b = l'.lk b
        rw [hlk]
        show _ = (if b = a then some (o, u) else l.lk b)
        rw [if_neg hne]
    dom := fun j h => by
      by_cases hj : j = i
      · subst hj
        rw [Sto.set_same] at h
        cases h
      · rw [Sto.set_ne hj] at h
        exact r'.dom j h
    inj := r'.inj
    nos := fun b hb => by
      obtain ⟨⟨w, hw, nt⟩, nl⟩ := r'.nos b hb
      have hne : b ≠ a := fun e => nl i (by rw [e]; exact hi')
      exact ⟨⟨w, by rw [upd_ne hne]; exact hw, nt⟩, nl⟩ }
theorem RKV.tr' {A : Type} {K : PySem.W.Frag} {l l' : Lay} {H H' : Hp} (e : Tr l H l' H') {xs : List (A × D)} {ys : List (A × V)} (h : RKV K l H xs ys) : RKV K l' H' xs ys := RKV.tr e h
theorem lock_ok {m0 m : EM} {s : L2.St} {H : Hp} {Q : VK} (q : T C W (dLock m0 m) s H Q) : tLockE (T C W m) s H Q := by
  obtain ⟨e, S, l, he, hr, hp⟩ := q
  unfold dLock at hp
  split at hp
  · rename_i i S0 hm0
    split at hp
    · rename_i kvs hS
      obtain ⟨a, hi, ws, hu, hk⟩ := hr.cells i _ hS
      refine ⟨a, .dK ws, hu, (by first | exact trivial | exact ⟨_, rfl⟩ | simp [Mut]), fun od => ?_⟩
      refine ⟨e, S.set i (.lkK kvs), l.lock a od (.dK ws), ?_, lock_rel hr hi ⟨od, ws, if_pos rfl, upd_same, RKV.tr (lock_tr hr hi) hk⟩, ?_⟩
      · exact ⟨he.1, fun j d hj => by
          obtain ⟨v, hv, r⟩ := he.2 j d hj
          exact ⟨v, hv, RD.tr (lock_tr hr hi) d v r⟩⟩
      · cases hm : m e (S.set i (.lkK kvs)) with
        | bad =>
          rw [hm] at hp
          exact hp.elim
        | exc x S1 =>
          rw [hm] at hp
          exact hp.elim
        | ok d S1 =>
          rw [hm] at hp
          have hp' : Post C W (QE C Q) s l H (match S1.at_ i, Cell.lkK kvs with
            | some (.lkK ks), .lkK _ => .ok d (S1.set i (.dK ks))
            | some (.lkT ks), .lkT _ => .ok d (S1.set i (.dT ks))
            | _, _ => .bad) := hp
          split at hp'
          · rename_i ks _ h1 h2
            intro H' l' x r' v hv
            obtain ⟨a', ha', o', ws', h3, h4, h5⟩ := r'.cells i _ h1
            have hi' := x.id i a hi
            rw [hi'] at ha'
            cases ha'
            rw [x.lk] at h3
            have h3' : (if a = a then some (od, HO.dK ws) else l.lk a) = some (o', HO.dK ws') := h3
            rw [if_pos rfl] at h3'
            cases h3'
            have tr : Tr l' H' (l'.free l.lk) (upd H' a (.dK ws)) := {
              id := fun _ _ h => h
              tup := fun b vs h => by
                rw [upd_ne (fun e => by rw [e, h4] at h; cases h)]
                exact h
              lst := fun b w h n f => by
                refine ⟨?_, n, f⟩
                rw [upd_ne (fun e => n i (by rw [e]; exact hi'))]
                exact h }
            refine ⟨h4, hp' _ _ (unlock_ext hr hi hu x) (unlock_rel hi' x.lk r' h4 ⟨ws, upd_same, RKV.tr tr h5⟩) v (RD.tr tr d v hv)⟩
          · rename_i h1 h2
            cases h2
          · exact hp'.elim
    · rename_i kvs hS
      obtain ⟨a, hi, ws, hu, hk⟩ := hr.cells i _ hS
      refine ⟨a, .dT ws, hu, (by first | exact trivial | exact ⟨_, rfl⟩ | simp [Mut]), fun od => ?_⟩
      refine ⟨e, S.set i (.lkT kvs), l.lock a od (.dT ws), ?_, lock_rel hr hi ⟨od, ws, if_pos rfl, upd_same, RKV.tr (lock_tr hr hi) hk⟩, ?_⟩
      · exact ⟨he.1, fun j d hj => by
          obtain ⟨v, hv, r⟩ := he.2 j d hj
          exact ⟨v, hv, RD.tr (lock_tr hr hi) d v r⟩⟩
      · cases hm : m e (S.set i (.lkT kvs)) with
        | bad =>
          rw [hm] at hp
          exact hp.elim
        | exc x S1 =>
          rw [hm] at hp
          exact hp.elim
        | ok d S1 =>
          rw [hm] at hp
          have hp' : Post C W (QE C Q) s l H (match S1.at_ i, Cell.lkT kvs with
            | some (.lkK ks), .lkK _ => .ok d (S1.set i (.dK ks))
            | some (.lkT ks), .lkT _ => .ok d (S1.set i (.dT ks))
            | _, _ => .bad) := hp
          split at hp'
          · rename_i h1 h2
            cases h2
          · rename_i ks _ h1 h2
            intro H' l' x r' v hv
            obtain ⟨a', ha', o', ws', h3, h4, h5⟩ := r'.cells i _ h1
            have hi' := x.id i a hi
            rw [hi'] at ha'
            cases ha'
            rw [x.lk] at h3
            have h3' : (if a = a then some (od, HO.dT ws) else l.lk a) = some (o', HO.dT ws') := h3
            rw [if_pos rfl] at h3'
            cases h3'
            have tr : Tr l' H' (l'.free l.lk) (upd H' a (.dT ws)) := {
              id := fun _ _ h => h
              tup := fun b vs h => by
                rw [upd_ne (fun e => by rw [e, h4] at h; cases h)]
                exact h
              lst := fun b w h n f => by
                refine ⟨?_, n, f⟩
                rw [upd_ne (fun e => n i (by rw [e]; exact hi'))]
                exact h }
            refine ⟨h4, hp' _ _ (unlock_ext hr hi hu x) (unlock_rel hi' x.lk r' h4 ⟨ws, upd_same, RKV.tr tr h5⟩) v (RD.tr tr d v hv)⟩
          · exact hp'.elim
    · exact hp.elim
  · exact hp.elim
theorem sd_lock {X : Cx} {ex : Expr} {m0 m : EM} (h : PE X ex (T C W m)) : PE X ex (T C W (dLock m0 m)) := PEmono (pe_lock h) fun _ _ _ q => lock_ok q
end
end Pyx
/-! walks over locked dicts; pop with one argument (built behind Py30) -/
namespace Pyx
open PySem PySem.Spec PyProof.Rows L2
section
variable {X : Cx} {pins : List (Addr × Obj)} {σ : L2.St} {H : Hp} {s : Shared} {d : Addr} {o : Obj}
theorem frzTv {kvs : List (List Key × V)} (I : Inv X pins σ H s) (h : H d = some (.frz o (.dT kvs))) :
    (d == sysModules) = false ∧ s.heap.get? d = some o ∧ o.ExactDict ∧ ∃ (es : Array DictEntry) (ep : Nat), o.data = .dict es ep ∧ es.size = kvs.length ∧
      ∀ (i : Nat) (k : List Key) (v : V), kvs[i]? = some (k, v) → ∃ (en : DictEntry), es[i]? = some en ∧ RelV v en.val := by
  obtain ⟨hd, z, hs, xs, pr, o', es, ep, ho, hx, hdt, he, _⟩ := I.hok d _ h
  rw [hd] at ho
  cases ho
  refine ⟨hs, hd, hx, es, ep, hdt, ?_, fun i k v e => ?_⟩
  · have l1 : es.size = xs.length := size_of_entries he
    have l2 : kvs.length = xs.length := Paired.length pr
    omega
  · obtain ⟨b, hb, e1, e2, e3⟩ := L2.paired_get pr e
    have q := entry_at he i
    rw [hb] at q
    exact ⟨_, q, e3⟩
end
/-- the values of the locked dict with tuple keys -/
def ItdT (d : Addr) (o : Obj) (kvs : List (List Key × V)) : It :=
  ⟨fun i H => H d = some (.frz o (.dT kvs)) ∧ i < kvs.length, fun i H x H' => H' = H ∧ ∃ k, kvs[i]? = some (k, x), fun i H => H d = some (.frz o (.dT kvs)) ∧ kvs.length ≤ i⟩
theorem turn_valsT {P : Program} {w : World} {K : PySem.W.Frag} {tg : Expr} {d : Addr} {o : Obj} {es : Array DictEntry} {ep : Nat} {kvs : List (List Key × V)} (it : Addr) (hod : o.data = .dict es ep) : Turn P w K tg (ItdT d o kvs) [it] it (fun i h => h.IsValIter it d i kvs.length ep) where
  mem := by simp
  obj := fun i h st b hb => by
    have e : b = it := by simpa using hb
    subst e
    obtain ⟨oi, e, c, dd⟩ := st
    exact ⟨oi, e, fun v z => by rw [dd] at z; cases z⟩
  keep := fun i h h' st k => st.at fun oi e => k it (by simp) oi e
  item := by
    intro X hP hw hK hc i pins s σ H E I hf st hg
    subst hP hw hK
    obtain ⟨hd, hi⟩ := hg
    obtain ⟨f0, f1, f2, f3, f4, f5⟩ := hf it (by simp)
    obtain ⟨hs, hgd, hx, es', ep', hdt, hsz, ent⟩ := frzTv I hd
    obtain ⟨rfl, rfl⟩ := L2.dict_ep hod hdt
    obtain ⟨⟨k, v⟩, hkv⟩ : ∃ p, kvs[i]? = some p := ⟨kvs[i], List.getElem?_eq_getElem hi⟩
    obtain ⟨en, hen, ru⟩ := ent i k v hkv
    have hi' : i < es'.size := by omega
    rw [← hsz] at st
    refine wpAny_pyNext_values_item_raw st ⟨o, hgd, hx, hdt⟩ hi' fun h' st' sb => ?_
    have I1 : Inv X pins σ H { s with heap := h' } := I.turned (t' := s.toks) (fun b ob hb e => (sb.2 b hb).trans e) f0 f1 f3 f4 f5
    have hv : es'[i] = en := by
      have := Array.getElem?_eq_getElem hi'
      rw [hen] at this
      exact (Option.some.inj this).symm
    rw [hv]
    rw [hsz] at st'
    obtain ⟨oi, e, c, dd⟩ := id st'
    exact ⟨en.val, rfl, L2.go_of (s := { s with heap := h' }) e c dd (by decide) ⟨v, H, I1, ru, ⟨rfl, k, hkv⟩, st', fun b hb => (hf b hb).1⟩⟩
  done := by
    intro X hP hw hK hc i pins s σ H E I hf st hg
    subst hP hw hK
    obtain ⟨hd, hi⟩ := hg
    obtain ⟨f0, f1, f2, f3, f4, f5⟩ := hf it (by simp)
    obtain ⟨hs, hgd, hx, es', ep', hdt, hsz, ent⟩ := frzTv I hd
    obtain ⟨rfl, rfl⟩ := L2.dict_ep hod hdt
    rw [← hsz] at st
    exact wpAny_pyNext_values_end_raw (I.ok.hd hc) st ⟨o, hgd, hx, hdt⟩ (by omega) fun h' eb => ⟨rfl, I.turned (t' := s.toks) (fun b ob hb e => eb b ob hb e) f0 f1 f3 f4 f5⟩
  self := fun A i s Q E st h => wpAny_pyIter_valiter st h
def iValsA (td : TE) : TI := fun σ H R => td σ H fun x H1 => ∃ d o, x = .ref d ∧ ((∃ kvs, H1 d = some (.frz o (.dK kvs)) ∧ R (L2.Itd d o kvs) H1) ∨ ∃ kvs, H1 d = some (.frz o (.dT kvs)) ∧ R (ItdT d o kvs) H1)
theorem pi_valsA {X : Cx} {tg e : Expr} {td : TE} {apos cpos : Pos} (he : PE X e td) (hbase : attributeBase e "values" X.env (eval e X.env) = eval e X.env) (hline : (apos.endLine == cpos.line) = true) : PI X tg (.Call (.Attribute e "values" apos) [] [] cpos) (iValsA td) := by
  refine ⟨fun pins s σ H R I h => ?_⟩
  refine wpAny_Call_method (T := "dict") (id := "dict.values") hbase rfl hline F.plainAttrs_dict F.slot_dict_values F.type_dict_values (thn (he.run pins s σ H _ I h) fun u s1 ⟨x, H1, I1, rx, d, o, ex, q⟩ => ?_)
  subst ex
  obtain rfl : u = Value.ref d := rx
  rcases q with ⟨kvs, hd, q⟩ | ⟨kvs, hd, q⟩
  · obtain ⟨hs, hgd, hx, es, ep, vs, hdt, hsz, kv, hm⟩ := I1.frzK hd
    have hl : kvs.length = vs.length := Paired.length kv
    refine ⟨hm.dictOf.typeIs, hm.dictOf.mapOf.noDict, ?_⟩
    have I2 : Inv X pins σ H1 { s1 with heap := s1.heap.push { cls := .type "dict_values", data := .fields #[.ref d] } } := I1.kept (t' := s1.toks) fun b ob q => Heap.get?_push_of_some _ q
    have fin : wpAny (model X.prog X.w) X.A (pyIter (.ref s1.heap.objs.size)) (PIE X pins σ tg R) X.xe { s1 with heap := s1.heap.push { cls := .type "dict_values", data := .fields #[.ref d] } } := by
      refine wpAny_pyIter_values (d := d) (knd := mixKind X.prog X.w) ⟨_, Heap.get?_push_size _ rfl, rfl, rfl⟩ (hm.push _) (pi_one (tk := s1.toks) I2 _ (turn_vals _ hdt) ⟨_, Heap.get?_push_size _ rfl, rfl, ?_⟩ q)
      rw [hl] <;> rfl
    show wpAny _ _ (callWith cpos (.builtin "dict.values") [.ref d] [] []) _ X.xe s1
    exact method_meetsIn F.slot_dict_values F.entry_dict_values rfl (PySem.evalArgs_none ⟨rfl, hm.dictOf.typeIs, F.args_dict_values_1 _, _, meets_dict_values (mixKind X.prog X.w) d hs, ⟨vs, hm.dictOf⟩, fin⟩)
  · obtain ⟨hs, hgd, hx, es, ep, hdt, hsz, ent⟩ := frzTv I1 hd
    have hraw : s1.heap.DictRaw d es ep := ⟨o, hgd, hx, hdt⟩
    refine ⟨hraw.typeIs, fun b hb => ?_, ?_⟩
    · cases hb
      exact ⟨o, hgd, hx.2.1⟩
    have I2 : Inv X pins σ H1 { s1 with heap := s1.heap.push { cls := .type "dict_values", data := .fields #[.ref d] } } := I1.kept (t' := s1.toks) fun b ob q => Heap.get?_push_of_some _ q
    have fin : wpAny (model X.prog X.w) X.A (pyIter (.ref s1.heap.objs.size)) (PIE X pins σ tg R) X.xe { s1 with heap := s1.heap.push { cls := .type "dict_values", data := .fields #[.ref d] } } := by
      refine wpAny_pyIter_values_raw (d := d) (es := es) (ep := ep) ⟨_, Heap.get?_push_size _ rfl, rfl, rfl⟩ (hraw.at fun ob e => Heap.get?_push_of_some _ e) (pi_one (tk := s1.toks) I2 _ (turn_valsT _ hdt) ⟨_, Heap.get?_push_size _ rfl, rfl, ?_⟩ q)
      rw [hsz] <;> rfl
    show wpAny _ _ (callWith cpos (.builtin "dict.values") [.ref d] [] []) _ X.xe s1
    exact method_meetsIn F.slot_dict_values F.entry_dict_values rfl (PySem.evalArgs_none ⟨rfl, hraw.typeIs, F.args_dict_values_1 _, _, meets_dict_values_raw d hs, ⟨⟨es, ep, hraw⟩, fin⟩⟩)
/-! ### by values -/
theorem pget {α β : Type} {R : α → β → Prop} {xs : List α} {ys : List β} (h : Paired R xs ys) {k : Nat} {y : β} (e : ys[k]? = some y) : ∃ x, xs[k]? = some x ∧ R x y := by
  have hl := Paired.length h
  have hk := (List.getElem?_eq_some_iff.mp e).1
  have e1 : xs[k]? = some xs[k] := List.getElem?_eq_getElem (by omega)
  obtain ⟨b, hb, h1⟩ := L2.paired_get h e1
  rw [e] at hb
  cases hb
  exact ⟨_, e1, h1⟩
section
variable {C : Ctx}
theorem lkK_at {l : Lay} {S : Sto} {H : Hp} {i : Id} {a : Addr} {kvs : List (Key × D)} (r : Rel C l S H) (hi : l i = some a) (hS : S.at_ i = some (.lkK kvs)) : ∃ o ws, l.lk a = some (o, .dK ws) ∧ H a = some (.frz o (.dK ws)) ∧ RKV C.K l H kvs ws := by
  obtain ⟨b, hb, o, ws, h1, h2, h3⟩ := r.cells i _ hS
  rw [hi] at hb
  cases hb
  exact ⟨o, ws, h1, h2, h3⟩
theorem lkT_at {l : Lay} {S : Sto} {H : Hp} {i : Id} {a : Addr} {kvs : List (List Key × D)} (r : Rel C l S H) (hi : l i = some a) (hS : S.at_ i = some (.lkT kvs)) : ∃ o ws, l.lk a = some (o, .dT ws) ∧ H a = some (.frz o (.dT ws)) ∧ RKV C.K l H kvs ws := by
  obtain ⟨b, hb, o, ws, h1, h2, h3⟩ := r.cells i _ hS
  rw [hi] at hb
  cases hb
  exact ⟨o, ws, h1, h2, h3⟩
theorem yld_valsK {l : Lay} {H : Hp} {i : Id} {a : Addr} {o : Obj} {ws : List (Key × V)} (hi : l i = some a) (hlk : l.lk a = some (o, .dK ws)) : Yld C (L2.Itd a o ws) (.vals i) l H := by
  intro S' l' H' k x e r
  have hi' := x.id i a hi
  show match (match S'.at_ i with | some (.lkK kvs) => some (kvs[k]?.map Prod.snd) | some (.lkT kvs) => some (kvs[k]?.map Prod.snd) | _ => none) with | none => True | some none => (L2.Itd a o ws).stop k H' | some (some d) => _
  cases hS : S'.at_ i with
  | none => exact True.intro
  | some c =>
    cases c with
    | lkK kvs =>
      obtain ⟨o', ws', h1, h2, h3⟩ := lkK_at r hi' hS
      rw [e, hlk] at h1
      cases h1
      show match some (kvs[k]?.map Prod.snd) with | none => True | some none => (L2.Itd a o ws).stop k H' | some (some d) => _
      have hl := h3.len
      cases q : kvs[k]? with
      | none => exact ⟨h2, by have := List.getElem?_eq_none_iff.mp q; omega⟩
      | some p =>
        obtain ⟨p', hp', r1, r2⟩ := L2.paired_get h3 q
        refine ⟨⟨h2, by have := (List.getElem?_eq_some_iff.mp hp').1; omega⟩, fun y H2 hy => ?_⟩
        obtain ⟨rfl, kk, hkk⟩ := hy
        rw [hp'] at hkk
        cases hkk
        exact ⟨Ext.refl _ _, r, r2⟩
    | lkT kvs =>
      obtain ⟨o', ws', h1, h2, h3⟩ := lkT_at r hi' hS
      rw [e, hlk] at h1
      cases h1
    | _ => exact True.intro
theorem yld_valsT {l : Lay} {H : Hp} {i : Id} {a : Addr} {o : Obj} {ws : List (List Key × V)} (hi : l i = some a) (hlk : l.lk a = some (o, .dT ws)) : Yld C (ItdT a o ws) (.vals i) l H := by
  intro S' l' H' k x e r
  have hi' := x.id i a hi
  show match (match S'.at_ i with | some (.lkK kvs) => some (kvs[k]?.map Prod.snd) | some (.lkT kvs) => some (kvs[k]?.map Prod.snd) | _ => none) with | none => True | some none => (ItdT a o ws).stop k H' | some (some d) => _
  cases hS : S'.at_ i with
  | none => exact True.intro
  | some c =>
    cases c with
    | lkT kvs =>
      obtain ⟨o', ws', h1, h2, h3⟩ := lkT_at r hi' hS
      rw [e, hlk] at h1
      cases h1
      show match some (kvs[k]?.map Prod.snd) with | none => True | some none => (ItdT a o ws).stop k H' | some (some d) => _
      have hl := h3.len
      cases q : kvs[k]? with
      | none => exact ⟨h2, by have := List.getElem?_eq_none_iff.mp q; omega⟩
      | some p =>
        obtain ⟨p', hp', r1, r2⟩ := L2.paired_get h3 q
        refine ⟨⟨h2, by have := (List.getElem?_eq_some_iff.mp hp').1; omega⟩, fun y H2 hy => ?_⟩
        obtain ⟨rfl, kk, hkk⟩ := hy
        rw [hp'] at hkk
        cases hkk
        exact ⟨Ext.refl _ _, r, r2⟩
    | lkK kvs =>
      obtain ⟨o', ws', h1, h2, h3⟩ := lkK_at r hi' hS
      rw [e, hlk] at h1
      cases h1
    | _ => exact True.intro
theorem yld_keys {l : Lay} {H : Hp} {i : Id} {a : Addr} {o : Obj} {ws : List (Key × V)} (hi : l i = some a) (hlk : l.lk a = some (o, .dK ws)) : Yld C (L2.Itk a o ws) (.keys i) l H := by
  intro S' l' H' k x e r
  have hi' := x.id i a hi
  show match (match S'.at_ i with | some (.lkK kvs) => keyAt kvs k | _ => none) with | none => True | some none => (L2.Itk a o ws).stop k H' | some (some d) => _
  cases hS : S'.at_ i with
  | none => exact True.intro
  | some c =>
    cases c with
    | lkK kvs =>
      obtain ⟨o', ws', h1, h2, h3⟩ := lkK_at r hi' hS
      rw [e, hlk] at h1
      cases h1
      show match keyAt kvs k with | none => True | some none => (L2.Itk a o ws).stop k H' | some (some d) => _
      have hl := h3.len
      unfold keyAt
      cases q : kvs[k]? with
      | none => exact ⟨h2, by have := List.getElem?_eq_none_iff.mp q; omega⟩
      | some p =>
        obtain ⟨p', hp', r1, r2⟩ := L2.paired_get h3 q
        have go : (L2.Itk a o ws).go k H' := ⟨h2, by have := (List.getElem?_eq_some_iff.mp hp').1; omega⟩
        obtain ⟨kk, d⟩ := p
        have r1 : kk = p'.1 := r1
        cases kk with
        | inl n =>
          refine ⟨go, fun y H2 hy => ?_⟩
          obtain ⟨rfl, kk, v, hkk, rfl⟩ := hy
          rw [hp'] at hkk
          cases hkk
          have r1 : (.inl n : Key) = kk := r1
          subst r1
          exact ⟨Ext.refl _ _, r, rfl⟩
        | inr z =>
          show match (if PySem.PyData.strOk z = true then some (some (D.str z)) else none) with | none => True | some none => (L2.Itk a o ws).stop k H' | some (some d) => _
          split
          · exact True.intro
          · rename_i q2
            split at q2 <;> cases q2
          · rename_i d2 q2
            split at q2
            · rename_i hz
              cases q2
              refine ⟨go, fun y H2 hy => ?_⟩
              obtain ⟨rfl, kk, v, hkk, rfl⟩ := hy
              rw [hp'] at hkk
              cases hkk
              have r1 : (.inr z : Key) = kk := r1
              subst r1
              exact ⟨Ext.refl _ _, r, rfl, hz⟩
            · cases q2
    | _ => exact True.intro
end
def keysI (a : EM) : IM := fun e S => (a e S).bind fun x S1 => match x with
  | .cell i => match S1.at_ i with
    | some (.lkK _) => .ok (.keys i) S1
    | _ => .bad
  | _ => .bad
def valsI (a : EM) : IM := fun e S => (a e S).bind fun x S1 => match x with
  | .cell i => match S1.at_ i with
    | some (.lkK _) => .ok (.vals i) S1
    | some (.lkT _) => .ok (.vals i) S1
    | _ => .bad
  | _ => .bad
section
variable {X : Cx} {C : Ctx} {W : WX}
theorem sp_vals {tg ex : Expr} {apos cpos : Pos} {m : EM} (h : PE X ex (T C W m)) (hb : noSuper ex = true) (hl : (apos.endLine == cpos.line) = true) : PI X tg (.Call (.Attribute ex "values" apos) [] [] cpos) (TI' C W (valsI m)) := by
  refine PImono (pi_valsA h (base_eq hb) hl) fun s H R q => ?_
  obtain ⟨e, S, l, he, hr, hp⟩ := q
  refine Tmono (T_run (RA := fun l' H' src => ∀ J, Yld C J src l' H' → R J H') he hr hp) fun v H1 ⟨l1, d1, S1, he1, hr1, x1, hd1, hp1⟩ => ?_
  split at hp1
  · rename_i i
    obtain ⟨a, rfl, hi⟩ := hd1
    split at hp1
    · rename_i kvs hS
      obtain ⟨o, ws, h1, h2, h3⟩ := lkK_at hr1 hi hS
      exact ⟨a, o, rfl, .inl ⟨ws, h2, hp1 H1 l1 (Ext.refl _ _) hr1 _ (yld_valsK hi h1)⟩⟩
    · rename_i kvs hS
      obtain ⟨o, ws, h1, h2, h3⟩ := lkT_at hr1 hi hS
      exact ⟨a, o, rfl, .inr ⟨ws, h2, hp1 H1 l1 (Ext.refl _ _) hr1 _ (yld_valsT hi h1)⟩⟩
    · exact hp1.elim
  · exact hp1.elim
theorem sp_keys {tg ex : Expr} {m : EM} (h : PE X ex (T C W m)) : PI X tg ex (TI' C W (keysI m)) := by
  refine PImono (L2.pi_keys h) fun s H R q => ?_
  obtain ⟨e, S, l, he, hr, hp⟩ := q
  refine Tmono (T_run (RA := fun l' H' src => ∀ J, Yld C J src l' H' → R J H') he hr hp) fun v H1 ⟨l1, d1, S1, he1, hr1, x1, hd1, hp1⟩ => ?_
  split at hp1
  · rename_i i
    obtain ⟨a, rfl, hi⟩ := hd1
    split at hp1
    · rename_i kvs hS
      obtain ⟨o, ws, h1, h2, h3⟩ := lkK_at hr1 hi hS
      exact ⟨a, o, rfl, .inl ⟨ws, h2, hp1 H1 l1 (Ext.refl _ _) hr1 _ (yld_keys hi h1)⟩⟩
    · exact hp1.elim
  · exact hp1.elim
end
end Pyx
/-! tuples as they were laid; dict(pairs); pop with one argument (built behind Py31) -/
namespace Pyx
open PySem PySem.Spec PyProof.Rows L2
section
variable {C : Ctx} {S : Sto} {l : Lay} {H : Hp} {d : D} {Q : VK}
theorem VPost.ptup {ds : List D} {vs : List V} {p : Addr} {o : Obj} (h : VPost C S l H (.ptup ds) Q) (r : Rel C l S H) (hs : RDs C.K l H ds vs) (hp : H p = none) (ho : o.dict = none) : Q (.ref p) (upd H p (.frz o (.tup vs))) :=
  h _ l (ext_new hp) (rel_new r hp) _ ⟨p, vs, rfl, ⟨o, ho, upd_same, r.fresh hp, r.free hp⟩, RDs.mono (ext_new hp) _ _ hs⟩
end
section
variable {X : Cx}
def tTupP (t : TA) : TE := fun σ H Q => t σ H fun xs H1 => xs.length ≤ sizeLine ∧ ∀ p o, H1 p = none → o.dict = none → Q (.ref p) (upd H1 p (.frz o (.tup xs)))
theorem pe_tupP {es : List Expr} {t : TA} {x1 : Nat} {pos : Pos} (h : PA X es t) : PE X (.Tuple es x1 pos) (tTupP t) := by
  refine ⟨fun pins s σ H Q I hq => ?_⟩
  refine wpAny_Tuple_spliced (thn (h.run pos pins s σ H _ I hq) fun us s1 ⟨xs, H1, I1, r, z, q⟩ => ⟨by rw [← r.length]; exact z, ?_⟩)
  have hf : H1 s1.heap.objs.size = none := I1.hok.fresh (Nat.le_refl _)
  refine ⟨.ref s1.heap.objs.size, upd H1 s1.heap.objs.size (.frz { cls := .type "tuple", data := .seq us.toArray } (.tup xs)), I1.laid (t' := s1.toks) (fun b u e => Heap.get?_push_of_some _ e) (Nat.le_refl _) ?_, rfl, q _ _ hf rfl⟩
  exact ⟨Heap.get?_push_size _ rfl, z, us, r, ⟨_, Heap.get?_push_size _ rfl, rfl, _, rfl⟩⟩
theorem call_tupP : CallR X (.type "tuple") (fun xs H Q => ∃ p ys, xs = [.ref p] ∧ SqL X.K H p ys ∧ ∀ l o, H l = none → o.dict = none → Q (.ref l) (upd H l (.frz o (.tup ys)))) := by
  intro pins s σ H xs us Q I r h
  obtain ⟨p, ys, rfl, hq, q⟩ := h
  obtain ⟨u, rfl, rx⟩ := vals1 r
  cases rx
  obtain ⟨its, r', pl, hz⟩ := I.list hq
  have hlen := r'.length
  refine call_tuple_list pl.isList (fun h' kp => ?_) (by simp only [List.size_toArray] <;> omega)
  have I1 : Inv X pins σ H { s with heap := h' } := I.kept (t' := s.toks) kp
  have I2 : Inv X pins σ (upd H h'.objs.size (.frz { cls := .type "tuple", data := .seq its.toArray } (.tup ys))) { s with heap := h'.push { cls := .type "tuple", data := .seq its.toArray } } :=
    I1.laid (t' := s.toks) (fun b o e => Heap.get?_push_of_some _ e) (Nat.le_refl _) (show ObjOk X.prog X.w _ _ _ (.frz _ (.tup ys)) from ⟨Heap.get?_push_size _ rfl, hz, its, r', IsTup.new _ _⟩)
  exact ⟨.ref h'.objs.size, _, I2, rfl, q _ _ (I1.hok.fresh (Nat.le_refl _)) rfl⟩
/-- the pairs of a tuple of pairs -/
theorem pairs_of2 {pins : List (Addr × Obj)} {σ : L2.St} {H : Hp} {s : Shared} (I : Inv X pins σ H s) : ∀ {ps : List Addr} {kvs : List (Key × V)}, Paired (fun p kv => SqT X.K H p [kV kv.1, kv.2]) ps kvs →
    ∃ (prs : List (Key × Value)) (vps : List (Value × Value)), KV kvs prs ∧ prs.length = ps.length ∧ vps.length = ps.length ∧ ∀ (j : Nat) (k v : Value), vps[j]? = some (k, v) → ∃ (b : Addr) (q : Key), ps[j]? = some b ∧ prs[j]? = some (q, v) ∧ IsTup s.heap b #[k, v] ∧ keyIs q k = true
  | _, _, .nil => ⟨[], [], .nil, rfl, rfl, fun j k v e => by simp at e⟩
  | _, _, .cons (a := p) (b := kv) h t => by
    obtain ⟨prs, vps, r, hl, hl2, hp⟩ := pairs_of2 I t
    obtain ⟨its, rv, ht, _⟩ := I.tuple h
    obtain ⟨u, y, ei, ru, ry⟩ := vals2 rv
    subst ei
    refine ⟨(kv.1, y) :: prs, (u, y) :: vps, .cons ⟨rfl, ry⟩ r, by rw [List.length_cons, List.length_cons, hl], by rw [List.length_cons, List.length_cons, hl2], fun j k v e => ?_⟩
    cases j with
    | zero =>
      have e' : (u, y) = (k, v) := Option.some.inj e
      cases e'
      exact ⟨p, kv.1, rfl, rfl, ht, kV_is (P := X.prog) (w := X.w) ru⟩
    | succ j =>
      obtain ⟨b, q, e1, e2, e3⟩ := hp j k v (by simpa using e)
      exact ⟨b, q, by simpa using e1, by simpa using e2, e3⟩
theorem call_dictT (hcalm : X.calm = true) : CallR X (.type "dict") (fun xs H Q => ∃ (a : Addr) (o : Obj) (ps : List Addr) (kvs : List (Key × V)), xs = [.ref a] ∧ o.dict = none ∧ H a = some (.frz o (.tup (ps.map V.ref))) ∧ Paired (fun p kv => SqT X.K H p [kV kv.1, kv.2]) ps kvs ∧
    ∀ p, H p = none → Q (.ref p) (upd H p (.dK (mergeK [] kvs)))) := by
  intro pins s σ H xs us Q I r q
  obtain ⟨a, o, ps, kvs, ex, hod, hq, hp, q⟩ := q
  subst ex
  obtain ⟨u, eu, rx⟩ := vals1 r
  subst eu
  cases rx
  obtain ⟨hgo, hz, its, rv, ⟨o2, ho2, hc, n, hdat⟩⟩ := I.hok a _ hq
  rw [hgo] at ho2
  cases ho2
  have ei := refs_at rv
  subst ei
  rw [List.length_map] at hz
  obtain ⟨prs, vps, rel, hl, hl2, hpr⟩ := pairs_of2 I hp
  have hsz : (ps.map Value.ref).toArray.size = vps.length := by simp [hl2]
  refine PySem.call_dict_pairs (knd := mixKind X.prog X.w) (kvs := prs) (PairArg.tuple a (ps.map Value.ref).toArray (fun j => ps.getD j 0) vps) (I.ok.hd hcalm) ⟨⟨o, n, hgo, hc, hod, hdat⟩, hsz, fun j k v e => ?_⟩ ⟨by rw [hl, hl2], fun i key v e => ?_⟩ (by rw [hl2]; exact hz) fun h' tk hd' k => ?_
  · obtain ⟨b, q', e1, e2, e3, e4⟩ := hpr j k v e
    have hb : ps.getD j 0 = b := by rw [List.getD_eq_getElem?_getD, e1]; rfl
    obtain ⟨ob, hob, hcb, nb, hdb⟩ := e3
    refine ⟨?_, .inl ?_⟩
    · show (ps.map Value.ref).toArray[j]? = some (.ref (ps.getD j 0))
      rw [hb]
      simp [e1]
    · show s.heap.IsTuple (ps.getD j 0) #[k, v]
      rw [hb]
      exact ⟨ob, hob, hcb, nb, hdb⟩
  · obtain ⟨b, q', e1, e2, e3, e4⟩ := hpr i key v e
    exact ⟨q', e2, e4⟩
  · have hm : (s.heap.objs.size == sysModules) = false := beq_eq_false_iff_ne.mpr (Nat.ne_of_gt I.big)
    have hlen : (mergeK [] kvs).length ≤ sizeLine := by
      refine Nat.le_trans (length_mergeK kvs []) ?_
      rw [List.length_nil, Nat.zero_add, rel.length, hl]
      exact hz
    exact ⟨.ref s.heap.objs.size, upd H s.heap.objs.size (.dK (mergeK [] kvs)), I.laid (t' := tk) (fun b o e => k b o (by simp) e) (Nat.le_refl _) (show ObjOk X.prog X.w _ _ _ (.dK (mergeK [] kvs)) from ⟨hlen, hm, merged [] prs, KV.merge rel .nil, hd'⟩), rfl, q _ (I.hok.fresh (Nat.le_refl _))⟩
end
/-! ### by values -/
def tupP (t : AM) : EM := fun e S => (t e S).bind fun xs S1 => if xs.length ≤ 1000 then .ok (.ptup xs) S1 else .bad
def ofLP (a : EM) : EM := fun e S => (a e S).bind fun x S1 => match listD S1 x with
  | some ds => .ok (.ptup ds) S1
  | none => .bad
/-- pairs, keys ahead -/
def pairsD : List D → Option (List (Key × D))
  | [] => some []
  | .tup [k, v] :: r => (keyD k).bind fun q => (pairsD r).map ((q, v) :: ·)
  | _ => none
def mergeD (acc more : List (Key × D)) : List (Key × D) := more.foldl (fun acc kv => putD acc kv.1 kv.2) acc
def dictC (h : Option Id) (a : EM) : EM := fun e S => (a e S).bind fun x S1 => match x with
  | .ptup ds => match pairsD ds with
    | some kvs => alloc h (.dK (mergeD [] kvs)) S1
    | none => .bad
  | .lst ds => match pairsD ds with
    | some kvs => alloc h (.dK (mergeD [] kvs)) S1
    | none => .bad
  | _ => .bad
theorem pairsD_ok {K : PySem.W.Frag} {l : Lay} {H : Hp} : ∀ {ds : List D} {vs : List V} {kvs : List (Key × D)}, RDs K l H ds vs → pairsD ds = some kvs → ∃ (ps : List Addr) (ws : List (Key × V)), vs = ps.map V.ref ∧ Paired (fun p kv => SqT K H p [kV kv.1, kv.2]) ps ws ∧ RKV K l H kvs ws
  | [], vs, kvs, h, e => by
    cases h
    cases e
    exact ⟨[], [], rfl, .nil, .nil⟩
  | d :: r, vs, kvs, h, e => by
    obtain ⟨v, ws, rfl, h1, h2⟩ := h
    cases d with
    | tup es =>
      match es, e, h1 with
      | [k, x], e, h1 =>
        obtain ⟨q, hq, e⟩ := Option.bind_eq_some_iff.mp (show ((keyD k).bind fun q => (pairsD r).map ((q, x) :: ·)) = some kvs from e)
        obtain ⟨rest, hr, e⟩ := Option.map_eq_some_iff.mp e
        subst e
        obtain ⟨ps, us, e1, e2, e3⟩ := pairsD_ok h2 hr
        obtain ⟨a, zs, rfl, ht, hz⟩ := h1
        obtain ⟨y1, y2, rfl, r1, r2⟩ := hz.two
        have := RD.key r1 hq
        subst this
        refine ⟨a :: ps, (q, y2) :: us, by rw [e1]; rfl, .cons ht.sq e2, .cons ⟨rfl, r2⟩ e3⟩
      | [], e, _ => cases e
      | [_], e, _ => cases e
      | _ :: _ :: _ :: _, e, _ => cases e
    | _ => cases e
theorem RKV.merge {K : PySem.W.Frag} {l : Lay} {H : Hp} : ∀ {more : List (Key × D)} {ws : List (Key × V)} {acc : List (Key × D)} {us : List (Key × V)}, RKV K l H more ws → RKV K l H acc us → RKV K l H (mergeD acc more) (mergeK us ws)
  | _, _, _, _, .nil, h => h
  | p :: r, q :: t, acc, us, .cons h hr, h0 => by
    obtain ⟨h1, h2⟩ := h
    show RKV K l H (mergeD (putD acc p.1 p.2) r) (mergeK (putK us q.1 q.2) t)
    refine RKV.merge hr ?_
    rw [h1]
    exact RKV.put h0 h2
section
variable {X : Cx} {C : Ctx} {W : WX} (hK : C.K = X.K)
theorem sd_tupP {es : List Expr} {k : Nat} {pos : Pos} {m : AM} (h : PA X es (TA' C W m)) : PE X (.Tuple es k pos) (T C W (tupP m)) := by
  refine PEmono (pe_tupP h) fun s H Q h => ?_
  obtain ⟨e, S, l, he, hr, hp⟩ := h
  refine TAmono (TA_run he hr hp) fun vs H1 ⟨l1, ds, S1, he1, hr1, x1, hd1, hp1⟩ => ?_
  split at hp1
  · rename_i hl
    exact ⟨by rw [hd1.length]; exact line1000 hl, fun p o hp ho => (VPost.of hp1).ptup hr1 hd1 hp ho⟩
  · exact hp1.elim
include hK
theorem sd_ofLP {p pos : Pos} {ex : Expr} {m : EM} (hg : Gl X "tuple") (hm : X.mg "tuple" = none) (ha : PE X ex (T C W m)) (hs : noStar ex = true) : PE X (.Call (.Name "tuple" p) [ex] [] pos) (T C W (ofLP m)) := by
  refine PEmono (pe_callTy call_tupP hg hm rfl (pa_cons ha pa_nil (star_eq hs)) (by decide) (by decide) (star_eq hs) rfl) fun s H Q h => ?_
  obtain ⟨e, S, l, he, hr, hp⟩ := h
  refine Tmono (T_run he hr hp) fun v H1 ⟨l1, d, S1, he1, hr1, x1, hd1, hp1⟩ => ?_
  split at hp1
  · rename_i ds hi
    obtain ⟨a, vs, rfl, sq, hd⟩ := list_ok hr1 hd1 hi
    exact ⟨a, vs, rfl, hK ▸ sq, fun p o hn ho => (VPost.of hp1).ptup hr1 hd hn ho⟩
  · exact hp1.elim
theorem sd_dictC {i : Option Id} {p pos : Pos} {ex : Expr} {m : EM} (hc : X.calm = true) (hg : Gl X "dict") (hm : X.mg "dict" = none) (ha : PE X ex (T C W m)) (hs : noStar ex = true) : PE X (.Call (.Name "dict" p) [ex] [] pos) (T C W (dictC i m)) := by
  refine PEmono (pe_callTy (CallR.or (call_dictT hc) (call_dictP hc)) hg hm rfl (pa_cons ha pa_nil (star_eq hs)) (by decide) (by decide) (star_eq hs) rfl) fun s H Q h => ?_
  obtain ⟨e, S, l, he, hr, hp⟩ := h
  refine Tmono (T_run he hr hp) fun v H1 ⟨l1, d, S1, he1, hr1, x1, hd1, hp1⟩ => ?_
  split at hp1
  · rename_i ds
    split at hp1
    · rename_i kvs hk
      obtain ⟨a, vs, rfl, ⟨o, ho, hq, _⟩, hd⟩ := hd1
      obtain ⟨ps, ws, e1, e2, e3⟩ := pairsD_ok hd hk
      subst e1
      exact .inl ⟨a, o, ps, ws, rfl, ho, hq, hK ▸ e2, fun p hn => alloc_ok hp1 hr1 hn fun l' x => ⟨_, upd_same, RKV.mono x (RKV.merge e3 .nil)⟩⟩
    · exact hp1.elim
  · rename_i ds
    split at hp1
    · rename_i kvs hk
      obtain ⟨a, vs, rfl, hq, hd⟩ := hd1
      obtain ⟨ps, ws, e1, e2, e3⟩ := pairsD_ok hd hk
      subst e1
      exact .inr ⟨a, ps, ws, rfl, hK ▸ hq.sq, hK ▸ e2, fun p hn => alloc_ok hp1 hr1 hn fun l' x => ⟨_, upd_same, RKV.mono x (RKV.merge e3 .nil)⟩⟩
    · exact hp1.elim
  · exact hp1.elim
end
/-! ### d.pop(k), k there, tuple keys -/
def dpop1G : D → List D → Sto → Option (D × Sto)
  | .cell i, [k], S => match S.at_ i with
    | some (.dT kvs) => match keyT k with
      | some q => match valD kvs q with
        | some d => some (d, S.set i (.dT (dropD kvs q)))
        | none => none
      | none => none
    | _ => none
  | _, _, _ => none
section
variable {X : Cx} {C : Ctx}
theorem mt_popT1 (hu : X.A.units + 1 < cLine) : MtR X "dict.pop" (fun x xs H Q => ∃ (a : Addr) (kvs : List (List Key × V)) (k : List Key) (b : Addr) (v : V), x = .ref a ∧ xs = [.ref b] ∧ H a = some (.dT kvs) ∧ H b = some (.tup (k.map kV)) ∧ valV kvs k = some v ∧ Q v (upd H a (.dT (dropK kvs k)))) := by
  intro pins s σ H x xs v us Q I rx rxs h
  obtain ⟨a, kvs, k, b, v1, rfl, rfl, ha, hb, hv, q1⟩ := h
  cases rx
  obtain ⟨u1, rfl, r1⟩ := vals1 rxs
  cases r1
  obtain ⟨z, hd, xs', rel, dd⟩ := dt_of I.hok ha
  have hz : xs'.length ≤ sizeLine := by rw [← Paired.length rel]; exact z
  have r := rel.val k
  refine call_meetsIn PySem.F.slot_dict_pop dd.typeIs PySem.F.entry_dict_pop (PySem.F.args_dict_pop_2 _ _) (meetsH_dict_pop (knd := tupleKind (mixKind X.prog X.w)) a b hd [] (.inl rfl))
    ⟨tupleKind_room_in1 hu, k, xs', key_of I.hok hb, dd, hz, fun p hp h' dd' hs => ?_, fun hn => ?_⟩
  · rw [hp, hv] at r
    obtain ⟨o, es, ep, hq, h2, h3, h4, _, h5⟩ := dd'
    have I2 : Inv X pins σ (upd H a (.dT (dropK kvs k))) { s with heap := h', toks := s.toks + (tupleKind (mixKind X.prog X.w)).draws k } :=
      d_write I (by rw [ha]; exact True.intro) hs ⟨o, hq⟩ ⟨Nat.le_trans (L2.dropK_le kvs k) z, hd, _, (DX.KT_drop k rel).keeps (fun c ys ec => (by rw [upd_ne (ne_of ec ha (fun z => nomatch z))]; exact ec)), o, es, ep, hq, h2, h3, h4, h5⟩
    show EP X pins σ Q p.2 _
    exact ⟨v1, _, I2, r, q1⟩
  · rw [hn, hv] at r
    exact (show False from r).elim
theorem mg_dpop1 (hu : X.A.units + 1 < cLine) : MtR X "dict.pop" (rM C dpop1G) := by
  intro pins s σ H x xs v us Q I rx rs h
  obtain ⟨S, l, a, ds, d, S', hr, ha, hd, hg, hp⟩ := h
  unfold dpop1G at hg
  split at hg
  · rename_i i k0
    obtain ⟨w1, rfl, hw1⟩ := hd.one
    split at hg
    · rename_i kvs hS
      split at hg
      · rename_i k hk
        split at hg
        · rename_i d1 hv
          cases hg
          obtain ⟨p, rfl, hi⟩ := ha
          obtain ⟨q, hq, ws, hw, hkv⟩ := hr.cells i _ hS
          rw [hi] at hq
          cases hq
          cases k0 <;> simp only [keyT] at hk <;> try cases hk
          obtain ⟨q0, zs, rfl, tq, hus⟩ := hw1
          have ek := RDs.keys hus hk
          subst ek
          have hval := RKV.val k hkv
          rw [hv] at hval
          obtain ⟨w', hw', hd'⟩ := hval
          have x1 := ext_set (o := .dT (dropK ws k)) hr hi
          exact mt_popT1 hu pins s σ H _ _ v us Q I rx rs ⟨p, ws, k, q0, w', rfl, rfl, hw, tq, hw', hp _ l x1 (rel_set hr hi ⟨_, upd_same, RKV.mono x1 (RKV.drop hkv)⟩) _ (RD.mono x1 _ _ hd')⟩
        · cases hg
      · cases hg
    · cases hg
  · cases hg
end
end Pyx
/-! list comprehensions of two clauses: the list is a cell -/
namespace Pyx
open PySem PySem.Spec PyProof.Rows L2
def addC (i : Id) (y : D) (S : Sto) : Option Sto := match S.at_ i with
  | some (.lst ds) => if ds.length < 1000000 then some (S.set i (.lst (ds ++ [y]))) else none
  | _ => none
def lcIn (i : Id) (src : Src) (g : GM) (tt : TM) (te : EM) : Nat → Nat → Env' → Sto → Out Unit
  | 0, _ => fun _ _ => .bad
  | f + 1, k => fun e S => match src.get S k with
    | none => .bad
    | some none => .ok () S
    | some (some d) => match g d e with
      | none => .bad
      | some e1 => (noX (tt e1 S)).bind fun b S1 => if b = true then (noX (te e1 S1)).bind fun y S2 => match addC i y S2 with
          | some S3 => lcIn i src g tt te f (k + 1) e S3
          | none => .bad
        else lcIn i src g tt te f (k + 1) e S1
def lcOut (i : Id) (src : Src) (g : GM) (tt : TM) (im1 : IM) (vs1 : List Nat) (g1 : GM) (tt1 : TM) (te : EM) : Nat → Nat → Env' → Sto → Out Unit
  | 0, _ => fun _ _ => .bad
  | f + 1, k => fun e S => match src.get S k with
    | none => .bad
    | some none => .ok () S
    | some (some d) => match g d e with
      | none => .bad
      | some e1 => (noX (tt e1 S)).bind fun b S1 => if b = true then (noX (im1 e1 S1)).bind fun src1 S2 => (lcIn i src1 g1 tt1 te (src1.fuel S2) 0 (wipeE e1 vs1) S2).bind fun _ S3 => lcOut i src g tt im1 vs1 g1 tt1 te f (k + 1) e S3
        else lcOut i src g tt im1 vs1 g1 tt1 te f (k + 1) e S1
def lc2M (vs vs1 : List Nat) (im : IM) (g : GM) (tt : TM) (im1 : IM) (g1 : GM) (tt1 : TM) (te : EM) : EM := fun e S => (im e S).bind fun src S1 => match S1.at_ (newId none S1) with
  | some _ => .bad
  | none => (lcOut (newId none S1) src g tt im1 vs1 g1 tt1 te (src.fuel S1) 0 (wipeE e vs) (S1.bump.set (newId none S1) (.lst []))).bind fun _ S3 => .ok (.cell (newId none S1)) S3
section
variable {X : Cx} {C : Ctx} {W : WX}
theorem lc2_ok {vs vs1 : List Nat} {im im1 : IM} {is is1 : List Nat} {g g1 : GM} {tt tt1 : TM} {te : EM} (his : ∀ j, j ∈ is → j ∈ vs) (his1 : ∀ j, j ∈ is1 → j ∈ vs1) (s : L2.St) (H : Hp) (Q : VK) (q : T C W (lc2M vs vs1 im g tt im1 g1 tt1 te) s H Q) :
    tLc2 (TI' C W im) (G' C is g) (TT' C W0 tt) (TI' C W0 im1) (G' C is1 g1) (TT' C W0 tt1) (T C W0 te) vs vs1 s H Q := by
  obtain ⟨e, S, l, he, hr, hp⟩ := q
  refine ⟨e, S, l, he, hr, ?_⟩
  refine Post.bind hp fun H1 l1 src S1 x1 r1 p1 J hY Dl hD => ?_
  have hew : EnvR C.K l1 H1 (wipeE e vs) (wipe s vs) := wipeE_env (he.mono x1) vs
  split at p1
  · exact p1.elim
  rename_i hz
  generalize hi0 : newId none S1 = i at hz p1
  have x2 : Ext l1 H1 (l1.add i Dl) (upd H1 Dl (.lst [])) := ext_add (i := i) (o := .lst []) r1 hz hD
  have r2' := rel_add (i := i) (o := .lst []) (c := .lst []) r1 hz hD ⟨[], upd_same, rfl⟩
  have r2 : Rel C (l1.add i Dl) (S1.bump.set i (.lst [])) (upd H1 Dl (.lst [])) := ⟨r2'.cells, r2'.dom, r2'.inj, r2'.nos⟩
  refine ⟨fun k m H2 => ∃ S2 l2, Ext (l1.add i Dl) (upd H1 Dl (.lst [])) l2 H2 ∧ Rel C l2 S2 H2 ∧ Post C W (QE C Q) s l1 H1 ((lcOut i src g tt im1 vs1 g1 tt1 te m k (wipeE e vs) S2).bind fun _ S3 => .ok (.cell i) S3),
    ⟨src.fuel S1, _, _, Ext.refl _ _, r2, p1⟩, ?_⟩
  rintro k m H2 ⟨S2, l2, x3, r3, p3⟩
  have x13 : Ext l1 H1 l2 H2 := x2.thru x3 r2
  cases m with
  | zero => exact p3.elim
  | succ m =>
    have hy := hY S2 l2 H2 k x13.toExtW x13.lk r3
    unfold lcOut at p3
    split at p3
    · exact p3.elim
    · rename_i hget
      rw [hget] at hy
      refine .inl ⟨hy, ?_⟩
      have p3' : Post C W (QE C Q) s l1 H1 (.ok (.cell i) S2) := p3
      exact p3' H2 l2 x13 r3 _ ⟨Dl, rfl, x3.id i Dl Lay.add_same⟩
    · rename_i d hget
      rw [hget] at hy
      refine .inr ⟨hy.1, fun H' => ∃ m', m' < m + 1 ∧ ∃ S2 l2, Ext (l1.add i Dl) (upd H1 Dl (.lst [])) l2 H' ∧ Rel C l2 S2 H' ∧ Post C W (QE C Q) s l1 H1 ((lcOut i src g tt im1 vs1 g1 tt1 te m' (k + 1) (wipeE e vs) S2).bind fun _ S3 => .ok (.cell i) S3), fun H' hn => hn, fun v H3 hv => ?_⟩
      obtain ⟨x4, r4, hd⟩ := hy.2 v H3 hv
      split at p3
      · exact p3.elim
      · rename_i e1 hge
        refine ⟨wipeE e vs, S2, l2, d, e1, EnvR.mono x4 (hew.mono x13), r4, hd, hge, fun s4 he4 hch => ⟨wipe_chg hch his, ?_⟩⟩
        rw [out_assoc] at p3
        obtain ⟨b, S3, hb, p4⟩ := post_noX p3
        refine TTof he4 r4 hb fun H5 l5 x5 r5 => ?_
        have x35 : Ext (l1.add i Dl) (upd H1 Dl (.lst [])) l5 H5 := (x3.thru x4 r3).thru x5 r4
        cases b with
        | false => exact iteF ⟨m, Nat.lt_succ_self m, S3, l5, x35, r5, p4⟩
        | true =>
          refine iteT ?_
          have p5 : Post C W (QE C Q) s l1 H1 (((noX (im1 e1 S3)).bind fun src1 S2 => (lcIn i src1 g1 tt1 te (src1.fuel S2) 0 (wipeE e1 vs1) S2).bind fun _ S3 => lcOut i src g tt im1 vs1 g1 tt1 te m (k + 1) (wipeE e vs) S3).bind fun _ S3 => .ok (.cell i) S3) := p4
          rw [out_assoc] at p5
          obtain ⟨src1, S4, h4, p6⟩ := post_noX p5
          rw [out_assoc] at p6
          have he5 := he4.mono x5
          refine ⟨e1, S3, l5, he5, r5, ?_⟩
          rw [h4]
          intro H6 l6 x6 r6 J1 hY1
          have hew1 : EnvR C.K l6 H6 (wipeE e1 vs1) (wipe s4 vs1) := wipeE_env (he5.mono x6) vs1
          have x36 := x35.thru x6 r5
          refine ⟨fun j n H7 => ∃ S7 l7, Ext l6 H6 l7 H7 ∧ Rel C l7 S7 H7 ∧ Post C W (QE C Q) s l1 H1 ((lcIn i src1 g1 tt1 te n j (wipeE e1 vs1) S7).bind fun a S => (lcOut i src g tt im1 vs1 g1 tt1 te m (k + 1) (wipeE e vs) S).bind fun _ S3 => .ok (.cell i) S3),
            ⟨src1.fuel S4, S4, l6, Ext.refl _ _, r6, p6⟩, ?_⟩
          rintro j n H7 ⟨S7, l7, x7, r7, p7⟩
          cases n with
          | zero => exact p7.elim
          | succ n =>
            have hy1 := hY1 S7 l7 H7 j x7.toExtW x7.lk r7
            unfold lcIn at p7
            split at p7
            · exact p7.elim
            · rename_i hget1
              rw [hget1] at hy1
              exact .inl ⟨hy1, m, Nat.lt_succ_self m, S7, l7, x36.thru x7 r6, r7, p7⟩
            · rename_i d1 hget1
              rw [hget1] at hy1
              refine .inr ⟨hy1.1, fun H' => ∃ n', n' < n + 1 ∧ ∃ S7 l7, Ext l6 H6 l7 H' ∧ Rel C l7 S7 H' ∧ Post C W (QE C Q) s l1 H1 ((lcIn i src1 g1 tt1 te n' (j + 1) (wipeE e1 vs1) S7).bind fun a S => (lcOut i src g tt im1 vs1 g1 tt1 te m (k + 1) (wipeE e vs) S).bind fun _ S3 => .ok (.cell i) S3), fun H' hn => hn, fun v1 H8 hv1 => ?_⟩
              obtain ⟨x8, r8, hd1⟩ := hy1.2 v1 H8 hv1
              split at p7
              · exact p7.elim
              · rename_i e2 hge1
                refine ⟨wipeE e1 vs1, S7, l7, d1, e2, EnvR.mono x8 (hew1.mono x7), r8, hd1, hge1, fun s5 he6 hch1 => ⟨wipe_chg hch1 his1, ?_⟩⟩
                rw [out_assoc] at p7
                obtain ⟨b1, S8, hb1, p8⟩ := post_noX p7
                refine TTof he6 r8 hb1 fun H9 l9 x9 r9 => ?_
                have x69 : Ext l6 H6 l9 H9 := (x7.thru x8 r7).thru x9 r8
                cases b1 with
                | false => exact iteF ⟨n, Nat.lt_succ_self n, S8, l9, x69, r9, p8⟩
                | true =>
                  refine iteT ?_
                  have p9 : Post C W (QE C Q) s l1 H1 (((noX (te e2 S8)).bind fun y S2 => match addC i y S2 with
                      | some S3 => lcIn i src1 g1 tt1 te n (j + 1) (wipeE e1 vs1) S3
                      | none => .bad).bind fun a S => (lcOut i src g tt im1 vs1 g1 tt1 te m (k + 1) (wipeE e vs) S).bind fun _ S3 => .ok (.cell i) S3) := p8
                  rw [out_assoc] at p9
                  obtain ⟨y, S9, hy9, pA⟩ := post_noX p9
                  refine Tof (he6.mono x9) r9 hy9 fun w HA lA xA rA hwA => ?_
                  have x6A := x69.thru xA r9
                  have hiA : lA i = some Dl := x6A.id i Dl (x36.id i Dl Lay.add_same)
                  obtain ⟨c, hc, hcell⟩ := rA.at' hiA
                  unfold addC at pA
                  rw [hc] at pA
                  cases c with
                  | lst ds =>
                    have pB : Post C W (QE C Q) s l1 H1 ((match (if ds.length < 1000000 then some (S9.set i (.lst (ds ++ [y]))) else none : Option Sto) with
                      | some S3 => lcIn i src1 g1 tt1 te n (j + 1) (wipeE e1 vs1) S3
                      | none => .bad).bind fun a S => (lcOut i src g tt im1 vs1 g1 tt1 te m (k + 1) (wipeE e vs) S).bind fun _ S3 => .ok (.cell i) S3) := pA
                    by_cases hlen : ds.length < 1000000
                    · rw [if_pos hlen] at pB
                      obtain ⟨ws, hws, hds⟩ := hcell
                      refine ⟨ws, hws, by rw [hds.length]; exact line_small hlen, n, Nat.lt_succ_self n, S9.set i (.lst (ds ++ [y])), lA, x6A.thru (ext_set rA hiA) rA, rel_set (c := .lst (ds ++ [y])) rA hiA ⟨ws ++ [w], upd_same, RDs.append (RDs.mono (ext_set rA hiA) _ _ hds) ⟨w, [], rfl, RD.mono (ext_set rA hiA) _ _ hwA, rfl⟩⟩, pB⟩
                    · rw [if_neg hlen] at pB
                      exact pB.elim
                  | _ => exact pA.elim
theorem sd_lc2 {vs vs1 : List Nat} {own : List (Str × Nat)} {elt tg iter tg1 iter1 : Expr} {ifs ifs1 : List Expr} {scope : Scope} {pos : Pos} {im im1 : IM} {is is1 : List Nat} {g g1 : GM} {tt tt1 : TM} {te : EM} (hvs : own.map (·.2) = vs) (his : ∀ j, j ∈ is → j ∈ vs) (his1 : ∀ j, j ∈ is1 → j ∈ vs1) (hv : ∀ j ∈ vs1, j ∈ vs) (hc : X.calm = true) (hN : X.N.Nodup) (hi : PI X tg iter (TI' C W im)) (ok : BlkOk X.N X.env.scope scope own)
    (hg : ∀ (s : Shared) (H : Hp) (Ca : Addr) (cl : List (Str × Addr)) (fp : List Addr), PG (X.blk s H scope (compEnvC scope cl Ca X.env) fp) tg (G' C is g)) (ht : ∀ (s : Shared) (H : Hp) (Ca : Addr) (cl : List (Str × Addr)) (fp : List Addr), PTs (X.blk s H scope (compEnvC scope cl Ca X.env) fp) ifs (TT' C W0 tt))
    (hi1 : ∀ (s : Shared) (H : Hp) (Ca : Addr) (cl : List (Str × Addr)) (fp : List Addr), PI (X.blk s H scope (compEnvC scope cl Ca X.env) fp) tg1 iter1 (TI' C W0 im1))
    (hg1 : ∀ (s : Shared) (H : Hp) (Ca : Addr) (cl : List (Str × Addr)) (fp : List Addr), PG (X.blk s H scope (compEnvC scope cl Ca X.env) fp) tg1 (G' C is1 g1)) (ht1 : ∀ (s : Shared) (H : Hp) (Ca : Addr) (cl : List (Str × Addr)) (fp : List Addr), PTs (X.blk s H scope (compEnvC scope cl Ca X.env) fp) ifs1 (TT' C W0 tt1))
    (he : ∀ (s : Shared) (H : Hp) (Ca : Addr) (cl : List (Str × Addr)) (fp : List Addr), PE (X.blk s H scope (compEnvC scope cl Ca X.env) fp) elt (T C W0 te)) (hs : noSet iter = true) (hs1 : noSet iter1 = true) : PE X (.ListComp elt [⟨tg, iter, ifs, 0⟩, ⟨tg1, iter1, ifs1, 0⟩] scope pos) (T C W (lc2M vs vs1 im g tt im1 g1 tt1 te)) := by
  subst hvs
  exact PEmono (pe_lc2 hc hN hi ok hv hg ht hi1 hg1 ht1 he (fun x => fold_eq hs) (fun env x => fold_eq hs1)) fun s H Q q => lc2_ok his his1 s H Q q
theorem ss_setLc2 {vs vs1 : List Nat} {own : List (Str × Nat)} {i : Nat} {y : Str} {py : Pos} {elt tg iter tg1 iter1 : Expr} {ifs ifs1 : List Expr} {scope : Scope} {pos spos : Pos} {im im1 : IM} {is is1 : List Nat} {g g1 : GM} {tt tt1 : TM} {te : EM} (hvs : own.map (·.2) = vs) (his : ∀ j, j ∈ is → j ∈ vs) (his1 : ∀ j, j ∈ is1 → j ∈ vs1) (hv : ∀ j ∈ vs1, j ∈ vs) (hc : X.calm = true) (hN : X.N.Nodup) (hy : X.N[i]? = some y) (hyl : X.env.scope.names.lookup y = some .local)
    (hsw : swapsWith (.ListComp elt [⟨tg, iter, ifs, 0⟩, ⟨tg1, iter1, ifs1, 0⟩] scope pos) (some (.Name y py)) spos.line X.env = pure true) (hi : PI X tg iter (TI' C W im)) (ok : BlkOk X.N X.env.scope scope own)
    (hg : ∀ (s : Shared) (H : Hp) (Ca : Addr) (cl : List (Str × Addr)) (fp : List Addr), PG (X.blk s H scope (compEnvC scope cl Ca X.env) fp) tg (G' C is g)) (ht : ∀ (s : Shared) (H : Hp) (Ca : Addr) (cl : List (Str × Addr)) (fp : List Addr), PTs (X.blk s H scope (compEnvC scope cl Ca X.env) fp) ifs (TT' C W0 tt))
    (hi1 : ∀ (s : Shared) (H : Hp) (Ca : Addr) (cl : List (Str × Addr)) (fp : List Addr), PI (X.blk s H scope (compEnvC scope cl Ca X.env) fp) tg1 iter1 (TI' C W0 im1))
    (hg1 : ∀ (s : Shared) (H : Hp) (Ca : Addr) (cl : List (Str × Addr)) (fp : List Addr), PG (X.blk s H scope (compEnvC scope cl Ca X.env) fp) tg1 (G' C is1 g1)) (ht1 : ∀ (s : Shared) (H : Hp) (Ca : Addr) (cl : List (Str × Addr)) (fp : List Addr), PTs (X.blk s H scope (compEnvC scope cl Ca X.env) fp) ifs1 (TT' C W0 tt1))
    (he : ∀ (s : Shared) (H : Hp) (Ca : Addr) (cl : List (Str × Addr)) (fp : List Addr), PE (X.blk s H scope (compEnvC scope cl Ca X.env) fp) elt (T C W0 te)) (hs : noSet iter = true) (hs1 : noSet iter1 = true) : PS X (.Assign [.Name y py] (.ListComp elt [⟨tg, iter, ifs, 0⟩, ⟨tg1, iter1, ifs1, 0⟩] scope pos) spos) (TS' C W (asgM (gNm i) (lc2M vs vs1 im g tt im1 g1 tt1 te))) := by
  subst hvs
  refine PSmono (ps_setLc2 hc hN hy hyl hsw hi ok hv hg ht hi1 hg1 ht1 he (fun x => fold_eq hs) (fun env x => fold_eq hs1)) fun D' s H q => ?_
  obtain ⟨e, S, l, he, hr, hp⟩ := q
  refine lc2_ok his his1 s H _ (Tmono (S_run he hr hp) fun v H1 ⟨l1, d1, S1, he1, hr1, x1, hd1, hp1⟩ => ?_)
  exact PostS.now hr1 (he1.set hd1) hp1
end
end Pyx
/-! list(d.values()) -/
namespace Pyx
open PySem PySem.Spec PyProof.Rows L2
theorem vals_kv {K : Type} : ∀ {kvs : List (K × V)} {vs : List (K × Value)}, KV kvs vs → Vals (kvs.map (·.2)) (vs.map (·.2))
  | _, _, .nil => .nil
  | _, _, .cons h t => .cons h.2 (vals_kv t)
def tListVals (te : TE) : TE := fun σ H Q => te σ H fun x H1 => ∃ (d : Addr) (kvs : List (Key × V)), x = .ref d ∧ H1 d = some (.dK kvs) ∧ ∀ p, H1 p = none → Q (.ref p) (upd H1 p (.lst (kvs.map (·.2))))
section
variable {X : Cx} {e : Expr} {te : TE} {p apos cpos pos : Pos}
theorem pe_listVals (hc : X.calm = true) (he : PE X e te) (hg : Gl X "list") (hm : X.mg "list" = none) (hv : bootBuiltins "list" = some (.type "list")) (hbase : attributeBase e "values" X.env (eval e X.env) = eval e X.env := by rfl) (hline : (apos.endLine == cpos.line) = true := by rfl)
    (hs : starEach [.Call (.Attribute e "values" apos) [] [] cpos] X.env = (false, eval (.Call (.Attribute e "values" apos) [] [] cpos) X.env) :: starEach [] X.env := by rfl) :
    PE X (.Call (.Name "list" p) [.Call (.Attribute e "values" apos) [] [] cpos] [] pos) (tListVals te) := by
  refine ⟨fun pins s σ H Q I hq => ?_⟩
  refine wpAny_Call_Name_kw (ld_blt I hg hm hv ?_)
  refine PyProof.Rows.callWith_type1 ?_ hs rfl
  rw [hs]
  show wpAny _ _ (spliced ((false, eval (.Call (.Attribute e "values" apos) [] [] cpos) X.env) :: backTo pos (starEach [] X.env))) _ _ s
  refine Calls.spliced_cons ?_
  refine wpAny_Call_method (T := "dict") (id := "dict.values") hbase rfl hline F.plainAttrs_dict F.slot_dict_values F.type_dict_values (thn (he.run pins s σ H _ I hq) fun u s1 ⟨x, H1, I1, rx, d, kvs, ex, hd, q⟩ => ?_)
  subst ex
  obtain rfl : u = Value.ref d := rx
  obtain ⟨hz, hs0, vs, kv, hdo⟩ := I1.hok d _ hd
  obtain ⟨ep, hat⟩ := hdo.dictAt
  have lk : kvs.length = vs.length := Paired.length kv
  have I2 : Inv X pins σ H1 { s1 with heap := s1.heap.push { cls := .type "dict_values", data := .fields #[.ref d] } } := I1.kept (t' := s1.toks) fun b ob q => Heap.get?_push_of_some _ q
  refine ⟨hdo.typeIs, hdo.mapOf.noDict, ?_⟩
  show wpAny _ _ (callWith cpos (.builtin "dict.values") [.ref d] [] []) _ X.xe s1
  refine method_meetsIn F.slot_dict_values F.entry_dict_values rfl (PySem.evalArgs_none ⟨rfl, hdo.typeIs, F.args_dict_values_1 _, _, meets_dict_values (mixKind X.prog X.w) d hs0, ⟨vs, hdo⟩, ?_⟩)
  refine Calls.spliced_nil ?_
  refine PySem.W.kdl_call (PySem.W.kdl_values (prog := X.prog) (w := X.w) (knd := mixKind X.prog X.w) (r := s1.heap.objs.size) (d := d) (kvs := vs) (ep := ep)) (I1.ok.hd hc) ⟨⟨_, Heap.get?_push_size _ rfl, rfl, rfl⟩, hat.push _⟩ (by omega) fun h' tk acc c hk hS hacc => ?_
  have hvals : acc.toList = vs.map (·.2) := PySem.W.kdl_vals_eq acc.toList (by rw [Array.length_toList]; exact hacc.1) fun j v e => hacc.2 j v (by rw [← Array.getElem?_toList]; exact e)
  generalize hT : ({ s1 with heap := s1.heap.push { cls := .type "dict_values", data := .fields #[.ref d] } } : Shared) = s2 at I2 hk hS
  have newS : H1 s2.heap.objs.size = none := I2.hok.fresh (Nat.le_refl _)
  have kp : ∀ b u, H1 b = some u → (upd H1 s2.heap.objs.size (.lst (kvs.map (·.2)))) b = some u := fun b u e => by
    rw [upd_ne (fun z => by rw [z, newS] at e; cases e)]
    exact e
  have J : Inv X pins σ (upd H1 s2.heap.objs.size (.lst (kvs.map (·.2)))) { s2 with heap := h', toks := tk } := by
    refine I2.call' (ch := []) rfl ⟨fun b o q _ _ _ => hk b o q, fun b o q _ _ _ => ⟨o.slots, hk b o q⟩, fun b o q n _ => ?_, fun b o q _ => ⟨o, hk b o q⟩, fun b xs q => kp b _ q, fun b o u q => kp b _ q, fun b ps q => ⟨#[], by rw [kp b _ q]; simp⟩⟩ (fun b u q => ?_) I2.bare fun b z => by simp at z
    · rw [upd_ne (Nat.ne_of_lt (Heap.lt_size q))]
      exact n
    · by_cases hb2 : b = s2.heap.objs.size
      · rw [hb2] at q ⊢
        rw [upd_same] at q
        cases q
        refine ⟨by rw [List.length_map]; omega, acc.toList, c, by rw [hvals]; exact vals_kv kv, ?_⟩
        rw [Array.toArray_toList]
        exact hS
      · rw [upd_ne hb2] at q
        exact (I2.hok b u q).stay (fun d v _ y => hk d v y) (fun d y => kp d _ y) fun d xs y => kp d _ y
  subst hT
  exact ⟨.ref _, _, J, rfl, q _ newS⟩
end
/-- list(a.values()) -/
def lvM (a : EM) : EM := fun e S => (a e S).bind fun x S1 => match x with
  | .cell i => match S1.at_ i with
    | some (.dK kvs) => .ok (.lst (kvs.map (·.2))) S1
    | _ => .bad
  | _ => .bad
section
variable {X : Cx} {C : Ctx} {W : WX}
theorem rds_rkv {K : PySem.W.Frag} {l : Lay} {H : Hp} {A : Type} : ∀ {kvs : List (A × D)} {ws : List (A × V)}, RKV K l H kvs ws → RDs K l H (kvs.map (·.2)) (ws.map (·.2))
  | _, _, .nil => rfl
  | _, _, .cons h t => ⟨_, _, rfl, h.2, rds_rkv t⟩
theorem sd_lv {ex : Expr} {p apos cpos pos : Pos} {m : EM} (hc : X.calm = true) (h : PE X ex (T C W m)) (hg : Gl X "list") (hm : X.mg "list" = none) (hb : noSuper ex = true) (hl : (apos.endLine == cpos.line) = true) : PE X (.Call (.Name "list" p) [.Call (.Attribute ex "values" apos) [] [] cpos] [] pos) (T C W (lvM m)) := by
  refine PEmono (pe_listVals hc h hg hm rfl (base_eq hb) hl) fun s H Q q => ?_
  obtain ⟨e, S, l, he, hr, hp⟩ := q
  refine Tmono (T_run he hr hp) fun v H1 ⟨l1, d1, S1, he1, hr1, x1, hd1, hp1⟩ => ?_
  cases d1 with
  | cell i =>
    have hp2 : Post C W (QE C Q) s l1 H1 (match S1.at_ i with
      | some (.dK kvs) => .ok (.lst (kvs.map (·.2))) S1
      | _ => .bad) := hp1
    obtain ⟨a, rfl, ha⟩ := hd1
    obtain ⟨c, hc1, hcell⟩ := hr1.at' ha
    rw [hc1] at hp2
    cases c with
    | dK kvs =>
      obtain ⟨ws, hws, hkv⟩ := hcell
      exact ⟨a, ws, rfl, hws, fun q hq => (VPost.of (show Post C W (QE C Q) s l1 H1 (.ok (.lst (kvs.map (·.2))) S1) from hp2)).lst hr1 (rds_rkv hkv) hq⟩
    | _ => exact hp2.elim
  | _ => exact hp1.elim
end
end Pyx
/-! isinstance with two types; a sum of lists as a cell; lists of lists compared -/
namespace Pyx
open PySem PySem.Spec PyProof.Rows L2
def isi2F (T1 T2 : String) (d : D) (S : Sto) : Option D := (tyName S d).bind fun t => (kitB t T1).bind fun b1 => if b1 = true then some (.bl true) else (kitB t T2).map D.bl
def isi2M (T1 T2 : String) (a : EM) : EM := fun e S => (a e S).bind fun x S1 => ofO (isi2F T1 T2 x S1) S1
def addCel (h : Option Id) (a b : EM) : EM := fun e S => (a e S).bind fun x S1 => (b e S1).bind fun y S2 => match x, y with
  | .lst xs, .lst ys => if xs.length + ys.length ≤ 1000000 then alloc h (.lst (xs ++ ys)) S2 else .bad
  | _, _ => .bad
/-- a list's items, lists of the store looked up once -/
def top2 (S : Sto) (d : D) : D := match top1 S d with
  | .lst ds => .lst (ds.map (top1 S))
  | d => d
def eq2D (a b : D) (S : Sto) : Option D := if noCell (top2 S a) && noCell (top2 S b) && decide (min (py (top2 S a)).depth (py (top2 S b)).depth ≤ 64) then some (.bl (PyData.eqv (py (top2 S a)) (py (top2 S b)))) else none
theorem RD1s.dp {C : Ctx} {l : Lay} {S : Sto} {H : Hp} (r : Rel C l S H) : ∀ {ds : List D} {vs : List V}, RDs C.K l H ds vs → noCells (ds.map (top1 S)) = true → DpAll C.K H vs (pys (ds.map (top1 S))) ∧ PyData.canLayAll0 (pys (ds.map (top1 S))) = true
  | [], vs, h, _ => by
    cases h
    exact ⟨.nil, rfl⟩
  | d :: ds, vs, h, hn => by
    obtain ⟨v, ws, rfl, h1, h2⟩ := h
    have hn' : (noCell (top1 S d) && noCells (ds.map (top1 S))) = true := hn
    obtain ⟨n1, n2⟩ := Bool.and_eq_true_iff.mp hn'
    obtain ⟨p1, p2⟩ := (RD1.top r h1).dp n1
    obtain ⟨q1, q2⟩ := RD1s.dp r h2 n2
    refine ⟨.cons p1 q1, ?_⟩
    show (PyData.canLay0 (py (top1 S d)) && PyData.canLayAll0 (pys (ds.map (top1 S)))) = true
    rw [p2, q2]
    rfl
theorem top2_dp {C : Ctx} {l : Lay} {S : Sto} {H : Hp} (r : Rel C l S H) {d : D} {v : V} (h : RD C.K l H d v) (n : noCell (top2 S d) = true) : Dp C.K H v (py (top2 S d)) ∧ (py (top2 S d)).canLay0 = true := by
  have h1 := RD1.top r h
  unfold top2 at n ⊢
  revert h1 n
  cases top1 S d with
  | lst ds =>
    intro n h1
    cases h1 with
    | of h =>
      obtain ⟨a, vs, rfl, ht, hs⟩ := h
      obtain ⟨p1, p2⟩ := RD1s.dp r hs n
      exact ⟨.lst (.inl (.inl ht.1)) p1, p2⟩
    | cel hc q =>
      obtain ⟨p1, p2⟩ := RD1s.dp r q n
      exact ⟨.lst (.inl (.inl hc)) p1, p2⟩
  | _ => exact fun n h1 => h1.dp n
section
variable {X : Cx} {C : Ctx} {W : WX} (hK : C.K = X.K)
include hK
theorem vo_eq2 (hu : X.A.units + 64 < cLine) : OpR X (compareOp .Eq) (rB C eq2D) := by
  intro pins s σ H x y v u Q I rx ry h
  obtain ⟨S, l, a, b, d, hr, ha, hb, hg, hp⟩ := h
  unfold eq2D at hg
  split at hg
  · rename_i hc
    simp only [Bool.and_eq_true, decide_eq_true_eq] at hc
    obtain ⟨⟨n1, n2⟩, hm⟩ := hc
    cases hg
    obtain ⟨p1, p2⟩ := top2_dp hr ha n1
    obtain ⟨q1, q2⟩ := top2_dp hr hb n2
    generalize py (top2 S a) = a' at *
    generalize py (top2 S b) = b' at *
    rw [hK] at p1 q1
    obtain ⟨as, r1⟩ := Dp.reads I _ x v p1 rx
    obtain ⟨bs, r2⟩ := Dp.reads I _ y u q1 ry
    have hmm : X.A.units + min a'.depth b'.depth < cLine := by omega
    refine SeqAt.compareEq_reads r1 r2 p2 q2 hmm ⟨.bl _, H, I, rfl, ?_⟩
    exact hp.now hr (v := .bl (PyData.eqv a' b')) rfl
  · cases hg
theorem sd_isi2 {t1 t2 : String} {x1 x2 : Str} {p p1 p2 pt pos : Pos} {k : Nat} {ex : Expr} {m : EM} (hg : Gl X "isinstance") (hm : X.mg "isinstance" = none) (hg1 : Gl X x1) (hm1 : X.mg x1 = none) (hv1 : bootBuiltins x1 = some (.type t1)) (hn1 : x1 ≠ "__name__") (hd1 : (x1 == ("__debug__" : Str)) = false)
    (hg2 : Gl X x2) (hm2 : X.mg x2 = none) (hv2 : bootBuiltins x2 = some (.type t2)) (hn2 : x2 ≠ "__name__") (hd2 : (x2 == ("__debug__" : Str)) = false) (ha : PE X ex (T C W m)) (hs : noStar ex = true) : PE X (.Call (.Name "isinstance" p) [ex, .Tuple [.Name x1 p1, .Name x2 p2] k pt] [] pos) (T C W (isi2M t1 t2 m)) := by
  have htu := pe_tup (x1 := k) (pos := pt) (pa_cons (pe_bltn (v := .ty t1) (pos := p1) hg1 hm1 hv1 rfl hn1 hd1) (pa_cons (pe_bltn (v := .ty t2) (pos := p2) hg2 hm2 hv2 rfl hn2 hd2) pa_nil (star_eq rfl)) (star_eq rfl))
  refine PEmono (pe_callB call_isiT hg hm rfl (pa_cons ha (pa_cons htu pa_nil (star_eq rfl)) (star_eq hs)) (by decide) (by decide) (star_eq hs) (star_any (es := [.Tuple [.Name x1 p1, .Name x2 p2] k pt]) rfl)) fun s H Q h => ?_
  obtain ⟨e, S, l, he, hr, hp⟩ := h
  refine Tmono (T_run he hr hp) fun v H1 ⟨l1, d, S1, he1, hr1, x1', hd1', hp1⟩ => ?_
  obtain ⟨r, hs', hp1⟩ := post_ofO hp1
  unfold isi2F at hs'
  obtain ⟨n, ht, hs'⟩ := Option.bind_eq_some_iff.mp hs'
  obtain ⟨b1, hk1, hs'⟩ := Option.bind_eq_some_iff.mp hs'
  refine ⟨by show 2 ≤ sizeLine; decide, fun a hn => ?_⟩
  have xt := ext_new (l := l1) hn (o := .tup [.ty t1, .ty t2])
  have rt := rel_new hr1 hn (o := .tup [.ty t1, .ty t2])
  have hdt := RD.mono xt _ _ hd1'
  have key : ∃ b, r = .bl b ∧ PySem.W.kitAny X.K (.type n) [.type t1, .type t2] = some b := by
    cases b1 with
    | true =>
      rw [if_pos rfl] at hs'
      cases hs'
      exact ⟨true, rfl, kitAny_cons (kit_ty hk1) (fun z => by cases z) (fun _ => rfl)⟩
    | false =>
      rw [if_neg Bool.false_ne_true] at hs'
      obtain ⟨b2, hk2, e⟩ := Option.map_eq_some_iff.mp hs'
      subst e
      exact ⟨b2, rfl, kitAny_cons (kit_ty hk1) (fun _ => kitAny_cons (kit_ty hk2) (fun z => by rw [z]; rfl) (fun z => z)) (fun z => by cases z)⟩
  obtain ⟨b, e, hb⟩ := key
  subst e
  exact ⟨v, a, [.ty t1, .ty t2], .type n, [.type t1, .type t2], b, rfl, upd_same, .cons (.ty t1) (.cons (.ty t2) .nil), hK ▸ ty_ok hK rt hdt ht, hb, hp1 _ l1 xt rt _ rfl⟩
omit hK in
theorem sd_addCel {h : Option Id} {a b : Expr} {ma mb : EM} {pos : Pos} (ha : PE X a (T C W ma)) (hb : PE X b (T C W mb)) : PE X (.BinOp a .Add b pos) (T C W (addCel h ma mb)) := by
  refine PEmono (pe_op op_cat ha hb) fun s H Q hh => ?_
  obtain ⟨e, S, l, he, hr, hp⟩ := hh
  refine Tmono (T_run he hr hp) fun v H1 ⟨l1, d1, S1, he1, hr1, x1, hd1, hp1⟩ => Tmono (T_run he1 hr1 hp1) fun w H2 ⟨l2, d2, S2, he2, hr2, x2, hd2, hp2⟩ => ?_
  have hd1' := RD.mono x2 _ _ hd1
  cases d1 with
  | lst xs =>
    cases d2 with
    | lst ys =>
      obtain ⟨p, vs, rfl, tp, hv⟩ := hd1'
      obtain ⟨q, ws, rfl, tq, hw⟩ := hd2
      dsimp only at hp2
      split at hp2
      · rename_i hl
        refine ⟨p, q, vs, ws, rfl, rfl, tp.1, tq.1, by rw [hv.length, hw.length]; exact Nat.le_trans hl (Nat.le_of_ble_eq_true rfl), fun n hn => alloc_ok hp2 hr2 hn fun l' x => ⟨vs ++ ws, upd_same, RDs.mono x _ _ (RDs.append hv hw)⟩⟩
      · exact hp2.elim
    | _ => exact hp2.elim
  | _ => exact hp2.elim
end
end Pyx
/-! a lambda without parameters, handed to a def: the table of its maker alone grows -/
namespace Pyx
open PySem PySem.Spec PyProof.Rows L2 LamX
/-- the table at P has grown from ps; all else is kept -/
structure Grow (P : Addr) (q : Str) (ps : Array Value) (H H1 : Hp) : Prop where
  keep : ∀ b o, b ≠ P → H b = some o → H1 b = some o
  tab : ∃ qs, H1 P = some (.tbl qs) ∧ TriplesOk qs.toList ∧ ∀ (at_ : Pos) (cv : Value), codeAmong at_ qs.toList = some cv → codeAmong at_ ps.toList = some cv ∨ ∃ d, cv = .ref d ∧ H d = none ∧ H1 d = some (CodeO d q)
/-- what a maker's table is -/
def TabD (H : Hp) (P : Addr) (q : Str) (ps : Array Value) : Prop := H P = some (.tbl ps) ∧ TriplesOk ps.toList ∧ ∀ (at_ : Pos) (cv : Value), codeAmong at_ ps.toList = some cv → ∃ d, cv = .ref d ∧ H d = some (CodeO d q)
section
variable {X : Cx} {pins : List (Addr × Obj)} {σ : L2.St} {H : Hp} {s : Shared}
theorem mkLam {c P : Addr} {ps : Array Value} {params : Arguments} {body : Expr} {scope : Scope} {pos : Pos} {E Q : Value → Shared → Prop} (I : Inv X pins σ H s) (TB : TabB X.base X.mg c P) (hc : X.env.code = .ref c) (hT : TabD H P (X.env.qual ++ "<lambda>") ps)
    (h0 : defaultsOf params X.env = ([], [])) (hf : ∀ y ∈ scope.names, y.2 = .free → ∃ d, X.env.cells.lookup y.1 = some d)
    (go : ∀ (g d : Addr) (pm ct : Value) (H1 : Hp) (t : Shared), Inv X pins σ H1 t → Grow P (X.env.qual ++ "<lambda>") ps H H1 → t.heap.get? g = some (PySem.W.kla_obj "<lambda>" (X.env.qual ++ "<lambda>") params body scope (cloFrom X.env.cells scope.names []) pm d ct) → H1 g = none → g ∉ frs X.stack → H1 d = some (CodeO d (X.env.qual ++ "<lambda>")) → Q (.ref g) t) :
    wpAny (model X.prog X.w) X.A (eval (.Lambda params body scope pos) X.env) Q E s := by
  obtain ⟨hP, hok, hall⟩ := hT
  have inHeap := I.hok P _ hP
  have bltn := TB.bm.keeps I.bk
  have offStack : ∀ g, s.heap.objs.size ≤ g → g ∉ frs X.stack := by
    intro g hg hm
    rcases List.mem_cons.mp (I.stkSub _ hm) with e | e
    · have below := I.lt
      rw [← e] at below
      exact absurd hg (Nat.not_le_of_lt below)
    · exact absurd e (I.nofs hg)
  refine PySem.W.kla_eval h0 ?_
  cases hq : codeAmong pos ps.toList with
  | some cv =>
    obtain ⟨d, rfl, hd⟩ := hall pos cv hq
    refine PySem.W.kla_makeFunctionHit (mg := X.mg) (c := c) (P := P) (ps := ps) (closure_ok hf) I.ok.glob (I.mod.glob.keeps I.bk) hc (TB.code.keeps I.bk) inHeap hok hq bltn ?_
    intro ct h' tk hx hsz
    refine go h'.objs.size d _ ct H _ (I.kept fun b o e => Heap.get?_push_of_some _ (hx b o e)) ⟨fun b o _ e => e, ps, hP, hok, fun _ _ e => .inl e⟩ (Heap.get?_push_size _ rfl) (I.hok.fresh hsz) (offStack _ hsz) hd
  | none =>
    refine PySem.W.kla_makeFunction (mg := X.mg) (c := c) (P := P) (ps := ps) (closure_ok hf) I.ok.glob (I.mod.glob.keeps I.bk) hc (TB.code.keeps I.bk) inHeap hok hq TB.gP bltn ?_
    intro d ct h' tk hx hge hlt hrec htb
    obtain ⟨d', oc, vs, t, e2, hoc, hdt, hv⟩ := hrec
    cases e2
    have nD : H d = none := I.hok.fresh hge
    have dP : d ≠ P := fun e => by rw [e, hP] at nD; cases nD
    have J := inv_table (t' := tk) (more := #[rawInt pos.line, rawInt pos.col, .ref d]) (h' := h'.push (PySem.W.kla_obj "<lambda>" (X.env.qual ++ "<lambda>") params body scope (cloFrom X.env.cells scope.names []) ((X.mg "__name__").getD .none) d ct)) I hP
      (fun b o hb e => Heap.get?_push_of_some _ (hx b o hb e)) (Heap.get?_push_of_some _ htb) hge ⟨oc, vs, t, Heap.get?_push_of_some _ hoc, hdt, hv⟩
    have el : (ps ++ #[rawInt pos.line, rawInt pos.col, .ref d]).toList = ps.toList ++ [rawInt pos.line, rawInt pos.col, .ref d] := by simp
    have szl : s.heap.objs.size ≤ h'.objs.size := by omega
    have gd : h'.objs.size ≠ d := by omega
    have gP : h'.objs.size ≠ P := Nat.ne_of_gt (Nat.lt_of_lt_of_le (Heap.lt_size inHeap) szl)
    refine go h'.objs.size d _ ct _ _ J ⟨fun b o hb e => ?_, _, by rw [upd_ne dP.symm, upd_same], by rw [el]; exact PySem.TriplesOk_snoc _ _ _ _ hok, fun at_ cv hcv => ?_⟩ (Heap.get?_push_size _ rfl) ?_ (offStack _ szl) upd_same
    · have hbd : b ≠ d := fun z => by rw [z, nD] at e; cases e
      rw [upd_ne hbd, upd_ne hb]
      exact e
    · rw [el] at hcv
      rcases among_app _ hok hcv with z | z
      · exact .inl z
      · exact .inr ⟨d, z, nD, upd_same⟩
    · rw [upd_ne gd, upd_ne gP]
      exact I.hok.fresh szl
end
/-- what a call of a def with a lambda reads -/
def tLamG (P : Addr) (q : Str) (TT : (XK → Hp → VK → Prop) → Hp → VK → Prop) (t : XK → TE) : TE := fun σ H Q => ∃ ps, TabD H P q ps ∧ ∀ H1, Grow P q ps H H1 → TT (fun E H' Q' => t E σ H' Q') H1 Q
theorem pe_lamG {X : Cx} {TT : (XK → Hp → VK → Prop) → Hp → VK → Prop} {x a : Str} {g c P : Addr} {k : Nat} {pg : Arguments} {bg : List Stmt} {sg : Scope} {dV kV doc pm cdv ct oc : Value} {an od : Option Addr} {osl : Array (Option Value)} {Ng : List Str}
    {params : Arguments} {body : Expr} {scope : Scope} {t : XK → TE} {p lpos pos : Pos} (hg : Gl X x) (hm : X.mg x = some (.ref g)) (hk : PySem.W.keepIn X.K (.ref g) = true)
    (lk : X.K.lookup g = some ⟨oc, od, .func (PySem.W.fnOf x x pg bg sg dV kV doc pm an cdv ct), osl⟩) (hcg : PySem.W.codeIn X.K cdv x = true) (hb : L2.Binds X.K (PySem.W.fnOf x x pg bg sg dV kV doc pm an cdv ct) [a] []) (Sg : FnScope Ng [a] sg) (hNg : Ng[0]? = some a) (hva : Vis sg a)
    (hG : GivesTo X Ng x sg g cdv bg a (X.env.qual ++ "<lambda>") TT)
    (TB : TabB X.base X.mg c P) (hcode : X.env.code = .ref c) (hr : Room (k + 2) X.A) (L : LamS X.env.scope scope) (hdef : defaultsOf params X.env = ([], []))
    (hbind : ∀ (q : Str) (cl : List (Str × Addr)) (pm cv ctv : Value), bindArgs (PySem.W.kla_fn "<lambda>" q params body scope cl pm cv ctv) ⟨[], []⟩ = pure [])
    (hbody : ∀ (A : Around) (outer : List Env) (s : Shared) (H : Hp) (E : XK) (f c' : Addr), Room k (A.deeper (lamEnv X scope s.heap.objs.size f c')) → PE (lamCx X A outer s H E scope f c') body (t E))
    (hdb : (x == ("__debug__" : Str)) = false) (hd : (a == ("__debug__" : Str)) = false) (hcd : (a == ("__classdict__" : Str)) = false) :
    PE X (.Call (.Name x p) [.Lambda params body scope lpos] [] pos) (tLamG P (X.env.qual ++ "<lambda>") TT t) := by
  refine ⟨fun pins s σ H Q I ⟨ps, hT, hgo⟩ => wpAny_Call_Name_kw (ld_glob I hg hm ?_ hdb)⟩
  refine PySem.W.callWith_K (h₀ := X.base) I.ok.mod.kin hk ?_ (by rfl) (by rfl)
  show wpAny _ _ (spliced ((false, eval (.Lambda params body scope lpos) X.env) :: backTo pos (starEach [] X.env))) _ _ s
  refine Calls.spliced_cons (mkLam I TB hcode hT hdef (L.has I.ok) fun f d pm' ctv H1 u J gr hf hfn hfr hco => Calls.spliced_nil ⟨J.kIn, ?_⟩)
  have run : codeAny (model X.prog X.w) X.A (.call (.ref g) ⟨[.ref f], []⟩) (CR C8.CX0 X.stack X.prog X.w H1 u Q C8.E0) u := by
    refine run_ofS (N := Ng) (ps := [a]) (us := [.ref f]) (vs := [.ref f]) lk hcg Sg hr J.env0 (hb u [.ref f] J.kIn rfl) (.cons rfl .nil) rfl fun hr' => ?_
    obtain ⟨w, hw, hq⟩ := hG f d u H1 Q (fun E H' Q' => t E σ H' Q') (fun W pn xe E p1 p2 tk hW => pe_act (i := 0) J L hf hfn hfr (hbind _ _ _ _ _) tk hW hr' (fun A outer s H hr2 => hbody A outer s H E f d hr2) hNg hva hd hcd) hco (hgo H1 gr)
    exact ⟨w, hw.nox, hq⟩
  refine wpAny_call (codeAny_mono run fun r v hv => ?_)
  cases r with
  | error e => exact (show False from hv).elim
  | ok fl => cases fl <;> first | exact J.after hv | exact False.elim hv
end Pyx
/-! a lambda made, in the store; list.count, list.index of flat items -/
namespace Pyx
open PySem PySem.Spec PyProof.Rows L2 LamX
/-- where the n-th table stands -/
def tid (n : Nat) : Id := .obj 1000000 n
theorem rel_tab {C : Ctx} {l : Lay} {S : Sto} {H : Hp} {n : Nat} (r : Rel C l S H) (hS : S.at_ (tid n) = some (.tbl n)) : l (tid n) = some (C.tad n) ∧ ∃ ps, TabD H (C.tad n) (C.tq n) ps := by
  obtain ⟨a, ha, e, ps, h1, h2, h3⟩ := r.cells _ _ hS
  subst e
  refine ⟨ha, ps, h1, h2, fun pos cv hc => ?_⟩
  obtain ⟨c, e1, e2, _⟩ := h3 pos cv hc
  exact ⟨c, e1, e2⟩
theorem grow_ok {C : Ctx} {l : Lay} {S : Sto} {H H1 : Hp} {n : Nat} {ps : Array Value} (r : Rel C l S H) (hS : S.at_ (tid n) = some (.tbl n)) (hP : TabD H (C.tad n) (C.tq n) ps) (g : Grow (C.tad n) (C.tq n) ps H H1) : Ext l H l H1 ∧ Rel C l S H1 := by
  have hl := (rel_tab r hS).1
  obtain ⟨hP1, hP2, hP3⟩ := hP
  have nP : ∀ a : Addr, (∀ i, l i ≠ some a) → a ≠ C.tad n := fun a h e => h (tid n) (by rw [e]; exact hl)
  have x : Ext l H l H1 := ⟨⟨fun _ _ h => h, fun a o h nn => g.keep a o (nP a nn) h, fun a vs h => g.keep a _ (fun e => (by rw [e, hP1] at h; cases h)) h, fun i a h h' => (by rw [h] at h'; cases h'), fun a h => .inl h⟩, fun a h => h, rfl⟩
  refine ⟨x, ⟨fun i c hi => ?_, r.dom, r.inj, fun a ha => ?_⟩⟩
  · obtain ⟨a, ha, hc⟩ := r.cells i c hi
    by_cases e : a = C.tad n
    · have ei : i = tid n := r.inj i (tid n) a ha (by rw [e]; exact hl)
      subst ei
      rw [hS] at hi
      cases hi
      refine ⟨a, ha, e, ?_⟩
      obtain ⟨qs, q1, q2, q3⟩ := g.tab
      refine ⟨qs, by rw [e]; exact q1, q2, fun pos cv hcv => ?_⟩
      obtain ⟨_, ps', p1, p2, p3⟩ := hc
      rw [e, hP1] at p1
      cases p1
      rcases q3 pos cv hcv with z | ⟨d, z1, z2, z3⟩
      · obtain ⟨d, e1, e2, e3, e4⟩ := p3 pos cv z
        exact ⟨d, e1, g.keep d _ (nP d e3) e2, e3, e4⟩
      · exact ⟨d, z1, z3, fun i hi => r.fresh z2 i hi, r.free z2⟩
    · obtain ⟨o, ho, _⟩ := hc.some
      exact ⟨a, ha, hc.mono x ((g.keep a o e ho).trans ho.symm) rfl⟩
  · obtain ⟨⟨o, ho, hz⟩, hn⟩ := r.nos a ha
    exact ⟨⟨o, g.keep a o (nP a hn) ho, hz⟩, hn⟩
/-- told: what the lambda tells; of an exception what tn says -/
def toldM (n : Nat) (tn : Exn → Option D) (m : EM) : EM := fun e S => match S.at_ (tid n) with
  | some (.tbl k) => if k = n then (match m e S with
    | .ok d S1 => .ok d S1
    | .exc x S1 => ofO (tn x) S1
    | .bad => .bad) else .bad
  | _ => .bad
def TTd (C : Ctx) (tn : Exn → Option D) : (XK → Hp → VK → Prop) → Hp → VK → Prop := fun tl H Q => tl (fun cls d H' => ∃ S l ex r, Rel C l S H' ∧ RX C l H' ex cls d ∧ tn ex = some r ∧ VPost C S l H' r Q) H Q
/-- a def that calls what it gets, and catches -/
def ToldIs (X : Cx) (C : Ctx) (x : Str) (tn : Exn → Option D) : Prop := ∃ (a : Str) (g : Addr) (pg : Arguments) (bg : List Stmt) (sg : Scope) (dV kV doc pm cdv ct oc : Value) (an od : Option Addr) (osl : Array (Option Value)) (Ng : List Str),
  X.mg x = some (.ref g) ∧ PySem.W.keepIn X.K (.ref g) = true ∧ X.K.lookup g = some ⟨oc, od, .func (PySem.W.fnOf x x pg bg sg dV kV doc pm an cdv ct), osl⟩ ∧ PySem.W.codeIn X.K cdv x = true ∧ L2.Binds X.K (PySem.W.fnOf x x pg bg sg dV kV doc pm an cdv ct) [a] [] ∧ FnScope Ng [a] sg ∧ Ng[0]? = some a ∧ Vis sg a ∧
    (a == ("__debug__" : Str)) = false ∧ (a == ("__classdict__" : Str)) = false ∧ ∀ (Y : Cx) (q : Str), Y.prog = X.prog → Y.w = X.w → Y.K = X.K → Y.mg = X.mg → Y.base = X.base → Room 1 Y.A → GivesTo Y Ng x sg g cdv bg a q (TTd C tn)
/-- the maker's table -/
def MkIs (X : Cx) (C : Ctx) (k n : Nat) : Prop := ∃ c, TabB X.base X.mg c (C.tad n) ∧ X.env.code = .ref c ∧ C.tq n = X.env.qual ++ "<lambda>" ∧ Room (k + 3) X.A
abbrev noArgs : Arguments := ⟨[], [], none, [], [], none, []⟩
section
variable {X : Cx} {C : Ctx} {W : WX}
theorem sd_told {x : Str} {k n : Nat} {tn : Exn → Option D} {m : EM} {body : Expr} {scope : Scope} {p lpos pos : Pos} (hg : Gl X x) (hT : ToldIs X C x tn) (hM : MkIs X C k n) (L : LamS X.env.scope scope)
    (hbody : ∀ (A : Around) (outer : List Env) (s : Shared) (H : Hp) (E : XK) (f c' : Addr), Room (k + 1) (A.deeper (lamEnv X scope s.heap.objs.size f c')) → PE (lamCx X A outer s H E scope f c') body (T C (fun cls d _ H => E cls d H) m))
    (hdb : (x == ("__debug__" : Str)) = false) : PE X (.Call (.Name x p) [.Lambda noArgs body scope lpos] [] pos) (T C W (toldM n tn m)) := by
  obtain ⟨a, g, pg, bg, sg, dV, kV, doc, pm, cdv, ct, oc, an, od, osl, Ng, h1, h2, h3, h4, h5, h6, h7, h8, h9, h10, h11⟩ := hT
  obtain ⟨c, TB, hc, hq, hr⟩ := hM
  have G := h11 X (X.env.qual ++ "<lambda>") rfl rfl rfl rfl rfl (hr.mono (by omega))
  refine PEmono (pe_lamG (k := k + 1) (t := fun E => T C (fun cls d _ H => E cls d H) m) hg h1 h2 h3 h4 h5 h6 h7 h8 G TB hc hr L rfl (fun q cl pm cv ctv => rfl) hbody hdb h9 h10) fun σ H Q h => ?_
  obtain ⟨e, S, l, he, hR, hp⟩ := h
  unfold toldM at hp
  split at hp
  · rename_i k' hS
    split at hp
    · rename_i ek
      subst ek
      obtain ⟨hl, ps, hTab⟩ := rel_tab hR hS
      rw [hq] at hTab
      refine ⟨ps, hTab, fun H1 g1 => ?_⟩
      obtain ⟨x1, r1⟩ := grow_ok hR hS (by rw [hq]; exact hTab) (by rw [hq]; exact g1)
      refine ⟨e, S, l, he.mono x1, r1, ?_⟩
      have hp := Post.mono hp x1 r1
      revert hp
      generalize m e S = o
      intro hp
      cases o with
      | ok d S1 => exact fun H' l' x r v hv => hp H' l' x r v hv
      | bad => exact hp
      | exc y S1 =>
        intro H' l' cls d x2 r2 rx
        have hp2 := Post.mono hp x2 r2
        obtain ⟨r, hr1, hp3⟩ := post_ofO (show Post C W (QE C Q) σ l' H' (ofO (tn y) S1) from hp2)
        exact ⟨S1, l', y, r, r2, rx, hr1, VPost.of hp3⟩
    · exact hp.elim
  · exact hp.elim
end
/-! ### list.count, list.index -/
theorem countP_eqU {y : V} {uy : Value} : ∀ {xs : List V} {us : List Value}, Vals xs us → xs.all flatV = true → us.countP (eqU y) = xs.countP fun z => eqV z y
  | _, _, .nil, _ => rfl
  | x :: xs, u :: us, .cons r t, f => by
    rw [List.all_cons, Bool.and_eq_true] at f
    rw [List.countP_cons, List.countP_cons, countP_eqU (uy := uy) t f.2, eqU_of r f.1]
def rCnt (K : PySem.W.Frag) : V → List V → Hp → VK → Prop := fun x xs H Q => ∃ (a : Addr) (ys : List V) (y : V), x = V.ref a ∧ xs = [y] ∧ SqL K H a ys ∧ flatV y = true ∧ ys.all flatV = true ∧ Q (.int (ys.countP fun z => eqV z y : Nat)) H
theorem mt_cnt {X : Cx} : MtR X "list.count" (rCnt X.K) := by
  intro pins s σ H x xs v us Q I rx rxs h
  obtain ⟨a, ys, y, rfl, rfl, hs, fy, fys, q⟩ := h
  cases rx
  cases rxs with
  | cons ry rt =>
    rename_i uy ut
    cases rt
    obtain ⟨its, rv, ⟨⟨cls, dd, data, sl⟩, n, ho, hc, hdn, hd⟩, hlen⟩ := I.list hs
    simp only at hc hd
    subst hc hd
    refine call_meets PySem.F.slot_list_count ⟨_, ho, rfl⟩ PySem.F.entry_list_count (PySem.F.args_list_count_2 _ _)
      (SeqAt.list_countAt a its.toArray n dd sl uy (eqU y)) ⟨ho, fun u' hu' => mem_eqAt ry fy rv fys u' (by simpa using hu'), ?_⟩
    refine ⟨.int (ys.countP fun z => eqV z y : Nat), H, I.tok _, ⟨s.toks, ?_⟩, q⟩
    show Value.int ((its.toArray.toList.countP (eqU y) : Nat) : Int) s.toks = _
    rw [show its.toArray.toList = its by simp, countP_eqU (uy := uy) rv fys]
theorem count_rd {K : PySem.W.Frag} {l : Lay} {H : Hp} {d : D} {v : V} (h : RD K l H d v) (f : flatD d = true) : ∀ {ds : List D} {vs : List V}, RDs K l H ds vs → ds.all flatD = true → vs.all flatV = true ∧ (vs.countP fun z => eqV z v) = ds.countP fun y => PyData.eqv (py y) (py d)
  | [], vs, e, _ => by
    cases e
    exact ⟨rfl, rfl⟩
  | x :: ds, vs, e, g => by
    obtain ⟨w, r, rfl, h1, h2⟩ := e
    rw [List.all_cons, Bool.and_eq_true] at g
    obtain ⟨i1, i2⟩ := count_rd h f h2 g.2
    refine ⟨by rw [List.all_cons, flat_rd h1 g.1, i1]; rfl, ?_⟩
    rw [List.countP_cons, List.countP_cons, i2, eq_rd h1 h g.1 f]
def cntG : D → List D → Sto → Option (D × Sto)
  | .lst ds, [y], S => if (flatD y && ds.all flatD) = true then some (.int (ds.countP fun z => PyData.eqv (py z) (py y) : Nat), S) else none
  | _, _, _ => none
def idxG : D → List D → Sto → Option (D × Sto)
  | .lst ds, [y], S => if (flatD y && ds.all flatD) = true then (ds.findIdx? fun z => PyData.eqv (py z) (py y)).map fun j => (.int (j : Nat), S) else none
  | _, _, _ => none
section
variable {X : Cx} {C : Ctx} (hK : C.K = X.K)
include hK
theorem mg_cnt : MtR X "list.count" (rM C cntG) := by
  intro pins s σ H x xs v us Q I rx rs h
  obtain ⟨S, l, a, ds, d, S', hr, ha, hd, hg, hp⟩ := h
  unfold cntG at hg
  split at hg
  · rename_i es y
    obtain ⟨w, rfl, hw⟩ := hd.one
    split at hg
    · rename_i hf
      rw [Bool.and_eq_true] at hf
      cases hg
      obtain ⟨b, vs, rfl, hb, hvs⟩ := ha
      obtain ⟨i1, i2⟩ := count_rd hw hf.1 hvs hf.2
      exact mt_cnt pins s σ H _ _ v us Q I rx rs ⟨b, vs, w, rfl, rfl, hK ▸ hb.sq, flat_rd hw hf.1, i1, by rw [i2]; exact hp H l (Ext.refl l H) hr _ rfl⟩
    · cases hg
  · cases hg
theorem mg_idx : MtR X "list.index" (rM C idxG) := by
  intro pins s σ H x xs v us Q I rx rs h
  obtain ⟨S, l, a, ds, d, S', hr, ha, hd, hg, hp⟩ := h
  unfold idxG at hg
  split at hg
  · rename_i es y
    obtain ⟨w, rfl, hw⟩ := hd.one
    split at hg
    · rename_i hf
      rw [Bool.and_eq_true] at hf
      obtain ⟨j, hj, e⟩ := Option.map_eq_some_iff.mp hg
      cases e
      obtain ⟨b, vs, rfl, hb, hvs⟩ := ha
      obtain ⟨i1, i2⟩ := count_rd hw hf.1 hvs hf.2
      obtain ⟨q1, q2, q3⟩ := List.findIdx?_eq_some_iff_getElem.mp hj
      obtain ⟨z, hz, rz⟩ := hvs.get (List.getElem?_eq_getElem q1)
      have fl : ∀ (m : Nat) (h : m < es.length), flatD es[m] = true := fun m h => List.all_eq_true.mp hf.2 _ (List.getElem_mem h)
      refine mt_index pins s σ H _ _ v us Q I rx rs ⟨b, vs, w, j, z, rfl, rfl, hK ▸ hb.sq, flat_rd hw hf.1, i1, hz, by rw [eq_rd rz hw (fl j q1) hf.1]; exact q2, fun m z' hm hz' => ?_, hp H l (Ext.refl l H) hr _ rfl⟩
      have hme : m < es.length := by omega
      obtain ⟨z2, hz2, rz2⟩ := hvs.get (List.getElem?_eq_getElem hme)
      rw [hz'] at hz2
      cases hz2
      rw [eq_rd rz2 hw (fl m hme) hf.1]
      simpa using q3 m hm
    · cases hg
  · cases hg
end
end Pyx
/-! exceptions of classes with an __init__ of their own: raised, made -/
namespace Pyx
open PySem PySem.Spec PyProof.Rows L2
/-! ### Base.__init__(self, ..) in such an __init__ -/
structure BaseIs (K : PySem.W.Frag) (B : Addr) : Prop where
  rd : PySem.W.readsIn K B (.type "type") = true
  ga : PySem.W.specialIn K (.ref B) "__getattribute__" = some (some (.builtin "type.__getattribute__"))
  at_ : PySem.W.findCls K (.ref B) (.type "type") "__init__" = some (.val (.builtin "ValueError.__init__"))
section
variable {X : Cx} {e : Expr} {es : List Expr} {ta : TA} {x : Str} {p1 p2 pos : Pos} {B : Addr}
theorem pe_binit {pl : Sem Bool} (hg : Gl X x) (hm : X.mg x = some (.ref B)) (T0 : BaseIs X.K B) (ha : PA X (e :: es) ta) (hdb : (x == ("__debug__" : Str)) = false)
    (hc : eval (.Call (.Attribute (.Name x p1) "__init__" p2) (e :: es) [] pos) X.env = (do
      let ov ← eval (.Name x p1) X.env
      standAt p2.atName
      let (f, first) ← holding [ov] (getMethod ov "__init__" pl)
      callWith pos f first (backTo pos (starEach (e :: es) X.env)) (backToKw pos (keywordEach [] X.env))) := by rfl)
    (he : starEach (e :: es) X.env = (false, eval e X.env) :: starEach es X.env := by rfl) (hpl : (backTo pos (starEach es X.env)).any (·.1) = false := by rfl) :
    PE X (.Call (.Attribute (.Name x p1) "__init__" p2) (e :: es) [] pos) (tVeI X.K ta) := by
  refine ⟨fun pins s σ H Q I h => ?_⟩
  refine PySem.W.methodCall_KW (ld_glob I hg hm ?_ hdb) hc
  refine PySem.W.method_cls I.kIn T0.ga (PySem.W.cls_value I.kIn T0.rd T0.at_ (by decide +kernel) ?_)
  show wpAny _ _ (callWith pos (Value.builtin "ValueError.__init__") [] (backTo pos (starEach (e :: es) X.env)) []) _ _ _
  refine PyProof.Rows.callWith_method1 (thn (ha.run pos pins _ σ H _ (I.tok _) h) fun us s1 ⟨vs, H1, I1, r1, a, C, ws, ev, hl, T, ea, q⟩ => ?_) he hpl
  subst ev
  cases r1 with
  | @cons _ u0 _ ur ra rw' =>
    obtain rfl : u0 = Value.ref a := ra
    have hlen : ur.length ≤ sizeLine := by
      rw [← Paired.length rw', sizeLine_eq]
      omega
    exact oinit_ok T I1 ea hlen fun s' J => ⟨.non, H1, J, rfl, q⟩
end
/-! ### what such an __init__ promises -/
/-- the fields, the last assigned first -/
def exFs (fl : List Str) (is : List Int) : List (Str × Int) := (fl.zip is).reverse
def spX (C : Addr) (fl : List Str) : Sp := fun vs H Q _ => ∃ (a : Addr) (is : List Int), vs = V.ref a :: is.map V.int ∧ is.length = fl.length ∧ H a = some (exo a C none) ∧
  ∀ dx H2, H dx = none → dx ≠ a → H2 a = some (exo a C (some dx)) → H2 dx = some (exd dx ((exFs fl is).map fun p => (p.1, V.int p.2))) → (∀ b, b ≠ a → b ≠ dx → H2 b = H b) → Q .non H2
/-- a class with an __init__ of its own -/
structure OexIs (X : Cx) (C : Ctx) (x : Str) (c : Nat) (fl : List Str) : Prop where
  mg : X.mg x = some (.ref (C.xad c))
  T : OexC X.K (C.xad c)
  init : ∃ (fI : Addr) (fd : FuncData) (ps : List Str), PySem.W.findIn X.K (.ref (C.xad c)) "__init__" = some (some (.ref fI)) ∧ PySem.W.typeIn X.K (.ref fI) = some (.type "function") ∧
    FnOk X.prog X.w X.K X.mg X.base (L2.CX X.prog X.w) 1 fI fd ps (spX (C.xad c) fl) ∧ L2.Binds X.K fd ps []
/-- raise X(e, ..) -/
def raiseOM (c : Nat) (fl : List Str) (t : AM) : SM := fun e S => liftS (t e S) e fun ds S1 => match intsD ds with
  | some is => if is.length = fl.length ∧ is.length ≤ 1000 then .exc ⟨c, some (exFs fl is)⟩ e S1 else .bad
  | none => .bad
section
variable {X : Cx} {C : Ctx} {W : WX}
theorem ss_raiseO {x : Str} {c k : Nat} {fl : List Str} {ex : Expr} {es : List Expr} {m : AM} {p cpos pos : Pos} (hc : X.calm = true) (tk : Takes X W) (hr : Room (k + 2) X.A) (E : OexIs X C x c fl) (hg : Gl X x) (hd : (x == ("__debug__" : Str)) = false)
    (ha : PA X (ex :: es) (TA' C W m)) (hs : (ex :: es).all noStar = true) :
    PS X (.Raise (some (.Call (.Name x p) (ex :: es) [] cpos)) none pos) (TS' C W (raiseOM c fl m)) := by
  obtain ⟨fI, fd, ps, h1, h2, h3, h4⟩ := E.init
  have s1 : noStar ex = true := by
    rw [List.all_cons] at hs
    exact (Bool.and_eq_true_iff.mp hs).1
  have s2 : es.all noStar = true := by
    rw [List.all_cons] at hs
    exact (Bool.and_eq_true_iff.mp hs).2
  refine PSmono (ps_raise hc tk (pmk_oex (ds := []) (dvs := []) E.T h1 h2 h3 (hr.mono (by omega)) h4 .nil (passes_call tk fun _ _ _ _ z => z.elim) hg E.mg ha hd (star_eq s1) (star_any s2))) fun D' s H h => ?_
  obtain ⟨e, S, l, he, hR, hp⟩ := h
  refine TAmono (SA_run he hR hp) fun vs H1 ⟨l1, ds, S1, he1, hr1, x1, hd1, hp1⟩ => ?_
  cases q : intsD ds with
  | none =>
    rw [q] at hp1
    exact hp1.elim
  | some is =>
    rw [q] at hp1
    have hp1 : PostS C W D' l1 H1 (if is.length = fl.length ∧ is.length ≤ 1000 then .exc ⟨c, some (exFs fl is)⟩ e S1 else .bad) := hp1
    split at hp1
    · rename_i hl
      have ev := ints_ok hd1 q
      subst ev
      refine ⟨by rw [List.length_map]; exact hl.2, fun a hna => ⟨a, is, by rw [List.append_nil], hl.1, upd_same, fun dx H2 hdx ne e1 e2 e3 => ?_⟩⟩
      have hdx1 : H1 dx = none := by
        rw [upd_ne ne] at hdx
        exact hdx
      refine ⟨rfl, dx, _, e1, e2, hdx1, ?_⟩
      have eH : upd (del H2 a) dx (.xd ((exFs fl is).map fun p => (p.1, V.int p.2))) = upd H1 dx (.xd ((exFs fl is).map fun p => (p.1, V.int p.2))) := by
        funext b
        by_cases hb : b = dx
        · rw [hb, upd_same, upd_same]
        · rw [upd_ne hb, upd_ne hb]
          by_cases hba : b = a
          · rw [hba, del_same, hna]
          · rw [del_ne hba, e3 b hba hb, upd_ne hba]
      rw [eH]
      have x2 := ext_new (l := l1) (o := .xd ((exFs fl is).map fun p => (p.1, V.int p.2))) hdx1
      have r2 := rel_new (o := .xd ((exFs fl is).map fun p => (p.1, V.int p.2))) hr1 hdx1
      refine hp1 s _ l1 _ _ x2 r2 (he1.mono x2) ⟨rfl, dx, rfl, upd_same, fun i hi => ?_, fun hn => ?_⟩
      · obtain ⟨o, ho⟩ := hr1.there hi
        rw [hdx1] at ho
        cases ho
      · obtain ⟨⟨o, ho, _⟩, _⟩ := hr1.nos _ hn
        rw [hdx1] at ho
        cases ho
    · exact hp1.elim
end
end Pyx
/-! zip of a text and a list -/
namespace Pyx
open PySem PySem.Spec PyProof.Rows L2
/-- the signs of z, the items of the list at b, which stays as it is, in new pairs -/
def ItzS (K : PySem.W.Frag) (z : Str) (b : Addr) (ys : List V) : It :=
  ⟨fun i H => SqL K H b ys ∧ i < min z.cps.size ys.length,
    fun i H v H' => ∃ (T : Addr) (c : Nat) (y : V), v = .ref T ∧ H T = none ∧ H' = upd H T (.tup [.str ⟨#[c]⟩, y]) ∧ z.cps[i]? = some c ∧ ys[i]? = some y,
    fun i H => SqL K H b ys ∧ min z.cps.size ys.length ≤ i⟩
theorem mem45 {z TI TO i1 i2 d : Addr} (e : d ∈ [z, TO, i1, i2]) : d ∈ [z, TI, TO, i1, i2] := by
  simp only [List.mem_cons, List.not_mem_nil, or_false] at e
  rcases e with rfl | rfl | rfl | rfl <;> simp
theorem turn_zipS {P : Program} {w : World} {K : PySem.W.Frag} {elts : List Expr} {kk : Nat} {tpos : Pos} {z : Str} {t : Tok} {b zz TI TO i1 i2 : Addr} {ys : List V} (S : ZipSep2 zz TI TO i1 i2 [i1] [i2, b]) (hb : b ≠ i2) :
    Turn P w K (.Tuple elts kk tpos) (ItzS K z b ys) [zz, TI, TO, i1, i2] zz (fun i h => (IsZip h zz TI TO .none ∧ IsTupOf2 h TI (.ref i1) (.ref i2) ∧ (∃ x y, IsTupOf2 h TO x y) ∧ h.IsStrIter i1 (strIterType z) z t i ∧ h.IsListIter i2 b i) ∧ i ≤ min z.cps.size ys.length) where
  mem := List.mem_cons_self
  obj := fun i h st c hc => by
    obtain ⟨⟨g1, g2, ⟨x, y, g3⟩, ⟨o1, e1, _, d1⟩, ⟨o2, e2, _, d2⟩⟩, _⟩ := st
    simp only [List.mem_cons, List.not_mem_nil, or_false] at hc
    rcases hc with rfl | rfl | rfl | rfl | rfl
    · exact ⟨_, g1, fun v q => nomatch q⟩
    · exact ⟨_, g2, fun v q => nomatch q⟩
    · exact ⟨_, g3, fun v q => nomatch q⟩
    · exact ⟨o1, e1, fun v q => by rw [d1] at q; cases q⟩
    · exact ⟨o2, e2, fun v q => by rw [d2] at q; cases q⟩
  keep := fun i h h' st k => by
    obtain ⟨⟨g1, g2, ⟨x, y, g3⟩, ⟨o1, e1, c1⟩, ⟨o2, e2, c2⟩⟩, l⟩ := st
    exact ⟨⟨k _ (by simp) _ g1, k _ (by simp) _ g2, ⟨x, y, k _ (by simp) _ g3⟩, ⟨o1, k _ (by simp) _ e1, c1⟩, ⟨o2, k _ (by simp) _ e2, c2⟩⟩, l⟩
  item := by
    intro X hP hw hK hc i pins s σ H E I hf st hg
    subst hP hw hK
    obtain ⟨⟨g1, g2, g3, g4, g5⟩, _⟩ := st
    obtain ⟨hq, hi⟩ := hg
    obtain ⟨its, rv, p, _⟩ := I.list hq
    have hl : its.toArray.size = ys.length := by rw [List.size_toArray]; exact rv.length.symm
    have hh : X.A.in1.handled = none := I.ok.hd hc
    have W := GoesN.zip2 (prog := X.prog) (w := X.w) (A := X.A) (elts := elts) (x1 := kk) (pos := tpos) S (Draws.text hh i1 z t) (Draws.list hh i2 b hb its.toArray)
    refine W.goes i s (fun u s2 => ∃ x H', Inv X pins σ H' s2 ∧ RelV x u ∧ (ItzS X.K z b ys).yld i H x H' ∧ ((IsZip s2.heap zz TI TO .none ∧ IsTupOf2 s2.heap TI (.ref i1) (.ref i2) ∧ (∃ x y, IsTupOf2 s2.heap TO x y) ∧ s2.heap.IsStrIter i1 (strIterType z) z t (i + 1) ∧ s2.heap.IsListIter i2 b (i + 1)) ∧ i + 1 ≤ min z.cps.size ys.length) ∧ ∀ b ∈ [zz, TI, TO, i1, i2], H' b = none) E (by rw [hl]; exact hi) ⟨g1, g2, g3, g4, g5, p.isList⟩ fun v h' tk hY st' hk htk => ?_
    obtain ⟨T, x, y', rfl, hT, ⟨c, u, hc1, rfl⟩, hy', hTu⟩ := hY
    obtain ⟨y, hy⟩ : ∃ y, ys[i]? = some y := ⟨_, List.getElem?_eq_getElem (by omega)⟩
    obtain ⟨u2, hu2, ru2⟩ := rv.get hy
    have eu : u2 = y' := by
      have h3 : its[i]? = some y' := by simpa using hy'
      rw [hu2] at h3
      exact Option.some.inj h3
    subst eu
    have hn : H T = none := I.hok.fresh hT
    have new : ObjOk X.prog X.w (upd H T (.tup [.str ⟨#[c]⟩, y])) h' T (.tup [.str ⟨#[c]⟩, y]) := ⟨by show 2 ≤ sizeLine; decide, [.str ⟨#[c]⟩ u, u2], .cons ⟨u, rfl⟩ (.cons ru2 .nil), hTu⟩
    have J : Inv X pins σ (upd H T (.tup [.str ⟨#[c]⟩, y])) { s with heap := h', toks := tk } :=
      I.turnedNew (t' := tk) (ch := [zz, TI, TO, i1, i2]) (fun d o hd q => hk d o (fun e => hd (mem45 e)) q) hf hT new
    obtain ⟨k1, k2, k3, k4, k5, _⟩ := st'
    refine ⟨.ref T, _, J, rfl, ⟨T, c, y, rfl, hn, rfl, hc1, hy⟩, ⟨⟨k1, k2, k3, k4, k5⟩, hi⟩, fun d hd => ?_⟩
    have hlt : d < s.heap.objs.size := by
      obtain ⟨x0, y0, g3⟩ := g3
      obtain ⟨o1, e1, _⟩ := g4
      obtain ⟨o2, e2, _⟩ := g5
      simp only [List.mem_cons, List.not_mem_nil, or_false] at hd
      rcases hd with rfl | rfl | rfl | rfl | rfl
      · exact Heap.lt_size g1
      · exact Heap.lt_size g2
      · exact Heap.lt_size g3
      · exact Heap.lt_size e1
      · exact Heap.lt_size e2
    rw [upd_ne (Nat.ne_of_lt (Nat.lt_of_lt_of_le hlt hT))]
    exact (hf d hd).1
  done := by
    intro X hP hw hK hc i pins s σ H E I hf st hg
    subst hP hw hK
    obtain ⟨⟨g1, g2, g3, g4, g5⟩, hle⟩ := st
    obtain ⟨hq, hi⟩ := hg
    obtain ⟨its, rv, p, _⟩ := I.list hq
    have hl : its.toArray.size = ys.length := by rw [List.size_toArray]; exact rv.length.symm
    have hh : X.A.in1.handled = none := I.ok.hd hc
    have ei : i = min z.cps.size its.toArray.size := by rw [hl]; omega
    have W := GoesN.zip2 (prog := X.prog) (w := X.w) (A := X.A) (elts := elts) (x1 := kk) (pos := tpos) S (Draws.text hh i1 z t) (Draws.list hh i2 b hb its.toArray)
    refine W.stops s (fun s1 => Inv X pins σ H s1) E (by rw [← ei]; exact ⟨g1, g2, g3, g4, g5, p.isList⟩) fun h' tk hk htk => ?_
    exact I.turnedL (t' := tk) (ch := [zz, TI, TO, i1, i2]) (fun d o hd q => hk d o (fun e => hd (mem45 e)) q) hf
  self := fun A i s Q E st h => wpAny_pyIter_zip st.1.1 h
def iZipS (K : PySem.W.Frag) (ta : TA) : TI := fun σ H R => ta σ H fun vs H1 => ∃ z b ys, vs = [V.str z, .ref b] ∧ SqL K H1 b ys ∧ R (ItzS K z b ys) H1
theorem pi_zipS {X : Cx} {e e2 : Expr} {ta : TA} {p pos tpos : Pos} {elts : List Expr} {kk : Nat} (hg : Gl X "zip") (hm : X.mg "zip" = none) (ha : PA X [e, e2] ta)
    (hs : starEach [e, e2] X.env = (false, eval e X.env) :: starEach [e2] X.env) (hpl : (backTo pos (starEach [e2] X.env)).any (·.1) = false) :
    PI X (.Tuple elts kk tpos) (.Call (.Name "zip" p) [e, e2] [] pos) (iZipS X.K ta) := by
  refine ⟨fun pins s σ H R I h => Call_ (ld_blt I hg hm PyProof.Rows.boot_zip (PyProof.Rows.callWith_type1 (thn (ha.run pos pins s σ H _ I h) fun us s1 hh => ?_) hs hpl))⟩
  obtain ⟨vs, H1, I1, r1, z, b, ys, rfl, hq, q⟩ := hh
  obtain ⟨u1, u2, rfl, r1, r2⟩ : ∃ u1 u2, us = [u1, u2] ∧ RelV (V.str z) u1 ∧ RelV (V.ref b) u2 := by
    cases r1 with
    | cons r rr =>
      cases rr with
      | cons r' rr =>
        cases rr
        exact ⟨_, _, rfl, r, r'⟩
  obtain ⟨t, rfl⟩ := r1
  cases r2
  obtain ⟨its, rv, p1, _⟩ := I1.list hq
  refine zip_begins2 (begins_text z t) (begins_list b its.toArray) True.intro p1.isList fun h' hz hTI hTO h1 h2 hsz hk => wpAny_pyIter_zip hz ?_
  generalize hN : s1.heap.objs.size = N at *
  have hbN : b < N := by rw [← hN]; exact p1.lt
  have S : ZipSep2 (N + 4) (N + 2) (N + 3) N (N + 1) [N] [N + 1, b] := zip_sep2 (N := N) (fp1 := []) (fp2 := [b]) (fun d hd => by cases hd) (fun d hd => by cases List.mem_singleton.mp hd; exact hbN)
  refine ⟨N + 4, [N + 4, N + 2, N + 3, N, N + 1], _, _, H1, rfl, I1.kept (t' := s1.toks) hk, turn_zipS (t := t) S (Nat.ne_of_lt (Nat.lt_succ_of_lt hbN)), ⟨⟨hz, hTI, ⟨_, _, hTO⟩, ⟨_, h1, rfl, rfl⟩, ⟨_, h2, rfl, rfl⟩⟩, Nat.zero_le _⟩, fun c hc => ?_, q⟩
  have hle : s1.heap.objs.size ≤ c := by
    rw [hN]
    simp only [List.mem_cons, List.not_mem_nil, or_false] at hc
    rcases hc with rfl | rfl | rfl | rfl | rfl
    · exact Nat.le_add_right _ _
    · exact Nat.le_add_right _ _
    · exact Nat.le_add_right _ _
    · exact Nat.le_refl _
    · exact Nat.le_add_right _ _
  exact I1.fpOk hle (I1.hok.fresh hle)
/-! ### as a meaning -/
def signsD (z : Str) : List D := z.cps.toList.map fun c => .str ⟨#[c]⟩
def zipSI (t : AM) : IM := fun e S => (t e S).bind fun ds S1 => match ds with
  | [.str z, .lst b] => if PySem.PyData.strOk z = true then .ok (.fix (List.zipWith pairD (signsD z) b)) S1 else .bad
  | _ => .bad
theorem signs_rd {K : PySem.W.Frag} {l : Lay} {H : Hp} : ∀ {cs : List Nat}, (∀ c ∈ cs, c < 0x110000) → RDs K l H (cs.map fun c => D.str ⟨#[c]⟩) (cs.map fun c => V.str ⟨#[c]⟩)
  | [], _ => rfl
  | c :: r, h => ⟨.str ⟨#[c]⟩, _, rfl, ⟨rfl, by
      have := h c List.mem_cons_self
      simp [PySem.PyData.strOk, this]⟩, signs_rd fun d hd => h d (List.mem_cons_of_mem _ hd)⟩
theorem strOk_all {z : Str} (h : PySem.PyData.strOk z = true) : ∀ c ∈ z.cps.toList, c < 0x110000 := fun c hc => by
  unfold PySem.PyData.strOk at h
  rw [Array.all_eq_true'] at h
  have := h c (Array.mem_toList_iff.mp hc)
  simpa using this
section
variable {X : Cx} {C : Ctx} {W : WX}
theorem sp_zipS {a b : Expr} {p pos tpos : Pos} {elts : List Expr} {kk : Nat} {m : AM} (hK : C.K = X.K) (hg : Gl X "zip") (hm : X.mg "zip" = none) (ha : PA X [a, b] (TA' C W m)) (h1 : noStar a = true) (h2 : noStar b = true) :
    PI X (.Tuple elts kk tpos) (.Call (.Name "zip" p) [a, b] [] pos) (TI' C W (zipSI m)) := by
  have hb : [b].all noStar = true := by
    rw [List.all_cons, h2]
    rfl
  refine PImono (pi_zipS hg hm ha (star_eq h1) (star_any hb)) fun s H R q => ?_
  obtain ⟨e, S, l, he, hr, hp⟩ := q
  refine TAmono (TA_run (RA := fun l' H' src => ∀ J, Yld C J src l' H' → R J H') he hr hp) fun vs H1 ⟨l1, ds, S1, he1, hr1, x1, hd1, hp1⟩ => ?_
  split at hp1
  · rename_i z es
    split at hp1
    · rename_i hz
      obtain ⟨v, w, rfl, hv, hw⟩ := hd1.two
      obtain ⟨rfl, _⟩ := hv
      obtain ⟨q, ys, rfl, tq, hy⟩ := hw
      have hp2 := hp1 H1 l1 (Ext.refl _ _) hr1
      refine ⟨z, q, ys, rfl, hK ▸ tq.sq, hp2 _ (yld_pair (C := C) fun l' H' x => ⟨z.cps.toList.map fun c => V.str ⟨#[c]⟩, ys, signs_rd (strOk_all hz), RDs.monoW x _ _ hy, fun k hk => ?_, fun k v w hv hw => ⟨?_, ?_⟩⟩)⟩
      · have sq : SqL X.K H' q ys := .inl (.inl (x.keep _ _ tq.1 tq.2.1))
        refine ⟨sq, ?_⟩
        rw [List.length_map, Array.length_toList] at hk
        omega
      · have sq : SqL X.K H' q ys := .inl (.inl (x.keep _ _ tq.1 tq.2.1))
        refine ⟨sq, ?_⟩
        have h3 := (List.getElem?_eq_some_iff.mp hv).1
        have h4 := (List.getElem?_eq_some_iff.mp hw).1
        rw [List.length_map, Array.length_toList] at h3
        omega
      · rintro u H2 ⟨T, c, y, u1, u2, u3, u4, u5⟩
        rw [hw] at u5
        cases u5
        rw [List.getElem?_map, Array.getElem?_toList, u4] at hv
        cases hv
        exact ⟨T, u1, u2, u3⟩
    · exact hp1.elim
  · exact hp1.elim
end
end Pyx
/-! texts: split, join; dicts: update, a display of texts -/
namespace Pyx
open PySem PySem.Spec PyProof.Rows L2
def strsX : List D → Option (List Str)
  | [] => some []
  | .str z :: r => (strsX r).map (z :: ·)
  | _ => none
theorem strsX_rd {K : PySem.W.Frag} {l : Lay} {H : Hp} : ∀ {ds : List D} {vs : List V} {zs : List Str}, strsX ds = some zs → RDs K l H ds vs → vs = zs.map V.str
  | [], vs, zs, h, r => by
    cases h
    cases r
    rfl
  | d :: ds, vs, zs, h, r => by
    cases d with
    | str z =>
      obtain ⟨rs, hr, e⟩ := Option.map_eq_some_iff.mp (show (strsX ds).map (z :: ·) = some zs from h)
      subst e
      obtain ⟨v, ws, rfl, hv, hw⟩ := r
      obtain ⟨rfl, _⟩ := hv
      rw [strsX_rd hr hw]
      rfl
    | _ => cases h
theorem strs_rd {K : PySem.W.Frag} {l : Lay} {H : Hp} : ∀ {zs : List Str}, zs.all PySem.PyData.strOk = true → RDs K l H (zs.map D.str) (zs.map V.str)
  | [], _ => rfl
  | z :: r, h => by
    rw [List.all_cons, Bool.and_eq_true] at h
    exact ⟨.str z, _, rfl, ⟨rfl, h.1⟩, strs_rd h.2⟩
def splG : D → List D → Sto → Option (D × Sto)
  | .str a, [.str b], S => if (b.length == 0) = false ∧ a.length + 2 ≤ sizeLine ∧ (Txt.split a b).all PySem.PyData.strOk = true then some (.lst ((Txt.split a b).map .str), S) else none
  | _, _, _ => none
def joiG : D → List D → Sto → Option (D × Sto)
  | .str a, [y], S => match top1 S y with
    | .lst ds => (strsX ds).bind fun ys => if (ys.map (·.length)).sum + ys.length * a.length ≤ 16777216 ∧ PySem.PyData.strOk (Txt.join a ys) = true then some (.str (Txt.join a ys), S) else none
    | _ => none
  | _, _, _ => none
def updG : D → List D → Sto → Option (D × Sto)
  | .cell i, [.cell j], S => if i = j then none else match S.at_ i, S.at_ j with
    | some (.dK kvs), some (.dK more) => if kvs.length + more.length ≤ 100000 then some (.non, S.set i (.dK (mergeD kvs more))) else none
    | _, _ => none
  | _, _, _ => none
section
variable {X : Cx} {C : Ctx}
theorem mg_spl : MtR X "str.split" (rM C splG) := by
  intro pins s σ H x xs v us Q I rx rs h
  obtain ⟨S, l, a, ds, d, S', hr, ha, hd, hg, hp⟩ := h
  unfold splG at hg
  split at hg
  · rename_i z b
    obtain ⟨w, rfl, hw⟩ := hd.one
    split at hg
    · rename_i hl
      cases hg
      obtain ⟨rfl, _⟩ := ha
      obtain ⟨rfl, _⟩ := hw
      refine mt_split pins s σ H _ _ v us Q I rx rs ⟨z, b, rfl, rfl, hl.1, hl.2.1, fun p hn => ?_⟩
      exact VPost.lst (VPost.of fun H' l' x r v hv => hp H' l' x r v hv) hr (strs_rd hl.2.2) hn
    · cases hg
  · cases hg
theorem mg_joi (hK : C.K = X.K) : MtR X "str.join" (rM C joiG) := by
  intro pins s σ H x xs v us Q I rx rs h
  obtain ⟨S, l, a, ds, d, S', hr, ha, hd, hg, hp⟩ := h
  unfold joiG at hg
  split at hg
  · rename_i z y
    obtain ⟨w, rfl, hw⟩ := hd.one
    have h1 := RD1.top hr hw
    generalize top1 S y = y' at h1 hg
    split at hg
    · rename_i es
      obtain ⟨ys, hys, hg⟩ := Option.bind_eq_some_iff.mp hg
      split at hg
      · rename_i hl
        cases hg
        obtain ⟨rfl, _⟩ := ha
        obtain ⟨p, vs, rfl, hsq, hvs⟩ : ∃ p vs, w = V.ref p ∧ SqL X.K H p vs ∧ RDs C.K l H es vs := by
          cases h1 with
          | of h1 =>
            obtain ⟨p, vs, e, hL, hv⟩ := h1
            exact ⟨p, vs, e, hK ▸ hL.sq, hv⟩
          | cel h2 q => exact ⟨_, _, rfl, .inl (.inl h2), q⟩
        have ev := strsX_rd hys hvs
        subst ev
        exact mt_join pins s σ H _ _ v us Q I rx rs ⟨z, p, ys, rfl, rfl, .inl hsq, hl.1, hp H l (Ext.refl _ _) hr _ ⟨rfl, hl.2⟩⟩
      · cases hg
    · cases hg
  · cases hg
theorem mg_upd : MtR X "dict.update" (rM C updG) := by
  intro pins s σ H x xs v us Q I rx rs h
  obtain ⟨S, l, a, ds, d, S', hr, ha, hd, hg, hp⟩ := h
  unfold updG at hg
  split at hg
  · rename_i i j
    obtain ⟨w, rfl, hw⟩ := hd.one
    split at hg
    · cases hg
    · rename_i ne
      split at hg
      · rename_i kvs more hi hj
        split at hg
        · rename_i hl
          cases hg
          obtain ⟨p, rfl, ha⟩ := ha
          obtain ⟨q, rfl, hb⟩ := hw
          obtain ⟨p', hp', ws, e1, r1⟩ := hr.cells i _ hi
          rw [ha] at hp'
          cases hp'
          obtain ⟨q', hq', zs, e2, r2⟩ := hr.cells j _ hj
          rw [hb] at hq'
          cases hq'
          have hpq : p ≠ q := fun e => ne (hr.inj i j p ha (by rw [e]; exact hb))
          cases rx
          cases rs with
          | cons r rr =>
            cases rr
            cases r
            obtain ⟨z1, n1, us1, rel1, dd1⟩ := dk_of I.hok e1
            obtain ⟨z2, n2, us2, rel2, dd2⟩ := dk_of I.hok e2
            have l1 : us1.length = kvs.length := by rw [← rel1.length]; exact (Paired.length r1).symm
            have l2 : us2.length = more.length := by rw [← rel2.length]; exact (Paired.length r2).symm
            have hle : us1.length + us2.length ≤ sizeLine := by rw [sizeLine_eq]; omega
            refine call_meetsIn PySem.F.slot_dict_update dd1.typeIs PySem.F.entry_dict_update (PySem.F.args_dict_update_2 _ _) (meets_dict_update (mixKind X.prog X.w) p q hpq n2) ⟨us1, us2, dd1, dd2, hle, fun h' d1 d2 hs => ?_⟩
            have hm := rel2.merge rel1
            have hz : (mergeK ws zs).length ≤ sizeLine := by
              have := length_mergeK zs ws
              have e3 : ws.length = us1.length := rel1.length
              have e4 : zs.length = us2.length := rel2.length
              omega
            have he : ∃ o, h'.get? p = some o := let ⟨o, _, _, ho, _⟩ := d1; ⟨o, ho⟩
            have x1 := ext_set (o := .dK (mergeK ws zs)) hr ha
            refine ⟨.non, _, d_write (t' := s.toks) I (by rw [e1]; exact True.intro) hs he (dk_new hz n1 hm d1), rfl, hp _ l x1 (rel_set hr ha ⟨_, upd_same, RKV.mono x1 (RKV.merge r2 r1)⟩) _ rfl⟩
        · cases hg
      · cases hg
  · cases hg
end
/-! ### a display of texts -/
def cPairs : List (Option Expr) → List Expr → Option (List (Str × Str))
  | [], [] => some []
  | some (.Constant (.str k) _ _) :: ks, .Constant (.str v) _ _ :: vs => if PySem.PyData.strOk v = true then (cPairs ks vs).map ((k, v) :: ·) else none
  | _, _ => none
def dispM (h : Option Id) (kvs : List (Str × Str)) : EM := fun _ S => if kvs ≠ [] ∧ kvs.length ≤ 15 then alloc h (.dK (mergeD [] (kvs.map fun p => (.inr p.1, .str p.2)))) S else .bad
theorem cPairs_ok {X : Cx} {pos : Pos} : ∀ {ks : List (Option Expr)} {vs : List Expr} {kvs : List (Str × Str)}, cPairs ks vs = some kvs → ∃ trs, PPs X pos ks vs trs ∧ ks.all (·.isSome) = true ∧ ks.length = vs.length ∧ ks.length = kvs.length ∧ (kvs.all fun p => PySem.PyData.strOk p.2) = true ∧ ∀ σ H K, K (kvs.map fun p => (V.str p.1, V.str p.2)) H → tPairs trs σ H K
  | [], [], kvs, h => by
    cases h
    exact ⟨[], pps_nil, rfl, rfl, rfl, rfl, fun σ H K k => k⟩
  | k :: ks, v :: vs, kvs, h => by
    unfold cPairs at h
    split at h
    · rename_i h1 h2
      cases h1
    · rename_i k1 _ _ ks1 v1 _ _ vs1 h1 h2
      cases h1
      cases h2
      split at h
      · rename_i hv
        obtain ⟨r, hr, e⟩ := Option.map_eq_some_iff.mp h
        subst e
        obtain ⟨trs, p1, p2, p3, p4, p5, p6⟩ := cPairs_ok (X := X) (pos := pos) hr
        refine ⟨_, pps_cons pe_str pe_str p1, by rw [List.all_cons, p2]; rfl, by rw [List.length_cons, List.length_cons, p3], by rw [List.length_cons, List.length_cons, p4], by rw [List.all_cons, hv, p5]; rfl, fun σ H K k => ?_⟩
        exact p6 σ H (fun ps H1 => K ((V.str _, V.str _) :: ps) H1) k
      · cases h
    · cases h
  | [], v :: vs, kvs, h => by
    unfold cPairs at h
    cases h
  | k :: ks, [], kvs, h => by
    have e : cPairs (k :: ks) [] = none := by
      cases k with
      | none => rfl
      | some e => cases e <;> first | rfl | (rename_i c _ _; cases c <;> rfl)
    rw [e] at h
    cases h
section
variable {X : Cx} {C : Ctx} {W : WX}
theorem rkv_strs {K : PySem.W.Frag} {l : Lay} {H : Hp} : ∀ {kvs : List (Str × Str)}, (kvs.all fun p => PySem.PyData.strOk p.2) = true → RKV K l H (kvs.map fun p => ((.inr p.1 : Key), D.str p.2)) (kvs.map fun p => ((.inr p.1 : Key), V.str p.2))
  | [], _ => .nil
  | p :: r, h => by
    rw [List.all_cons, Bool.and_eq_true] at h
    exact .cons ⟨rfl, rfl, h.1⟩ (rkv_strs h.2)
theorem sd_disp {keys : List (Option Expr)} {values : List Expr} {pos : Pos} {i : Option Id} {kvs : List (Str × Str)} (h : cPairs keys values = some kvs) : PE X (.Dict keys values pos) (T C W (dispM i kvs)) := by
  obtain ⟨trs, p1, p2, p3, p4, p5, p6⟩ := cPairs_ok (X := X) (pos := pos) h
  by_cases h0 : kvs ≠ [] ∧ kvs.length ≤ 15
  · refine PEmono (pe_disp p1 p2 p3 (fun e => h0.1 (List.eq_nil_of_length_eq_zero (by rw [← p4, e]; rfl))) (by rw [p4]; exact h0.2)) fun s H Q hh => ?_
    obtain ⟨e, S, l, he, hr, hp⟩ := hh
    unfold dispM at hp
    rw [if_pos h0] at hp
    intro p hn
    refine p6 s _ _ ⟨upd_same, kvs.map fun p => ((.inr p.1 : Key), V.str p.2), ?_, by rw [List.length_map]; exact h0.2, ?_⟩
    · rw [List.map_map]
      rfl
    · have e2 : upd (upd H p (.dK [])) p (.dK (mergeK [] (kvs.map fun p => ((.inr p.1 : Key), V.str p.2)))) = upd H p (.dK (mergeK [] (kvs.map fun p => ((.inr p.1 : Key), V.str p.2)))) := by
        funext b
        by_cases hb : b = p
        · rw [hb, upd_same, upd_same]
        · rw [upd_ne hb, upd_ne hb, upd_ne hb]
      rw [e2]
      exact alloc_ok hp hr hn fun l' x => ⟨_, upd_same, RKV.merge (rkv_strs p5) .nil⟩
  · refine ⟨fun pins s σ H Q I hh => ?_⟩
    obtain ⟨e, S, l, he, hr, hp⟩ := hh
    unfold dispM at hp
    rw [if_neg h0] at hp
    exact hp.elim
end
end Pyx
/-! a dict of the module, texts to texts -/
namespace Pyx
open PySem PySem.Spec PyProof.Rows L2
structure KdOk (K : PySem.W.Frag) (w : World) (p : Addr) (m : List (Str × Str)) : Prop where
  ex : ∃ es n, KDict K w p es n
  is : ∀ z, match m.lookup z with
    | some v => PySem.PyData.strOk v = true ∧ ∃ u, PySem.W.nsIn K p z = some (some u) ∧ RelV (V.str v) u
    | none => PySem.W.nsIn K p z = some none
/-- a name that is such a dict -/
structure KdIs (X : Cx) (x : Str) (m : List (Str × Str)) : Prop where
  ex : ∃ p, X.mg x = some (.ref p) ∧ KdOk X.K X.w p m
def kdIxM (m : List (Str × Str)) (a : EM) : EM := fun e S => (a e S).bind fun d S1 => match d with
  | .str z => ofO ((m.lookup z).map D.str) S1
  | _ => .bad
def kdInG (neg : Bool) (m : List (Str × Str)) (d : D) : Option D := match d with
  | .str z => some (.bl (neg != (m.lookup z).isSome))
  | _ => none
def kdInM (neg : Bool) (m : List (Str × Str)) (a : EM) : EM := fun e S => (a e S).bind fun d S1 => ofO (kdInG neg m d) S1
section
variable {X : Cx} {C : Ctx} {W : WX}
theorem sd_kdIx {x : Str} {p pos : Pos} {i : Expr} {m : List (Str × Str)} {mi : EM} (hg : Gl X x) (hd : (x == ("__debug__" : Str)) = false) (h : KdIs X x m) (hi : PE X i (T C W mi)) (hs : noSlice i = true) : PE X (.Subscript (.Name x p) i pos) (T C W (kdIxM m mi)) := by
  obtain ⟨q, hm, ⟨es, n, D⟩, hk⟩ := h.ex
  refine PEmono (pe_ix ix_kdict (pe_glob (v := .ref q) hg hm rfl hd) hi (fun o i => ix_eq hs o i)) fun s H Q hh => ?_
  obtain ⟨e, S, l, he, hr, hp⟩ := hh
  refine Tmono (T_run he hr hp) fun v H1 ⟨l1, d1, S1, he1, hr1, x1, hd1, hp1⟩ => ?_
  split at hp1
  · rename_i z
    obtain ⟨rfl, _⟩ := hd1
    obtain ⟨r, hr2, hp2⟩ := post_ofO hp1
    obtain ⟨v, hv, e2⟩ := Option.map_eq_some_iff.mp hr2
    subst e2
    have := hk z
    rw [hv] at this
    obtain ⟨k1, u, k2, k3⟩ := this
    exact ⟨q, z, .str v, rfl, rfl, ⟨es, n, u, D.at_, D.lit, k2, k3⟩, (VPost.of hp2).now hr1 ⟨rfl, k1⟩⟩
  · exact hp1.elim
theorem sd_kdIn {x : Str} {neg : Bool} {p pos : Pos} {i : Expr} {m : List (Str × Str)} {mi : EM} (hg : Gl X x) (hd : (x == ("__debug__" : Str)) = false) (h : KdIs X x m) (hi : PE X i (T C W mi)) (hb : behindInMarks (if neg then .NotIn else .In) (.Name x p) = false) : PE X (.Compare i [if neg then .NotIn else .In] [.Name x p] pos) (T C W (kdInM neg m mi)) := by
  obtain ⟨q, hm, ⟨es, n, D⟩, hk⟩ := h.ex
  have key : ∀ z, ∃ r, PySem.W.nsIn X.K q z = some r ∧ r.isSome = (m.lookup z).isSome := fun z => by
    have := hk z
    cases hz : m.lookup z with
    | none =>
      rw [hz] at this
      exact ⟨none, this, rfl⟩
    | some v =>
      rw [hz] at this
      obtain ⟨_, u, k2, _⟩ := this
      exact ⟨some u, k2, rfl⟩
  cases neg with
  | true =>
    refine PEmono (pe_cmpR (op_notIn_kd D) hi (pe_glob (v := .ref q) hg hm rfl hd) hb) fun s H Q hh => ?_
    obtain ⟨e, S, l, he, hr, hp⟩ := hh
    refine Tmono (T_run he hr hp) fun v H1 ⟨l1, d1, S1, he1, hr1, x1, hd1, hp1⟩ => ?_
    obtain ⟨r, hr2, hp2⟩ := post_ofO hp1
    unfold kdInG at hr2
    split at hr2
    · rename_i z
      cases hr2
      obtain ⟨rfl, _⟩ := hd1
      obtain ⟨r, k1, k2⟩ := key z
      exact ⟨z, r, rfl, rfl, k1, by rw [k2]; exact (VPost.of hp2).now hr1 (by rw [Bool.true_bne]; rfl)⟩
    · cases hr2
  | false =>
    refine PEmono (pe_cmpR (op_in_kd D) hi (pe_glob (v := .ref q) hg hm rfl hd) hb) fun s H Q hh => ?_
    obtain ⟨e, S, l, he, hr, hp⟩ := hh
    refine Tmono (T_run he hr hp) fun v H1 ⟨l1, d1, S1, he1, hr1, x1, hd1, hp1⟩ => ?_
    obtain ⟨r, hr2, hp2⟩ := post_ofO hp1
    unfold kdInG at hr2
    split at hr2
    · rename_i z
      cases hr2
      obtain ⟨rfl, _⟩ := hd1
      obtain ⟨r, k1, k2⟩ := key z
      exact ⟨z, r, rfl, rfl, k1, by rw [k2]; exact (VPost.of hp2).now hr1 (by rw [Bool.false_bne]; rfl)⟩
    · cases hr2
theorem sdt_kdIn {x : Str} {neg : Bool} {p pos : Pos} {i : Expr} {m : List (Str × Str)} {mi : EM} (hg : Gl X x) (hd : (x == ("__debug__" : Str)) = false) (h : KdIs X x m) (hi : PE X i (T C W mi)) (hb : behindInMarks (if neg then .NotIn else .In) (.Name x p) = false) : PT X (.Compare i [if neg then .NotIn else .In] [.Name x p] pos) (TT' C W (tstM (kdInM neg m mi))) := by
  obtain ⟨q, hm, ⟨es, n, D⟩, hk⟩ := h.ex
  have key : ∀ z, ∃ r, PySem.W.nsIn X.K q z = some r ∧ r.isSome = (m.lookup z).isSome := fun z => by
    have := hk z
    cases hz : m.lookup z with
    | none =>
      rw [hz] at this
      exact ⟨none, this, rfl⟩
    | some v =>
      rw [hz] at this
      obtain ⟨_, u, k2, _⟩ := this
      exact ⟨some u, k2, rfl⟩
  have run : ∀ {op : CmpOp} {r : V → V → Hp → VK → Prop}, OpR X (compareOp op) r → behindInMarks op (.Name x p) = false → (∀ z H Q, Q (.bl (neg != (m.lookup z).isSome)) H → r (.str z) (.ref q) H Q) → PT X (.Compare i [op] [.Name x p] pos) (TT' C W (tstM (kdInM neg m mi))) := fun {op r} ho hb2 hc => by
    refine PTmono (pt_cmpR ho hi (pe_glob (v := .ref q) hg hm rfl hd) hb2) fun s H Q hh => ?_
    obtain ⟨e, S, l, he, hr, hp⟩ := hh
    unfold tstM kdInM at hp
    have assoc : ∀ {A B D' : Type} (o : Out A) (f : A → Sto → Out B) (g : B → Sto → Out D'), (o.bind f).bind g = o.bind fun a S => (f a S).bind g := fun o f g => by cases o <;> rfl
    rw [assoc] at hp
    refine Tmono (T_run he hr hp) fun v H1 ⟨l1, d1, S1, he1, hr1, x1, hd1, hp1⟩ => ?_
    cases hg2 : kdInG neg m d1 with
    | none =>
      rw [hg2] at hp1
      exact hp1.elim
    | some d =>
      rw [hg2] at hp1
      unfold kdInG at hg2
      split at hg2
      · rename_i z
        cases hg2
        obtain ⟨rfl, _⟩ := hd1
        exact hc z H1 _ ⟨_, rfl, Post.pure hr1 hp1⟩
      · cases hg2
  cases neg with
  | true =>
    refine run (op_notIn_kd D) hb fun z H Q q2 => ?_
    obtain ⟨r, k1, k2⟩ := key z
    exact ⟨z, r, rfl, rfl, k1, by rw [k2]; rw [Bool.true_bne] at q2; exact q2⟩
  | false =>
    refine run (op_in_kd D) hb fun z H Q q2 => ?_
    obtain ⟨r, k1, k2⟩ := key z
    exact ⟨z, r, rfl, rfl, k1, by rw [k2]; rw [Bool.false_bne] at q2; exact q2⟩
end
/-! ### by what is looked at in the head -/
def kdB (K : PySem.W.Frag) (p : Addr) (m : List (Str × Str)) : Bool := He.valsB K p (m.map fun q => (q.1, He.Dv.str q.2)) && m.all fun q => PySem.PyData.strOk q.2
end Pyx
/-! a sum of lists, also of the store -/
namespace Pyx
open PySem PySem.Spec PyProof.Rows L2
def addTop (a b : EM) : EM := fun e S => (a e S).bind fun x S1 => (b e S1).bind fun y S2 => match top1 S2 x, top1 S2 y with
  | .lst xs, .lst ys => if xs.length + ys.length ≤ 1000000 then .ok (.lst (xs ++ ys)) S2 else .bad
  | _, _ => .bad
theorem RD1.lst {K : PySem.W.Frag} {l : Lay} {H : Hp} {ds : List D} {v : V} (h : RD1 K l H (.lst ds) v) : ∃ a vs, v = .ref a ∧ H a = some (.lst vs) ∧ RDs K l H ds vs := by
  cases h with
  | of h =>
    obtain ⟨a, vs, rfl, t, q⟩ := h
    exact ⟨a, vs, rfl, t.1, q⟩
  | cel t q => exact ⟨_, _, rfl, t, q⟩
section
variable {X : Cx} {C : Ctx} {W : WX}
theorem sd_addTop {a b : Expr} {ma mb : EM} {pos : Pos} (ha : PE X a (T C W ma)) (hb : PE X b (T C W mb)) : PE X (.BinOp a .Add b pos) (T C W (addTop ma mb)) := by
  refine PEmono (pe_op op_cat ha hb) fun s H Q hh => ?_
  obtain ⟨e, S, l, he, hr, hp⟩ := hh
  refine Tmono (T_run he hr hp) fun v H1 ⟨l1, d1, S1, he1, hr1, x1, hd1, hp1⟩ => Tmono (T_run he1 hr1 hp1) fun w H2 ⟨l2, d2, S2, he2, hr2, x2, hd2, hp2⟩ => ?_
  have t1 := RD1.top hr2 (RD.mono x2 _ _ hd1)
  have t2 := RD1.top hr2 hd2
  generalize top1 S2 d1 = c1 at t1 hp2
  generalize top1 S2 d2 = c2 at t2 hp2
  cases c1 with
  | lst xs =>
    cases c2 with
    | lst ys =>
      obtain ⟨p, vs, rfl, tp, hv⟩ := t1.lst
      obtain ⟨q, ws, rfl, tq, hw⟩ := t2.lst
      dsimp only at hp2
      split at hp2
      · rename_i hl
        refine ⟨p, q, vs, ws, rfl, rfl, tp, tq, by rw [hv.length, hw.length]; exact Nat.le_trans hl (Nat.le_of_ble_eq_true rfl), fun n hn => ?_⟩
        exact hp2 _ l2 (ext_new hn) (rel_new hr2 hn) _ ⟨n, vs ++ ws, rfl, ⟨upd_same, hr2.fresh hn, hr2.free hn⟩, RDs.mono (ext_new hn) _ _ (RDs.append hv hw)⟩
      · exact hp2.elim
    | _ => exact hp2.elim
  | _ => exact hp2.elim
end
end Pyx
/-! from the text to meanings: what is known of names, of the place -/
namespace Pyx
open PySem PySem.Spec PyProof.Rows L2 LamX
/-- what a global name is -/
inductive Gk where
  | no | blt | fn (f : Nat) | cl (c f : Nat) | con (d : D) | exc (c : Nat) (own : Bool) | told (tn : Exn → Option D) | exo (c : Nat) (fl : List Str) | kd (m : List (Str × Str))
structure Ce where
  N : List Str
  an : Str → Option Nat
  gl : Str → Gk
  tb : Tb
  np : Nat → Nat
  G : Fn
  hint : Nat → Nat → Nat
  cat : Nat → Nat → Bool
structure Sc where
  sc : Scope
  fn : Str → Bool
  tr : Bool
  mkr : Option Nat
/-- a class' __init__, called by keywords -/
structure KFn (X : Cx) (C : Ctx) (tb : Tb) (G : Fn) (k f np : Nat) (a : Addr) : Prop where
  ok : ∃ fd ps, ps.length = np ∧ FnOk X.prog X.w X.K X.mg X.base (L2.CX X.prog X.w) k a fd ps (spM C np (G f)) ∧ ∀ ks n gD, tb.kw f ks n = some gD → KwIs X C fd ps ks n gD
def GlOk (X : Cx) (C : Ctx) (tb : Tb) (np : Nat → Nat) (G : Fn) (k : Nat) (x : Str) : Gk → Prop
  | .no => True
  | .blt => X.mg x = none
  | .fn f => ∃ a, X.mg x = some (.ref a) ∧ PySem.W.keepIn X.K (.ref a) = true ∧ FnIs X C tb G k f (np f) a
  | .cl c f => ∃ a, X.mg x = some (.ref (C.cad c)) ∧ Mk X.K (C.cad c) a ∧ FnIs X C tb G k f (np f) a ∧ KFn X C tb G k f (np f) a
  | .con d => ∃ v u, X.mg x = some u ∧ RelV v u ∧ ∀ l H, RD C.K l H d v
  | .exc c own => own = false → ExcIs X C x c
  | .told tn => ToldIs X C x tn
  | .exo c fl => OexIs X C x c fl
  | .kd m => KdIs X x m
structure CtxOk (ce : Ce) (z : Sc) (k : Nat) (X : Cx) (C : Ctx) (W : WX) : Prop where
  hK : C.K = X.K
  N : X.N = ce.N
  nd : ce.N.Nodup
  sc : X.env.scope = z.sc
  fn : ∀ x, z.fn x = true → X.fn x = true
  calm : X.calm = true
  room : Room (k + 1) X.A
  tk : Takes X W
  own : z.tr = false → ∃ E : XK, W = fun cls d _ H => E cls d H
  gl : ∀ x, GlOk X C ce.tb ce.np ce.G k x (ce.gl x)
  ok : AOk C ce.tb
  M : MOk X C ce.tb ce.np ce.G k
  an : ∀ x f, ce.an x = some f → C.anm f = x
  cat : ∀ c k, ce.cat c k = true → PySem.W.exmOne X.K (.ref (C.xad c)) (.ref (C.xad k)) = some true
  mkr : ∀ n, z.mkr = some n → MkIs X C k n
def slotOf : List Str → Str → Nat → Option Nat
  | [], _, _ => none
  | y :: r, x, n => if y = x then some n else slotOf r x (n + 1)
theorem slotOf_ok : ∀ {N : List Str} {x : Str} {n i : Nat}, slotOf N x n = some i → n ≤ i ∧ N[i - n]? = some x
  | [], _, _, _, h => by cases h
  | y :: r, x, n, i, h => by
    unfold slotOf at h
    split at h
    · rename_i e
      cases h
      subst e
      exact ⟨Nat.le_refl _, by simp⟩
    · obtain ⟨h1, h2⟩ := slotOf_ok h
      refine ⟨by omega, ?_⟩
      rw [show i - n = (i - (n + 1)) + 1 by omega]
      simpa using h2
theorem slot_ok {N : List Str} {x : Str} {i : Nat} (h : slotOf N x 0 = some i) : N[i]? = some x := (slotOf_ok h).2
def isGl (z : Sc) (x : Str) : Bool := match z.sc.names.lookup x with
  | some .globalImplicit => true
  | _ => false
theorem gl_of {ce : Ce} {z : Sc} {k : Nat} {X : Cx} {C : Ctx} {W : WX} (c : CtxOk ce z k X C W) {x : Str} (h : isGl z x = true) : Gl X x := by
  unfold isGl at h
  show X.env.scope.names.lookup x = _
  rw [c.sc]
  split at h
  · assumption
  · cases h
def badT : TM := fun _ _ => .bad
def badI : IM := fun _ _ => .bad
def badS : SM := fun _ _ => .bad
section
variable {X : Cx} {C : Ctx} {W : WX}
theorem sd_bad {e : Expr} : PE X e (T C W badE) := ⟨fun _ _ _ _ _ _ h => by
  obtain ⟨_, _, _, _, _, h⟩ := h
  exact h.elim⟩
theorem sdt_bad {e : Expr} : PT X e (TT' C W badT) := ⟨fun _ _ _ _ _ _ h => by
  obtain ⟨_, _, _, _, _, h⟩ := h
  exact h.elim⟩
theorem sp_bad {tg e : Expr} : PI X tg e (TI' C W badI) := ⟨fun _ _ _ _ _ _ h => by
  obtain ⟨_, _, _, _, _, h⟩ := h
  exact h.elim⟩
theorem ss_bad {e : Stmt} : PS X e (TS' C W badS) := ⟨fun _ _ _ _ _ _ h => by
  obtain ⟨_, _, _, _, _, h⟩ := h
  exact h.elim⟩
theorem ite_bad {c : Bool} {e : Expr} {m : EM} (h : c = true → PE X e (T C W m)) : PE X e (T C W (if c = true then m else badE)) := by
  split
  · exact h (by assumption)
  · exact sd_bad
theorem itet_bad {c : Bool} {e : Expr} {m : TM} (h : c = true → PT X e (TT' C W m)) : PT X e (TT' C W (if c = true then m else badT)) := by
  split
  · exact h (by assumption)
  · exact sdt_bad
theorem itei_bad {c : Bool} {tg e : Expr} {m : IM} (h : c = true → PI X tg e (TI' C W m)) : PI X tg e (TI' C W (if c = true then m else badI)) := by
  split
  · exact h (by assumption)
  · exact sp_bad
theorem ites_bad {c : Bool} {e : Stmt} {m : SM} (h : c = true → PS X e (TS' C W m)) : PS X e (TS' C W (if c = true then m else badS)) := by
  split
  · exact h (by assumption)
  · exact ss_bad
end
/-! ### what is compiled at one level -/
structure Lv where
  E : Sc → Expr → EM
  T : Sc → Expr → TM
structure OkLv (ce : Ce) (k : Nat) (lv : Lv) : Prop where
  E : ∀ {z : Sc} {X : Cx} {C : Ctx} {W : WX}, CtxOk ce z k X C W → ∀ e, PE X e (Pyx.T C W (lv.E z e))
  T : ∀ {z : Sc} {X : Cx} {C : Ctx} {W : WX}, CtxOk ce z k X C W → ∀ e, PT X e (TT' C W (lv.T z e))
def argsE (f : Expr → EM) : List Expr → AM
  | [] => nilM
  | e :: r => consM (f e) (argsE f r)
theorem args_ok {X : Cx} {C : Ctx} {W : WX} {f : Expr → EM} (h : ∀ e, PE X e (T C W (f e))) : ∀ {es : List Expr}, es.all noStar = true → PA X es (TA' C W (argsE f es))
  | [], _ => sda_nil
  | e :: r, hs => by
    rw [List.all_cons, Bool.and_eq_true] at hs
    exact sda_cons (h e) (args_ok h hs.2) (star_eq hs.1)
def nameE (ce : Ce) (z : Sc) (x : Str) : EM :=
  if (!(x == ("__debug__" : Str)) && !(x == ("__classdict__" : Str))) = true then match z.sc.names.lookup x with
    | some .local => match slotOf ce.N x 0 with
      | some i => varM i
      | none => badE
    | some .cell => match slotOf ce.N x 0 with
      | some i => varM i
      | none => badE
    | some .free => match slotOf ce.N x 0 with
      | some i => varM i
      | none => badE
    | some .globalImplicit => match ce.gl x with
      | .con d => cM d
      | _ => badE
    | _ => badE
  else badE
section
variable {ce : Ce} {k : Nat} {z : Sc} {X : Cx} {C : Ctx} {W : WX} (c : CtxOk ce z k X C W)
include c
theorem slot_sd {x : Str} {pos : Pos} (hv : Vis X.env.scope x) (h1 : (x == ("__debug__" : Str)) = false) (h2 : (x == ("__classdict__" : Str)) = false) : PE X (.Name x pos) (T C W (match slotOf ce.N x 0 with | some i => varM i | none => badE)) := by
  split
  · rename_i i hi
    exact sd_var (by rw [c.N]; exact slot_ok hi) hv h1 h2
  · exact sd_bad
theorem name_ok {x : Str} {pos : Pos} : PE X (.Name x pos) (T C W (nameE ce z x)) := by
  unfold nameE
  refine ite_bad fun h => ?_
  simp only [Bool.and_eq_true, Bool.not_eq_true'] at h
  split
  · exact slot_sd c (.inl (by rw [c.sc]; assumption)) h.1 h.2
  · exact slot_sd c (.inr (.inl (by rw [c.sc]; assumption))) h.1 h.2
  · exact slot_sd c (.inr (.inr (by rw [c.sc]; assumption))) h.1 h.2
  · rename_i hl
    split
    · rename_i d hd
      have := c.gl x
      rw [hd] at this
      obtain ⟨v, u, h3, h4, h5⟩ := this
      exact sd_val (pe_glob (show X.env.scope.names.lookup x = _ by rw [c.sc]; exact hl) h3 h4 h.1) h5
    · exact sd_bad
  · exact sd_bad
end
/-! ### operators -/
def negI : D → Option D
  | .int i => some (.int (-i))
  | _ => none
def negM (a : EM) : EM := fun e S => (a e S).bind fun x S1 => ofO (negI x) S1
theorem sd_neg {X : Cx} {C : Ctx} {W : WX} {a : Expr} {pos : Pos} {m : EM} (h : PE X a (T C W m)) : PE X (.UnaryOp .USub a pos) (T C W (negM m)) := by
  refine PEmono (pe_un un_neg h) fun s H Q h => ?_
  obtain ⟨e, S, l, he, hr, hp⟩ := h
  refine Tmono (T_run he hr hp) fun v H1 ⟨l1, d, S1, he1, hr1, x1, hd1, hp1⟩ => ?_
  obtain ⟨y, hy, hp1⟩ := post_ofO hp1
  cases d <;> simp only [negI] at hy <;> cases hy
  cases hd1
  exact ⟨_, rfl, hp1 H1 l1 (Ext.refl _ _) hr1 _ rfl⟩
def opG : Operator → Option (D → D → Sto → Option D)
  | .Add => some addD
  | .Sub => some subD
  | .Mult => some mulD
  | .FloorDiv => some fdivD
  | .Mod => some modD
  | _ => none
theorem opG_ok {X : Cx} {C : Ctx} (hK : C.K = X.K) {op : Operator} {g : D → D → Sto → Option D} (h : opG op = some g) : OpR X (binaryOp op) (rB C g) := by
  cases op <;> cases h
  · exact vo_add hK
  · exact vo_sub hK
  · exact vo_mul hK
  · exact vo_mod hK
  · exact vo_fdiv hK
def cmG : CmpOp → Option (D → D → Sto → Option D)
  | .Eq => some eqD
  | .NotEq => some neD
  | .Lt => some (cmpI fun i j => decide (i < j))
  | .LtE => some (cmpI fun i j => decide (i ≤ j))
  | .Gt => some (cmpI fun i j => decide (j < i))
  | .GtE => some (cmpI fun i j => decide (j ≤ i))
  | .Is => some isND
  | .IsNot => some notND
  | .In => some (inD false)
  | .NotIn => some (inD true)
theorem cmG_ok {X : Cx} {C : Ctx} (hK : C.K = X.K) (hu : X.A.units + 64 < cLine) {op : CmpOp} {g : D → D → Sto → Option D} (h : cmG op = some g) : OpR X (compareOp op) (rB C g) := by
  cases op <;> cases h
  · exact vo_eq hK hu
  · exact vo_ne hK hu
  · exact vo_lt
  · exact vo_le
  · exact vo_gt
  · exact vo_ge
  · exact vo_is
  · exact vo_isnot
  · exact vo_in hK hu false
  · exact vo_in hK hu true
theorem sdt_chain {X : Cx} {C : Ctx} {W : WX} {op op' : CmpOp} {g g' : D → D → Sto → Option D} {a b c : Expr} {ma mb mc : EM} {pos : Pos} (ho : OpR X (compareOp op) (rB C g)) (ho' : OpR X (compareOp op') (rB C g')) (ha : PE X a (T C W ma)) (hb : PE X b (T C W mb)) (hc : PE X c (T C W mc))
    (hm : lastMarks [op, op'] [b, c] = false) : PT X (.Compare a [op, op'] [b, c] pos) (TT' C W (tstM (chainM g g' ma mb mc))) := by
  refine PTmono (pt_chain ho ho' ha hb hc hm) fun s H Q h => ?_
  obtain ⟨e, S, l, he, hr, hp⟩ := h
  unfold tstM chainM at hp
  rw [out_assoc] at hp
  refine Tmono (T_run he hr hp) fun v H1 ⟨l1, d1, S1, he1, hr1, x1, hd1, hp1⟩ => ?_
  rw [out_assoc] at hp1
  refine Tmono (T_run he1 hr1 hp1) fun w H2 ⟨l2, d2, S2, he2, hr2, x2, hd2, hp2⟩ => ?_
  cases hg : g d1 d2 S2 with
  | none =>
    rw [hg] at hp2
    exact hp2.elim
  | some d =>
    rw [hg] at hp2
    refine ⟨S2, l2, d1, d2, d, hr2, RD.mono x2 _ _ hd1, hd2, hg, fun H3 l3 x3 hr3 z hz => ?_⟩
    have hp3 := Post.mono hp2 x3 hr3
    cases d with
    | bl k =>
      cases hz
      refine ⟨k, rfl, ?_⟩
      cases k with
      | true =>
        rw [if_pos rfl]
        have hp4 : Post C W (QT Q) s l3 H3 ((mc e S2).bind fun u S4 => (ofO (g' d2 u S4) S4).bind fun x S5 => ofO (boolOf x) S5) := by
          rw [← out_assoc]
          exact hp3
        refine Tmono (T_run (he2.mono x3) hr3 hp4) fun u H4 ⟨l4, d4, S4, he4, hr4, x4, hd4, hp5⟩ => ?_
        cases hg' : g' d2 d4 S4 with
        | none =>
          rw [hg'] at hp5
          exact hp5.elim
        | some d =>
          rw [hg'] at hp5
          obtain ⟨b, hb, hp6⟩ := post_ofO (show Post C W (QT Q) s l4 H4 (ofO (boolOf d) S4) from hp5)
          exact ⟨S4, l4, d2, d4, d, hr4, RD.mono x4 _ _ (RD.mono x3 _ _ hd2), hd4, hg', fun H' l' x r v hv => ⟨b, boolOf_rd hv hb, hp6 H' l' x r⟩⟩
      | false =>
        rw [if_neg Bool.false_ne_true]
        exact ⟨false, rfl, Post.pure hr3 (show Post C W (QT Q) s l3 H3 (.ok false S2) from hp3)⟩
    | _ => exact hp3.elim
/-! ### targets -/
def locB (z : Sc) (x : Str) : Bool := match z.sc.names.lookup x with
  | some .local => true
  | some .cell => z.fn x
  | _ => false
mutual
def tgE (ce : Ce) (z : Sc) : Nat → Expr → Option (List Nat × GM)
  | 0, _ => none
  | n + 1, e => match e with
    | .Name x _ => if locB z x = true then (slotOf ce.N x 0).map fun i => ([i], gNm i) else none
    | .Tuple es _ _ => if es.all noStar = true then (tgsE ce z n es).map fun p => (p.1, gTp es.length p.2) else none
    | _ => none
def tgsE (ce : Ce) (z : Sc) : Nat → List Expr → Option (List Nat × GMs)
  | 0, _ => none
  | n + 1, es => match es with
    | [] => some ([], gsNil)
    | e :: r => (tgE ce z n e).bind fun p => (tgsE ce z n r).map fun q => (p.1 ++ q.1, gsCons p.2 q.2)
end
section
variable {ce : Ce} {k : Nat} {z : Sc} {X : Cx} {C : Ctx} {W : WX} (c : CtxOk ce z k X C W)
include c
theorem tg_ok : ∀ (n : Nat), (∀ e is g, tgE ce z n e = some (is, g) → PG X e (G' C is g)) ∧ ∀ es is g, tgsE ce z n es = some (is, g) → es.all noStar = true → PGs X es (Gs' C is g)
  | 0 => ⟨fun e is g h => (by unfold tgE at h; cases h), fun e is g h _ => (by unfold tgsE at h; cases h)⟩
  | n + 1 => by
    obtain ⟨ih1, ih2⟩ := tg_ok n
    refine ⟨fun e is g h => ?_, fun es is g h hs => ?_⟩
    · unfold tgE at h
      split at h
      · rename_i x pos
        split at h
        · rename_i hl
          obtain ⟨i, hi, e1⟩ := Option.map_eq_some_iff.mp h
          cases e1
          unfold locB at hl
          have hN : X.N[i]? = some x := by
            rw [c.N]
            exact slot_ok hi
          have nd : X.N.Nodup := by
            rw [c.N]
            exact c.nd
          split at hl
          · exact sg_name nd hN (.inl (by rw [c.sc]; assumption)) (.inr (by rw [c.sc]; assumption))
          · exact sg_name nd hN (.inr (by rw [c.sc]; assumption)) (.inl (c.fn x hl))
          · cases hl
        · cases h
      · rename_i es kk pos
        split at h
        · rename_i hs
          obtain ⟨p, hp, e1⟩ := Option.map_eq_some_iff.mp h
          cases e1
          exact sg_tup c.hK c.calm (ih2 es p.1 p.2 hp hs) hs
        · cases h
      · cases h
    · unfold tgsE at h
      split at h
      · cases h
        exact sgs_nil
      · rename_i e r
        rw [List.all_cons, Bool.and_eq_true] at hs
        obtain ⟨p, hp, h⟩ := Option.bind_eq_some_iff.mp h
        obtain ⟨q, hq, e1⟩ := Option.map_eq_some_iff.mp h
        cases e1
        exact sgs_cons (ih1 e p.1 p.2 hp) (ih2 r q.1 q.2 hq hs.2) hs.1
end
end Pyx
/-! one level of expressions -/
namespace Pyx
open PySem PySem.Spec PyProof.Rows L2 LamX
def isBlt : Gk → Bool
  | .blt => true
  | _ => false
theorem eqS {x y : Str} (h : (x == y) = true) : x = y := eq_of_beq h
section
variable {ce : Ce} {k : Nat} {z : Sc} {X : Cx} {C : Ctx} {W : WX} (c : CtxOk ce z k X C W)
include c
theorem blt_of {x : Str} (h : isBlt (ce.gl x) = true) : X.mg x = none := by
  have := c.gl x
  revert h this
  cases ce.gl x <;> intro h this <;> first | exact this | cases h
end
/-! ### what is walked -/
def isTupE : Expr → Bool
  | .Tuple _ _ _ => true
  | _ => false
def itB (h : Nat) (f : Expr → EM) (tg : Expr) (x : Str) (args : List Expr) (other : IM) : IM :=
  if x == ("range" : Str) then match args with
    | [a] => if noStar a = true then rng1I (argsE f [a]) else badI
    | [a, b] => if (noStar a && noStar b) = true then rng2I (argsE f [a, b]) else badI
    | [a, b, c] => if [a, b, c].all noStar = true then rng3I (argsE f [a, b, c]) else badI
    | _ => badI
  else if x == ("enumerate" : Str) then match args with
    | [a] => if (noStar a && isTupE tg) = true then enumI2 (argsE f [a]) else badI
    | _ => badI
  else if x == ("zip" : Str) then match args with
    | [a, b] => if (noStar a && noStar b && isTupE tg) = true then (if h = 8 then zipSI (argsE f [a, b]) else zipI (argsE f [a, b])) else badI
    | _ => badI
  else other
def itE (ce : Ce) (z : Sc) (f : Expr → EM) (tg it : Expr) : IM := match it with
  | .Call (.Name x _) args [] pos => if (isGl z x && isBlt (ce.gl x)) = true then itB (ce.hint pos.line pos.col) f tg x args (seqI (f it)) else seqI (f it)
  | .Call (.Attribute o m apos) [] [] cpos => if (m == ("values" : Str) && noSuper o && (apos.endLine == cpos.line)) = true then valsI (f o) else seqI (f it)
  | _ => seqI (f it)
section
variable {ce : Ce} {k : Nat} {z : Sc} {X : Cx} {C : Ctx} {W : WX} (c : CtxOk ce z k X C W)
include c
theorem one_ok {f : Expr → EM} (h : ∀ e, PE X e (T C W (f e))) {a : Expr} (hs : noStar a = true) : PA X [a] (TA' C W (argsE f [a])) := args_ok h (by rw [List.all_cons, hs]; rfl)
theorem it_ok {f : Expr → EM} (h : ∀ e, PE X e (T C W (f e))) (tg it : Expr) : PI X tg it (TI' C W (itE ce z f tg it)) := by
  unfold itE
  split
  · rename_i x p args pos
    split
    · rename_i hc
      rw [Bool.and_eq_true] at hc
      have hg := gl_of c hc.1
      have hm := blt_of c hc.2
      unfold itB
      split
      · rename_i e
        have e := eqS e
        subst e
        split
        · refine itei_bad fun h1 => sp_range1 hg hm (one_ok c h h1) h1
        · rename_i a b
          refine itei_bad fun h1 => ?_
          rw [Bool.and_eq_true] at h1
          exact sp_range2 hg hm (args_ok h (by rw [List.all_cons, List.all_cons, h1.1, h1.2]; rfl)) h1.1 h1.2
        · refine itei_bad fun h1 => sp_range3 hg hm (args_ok h h1) h1
        · exact sp_bad
      · split
        · rename_i e
          have e := eqS e
          subst e
          split
          · refine itei_bad fun h1 => ?_
            rw [Bool.and_eq_true] at h1
            cases tg <;> first | (cases h1.2; done) | skip
            exact sp_enum2 c.hK hg hm (one_ok c h h1.1) h1.1
          · exact sp_bad
        · split
          · rename_i e
            have e := eqS e
            subst e
            split
            · refine itei_bad fun h1 => ?_
              rw [Bool.and_eq_true, Bool.and_eq_true] at h1
              obtain ⟨⟨h1, h2⟩, h3⟩ := h1
              cases tg <;> first | (cases h3; done) | skip
              split
              · exact sp_zipS c.hK hg hm (args_ok h (by rw [List.all_cons, List.all_cons, h1, h2]; rfl)) h1 h2
              · exact sp_zip c.hK hg hm (args_ok h (by rw [List.all_cons, List.all_cons, h1, h2]; rfl)) h1 h2
            · exact sp_bad
          · exact sp_seq c.hK (h _)
    · exact sp_seq c.hK (h _)
  · split
    · rename_i e
      rw [Bool.and_eq_true, Bool.and_eq_true] at e
      obtain ⟨⟨e1, e2⟩, e3⟩ := e
      have e1 := eqS e1
      subst e1
      exact sp_vals (h _) e2 e3
    · exact sp_seq c.hK (h _)
  · exact sp_seq c.hK (h _)
end
/-! ### comprehensions -/
def ownOf (N : List Str) : List (Str × NameKind) → List (Str × Nat)
  | [] => []
  | (n, k) :: r => match k with
    | .local => match slotOf N n 0 with
      | some i => (n, i) :: ownOf N r
      | none => ownOf N r
    | .cell => match slotOf N n 0 with
      | some i => (n, i) :: ownOf N r
      | none => ownOf N r
    | _ => ownOf N r
def blkSc (z : Sc) (scope : Scope) : Sc := ⟨relS scope z.sc, fun x => scope.names.lookup x == some .cell, false, none⟩
theorem FnIs.blk {X : Cx} {C : Ctx} {tb : Tb} {G : Fn} {k f np : Nat} {a : Addr} {s : Shared} {H : Hp} {scope : Scope} {cenv : Env} {fp : List Addr} (h : FnIs X C tb G k f np a) : FnIs (X.blk s H scope cenv fp) C tb G k f np a := ⟨h.ok⟩
theorem CtxOk.blk {ce : Ce} {k : Nat} {z : Sc} {X : Cx} {C : Ctx} {W : WX} (c : CtxOk ce z k X C W) (scope : Scope) (s : Shared) (H : Hp) (Ca : Addr) (cl : List (Str × Addr)) (fp : List Addr) :
    CtxOk ce (blkSc z scope) k (X.blk s H scope (compEnvC scope cl Ca X.env) fp) C W0 where
  hK := c.hK
  N := c.N
  nd := c.nd
  sc := by
    show relS scope X.env.scope = relS scope z.sc
    rw [c.sc]
  fn := fun x h => h
  calm := c.calm
  room := c.room
  tk := fun u s' h => by
    obtain ⟨_, _, _, _, _, _, _, _, _, _, _, _, _, _, _, _, w⟩ := h
    exact w.elim
  own := fun _ => ⟨fun _ _ _ => False, rfl⟩
  gl := fun x => by
    have := c.gl x
    revert this
    cases ce.gl x with
    | fn f =>
      rintro ⟨a, h1, h2, h3⟩
      exact ⟨a, h1, h2, h3.blk⟩
    | cl d f =>
      rintro ⟨a, h1, h2, h3, h4⟩
      exact ⟨a, h1, h2, h3.blk, ⟨h4.ok.imp fun fd h => h.imp fun ps h => ⟨h.1, h.2.1, fun ks n gD e => ⟨(h.2.2 ks n gD e).ex⟩⟩⟩⟩
    | exc q own =>
      intro h1 h2
      obtain ⟨e1, e2, e3, e4, e5⟩ := h1 h2
      exact ⟨e1, e2, e3, e4, e5⟩
    | exo q fl =>
      intro h
      exact ⟨h.mg, h.T, h.init⟩
    | kd m =>
      intro h
      exact ⟨h.ex⟩
    | _ => exact id
  ok := c.ok
  M := ⟨fun d m f e => by
    obtain ⟨h1, a, h2, h3⟩ := c.M.mt d m f e
    exact ⟨h1, a, h2, h3.blk⟩⟩
  cat := c.cat
  an := c.an
  mkr := fun n h => by cases h
theorem sdts_one {X : Cx} {C : Ctx} {W : WX} {e : Expr} {m : TM} (h : PT X e (TT' C W m)) : PTs X [e] (TT' C W m) := pts_one h
def tstsE (f : Expr → TM) : List Expr → Option TM
  | [] => some yesM
  | [e] => some (f e)
  | _ => none
def lcH (h : Nat) : Option (Option Id) := if h = 1 then some none else none
/-- what is walked by a comprehension: 2: the keys of a dict -/
def itH (ce : Ce) (z : Sc) (f : Expr → EM) (tg it : Expr) (hint : Nat) : IM := if hint = 2 then keysI (f it) else itE ce z f tg it
/-- the dict that is locked: 2: it stands there; 3: its values are walked -/
def lkH (f : Expr → EM) (it : Expr) (hint : Nat) (m : EM) : EM := if hint = 2 then dLock (f it) m else if hint = 3 then (match it with
    | .Call (.Attribute o _ _) _ _ _ => dLock (f o) m
    | _ => m) else m
theorem lkH_ok {C : Ctx} {W : WX} {X : Cx} {f : Expr → EM} {it e : Expr} {hint : Nat} {m : EM} (h : PE X e (T C W m)) : PE X e (T C W (lkH f it hint m)) := by
  unfold lkH
  split
  · exact sd_lock h
  · split
    · split
      · exact sd_lock h
      · exact h
    · exact h
theorem itH_ok {ce : Ce} {k : Nat} {z : Sc} {X : Cx} {C : Ctx} {W : WX} (c : CtxOk ce z k X C W) {f : Expr → EM} (h : ∀ e, PE X e (T C W (f e))) (tg it : Expr) (hint : Nat) : PI X tg it (TI' C W (itH ce z f tg it hint)) := by
  unfold itH
  split
  · exact sp_keys (h _)
  · exact it_ok c h tg it
def lcE (ce : Ce) (lv : Lv) (z : Sc) (elt tg it : Expr) (ifs : List Expr) (scope : Scope) (hint : Nat) : EM :=
  if (blkC ce.N z.sc scope (ownOf ce.N scope.names) && noSet it) = true then match tgE ce (blkSc z scope) 10 tg, tstsE (lv.T (blkSc z scope)) ifs with
    | some (is, g), some tt => if (is.all fun j => decide (j ∈ (ownOf ce.N scope.names).map (·.2))) = true then lcM (lcH hint) ((ownOf ce.N scope.names).map (·.2)) (itH ce z (lv.E z) tg it hint) g tt (lv.E (blkSc z scope) elt) else badE
    | _, _ => badE
  else badE
section
variable {ce : Ce} {k : Nat} {z : Sc} {X : Cx} {C : Ctx} {W : WX} (c : CtxOk ce z k X C W) {lv : Lv} (L : OkLv ce k lv)
include c L
theorem lc_sd {elt tg it : Expr} {ifs : List Expr} {scope : Scope} {hint : Nat} {pos : Pos} : PE X (.ListComp elt [⟨tg, it, ifs, 0⟩] scope pos) (T C W (lcE ce lv z elt tg it ifs scope hint)) := by
  unfold lcE
  refine ite_bad fun h => ?_
  rw [Bool.and_eq_true] at h
  split
  · rename_i is g tt h1 h2
    refine ite_bad fun h3 => ?_
    have hN : X.N.Nodup := by
      rw [c.N]
      exact c.nd
    refine sd_lc rfl (fun j hj => of_decide_eq_true (List.all_eq_true.mp h3 j hj)) c.calm hN (itH_ok c (L.E c) tg it _) (by rw [c.N, c.sc]; exact blkOk_by h.1) (fun s H Ca cl fp => (tg_ok (c.blk scope s H Ca cl fp) 10).1 tg is g h1) (fun s H Ca cl fp => ?_) (fun s H Ca cl fp => L.E (c.blk scope s H Ca cl fp) elt) h.2
    unfold tstsE at h2
    split at h2
    · cases h2
      exact sdts_nil
    · cases h2
      exact sdts_one (L.T (c.blk scope s H Ca cl fp) _)
    · cases h2
  · exact sd_bad
end
def lc2E (ce : Ce) (lv : Lv) (z : Sc) (elt tg it : Expr) (ifs : List Expr) (tg1 it1 : Expr) (ifs1 : List Expr) (scope : Scope) : EM :=
  if (blkC ce.N z.sc scope (ownOf ce.N scope.names) && noSet it && noSet it1) = true then match tgE ce (blkSc z scope) 10 tg, tstsE (lv.T (blkSc z scope)) ifs, tgE ce (blkSc z scope) 10 tg1, tstsE (lv.T (blkSc z scope)) ifs1 with
    | some (is, g), some tt, some (is1, g1), some tt1 => if ((is.all fun j => decide (j ∈ (ownOf ce.N scope.names).map (·.2))) && (is1.all fun j => decide (j ∈ (ownOf ce.N scope.names).map (·.2)))) = true then lc2M ((ownOf ce.N scope.names).map (·.2)) is1 (itE ce z (lv.E z) tg it) g tt (itE ce (blkSc z scope) (lv.E (blkSc z scope)) tg1 it1) g1 tt1 (lv.E (blkSc z scope) elt) else badE
    | _, _, _, _ => badE
  else badE
section
variable {ce : Ce} {k : Nat} {z : Sc} {X : Cx} {C : Ctx} {W : WX} (c : CtxOk ce z k X C W) {lv : Lv} (L : OkLv ce k lv)
include c L
theorem tsts_ok {ifs : List Expr} {tt : TM} (h : tstsE (lv.T z) ifs = some tt) : PTs X ifs (TT' C W tt) := by
  unfold tstsE at h
  split at h
  · cases h
    exact sdts_nil
  · cases h
    exact sdts_one (L.T c _)
  · cases h
theorem lc2_sd {elt tg it tg1 it1 : Expr} {ifs ifs1 : List Expr} {scope : Scope} {pos : Pos} : PE X (.ListComp elt [⟨tg, it, ifs, 0⟩, ⟨tg1, it1, ifs1, 0⟩] scope pos) (T C W (lc2E ce lv z elt tg it ifs tg1 it1 ifs1 scope)) := by
  unfold lc2E
  refine ite_bad fun h => ?_
  rw [Bool.and_eq_true, Bool.and_eq_true] at h
  split
  · rename_i is g tt is1 g1 tt1 h1 h2 h5 h6
    refine ite_bad fun h3 => ?_
    rw [Bool.and_eq_true] at h3
    have hN : X.N.Nodup := by
      rw [c.N]
      exact c.nd
    exact sd_lc2 rfl (fun j hj => of_decide_eq_true (List.all_eq_true.mp h3.1 j hj)) (fun j hj => hj) (fun j hj => of_decide_eq_true (List.all_eq_true.mp h3.2 j hj)) c.calm hN (it_ok c (L.E c) tg it) (by rw [c.N, c.sc]; exact blkOk_by h.1.1) (fun s H Ca cl fp => (tg_ok (c.blk scope s H Ca cl fp) 10).1 tg is g h1) (fun s H Ca cl fp => tsts_ok (c.blk scope s H Ca cl fp) L h2) (fun s H Ca cl fp => it_ok (c.blk scope s H Ca cl fp) (L.E (c.blk scope s H Ca cl fp)) tg1 it1) (fun s H Ca cl fp => (tg_ok (c.blk scope s H Ca cl fp) 10).1 tg1 is1 g1 h5) (fun s H Ca cl fp => tsts_ok (c.blk scope s H Ca cl fp) L h6) (fun s H Ca cl fp => L.E (c.blk scope s H Ca cl fp) elt) h.1.2 h.2
  · exact sd_bad
theorem ss_lc2E {i : Nat} {y : Str} {py : Pos} {elt tg it tg1 it1 : Expr} {ifs ifs1 : List Expr} {scope : Scope} {pos spos : Pos} (hi : X.N[i]? = some y) (hl : z.sc.names.lookup y = some .local) (hsw : swapsWith (.ListComp elt [⟨tg, it, ifs, 0⟩, ⟨tg1, it1, ifs1, 0⟩] scope pos) (some (.Name y py)) spos.line X.env = pure true) :
    PS X (.Assign [.Name y py] (.ListComp elt [⟨tg, it, ifs, 0⟩, ⟨tg1, it1, ifs1, 0⟩] scope pos) spos) (TS' C W (asgM (gNm i) (lc2E ce lv z elt tg it ifs tg1 it1 ifs1 scope))) := by
  unfold lc2E
  split
  · rename_i h
    rw [Bool.and_eq_true, Bool.and_eq_true] at h
    split
    · rename_i is g tt is1 g1 tt1 h1 h2 h5 h6
      split
      · rename_i h3
        rw [Bool.and_eq_true] at h3
        have hN : X.N.Nodup := by
          rw [c.N]
          exact c.nd
        exact ss_setLc2 rfl (fun j hj => of_decide_eq_true (List.all_eq_true.mp h3.1 j hj)) (fun j hj => hj) (fun j hj => of_decide_eq_true (List.all_eq_true.mp h3.2 j hj)) c.calm hN hi (by rw [c.sc]; exact hl) hsw (it_ok c (L.E c) tg it) (by rw [c.N, c.sc]; exact blkOk_by h.1.1) (fun s H Ca cl fp => (tg_ok (c.blk scope s H Ca cl fp) 10).1 tg is g h1) (fun s H Ca cl fp => tsts_ok (c.blk scope s H Ca cl fp) L h2) (fun s H Ca cl fp => it_ok (c.blk scope s H Ca cl fp) (L.E (c.blk scope s H Ca cl fp)) tg1 it1) (fun s H Ca cl fp => (tg_ok (c.blk scope s H Ca cl fp) 10).1 tg1 is1 g1 h5) (fun s H Ca cl fp => tsts_ok (c.blk scope s H Ca cl fp) L h6) (fun s H Ca cl fp => L.E (c.blk scope s H Ca cl fp) elt) h.1.2 h.2
      · exact ss_bad
    · exact ss_bad
  · exact ss_bad
end
def dcE (ce : Ce) (lv : Lv) (z : Sc) (kx vx tg it : Expr) (ifs : List Expr) (scope : Scope) (hint : Nat) : EM :=
  if (blkC ce.N z.sc scope (ownOf ce.N scope.names) && noSet it) = true then match tgE ce (blkSc z scope) 10 tg, tstsE (lv.T (blkSc z scope)) ifs with
    | some (is, g), some tt => if (is.all fun j => decide (j ∈ (ownOf ce.N scope.names).map (·.2))) = true then dcM none ((ownOf ce.N scope.names).map (·.2)) (itH ce z (lv.E z) tg it hint) g tt (lv.E (blkSc z scope) kx) (lv.E (blkSc z scope) vx) else badE
    | _, _ => badE
  else badE
section
variable {ce : Ce} {k : Nat} {z : Sc} {X : Cx} {C : Ctx} {W : WX} (c : CtxOk ce z k X C W) {lv : Lv} (L : OkLv ce k lv)
include c L
theorem dc_sd {kx vx tg it : Expr} {ifs : List Expr} {scope : Scope} {pos : Pos} {hint : Nat} : PE X (.DictComp kx vx [⟨tg, it, ifs, 0⟩] scope pos) (T C W (dcE ce lv z kx vx tg it ifs scope hint)) := by
  unfold dcE
  refine ite_bad fun h => ?_
  rw [Bool.and_eq_true] at h
  split
  · rename_i is g tt h1 h2
    refine ite_bad fun h3 => ?_
    have hN : X.N.Nodup := by
      rw [c.N]
      exact c.nd
    refine sd_dc rfl (fun j hj => of_decide_eq_true (List.all_eq_true.mp h3 j hj)) c.calm hN (itH_ok c (L.E c) tg it _) (by rw [c.N, c.sc]; exact blkOk_by h.1) (fun s H Ca cl fp => (tg_ok (c.blk scope s H Ca cl fp) 10).1 tg is g h1) (fun s H Ca cl fp => ?_) (fun s H Ca cl fp => L.E (c.blk scope s H Ca cl fp) kx) (fun s H Ca cl fp => L.E (c.blk scope s H Ca cl fp) vx) h.2
    unfold tstsE at h2
    split at h2
    · cases h2
      exact sdts_nil
    · cases h2
      exact sdts_one (L.T (c.blk scope s H Ca cl fp) _)
    · cases h2
  · exact sd_bad
end
/-! ### calls of built-in functions -/
def cl1 (f : Expr → EM) (g : List D → Sto → Option D) : List Expr → EM
  | [] => badE
  | a :: es => if (a :: es).all noStar = true then calM g (argsE f (a :: es)) else badE
def tyB (t : Str) : Option String :=
  if t == ("int" : Str) then some "int" else if t == ("bool" : Str) then some "bool" else if t == ("str" : Str) then some "str" else if t == ("tuple" : Str) then some "tuple" else if t == ("list" : Str) then some "list" else none
theorem tyB_ok {t : Str} {ty : String} (h : tyB t = some ty) : bootBuiltins t = some (.type ty) ∧ t ≠ "__name__" ∧ (t == ("__debug__" : Str)) = false := by
  unfold tyB at h
  split at h
  · rename_i e
    cases h
    have e := eqS e
    subst e
    exact ⟨rfl, by decide, by decide⟩
  · split at h
    · rename_i e
      cases h
      have e := eqS e
      subst e
      exact ⟨rfl, by decide, by decide⟩
    · split at h
      · rename_i e
        cases h
        have e := eqS e
        subst e
        exact ⟨rfl, by decide, by decide⟩
      · split at h
        · rename_i e
          cases h
          have e := eqS e
          subst e
          exact ⟨rfl, by decide, by decide⟩
        · split at h
          · rename_i e
            cases h
            have e := eqS e
            subst e
            exact ⟨rfl, by decide, by decide⟩
          · cases h
def isiE (ce : Ce) (z : Sc) (f : Expr → EM) (args : List Expr) : EM := match args with
  | [a, .Name t _] => if (noStar a && isGl z t && isBlt (ce.gl t)) = true then match tyB t with
      | some ty => isiM ty (f a)
      | none => badE
    else badE
  | [a, .Tuple [.Name t1 _, .Name t2 _] _ _] => if (noStar a && isGl z t1 && isBlt (ce.gl t1) && isGl z t2 && isBlt (ce.gl t2)) = true then match tyB t1, tyB t2 with
      | some ty1, some ty2 => isi2M ty1 ty2 (f a)
      | _, _ => badE
    else badE
  | _ => badE
def bltE (ce : Ce) (z : Sc) (f : Expr → EM) (x : Str) (args : List Expr) (hint : Nat) : EM :=
  if x == ("len" : Str) then cl1 f lenF args
  else if x == ("sum" : Str) then cl1 f sumF args
  else if x == ("all" : Str) then cl1 f allF args
  else if x == ("min" : Str) then cl1 f minF args
  else if x == ("max" : Str) then cl1 f maxF args
  else if x == ("int" : Str) then cl1 f intF args
  else if x == ("tuple" : Str) then if hint = 1 then match args with
      | [a] => if noStar a = true then ofLP (f a) else badE
      | _ => badE
    else cl1 f tupF args
  else if x == ("dict" : Str) then match args with
      | [a] => if noStar a = true then dictC none (f a) else badE
      | _ => badE
  else if x == ("sorted" : Str) then cl1 f sortF args
  else if x == ("isinstance" : Str) then isiE ce z f args
  else if x == ("list" : Str) then if hint = 1 then match args with
      | [a] => if noStar a = true then listC none (f a) else badE
      | _ => badE
    else if hint = 2 then match args with
      | [.Call (.Attribute o m apos) [] [] cpos] => if (m == ("values" : Str) && noSuper o && (apos.endLine == cpos.line)) = true then lvM (f o) else badE
      | _ => badE
    else cl1 f listF args
  else badE
section
variable {ce : Ce} {k : Nat} {z : Sc} {X : Cx} {C : Ctx} {W : WX} (c : CtxOk ce z k X C W)
include c
theorem cl1_B {f : Expr → EM} (h : ∀ e, PE X e (T C W (f e))) {g : List D → Sto → Option D} {x : Str} {id : String} {args : List Expr} {p pos : Pos} (hg : Gl X x) (hm : X.mg x = none) (hc : CallR X (.builtin id) (rC C g)) (hv : bootBuiltins x = some (.builtin id)) (hn : x ≠ "__name__") (hd : (x == ("__debug__" : Str)) = false) :
    PE X (.Call (.Name x p) args [] pos) (T C W (cl1 f g args)) := by
  unfold cl1
  split
  · exact sd_bad
  · refine ite_bad fun hs => ?_
    have hs2 := hs
    rw [List.all_cons, Bool.and_eq_true] at hs2
    exact sd_calB hc hg hm hv (args_ok h hs) hn hd (star_eq hs2.1) (star_any hs2.2)
theorem cl1_T {f : Expr → EM} (h : ∀ e, PE X e (T C W (f e))) {g : List D → Sto → Option D} {x : Str} {id : String} {args : List Expr} {p pos : Pos} (hg : Gl X x) (hm : X.mg x = none) (hc : CallR X (.type id) (rC C g)) (hv : bootBuiltins x = some (.type id)) (hn : x ≠ "__name__") (hd : (x == ("__debug__" : Str)) = false) :
    PE X (.Call (.Name x p) args [] pos) (T C W (cl1 f g args)) := by
  unfold cl1
  split
  · exact sd_bad
  · refine ite_bad fun hs => ?_
    have hs2 := hs
    rw [List.all_cons, Bool.and_eq_true] at hs2
    exact sd_calT hc hg hm hv (args_ok h hs) hn hd (star_eq hs2.1) (star_any hs2.2)
theorem isi_ok {f : Expr → EM} (h : ∀ e, PE X e (T C W (f e))) {args : List Expr} {p pos : Pos} (hg : Gl X "isinstance") (hm : X.mg "isinstance" = none) : PE X (.Call (.Name "isinstance" p) args [] pos) (T C W (isiE ce z f args)) := by
  unfold isiE
  split
  · rename_i a t p2
    refine ite_bad fun hc => ?_
    rw [Bool.and_eq_true, Bool.and_eq_true] at hc
    obtain ⟨⟨h1, h2⟩, h3⟩ := hc
    split
    · rename_i ty ht
      obtain ⟨b1, b2, b3⟩ := tyB_ok ht
      exact sd_isi c.hK hg hm (gl_of c h2) (blt_of c h3) b1 b2 b3 (h a) h1
    · exact sd_bad
  · rename_i a t1 p1 t2 p2 kk pt
    refine ite_bad fun hc => ?_
    rw [Bool.and_eq_true, Bool.and_eq_true, Bool.and_eq_true, Bool.and_eq_true] at hc
    obtain ⟨⟨⟨⟨h1, h2⟩, h3⟩, h4⟩, h5⟩ := hc
    split
    · rename_i ty1 ty2 ht1 ht2
      obtain ⟨b1, b2, b3⟩ := tyB_ok ht1
      obtain ⟨d1, d2, d3⟩ := tyB_ok ht2
      exact sd_isi2 c.hK hg hm (gl_of c h2) (blt_of c h3) b1 b2 b3 (gl_of c h4) (blt_of c h5) d1 d2 d3 (h a) h1
    · exact sd_bad
  · exact sd_bad
omit c in
theorem ite2 {b : Bool} {e : Expr} {m m' : EM} (h : b = true → PE X e (T C W m)) (h' : PE X e (T C W m')) : PE X e (T C W (if b = true then m else m')) := by
  cases b with
  | true => exact h rfl
  | false => exact h'
theorem blt_sd {f : Expr → EM} (h : ∀ e, PE X e (T C W (f e))) {x : Str} {args : List Expr} {hint : Nat} {p pos : Pos} (hg : Gl X x) (hm : X.mg x = none) : PE X (.Call (.Name x p) args [] pos) (T C W (bltE ce z f x args hint)) := by
  have hu := c.room.units
  unfold bltE
  refine ite2 (fun e => ?_) ?_
  · have e := eqS e
    subst e
    exact cl1_B c h hg hm (cl_len c.hK) rfl (by decide) (by decide)
  refine ite2 (fun e => ?_) ?_
  · have e := eqS e
    subst e
    exact cl1_B c h hg hm (cl_sum c.hK c.calm) rfl (by decide) (by decide)
  refine ite2 (fun e => ?_) ?_
  · have e := eqS e
    subst e
    exact cl1_B c h hg hm (cl_all c.hK c.calm) rfl (by decide) (by decide)
  refine ite2 (fun e => ?_) ?_
  · have e := eqS e
    subst e
    exact cl1_B c h hg hm (cl_min c.calm) rfl (by decide) (by decide)
  refine ite2 (fun e => ?_) ?_
  · have e := eqS e
    subst e
    exact cl1_B c h hg hm (cl_max c.hK c.calm) rfl (by decide) (by decide)
  refine ite2 (fun e => ?_) ?_
  · have e := eqS e
    subst e
    exact cl1_T c h hg hm cl_int rfl (by decide) (by decide)
  refine ite2 (fun e => ?_) ?_
  · have e := eqS e
    subst e
    split
    · split
      · exact ite_bad fun hs => sd_ofLP c.hK hg hm (h _) hs
      · exact sd_bad
    · exact cl1_T c h hg hm (cl_tuple c.hK) rfl (by decide) (by decide)
  refine ite2 (fun e => ?_) ?_
  · have e := eqS e
    subst e
    split
    · exact ite_bad fun hs => sd_dictC c.hK c.calm hg hm (h _) hs
    · exact sd_bad
  refine ite2 (fun e => ?_) ?_
  · have e := eqS e
    subst e
    exact cl1_B c h hg hm (cl_sorted c.hK hu) rfl (by decide) (by decide)
  refine ite2 (fun e => ?_) ?_
  · have e := eqS e
    subst e
    exact isi_ok c h hg hm
  refine ite2 (fun e => ?_) sd_bad
  have e := eqS e
  subst e
  split
  · split
    · exact ite_bad fun hs => sd_listC c.hK hg hm (h _) hs
    · exact sd_bad
  · split
    · split
      · refine ite_bad fun e => ?_
        rw [Bool.and_eq_true, Bool.and_eq_true] at e
        obtain ⟨⟨e1, e2⟩, e3⟩ := e
        have e1 := eqS e1
        subst e1
        exact sd_lv c.calm (h _) hg hm e2 e3
      · exact sd_bad
    · exact cl1_T c h hg hm (cl_list c.hK) rfl (by decide) (by decide)
end
end Pyx
/-! calls; one level of expressions -/
namespace Pyx
open PySem PySem.Spec PyProof.Rows L2 LamX
def fnE (ce : Ce) (z : Sc) (f : Expr → EM) (g : Nat) (args : List Expr) : EM := match args with
  | [] => match ce.tb.df g 0 with
    | some dd => if (!z.tr) = true then callM (ce.np g) dd (ce.G g) nilM else badE
    | none => badE
  | a :: es => match ce.tb.df g (a :: es).length with
    | some dd => if (a :: es).all noStar = true then callM (ce.np g) dd (ce.G g) (argsE f (a :: es)) else badE
    | none => badE
def mkE (ce : Ce) (z : Sc) (f : Expr → EM) (d g : Nat) (args : List Expr) : EM := match args with
  | [] => badE
  | a :: es => match ce.tb.df g ((a :: es).length + 1) with
    | some dd => if (!z.tr && (a :: es).all noStar) = true then mkM (ce.np g) d dd (ce.G g) (argsE f (a :: es)) else badE
    | none => badE
def bm1 (t : Nat) (g : D → List D → Sto → Option (D × Sto)) (f : Expr → EM) (o : Expr) (apos pos : Pos) (n : Nat) (args : List Expr) : EM := match args with
  | [] => badE
  | a :: es => if (decide ((a :: es).length = n) && decide (n < 29) && noSuper o && (a :: es).all noStar && (apos.endLine == pos.line)) = true then bmM t g (f o) (argsE f (a :: es)) else badE
def usrE (ce : Ce) (f : Expr → EM) (o : Expr) (m : Str) (apos pos : Pos) (args : List Expr) : EM := match ce.an m with
  | some a => if (noSuper o && args.all noStar && decide (args.length < 30) && (apos.endLine == pos.line)) = true then methM ce.tb ce.np ce.G a (args.length + 1) (f o) (argsE f args) else badE
  | none => badE
def mthE (ce : Ce) (f : Expr → EM) (o : Expr) (m : Str) (apos pos : Pos) (args : List Expr) : EM :=
  if m == ("append" : Str) then bm1 1 appG f o apos pos 1 args
  else if m == ("pop" : Str) then match args with
    | [a, b] => bm1 2 dpopG f o apos pos 2 [a, b]
    | _ => if ce.hint pos.line pos.col = 1 then bm1 2 dpop1G f o apos pos 1 args else bm1 1 popG f o apos pos 1 args
  else if m == ("insert" : Str) then bm1 1 insG f o apos pos 2 args
  else if m == ("extend" : Str) then bm1 1 extG f o apos pos 1 args
  else if m == ("split" : Str) then bm1 0 splG f o apos pos 1 args
  else if m == ("update" : Str) then bm1 2 updG f o apos pos 1 args
  else if (m == ("join" : Str) && decide (ce.hint pos.line pos.col = 9)) = true then bm1 0 joiG f o apos pos 1 args
  else usrE ce f o m apos pos args
/-- C(e, .., k = v, ..) -/
def kwNames : List Keyword → Option (List Str)
  | [] => some []
  | ⟨some n, _, _⟩ :: r => (kwNames r).map (n :: ·)
  | _ => none
def kwArgs (f : Expr → EM) : List Keyword → AM
  | [] => nilM
  | ⟨_, e, _⟩ :: r => consM (f e) (kwArgs f r)
theorem kwNames_ok {env : Env} {pos : Pos} : ∀ {kws : List Keyword} {ks : List Str}, kwNames kws = some ks → (backToKw pos (keywordEach kws env)).all (·.1.isSome) = true ∧ (backToKw pos (keywordEach kws env)).filterMap (·.1) = ks ∧ (backToKw pos (keywordEach kws env)).any (·.1.isNone) = false
  | [], ks, h => by
    cases h
    exact ⟨rfl, rfl, rfl⟩
  | ⟨some n, e, p⟩ :: r, ks, h => by
    obtain ⟨rs, hr, e1⟩ := Option.map_eq_some_iff.mp (show (kwNames r).map (n :: ·) = some ks from h)
    subst e1
    obtain ⟨h1, h2, h3⟩ := kwNames_ok (env := env) (pos := pos) hr
    refine ⟨?_, ?_, ?_⟩
    · show (true && (backToKw pos (keywordEach r env)).all (·.1.isSome)) = true
      rw [h1]
      rfl
    · show n :: (backToKw pos (keywordEach r env)).filterMap (·.1) = n :: rs
      rw [h2]
    · show (false || (backToKw pos (keywordEach r env)).any (·.1.isNone)) = false
      rw [h3]
      rfl
  | ⟨none, e, p⟩ :: r, ks, h => by cases h
theorem kwArgs_ok {X : Cx} {C : Ctx} {W : WX} {f : Expr → EM} (h : ∀ e, PE X e (T C W (f e))) : ∀ kws : List Keyword, PK X kws (TA' C W (kwArgs f kws))
  | [] => sdk_nil
  | ⟨nm, e, p⟩ :: r => sdk_cons (h e) (kwArgs_ok h r)
def mkKE (ce : Ce) (z : Sc) (f : Expr → EM) (d g : Nat) (args : List Expr) (kws : List Keyword) : EM := match args, kwNames kws with
  | a :: es, some ks => match ce.tb.kw g ks (a :: es).length with
    | some gD => if (!z.tr && (a :: es).all noStar) = true then mkKM (ce.np g) d (a :: es).length ks.length gD (ce.G g) (argsE f (a :: es)) (kwArgs f kws) else badE
    | none => badE
  | _, _ => badE
def callE (ce : Ce) (z : Sc) (f : Expr → EM) (fn : Expr) (args : List Expr) (kws : List Keyword) (pos : Pos) : EM := match fn, kws with
  | .Name x _, [] => if (isGl z x && !(x == ("__debug__" : Str))) = true then match ce.gl x with
      | .blt => bltE ce z f x args (ce.hint pos.line pos.col)
      | .fn g => fnE ce z f g args
      | .cl d g => mkE ce z f d g args
      | _ => badE
    else badE
  | .Name x _, kw :: kws => if (isGl z x && !(x == ("__debug__" : Str))) = true then match ce.gl x with
      | .cl d g => mkKE ce z f d g args (kw :: kws)
      | _ => badE
    else badE
  | .Attribute o m apos, [] => mthE ce f o m apos pos args
  | _, _ => badE
section
variable {ce : Ce} {k : Nat} {z : Sc} {X : Cx} {C : Ctx} {W : WX} (c : CtxOk ce z k X C W)
include c
theorem fn_sd {f : Expr → EM} (h : ∀ e, PE X e (T C W (f e))) {x : Str} {g : Nat} {args : List Expr} {p pos : Pos} (hg : Gl X x) (hk : ce.gl x = .fn g) (hd : (x == ("__debug__" : Str)) = false) : PE X (.Call (.Name x p) args [] pos) (T C W (fnE ce z f g args)) := by
  have := c.gl x
  rw [hk] at this
  obtain ⟨a, h1, h2, F⟩ := this
  unfold fnE
  split
  · split
    · rename_i dd hdd
      refine ite_bad fun ht => ?_
      rw [Bool.not_eq_true'] at ht
      exact sd_call0 c.tk (c.room.mono (Nat.le_succ k)) F hg h1 h2 hdd hd (c.own ht)
    · exact sd_bad
  · split
    · rename_i dd hdd
      exact ite_bad fun hs => sd_call c.tk (c.room.mono (Nat.le_succ k)) F hg h1 h2 hdd (args_ok h hs) hd hs
    · exact sd_bad
theorem mk_sd {f : Expr → EM} (h : ∀ e, PE X e (T C W (f e))) {x : Str} {d g : Nat} {args : List Expr} {p pos : Pos} (hg : Gl X x) (hk : ce.gl x = .cl d g) (hd : (x == ("__debug__" : Str)) = false) : PE X (.Call (.Name x p) args [] pos) (T C W (mkE ce z f d g args)) := by
  have := c.gl x
  rw [hk] at this
  obtain ⟨a, h1, h2, F, _⟩ := this
  unfold mkE
  split
  · exact sd_bad
  · split
    · rename_i dd hdd
      refine ite_bad fun hs => ?_
      rw [Bool.and_eq_true, Bool.not_eq_true'] at hs
      obtain ⟨E, hE⟩ := c.own hs.1
      have tk := c.tk
      have ha := args_ok h hs.2
      subst hE
      exact sd_mk c.hK tk c.room rfl h2 F hg h1 hdd ha hd hs.2
    · exact sd_bad
theorem mkK_sd {f : Expr → EM} (h : ∀ e, PE X e (T C W (f e))) {x : Str} {d g : Nat} {args : List Expr} {kws : List Keyword} {p pos : Pos} (hg : Gl X x) (hk : ce.gl x = .cl d g) (hd : (x == ("__debug__" : Str)) = false) : PE X (.Call (.Name x p) args kws pos) (T C W (mkKE ce z f d g args kws)) := by
  have := c.gl x
  rw [hk] at this
  obtain ⟨a, h1, h2, _, KF⟩ := this
  unfold mkKE
  split
  · rename_i ex es ks hks
    split
    · rename_i gD hgD
      refine ite_bad fun hs => ?_
      rw [Bool.and_eq_true, Bool.not_eq_true'] at hs
      obtain ⟨E, hE⟩ := c.own hs.1
      have tk := c.tk
      have ha := args_ok h hs.2
      have hkw := kwArgs_ok h kws
      subst hE
      obtain ⟨k1, k2, k3⟩ := kwNames_ok (env := X.env) (pos := pos) hks
      obtain ⟨fd, ps, e1, e2, e3⟩ := KF.ok
      refine sd_mkK c.hK tk c.room rfl h2 ⟨fd, ps, e1, e2, e3 ks _ gD hgD⟩ hg h1 ha hkw k1 k2 hd hs.2 ?_
      rw [k3, star_any hs.2]
      rfl
    · exact sd_bad
  · exact sd_bad
theorem bm1_sd {f : Expr → EM} (h : ∀ e, PE X e (T C W (f e))) {t : Nat} {g : D → List D → Sto → Option (D × Sto)} {o : Expr} {m : Str} {id : String} {n : Nat} {args : List Expr} {apos pos : Pos} (pa : PlainAttrs (tyS t)) (slot : Slot (tyS t) m id) (hty : typeOf (.builtin id) = pure (.type "method_descriptor"))
    (hm : MtR X id (rM C g)) : PE X (.Call (.Attribute o m apos) args [] pos) (T C W (bm1 t g f o apos pos n args)) := by
  unfold bm1
  split
  · exact sd_bad
  · refine ite_bad fun hs => ?_
    rw [Bool.and_eq_true, Bool.and_eq_true, Bool.and_eq_true, Bool.and_eq_true, decide_eq_true_eq, decide_eq_true_eq] at hs
    obtain ⟨⟨⟨⟨h1, h2⟩, h3⟩, h4⟩, h5⟩ := hs
    exact sd_bm c.hK pa slot hty hm (h o) (args_ok h h4) h3 h4 (by rw [h1]; exact h2) h5
theorem usr_sd {f : Expr → EM} (h : ∀ e, PE X e (T C W (f e))) {o : Expr} {m : Str} {args : List Expr} {apos pos : Pos} : PE X (.Call (.Attribute o m apos) args [] pos) (T C W (usrE ce f o m apos pos args)) := by
  unfold usrE
  split
  · rename_i a ha
    refine ite_bad fun hs => ?_
    rw [Bool.and_eq_true, Bool.and_eq_true, Bool.and_eq_true, decide_eq_true_eq] at hs
    obtain ⟨⟨⟨h1, h2⟩, h3⟩, h4⟩ := hs
    exact sd_meth c.hK c.ok c.M c.tk (c.room.mono (Nat.le_succ k)) (c.an m a ha) (h o) (args_ok h h2) h1 h2 h3 h4 (fun e => by rw [e]; rfl)
  · exact sd_bad
theorem mth_sd {f : Expr → EM} (h : ∀ e, PE X e (T C W (f e))) {o : Expr} {m : Str} {args : List Expr} {apos pos : Pos} : PE X (.Call (.Attribute o m apos) args [] pos) (T C W (mthE ce f o m apos pos args)) := by
  have hu : X.A.units + 1 < cLine := by
    have := c.room.units
    omega
  unfold mthE
  refine ite2 (fun e => ?_) (ite2 (fun e => ?_) (ite2 (fun e => ?_) (ite2 (fun e => ?_) (ite2 (fun e => ?_) (ite2 (fun e => ?_) (ite2 (fun e => ?_) (usr_sd c h)))))))
  · have e := eqS e
    subst e
    exact bm1_sd c h F.plainAttrs_list F.slot_list_append F.type_list_append mg_app
  · have e := eqS e
    subst e
    split
    · exact bm1_sd c h F.plainAttrs_dict F.slot_dict_pop F.type_dict_pop (mg_dpop hu)
    · split
      · exact bm1_sd c h F.plainAttrs_dict F.slot_dict_pop F.type_dict_pop (mg_dpop1 hu)
      · exact bm1_sd c h F.plainAttrs_list F.slot_list_pop F.type_list_pop mg_pop
  · have e := eqS e
    subst e
    exact bm1_sd c h F.plainAttrs_list F.slot_list_insert F.type_list_insert mg_ins
  · have e := eqS e
    subst e
    exact bm1_sd c h F.plainAttrs_list F.slot_list_extend F.type_list_extend mg_ext
  · have e := eqS e
    subst e
    exact bm1_sd c h F.plainAttrs_str F.slot_str_split F.type_str_split mg_spl
  · have e := eqS e
    subst e
    exact bm1_sd c h F.plainAttrs_dict F.slot_dict_update F.type_dict_update mg_upd
  · rw [Bool.and_eq_true] at e
    have e := eqS e.1
    subst e
    exact bm1_sd c h F.plainAttrs_str F.slot_str_join F.type_str_join (mg_joi c.hK)
theorem call_sd {f : Expr → EM} (h : ∀ e, PE X e (T C W (f e))) {fn : Expr} {args : List Expr} {kws : List Keyword} {pos : Pos} : PE X (.Call fn args kws pos) (T C W (callE ce z f fn args kws pos)) := by
  unfold callE
  split
  · rename_i x p
    refine ite_bad fun hc => ?_
    rw [Bool.and_eq_true, Bool.not_eq_true'] at hc
    have hg := gl_of c hc.1
    split
    · rename_i hk
      exact blt_sd c h hg (blt_of c (by rw [hk]; rfl))
    · rename_i g hk
      exact fn_sd c h hg hk hc.2
    · rename_i d g hk
      exact mk_sd c h hg hk hc.2
    · exact sd_bad
  · rename_i x p kw kws
    refine ite_bad fun hc => ?_
    rw [Bool.and_eq_true, Bool.not_eq_true'] at hc
    have hg := gl_of c hc.1
    split
    · rename_i d g hk
      exact mkK_sd c h hg hk hc.2
    · exact sd_bad
  · exact mth_sd c h
  · exact sd_bad
end
/-! ### one level -/
def constE : Const → EM
  | .int i => cM (.int i)
  | .bool b => cM (.bl b)
  | .none => cM .non
  | .str s => if PySem.PyData.strOk s = true then cM (.str s) else badE
  | _ => badE
def boolV (op : BoolOp) (f : Expr → EM) : List Expr → EM
  | [] => badE
  | [e] => f e
  | a :: b :: r => match op with
    | .And => andV (f a) (boolV op f (b :: r))
    | .Or => orV (f a) (boolV op f (b :: r))
def boolT (op : BoolOp) (f : Expr → TM) : List Expr → TM
  | [] => badT
  | [e] => f e
  | a :: b :: r => match op with
    | .And => andM (f a) (boolT op f (b :: r))
    | .Or => orM (f a) (boolT op f (b :: r))
def cmpE (f : Expr → EM) (a : Expr) (ops : List CmpOp) (bs : List Expr) : EM := match ops, bs with
  | [op], [b] => match cmG op with
    | some g => if (!behindInMarks op b) = true then binM g (f a) (f b) else badE
    | none => badE
  | [op, op'], [b, c] => match cmG op, cmG op' with
    | some g, some g' => if (!lastMarks [op, op'] [b, c]) = true then chainM g g' (f a) (f b) (f c) else badE
    | _, _ => badE
  | _, _ => badE
/-- a name that is a dict of the module -/
def kdOf (ce : Ce) (z : Sc) (x : Str) : Option (List (Str × Str)) := if (isGl z x && !(x == ("__debug__" : Str))) = true then match ce.gl x with
    | .kd m => some m
    | _ => none
  else none
def kdCmp (ce : Ce) (z : Sc) (f : Expr → EM) (a : Expr) (ops : List CmpOp) (bs : List Expr) (other : EM) : EM := match ops, bs with
  | [.NotIn], [.Name y p] => match kdOf ce z y with
    | some m => if (!behindInMarks .NotIn (.Name y p)) = true then kdInM true m (f a) else badE
    | none => other
  | [.In], [.Name y p] => match kdOf ce z y with
    | some m => if (!behindInMarks .In (.Name y p)) = true then kdInM false m (f a) else badE
    | none => other
  | _, _ => other
def kdSub (ce : Ce) (z : Sc) (f : Expr → EM) (a s : Expr) (other : EM) : EM := match a with
  | .Name x _ => match kdOf ce z x with
    | some m => if noSlice s = true then kdIxM m (f s) else badE
    | none => other
  | _ => other
def ptE (f : Expr → EM) : Option Expr → OM
  | none => noPart
  | some e => partM (f e)
def subE (f : Expr → EM) (a s : Expr) : EM := match s with
  | .Slice lo hi none _ => sliceM (f a) (ptE f lo) (ptE f hi)
  | .Slice none none (some (.UnaryOp .USub (.Constant (.int 1) _ _) _)) _ => revT (f a)
  | s => if noSlice s = true then subM (f a) (f s) else badE
def binE (h : Nat) (op : Operator) (a b : EM) : EM := match h, op with
  | 4, .Mult => repC none a b
  | 5, .Mult => repF a b
  | 6, .Add => addCel none a b
  | 10, .Add => addTop a b
  | _, op => match opG op with
    | some g => binM g a b
    | none => badE
/-- a comparison: 7: lists of lists -/
def cmpH (h : Nat) (f : Expr → EM) (a : Expr) (ops : List CmpOp) (bs : List Expr) : EM := if h = 7 then (match ops, bs with
    | [.Eq], [b] => if (!behindInMarks .Eq b) = true then binM eq2D (f a) (f b) else badE
    | _, _ => badE) else cmpE f a ops bs
/-! ### a def that is handed a lambda -/
def lamSc (scope : Scope) : Sc := ⟨scope, fun _ => false, false, none⟩
def noArgsB : Arguments → Bool
  | ⟨[], [], none, [], [], none, []⟩ => true
  | _ => false
theorem noArgsB_ok {a : Arguments} (h : noArgsB a = true) : a = noArgs := by
  unfold noArgsB at h
  split at h
  · rfl
  · cases h
def lamE (ce : Ce) (lv : Lv) (z : Sc) (x : Str) (params : Arguments) (body : Expr) (scope : Scope) : EM :=
  if (isGl z x && !(x == ("__debug__" : Str)) && lamSB z.sc scope && noArgsB params) = true then match ce.gl x, z.mkr with
    | .told tn, some n => toldM n tn (lv.E (lamSc scope) body)
    | _, _ => badE
  else badE
theorem CtxOk.lam {ce : Ce} {k : Nat} {z : Sc} {X : Cx} {C : Ctx} {W : WX} (c : CtxOk ce z k X C W) (A : Around) (outer : List Env) (s : Shared) (H : Hp) (E : XK) (scope : Scope) (f c' : Addr) (hr : Room (k + 1) (A.deeper (lamEnv X scope s.heap.objs.size f c'))) :
    CtxOk ce (lamSc scope) k (lamCx X A outer s H E scope f c') C (fun cls d _ H => E cls d H) where
  hK := c.hK
  N := c.N
  nd := c.nd
  sc := rfl
  fn := fun x h => by cases h
  calm := rfl
  room := hr
  tk := takes_of rfl rfl rfl rfl
  own := fun _ => ⟨E, rfl⟩
  gl := fun x => by
    have := c.gl x
    revert this
    cases ce.gl x with
    | fn f =>
      rintro ⟨a, h1, h2, h3⟩
      exact ⟨a, h1, h2, ⟨h3.ok⟩⟩
    | cl d f =>
      rintro ⟨a, h1, h2, h3, h4⟩
      exact ⟨a, h1, h2, ⟨h3.ok⟩, ⟨h4.ok.imp fun fd h => h.imp fun ps h => ⟨h.1, h.2.1, fun ks n gD e => ⟨(h.2.2 ks n gD e).ex⟩⟩⟩⟩
    | exc q own =>
      intro h1 h2
      obtain ⟨e1, e2, e3, e4, e5⟩ := h1 h2
      exact ⟨e1, e2, e3, e4, e5⟩
    | exo q fl =>
      intro h
      exact ⟨h.mg, h.T, h.init⟩
    | kd m =>
      intro h
      exact ⟨h.ex⟩
    | _ => exact id
  ok := c.ok
  M := ⟨fun d m f e => by
    obtain ⟨h1, a, h2, h3⟩ := c.M.mt d m f e
    exact ⟨h1, a, h2, ⟨h3.ok⟩⟩⟩
  cat := c.cat
  an := c.an
  mkr := fun n h => by cases h
theorem lam_sd {ce : Ce} {k : Nat} {lv : Lv} (L : OkLv ce k lv) {z : Sc} {X : Cx} {C : Ctx} {W : WX} (c : CtxOk ce z k X C W) {x : Str} {params : Arguments} {body : Expr} {scope : Scope} {p lpos pos : Pos} : PE X (.Call (.Name x p) [.Lambda params body scope lpos] [] pos) (T C W (lamE ce lv z x params body scope)) := by
  unfold lamE
  refine ite_bad fun h => ?_
  rw [Bool.and_eq_true, Bool.and_eq_true, Bool.and_eq_true, Bool.not_eq_true'] at h
  obtain ⟨⟨⟨h1, h2⟩, h3⟩, h4⟩ := h
  have e := noArgsB_ok h4
  subst e
  split
  · rename_i tn n hx hm
    have G := c.gl x
    rw [hx] at G
    exact sd_told (gl_of c h1) G (c.mkr n hm) (by rw [c.sc]; exact lamS_by h3) (fun A outer s H E f c' hr => L.E (c.lam A outer s H E scope f c' hr) body) h2
  · exact sd_bad
def stepE (ce : Ce) (lv : Lv) (z : Sc) (e : Expr) : EM := match e with
  | .Constant c _ _ => constE c
  | .Name x _ => nameE ce z x
  | .BinOp a op b pos => binE (ce.hint pos.line pos.col) op (lv.E z a) (lv.E z b)
  | .UnaryOp op a _ => match op with
    | .Not => notV (lv.E z a)
    | .USub => negM (lv.E z a)
    | _ => badE
  | .BoolOp op es _ => boolV op (lv.E z) es
  | .IfExp c a b _ => ifM (lv.T z c) (lv.E z a) (lv.E z b)
  | .Compare a ops bs pos => kdCmp ce z (lv.E z) a ops bs (cmpH (ce.hint pos.line pos.col) (lv.E z) a ops bs)
  | .Tuple es _ pos => if es.all noStar = true then (if ce.hint pos.line pos.col = 1 then tupP (argsE (lv.E z) es) else tupM (argsE (lv.E z) es)) else badE
  | .List es pos => if es.all noStar = true then (if ce.hint pos.line pos.col = 1 then lstC none (argsE (lv.E z) es) else lstM (argsE (lv.E z) es)) else badE
  | .Dict [] [] pos => if ce.hint pos.line pos.col = 1 then dctT none else dctK none
  | .Dict ks vs _ => match cPairs ks vs with
    | some kvs => dispM none kvs
    | none => badE
  | .Subscript a s _ => kdSub ce z (lv.E z) a s (subE (lv.E z) a s)
  | .Attribute a x _ => match ce.an x with
    | some f => if noSuper a = true then attM ce.tb f (lv.E z a) else badE
    | none => badE
  | .Call (.Name x _) [.Lambda params body scope _] [] _ => lamE ce lv z x params body scope
  | .Call fn args kws pos => callE ce z (lv.E z) fn args kws pos
  | .DictComp kx vx [⟨tg, it, ifs, 0⟩] scope pos => lkH (lv.E z) it (ce.hint pos.line pos.col) (dcE ce lv z kx vx tg it ifs scope (ce.hint pos.line pos.col))
  | .ListComp elt [⟨tg, it, ifs, 0⟩] scope pos => lkH (lv.E z) it (ce.hint pos.line pos.col) (lcE ce lv z elt tg it ifs scope (ce.hint pos.line pos.col))
  | .ListComp elt [⟨tg, it, ifs, 0⟩, ⟨tg1, it1, ifs1, 0⟩] scope _ => lc2E ce lv z elt tg it ifs tg1 it1 ifs1 scope
  | _ => badE
def stepT (ce : Ce) (lv : Lv) (z : Sc) (e : Expr) : TM := match e with
  | .Compare a ops bs _ => tstM (kdCmp ce z (lv.E z) a ops bs (cmpE (lv.E z) a ops bs))
  | .UnaryOp .Not a _ => notM (lv.T z a)
  | .BoolOp op es _ => boolT op (lv.T z) es
  | e => if plainTest e = true then tstM (lv.E z e) else badT
def badLv : Lv := ⟨fun _ _ => badE, fun _ _ => badT⟩
def stepLv (ce : Ce) (lv : Lv) : Lv := ⟨stepE ce lv, stepT ce lv⟩
def lvN (ce : Ce) : Nat → Lv
  | 0 => badLv
  | n + 1 => stepLv ce (lvN ce n)
section
variable {ce : Ce} {k : Nat} {z : Sc} {X : Cx} {C : Ctx} {W : WX} (c : CtxOk ce z k X C W)
include c
theorem const_ok {v : Const} {j : Nat} {pos : Pos} : PE X (.Constant v j pos) (T C W (constE v)) := by
  unfold constE
  split
  · exact sd_val pe_int fun _ _ => rfl
  · exact sd_val pe_bl fun _ _ => rfl
  · exact sd_val pe_non fun _ _ => rfl
  · exact ite_bad fun h => sd_val pe_str fun _ _ => ⟨rfl, h⟩
  · exact sd_bad
omit c in
theorem bool1 {op : BoolOp} {a : Expr} {pos : Pos} {t : TE} (h : PE X a t) : PE X (.BoolOp op [a] pos) t := ⟨fun pins s σ H Q I q => h.run pins s σ H Q I q⟩
theorem boolV_ok {op : BoolOp} {f : Expr → EM} (h : ∀ e, PE X e (T C W (f e))) {pos : Pos} : ∀ {es : List Expr}, PE X (.BoolOp op es pos) (T C W (boolV op f es))
  | [] => sd_bad
  | [e] => bool1 (h e)
  | a :: b :: r => by
    cases op with
    | And => exact sd_andV (h a) (boolV_ok h)
    | Or => exact sd_orV (h a) (boolV_ok h)
theorem boolT_ok {op : BoolOp} {f : Expr → TM} (h : ∀ e, PT X e (TT' C W (f e))) {pos : Pos} : ∀ {es : List Expr}, PW X (.BoolOp op es pos) (TT' C W (boolT op f es))
  | [] => ⟨fun _ _ _ _ _ _ _ h => by
    obtain ⟨_, _, _, _, _, h⟩ := h
    exact h.elim⟩
  | [e] => sdw_one (h e)
  | a :: b :: r => by
    cases op with
    | And => exact sdw_and (h a) (boolT_ok h)
    | Or => exact sdw_or (h a) (boolT_ok h)
theorem cmp_ok {f : Expr → EM} (h : ∀ e, PE X e (T C W (f e))) {a : Expr} {ops : List CmpOp} {bs : List Expr} {pos : Pos} : PE X (.Compare a ops bs pos) (T C W (cmpE f a ops bs)) := by
  have hu := c.room.units
  unfold cmpE
  split
  · split
    · rename_i g hg
      refine ite_bad fun hm => ?_
      rw [Bool.not_eq_true'] at hm
      exact sd_cmp (cmG_ok c.hK hu hg) (h _) (h _) hm
    · exact sd_bad
  · split
    · rename_i g g' hg hg'
      refine ite_bad fun hm => ?_
      rw [Bool.not_eq_true'] at hm
      exact sd_chain (cmG_ok c.hK hu hg) (cmG_ok c.hK hu hg') (h _) (h _) (h _) hm
    · exact sd_bad
  · exact sd_bad
omit c in
theorem tst_bad : tstM badE = badT := rfl
theorem cmpT_ok {f : Expr → EM} (h : ∀ e, PE X e (T C W (f e))) {a : Expr} {ops : List CmpOp} {bs : List Expr} {pos : Pos} : PT X (.Compare a ops bs pos) (TT' C W (tstM (cmpE f a ops bs))) := by
  have hu := c.room.units
  unfold cmpE
  split
  · split
    · rename_i g hg
      split
      · rename_i hm
        rw [Bool.not_eq_true'] at hm
        exact sdt_cmp (cmG_ok c.hK hu hg) (h _) (h _) hm
      · exact sdt_bad
    · exact sdt_bad
  · split
    · rename_i g g' hg hg'
      split
      · rename_i hm
        rw [Bool.not_eq_true'] at hm
        exact sdt_chain (cmG_ok c.hK hu hg) (cmG_ok c.hK hu hg') (h _) (h _) (h _) hm
      · exact sdt_bad
    · exact sdt_bad
  · exact sdt_bad
theorem kdOf_ok {x : Str} {m : List (Str × Str)} (h : kdOf ce z x = some m) : Gl X x ∧ (x == ("__debug__" : Str)) = false ∧ KdIs X x m := by
  unfold kdOf at h
  split at h
  · rename_i e
    rw [Bool.and_eq_true, Bool.not_eq_true'] at e
    split at h
    · rename_i m' hm
      cases h
      have := c.gl x
      rw [hm] at this
      exact ⟨gl_of c e.1, e.2, this⟩
    · cases h
  · cases h
theorem kdCmp_ok {f : Expr → EM} (h : ∀ e, PE X e (T C W (f e))) {a : Expr} {ops : List CmpOp} {bs : List Expr} {pos : Pos} {other : EM} (ho : PE X (.Compare a ops bs pos) (T C W other)) : PE X (.Compare a ops bs pos) (T C W (kdCmp ce z f a ops bs other)) := by
  unfold kdCmp
  split
  · split
    · rename_i m hm
      obtain ⟨h1, h2, h3⟩ := kdOf_ok c hm
      refine ite_bad fun hb => ?_
      rw [Bool.not_eq_true'] at hb
      exact sd_kdIn (neg := true) h1 h2 h3 (h a) hb
    · exact ho
  · split
    · rename_i m hm
      obtain ⟨h1, h2, h3⟩ := kdOf_ok c hm
      refine ite_bad fun hb => ?_
      rw [Bool.not_eq_true'] at hb
      exact sd_kdIn (neg := false) h1 h2 h3 (h a) hb
    · exact ho
  · exact ho
theorem kdCmpT_ok {f : Expr → EM} (h : ∀ e, PE X e (T C W (f e))) {a : Expr} {ops : List CmpOp} {bs : List Expr} {pos : Pos} {other : EM} (ho : PT X (.Compare a ops bs pos) (TT' C W (tstM other))) : PT X (.Compare a ops bs pos) (TT' C W (tstM (kdCmp ce z f a ops bs other))) := by
  unfold kdCmp
  split
  · split
    · rename_i m hm
      obtain ⟨h1, h2, h3⟩ := kdOf_ok c hm
      split
      · rename_i hb
        rw [Bool.not_eq_true'] at hb
        exact sdt_kdIn (neg := true) h1 h2 h3 (h a) hb
      · exact sdt_bad
    · exact ho
  · split
    · rename_i m hm
      obtain ⟨h1, h2, h3⟩ := kdOf_ok c hm
      split
      · rename_i hb
        rw [Bool.not_eq_true'] at hb
        exact sdt_kdIn (neg := false) h1 h2 h3 (h a) hb
      · exact sdt_bad
    · exact ho
  · exact ho
theorem kdSub_ok {f : Expr → EM} (h : ∀ e, PE X e (T C W (f e))) {a s : Expr} {pos : Pos} {other : EM} (ho : PE X (.Subscript a s pos) (T C W other)) : PE X (.Subscript a s pos) (T C W (kdSub ce z f a s other)) := by
  unfold kdSub
  split
  · split
    · rename_i m hm
      obtain ⟨h1, h2, h3⟩ := kdOf_ok c hm
      exact ite_bad fun hs => sd_kdIx h1 h2 h3 (h s) hs
    · exact ho
  · exact ho
theorem pt_sd {f : Expr → EM} (h : ∀ e, PE X e (T C W (f e))) : ∀ o : Option Expr, PO X o (TO' C W (ptE f o))
  | none => sdo_none
  | some e => sdo_some (h e)
theorem sub_ok {f : Expr → EM} (h : ∀ e, PE X e (T C W (f e))) {a s : Expr} {pos : Pos} : PE X (.Subscript a s pos) (T C W (subE f a s)) := by
  have hu : X.A.units + 1 < cLine := by
    have := c.room.units
    omega
  unfold subE
  split
  · exact sd_slice c.hK (h a) (pt_sd c h _) (pt_sd c h _)
  · exact sd_revT c.hK (h a)
  · exact ite_bad fun hs => sd_sub c.hK hu (h a) (h _) (fun o i => ix_eq hs o i) (fun o i => ix_eq hs o i)
end
theorem stepLv_ok {ce : Ce} {k : Nat} {lv : Lv} (L : OkLv ce k lv) : OkLv ce k (stepLv ce lv) where
  E := fun {z X C W} c e => by
    show PE X e (T C W (stepE ce lv z e))
    unfold stepE
    split
    · exact const_ok c
    · exact name_ok c
    · unfold binE
      split
      · exact sd_repC (L.E c _) (L.E c _)
      · exact sd_repF (L.E c _) (L.E c _)
      · exact sd_addCel (L.E c _) (L.E c _)
      · exact sd_addTop (L.E c _) (L.E c _)
      · split
        · rename_i g hg
          exact sd_bin (opG_ok c.hK hg) (L.E c _) (L.E c _)
        · exact sd_bad
    · split
      · exact sd_notV (L.E c _)
      · exact sd_neg (L.E c _)
      · exact sd_bad
    · exact boolV_ok c (L.E c)
    · exact sd_if (L.T c _) (L.E c _) (L.E c _)
    · refine kdCmp_ok c (L.E c) ?_
      unfold cmpH
      split
      · split
        · refine ite_bad fun hm => ?_
          rw [Bool.not_eq_true'] at hm
          exact sd_cmp (vo_eq2 c.hK c.room.units) (L.E c _) (L.E c _) hm
        · exact sd_bad
      · exact cmp_ok c (L.E c)
    · refine ite_bad fun hs => ?_
      split
      · exact sd_tupP (args_ok (L.E c) hs)
      · exact sd_tup (args_ok (L.E c) hs)
    · refine ite_bad fun hs => ?_
      split
      · exact sd_lstC (args_ok (L.E c) hs)
      · exact sd_lst (args_ok (L.E c) hs)
    · split
      · exact sd_dctT
      · exact sd_dctK
    · split
      · rename_i kvs hk
        exact sd_disp hk
      · exact sd_bad
    · exact kdSub_ok c (L.E c) (sub_ok c (L.E c))
    · split
      · rename_i f hf
        exact ite_bad fun hs => sd_att c.hK c.ok (c.an _ _ hf) (L.E c _) hs
      · exact sd_bad
    · exact lam_sd L c
    · exact call_sd c (L.E c)
    · exact lkH_ok (dc_sd c L)
    · exact lkH_ok (lc_sd c L)
    · exact lc2_sd c L
    · exact sd_bad
  T := fun {z X C W} c e => by
    show PT X e (TT' C W (stepT ce lv z e))
    unfold stepT
    split
    · exact kdCmpT_ok c (L.E c) (cmpT_ok c (L.E c))
    · exact sdt_not (L.T c _)
    · exact (boolT_ok c (L.T c)).pt
    · exact itet_bad fun hs => sdt_val (L.E c _) (test_eq hs)
theorem lvN_ok {ce : Ce} {k : Nat} : ∀ n, OkLv ce k (lvN ce n)
  | 0 => ⟨fun _ _ => sd_bad, fun _ _ => sdt_bad⟩
  | n + 1 => stepLv_ok (lvN_ok n)
end Pyx
/-! statements compiled -/
namespace Pyx
open PySem PySem.Spec PyProof.Rows L2 LamX
structure StOk (ce : Ce) (z : Sc) (k : Nat) (X : Cx) (C : Ctx) (W : WX) : Prop where
  c : CtxOk ce z k X C W
  pass : PassesOwn (model X.prog X.w) X.A X.env X.xe
  stk : X.stack = X.env :: X.outer
  frm : X.env.frame = some X.env.locals
  room2 : Room (k + 2) X.A
theorem swap_cell {elt : Expr} {gs : List Comprehension} {scope : Scope} {pos py : Pos} {y : Str} {l : Nat} {env : Env} (hy : env.scope.names.lookup y = some .cell) : swapsWith (.ListComp elt gs scope pos) (some (.Name y py)) l env = pure false := by
  have ky : env.kindOf y = some .cell := hy
  unfold swapsWith
  simp only [ky]
  have e : ((some NameKind.cell : Option NameKind) == some NameKind.local) = false := rfl
  rw [e, Bool.and_false, Bool.false_and, Bool.false_and]
theorem swapped_none {tg ex : Expr} {env : Env} (h : isTupE ex = false) : swappedStores [tg] ex env = pure none := by
  cases ex <;> first
    | (cases h; done)
    | (cases tg <;> rfl)
theorem swapped_name {x : Str} {p : Pos} {ex : Expr} {env : Env} : swappedStores [.Name x p] ex env = pure none := by
  cases ex <;> rfl
/-- a target that is no local name: no swapped stores -/
def swpC (sc : Scope) (ts : List Expr) : Bool := ts.any fun t => match t with
  | .Name x _ => decide (sc.names.lookup x ≠ some .local)
  | _ => true
theorem swpC_ok {env : Env} {ts vs : List Expr} {kt k2 : Nat} {pt pt2 : Pos} (h : swpC env.scope ts = true) : swappedStores [.Tuple ts kt pt] (.Tuple vs k2 pt2) env = pure none := by
  have key : ∀ (line : Nat) (ts : List Expr), swpC env.scope ts = true → (ts.filterMap fun
    | .Name id pos => if env.kindOf id == some .local && pos.line == line then some id else none
    | _ => none).length < ts.length := fun line ts => by
    induction ts with
    | nil =>
      intro h
      cases h
    | cons t r ih =>
      intro h
      have hle := List.length_filterMap_le (fun (t : Expr) => match t with
        | .Name id pos => if env.kindOf id == some .local && pos.line == line then some id else none
        | _ => none) r
      unfold swpC at h
      rw [List.any_cons, Bool.or_eq_true] at h
      rw [List.filterMap_cons]
      rcases h with h | h
      · have e : (match t with
          | .Name id pos => if (env.kindOf id == some .local && pos.line == line) = true then some id else none
          | _ => none) = none := by
          split
          · rename_i x p
            have h' := of_decide_eq_true h
            have : (env.kindOf x == some NameKind.local) = false := by
              have h2 : env.kindOf x ≠ some .local := h'
              cases q : env.kindOf x with
              | none => rfl
              | some k => cases k <;> first | rfl | exact absurd q h2
            rw [this, Bool.false_and]
            rfl
          · rfl
        rw [e]
        exact Nat.lt_succ_of_le hle
      · have h' := ih h
        split
        · exact Nat.lt_succ_of_lt h'
        · exact Nat.succ_lt_succ h'
  have hk := key ((ts.head?.map (·.pos.line)).getD 0) ts h
  unfold swappedStores
  dsimp only
  split
  · rfl
  · split
    · rfl
    · split
      · rfl
      · rename_i q
        exfalso
        apply q
        rw [Bool.or_eq_true]
        left
        exact bne_iff_ne.mpr (Nat.ne_of_lt hk)
def kindF (s : Scope) : Bool := match s.kind with
  | .function => true
  | _ => false
theorem kindF_ok {s : Scope} (h : kindF s = true) : s.kind = .function := by
  unfold kindF at h
  split at h
  · assumption
  · cases h
def lcSet (ce : Ce) (lv : Lv) (z : Sc) (i : Nat) (y : Str) (py : Pos) (elt : Expr) (gens : List Comprehension) (scope : Scope) (pos : Pos) : SM := match gens with
  | [⟨tg, it, ifs, 0⟩] => if (kindF z.sc && (py.line == pos.line) && !(scope.names.any fun (n, k) => n == y && (k == .local || k == .cell))) = true then asgM (gNm i) (lcE ce lv z elt tg it ifs scope (ce.hint pos.line pos.col)) else badS
  | [⟨tg, it, ifs, 0⟩, ⟨tg1, it1, ifs1, 0⟩] => if (kindF z.sc && (py.line == pos.line) && !(scope.names.any fun (n, k) => n == y && (k == .local || k == .cell))) = true then asgM (gNm i) (lc2E ce lv z elt tg it ifs tg1 it1 ifs1 scope) else badS
  | _ => badS
def setE (ce : Ce) (lv : Lv) (z : Sc) (i : Nat) (y : Str) (py : Pos) (ex : Expr) : SM := match ex with
  | .ListComp elt gens scope pos => match z.sc.names.lookup y with
    | some .local => lcSet ce lv z i y py elt gens scope pos
    | some .cell => asgM (gNm i) (lv.E z ex)
    | _ => badS
  | _ => if noComp ex = true then asgM (gNm i) (lv.E z ex) else badS
def asgE (ce : Ce) (lv : Lv) (z : Sc) (tg ex : Expr) : SM := match tg with
  | .Attribute o x _ => match ce.an x with
    | some f => satM ce.tb f (lv.E z o) (lv.E z ex)
    | none => badS
  | .Subscript o i _ => if noSlice i = true then putM (lv.E z o) (lv.E z i) (lv.E z ex) else badS
  | .Name y py => if locB z y = true then match slotOf ce.N y 0 with
      | some i => setE ce lv z i y py ex
      | none => badS
    else badS
  | .Tuple ts _ _ => match ex with
    | .Tuple vs _ _ => if (vs.all noStar && (swp2 z.sc ts vs || swp3 z.sc ts vs || (decide (4 ≤ ts.length) || swpC z.sc ts))) = true then match tgE ce z 10 tg with
        | some (_, g) => asgM g (tupM (argsE (lv.E z) vs))
        | none => badS
      else badS
    | _ => if (noComp ex && !isTupE ex) = true then match tgE ce z 10 tg with
        | some (_, g) => asgM g (lv.E z ex)
        | none => badS
      else badS
  | _ => badS
theorem tgN_eq {ce : Ce} {z : Sc} {n : Nat} {x : Str} {p : Pos} {is : List Nat} {g : GM} (hx : z.sc.names.lookup x = some .local) (h : tgE ce z (n + 1) (.Name x p) = some (is, g)) : ∃ i, slotOf ce.N x 0 = some i ∧ g = gNm i := by
  unfold tgE at h
  have hl : locB z x = true := by
    unfold locB
    rw [hx]
  simp only [hl, if_true] at h
  obtain ⟨i, hi, e⟩ := Option.map_eq_some_iff.mp h
  cases e
  exact ⟨i, hi, rfl⟩
theorem tgC_eq {ce : Ce} {z : Sc} {n : Nat} {e : Expr} {r : List Expr} {is : List Nat} {g : GMs} (h : tgsE ce z (n + 1) (e :: r) = some (is, g)) : ∃ p q, tgE ce z n e = some p ∧ tgsE ce z n r = some q ∧ g = gsCons p.2 q.2 := by
  unfold tgsE at h
  obtain ⟨p, hp, h⟩ := Option.bind_eq_some_iff.mp h
  obtain ⟨q, hq, e1⟩ := Option.map_eq_some_iff.mp h
  cases e1
  exact ⟨p, q, hp, hq, rfl⟩
theorem tgNil_eq {ce : Ce} {z : Sc} {n : Nat} {q : List Nat × GMs} (h : tgsE ce z (n + 1) [] = some q) : q.2 = gsNil := by
  unfold tgsE at h
  cases h
  rfl
theorem tgT_eq {ce : Ce} {z : Sc} {n : Nat} {es : List Expr} {k : Nat} {p : Pos} {is : List Nat} {g : GM} (h : tgE ce z (n + 1) (.Tuple es k p) = some (is, g)) : ∃ q, tgsE ce z n es = some q ∧ g = gTp es.length q.2 := by
  unfold tgE at h
  have h2 : (if es.all noStar = true then (tgsE ce z n es).map fun p => (p.1, gTp es.length p.2) else none) = some (is, g) := h
  split at h2
  · obtain ⟨q, hq, e⟩ := Option.map_eq_some_iff.mp h2
    cases e
    exact ⟨q, hq, rfl⟩
  · cases h2
theorem tg2_eq {ce : Ce} {z : Sc} {x y : Str} {px py pt : Pos} {kt : Nat} {is : List Nat} {g : GM} (hx : z.sc.names.lookup x = some .local) (hy : z.sc.names.lookup y = some .local) (h : tgE ce z 10 (.Tuple [.Name x px, .Name y py] kt pt) = some (is, g)) :
    ∃ i j, slotOf ce.N x 0 = some i ∧ slotOf ce.N y 0 = some j ∧ g = gTp 2 (gsCons (gNm i) (gsCons (gNm j) gsNil)) := by
  obtain ⟨q, hq, rfl⟩ := tgT_eq h
  obtain ⟨is1, g1⟩ := q
  obtain ⟨p1, q1, h1, h2, rfl⟩ := tgC_eq hq
  obtain ⟨is2, g2⟩ := q1
  obtain ⟨p2, q2, h3, h4, rfl⟩ := tgC_eq h2
  have h5 := tgNil_eq h4
  obtain ⟨i, hi, e1⟩ := tgN_eq (is := p1.1) (g := p1.2) hx h1
  obtain ⟨j, hj, e2⟩ := tgN_eq (is := p2.1) (g := p2.2) hy h3
  exact ⟨i, j, hi, hj, by rw [e1, e2, h5]; rfl⟩
theorem tg3_eq {ce : Ce} {z : Sc} {x y u : Str} {px py pu pt : Pos} {kt : Nat} {is : List Nat} {g : GM} (hx : z.sc.names.lookup x = some .local) (hy : z.sc.names.lookup y = some .local) (hu : z.sc.names.lookup u = some .local) (h : tgE ce z 10 (.Tuple [.Name x px, .Name y py, .Name u pu] kt pt) = some (is, g)) :
    ∃ i j q, slotOf ce.N x 0 = some i ∧ slotOf ce.N y 0 = some j ∧ slotOf ce.N u 0 = some q ∧ g = gTp 3 (gsCons (gNm i) (gsCons (gNm j) (gsCons (gNm q) gsNil))) := by
  obtain ⟨q, hq, rfl⟩ := tgT_eq h
  obtain ⟨is1, g1⟩ := q
  obtain ⟨p1, q1, h1, h2, rfl⟩ := tgC_eq hq
  obtain ⟨is2, g2⟩ := q1
  obtain ⟨p2, q2, h3, h4, rfl⟩ := tgC_eq h2
  obtain ⟨is3, g3⟩ := q2
  obtain ⟨p3, q3, h6, h7, rfl⟩ := tgC_eq h4
  have h5 := tgNil_eq h7
  obtain ⟨i, hi, e1⟩ := tgN_eq (is := p1.1) (g := p1.2) hx h1
  obtain ⟨j, hj, e2⟩ := tgN_eq (is := p2.1) (g := p2.2) hy h3
  obtain ⟨l, hl, e3⟩ := tgN_eq (is := p3.1) (g := p3.2) hu h6
  exact ⟨i, j, l, hi, hj, hl, by rw [e1, e2, e3, h5]; rfl⟩
section
variable {ce : Ce} {k : Nat} {z : Sc} {X : Cx} {C : Ctx} {W : WX} (s : StOk ce z k X C W) {lv : Lv} (L : OkLv ce k lv)
include s L
theorem ss_lcSet {i : Nat} {y : Str} {py : Pos} {elt : Expr} {gens : List Comprehension} {scope : Scope} {pos spos : Pos} (hi : X.N[i]? = some y) (hl : z.sc.names.lookup y = some .local) :
    PS X (.Assign [.Name y py] (.ListComp elt gens scope pos) spos) (TS' C W (lcSet ce lv z i y py elt gens scope pos)) := by
  have c := s.c
  unfold lcSet
  split
  · rename_i tg it ifs
    refine ites_bad fun h => ?_
    rw [Bool.and_eq_true, Bool.and_eq_true, Bool.not_eq_true'] at h
    obtain ⟨⟨h1, h2⟩, h3⟩ := h
    have hsw := sw_true (elt := elt) (gs := [⟨tg, it, ifs, 0⟩]) (env := X.env) (l := spos.line) (by rw [c.sc]; exact kindF_ok h1) (by rw [c.sc]; exact hl) h2 h3
    unfold lcE
    split
    · rename_i hb
      rw [Bool.and_eq_true] at hb
      split
      · rename_i is g tt g1 g2
        split
        · rename_i h4
          have hN : X.N.Nodup := by
            rw [c.N]
            exact c.nd
          refine ss_setLc rfl (fun j hj => of_decide_eq_true (List.all_eq_true.mp h4 j hj)) c.calm hN hi (by rw [c.sc]; exact hl) hsw (itH_ok c (L.E c) tg it _) (by rw [c.N, c.sc]; exact blkOk_by hb.1) (fun s H Ca cl fp => (tg_ok (c.blk scope s H Ca cl fp) 10).1 tg is g g1) (fun s H Ca cl fp => ?_) (fun s H Ca cl fp => L.E (c.blk scope s H Ca cl fp) elt) hb.2
          unfold tstsE at g2
          split at g2
          · cases g2
            exact sdts_nil
          · cases g2
            exact sdts_one (L.T (c.blk scope s H Ca cl fp) _)
          · cases g2
        · exact ss_bad
      · exact ss_bad
    · exact ss_bad
  · rename_i tg it ifs tg1 it1 ifs1
    refine ites_bad fun h => ?_
    rw [Bool.and_eq_true, Bool.and_eq_true, Bool.not_eq_true'] at h
    obtain ⟨⟨h1, h2⟩, h3⟩ := h
    have hsw := sw_true (elt := elt) (gs := [⟨tg, it, ifs, 0⟩, ⟨tg1, it1, ifs1, 0⟩]) (env := X.env) (l := spos.line) (by rw [c.sc]; exact kindF_ok h1) (by rw [c.sc]; exact hl) h2 h3
    exact ss_lc2E c L hi hl hsw
  · exact ss_bad
theorem ss_asgE {tg ex : Expr} {pos : Pos} : PS X (.Assign [tg] ex pos) (TS' C W (asgE ce lv z tg ex)) := by
  have c := s.c
  have hu : X.A.units + 1 < cLine := by
    have := c.room.units
    omega
  have nd : X.N.Nodup := by
    rw [c.N]
    exact c.nd
  unfold asgE
  split
  · split
    · rename_i f hf
      exact ss_sat c.hK c.ok (c.an _ _ hf) (L.E c _) (L.E c _) swap_att
    · exact ss_bad
  · exact ites_bad fun h => ss_put hu (L.E c _) (L.E c _) (L.E c _) h
  · rename_i y py
    refine ites_bad fun h => ?_
    split
    · rename_i i hi
      have hN : X.N[i]? = some y := by
        rw [c.N]
        exact slot_ok hi
      have hl : Loc X.env.scope y ∧ (X.fn y = true ∨ X.env.scope.names.lookup y = some .local) := by
        unfold locB at h
        rw [c.sc]
        split at h
        · rename_i e
          exact ⟨.inl e, .inr e⟩
        · rename_i e
          exact ⟨.inr e, .inl (c.fn y h)⟩
        · cases h
      unfold setE
      split
      · split
        · rename_i e
          exact ss_lcSet s L hN e
        · rename_i e
          exact ss_set nd hN hl.1 hl.2 (L.E c _) (swap_cell (by rw [c.sc]; exact e))
        · exact ss_bad
      · exact ites_bad fun h2 => ss_set nd hN hl.1 hl.2 (L.E c _) (swap_eq h2)
    · exact ss_bad
  · rename_i ts kt pt
    split
    · rename_i vs k2 pt2
      refine ites_bad fun h => ?_
      rw [Bool.and_eq_true, Bool.or_eq_true, Bool.or_eq_true, Bool.or_eq_true, decide_eq_true_eq] at h
      obtain ⟨h0, h⟩ := h
      have ha := args_ok (L.E c) h0
      split
      · rename_i is g hg
        rcases h with (h | h) | (h | h)
        · obtain ⟨x, px, y, py, a, b, rfl, rfl, hxy, hx, hy, hw⟩ := swp2_ok (env := X.env) (kt := kt) (k2 := k2) (pt := pt) (pt2 := pt2) (by rw [c.sc]; exact h)
          rw [c.sc] at hx hy
          obtain ⟨i, j, hi, hj, eg⟩ := tg2_eq hx hy hg
          rw [eg]
          exact ss_par2 c.calm nd (by rw [c.N]; exact slot_ok hi) (by rw [c.N]; exact slot_ok hj) hxy (by rw [c.sc]; exact hx) (by rw [c.sc]; exact hy) ha hw
        · obtain ⟨x, px, y, py, z', pz, a, b, d, rfl, rfl, hxy, hxz, hyz, hx, hy, hz, hw⟩ := swp3_ok (env := X.env) (kt := kt) (k2 := k2) (pt := pt) (pt2 := pt2) (by rw [c.sc]; exact h)
          rw [c.sc] at hx hy hz
          obtain ⟨i, j, q, hi, hj, hq, eg⟩ := tg3_eq hx hy hz hg
          rw [eg]
          exact ss_par3 c.calm nd (by rw [c.N]; exact slot_ok hi) (by rw [c.N]; exact slot_ok hj) (by rw [c.N]; exact slot_ok hq) hxy hxz hyz (by rw [c.sc]; exact hx) (by rw [c.sc]; exact hy) (by rw [c.sc]; exact hz) ha hw
        · exact ss_asg (sd_tup ha) ((tg_ok c 10).1 _ is g hg) rfl rfl (swp4_ok h)
        · exact ss_asg (sd_tup ha) ((tg_ok c 10).1 _ is g hg) rfl rfl (swpC_ok (by rw [c.sc]; exact h))
      · exact ss_bad
    · refine ites_bad fun h => ?_
      rw [Bool.and_eq_true, Bool.not_eq_true'] at h
      split
      · rename_i is g hg
        exact ss_asg (L.E c _) ((tg_ok c 10).1 _ is g hg) h.1 rfl (swapped_none h.2)
      · exact ss_bad
  · exact ss_bad
end
def seqE (f : Stmt → SM) : List Stmt → SM
  | [] => skipM
  | st :: r => seqM (f st) (seqE f r)
theorem seq_ok {X : Cx} {C : Ctx} {W : WX} {f : Stmt → SM} (h : ∀ st, PS X st (TS' C W (f st))) : ∀ ss, PSs X ss (TS' C W (seqE f ss))
  | [] => sss_nil
  | st :: r => sss_cons (h st) (seq_ok h r)
/-- what stands in an except suite: return, a constant -/
def handV (ce : Ce) (z : Sc) : Expr → Option D
  | .Constant c _ _ => match c with
    | .int i => some (.int i)
    | .bool b => some (.bl b)
    | .none => some .non
    | .str s => if PySem.PyData.strOk s = true then some (.str s) else none
    | _ => none
  | .Name x _ => if (isGl z x && !(x == ("__debug__" : Str))) = true then match ce.gl x with
      | .con d => some d
      | _ => none
    else none
  | _ => none
theorem hand_ok {ce : Ce} {k : Nat} {z : Sc} {X : Cx} {C : Ctx} {W : WX} (c : CtxOk ce z k X C W) {e : Expr} {d : D} (h : handV ce z e = some d) (a : Addr) (pn : List (Addr × Obj)) {p : Pos} : PSs (X.suite a pn) [.Return (some e) p] (TS' C W0 (seqM (retM (cM d)) skipM)) := by
  refine sss_cons (ss_ret ?_) sss_nil
  unfold handV at h
  split at h
  · split at h
    · cases h
      exact sd_val pe_int fun _ _ => rfl
    · cases h
      exact sd_val pe_bl fun _ _ => rfl
    · cases h
      exact sd_val pe_non fun _ _ => rfl
    · split at h
      · rename_i hs
        cases h
        exact sd_val pe_str fun _ _ => ⟨rfl, hs⟩
      · cases h
    · cases h
  · rename_i x p
    split at h
    · rename_i hc
      rw [Bool.and_eq_true, Bool.not_eq_true'] at hc
      split at h
      · rename_i d' hd
        cases h
        have := c.gl x
        rw [hd] at this
        obtain ⟨v, u, h3, h4, h5⟩ := this
        exact sd_val (pe_glob (X := X.suite a pn) (gl_of c hc.1) h3 h4 hc.2) h5
      · cases h
    · cases h
  · cases h
structure SLv where
  S : Sc → Stmt → SM
structure OkS (ce : Ce) (k : Nat) (sv : SLv) : Prop where
  S : ∀ {z : Sc} {X : Cx} {C : Ctx} {W : WX}, StOk ce z k X C W → ∀ st, PS X st (TS' C W (sv.S z st))
def addI : D → D → Sto → Option D
  | .int i, .int j, _ => some (.int (i + j))
  | _, _, _ => none
theorem inOp_sub {X : Cx} {C : Ctx} : InOp X .Sub (rB C subD) := by
  intro pins s σ H x y u v Q I rx ry h
  obtain ⟨S, l, a, b, d, hr, ha, hb, hg, hp⟩ := h
  cases a <;> cases b <;> simp only [subD] at hg <;> cases hg
  cases ha
  cases hb
  exact iop_sub pins s σ H _ _ u v Q I rx ry ⟨_, _, rfl, rfl, hp.now hr rfl⟩
theorem inOp_add {X : Cx} {C : Ctx} : InOp X .Add (rB C addI) := by
  intro pins s σ H x y u v Q I rx ry h
  obtain ⟨S, l, a, b, d, hr, ha, hb, hg, hp⟩ := h
  cases a <;> cases b <;> simp only [addI] at hg <;> cases hg
  cases ha
  cases hb
  exact iop_add pins s σ H _ _ u v Q I rx ry ⟨_, _, rfl, rfl, hp.now hr rfl⟩
def inG : Operator → Option (D → D → Sto → Option D)
  | .Add => some addI
  | .Sub => some subD
  | _ => none
theorem inG_ok {X : Cx} {C : Ctx} {op : Operator} {g : D → D → Sto → Option D} (h : inG op = some g) : InOp X op (rB C g) := by
  cases op <;> cases h
  · exact inOp_add
  · exact inOp_sub
def raiseE (ce : Ce) (z : Sc) (x : Str) : SM := if (isGl z x && !(x == ("__debug__" : Str))) = true then match ce.gl x with
    | .exc c false => raiseM c
    | _ => badS
  else badS
/-- raise of a class with an __init__ of its own -/
def raiseOE (ce : Ce) (lv : Lv) (z : Sc) (x : Str) (args : List Expr) : SM := if (isGl z x && !(x == ("__debug__" : Str)) && args.all noStar) = true then match ce.gl x with
    | .exo c fl => raiseOM c fl (argsE (lv.E z) args)
    | _ => badS
  else badS
def tryE (ce : Ce) (z : Sc) (x : Str) (mb : SM) (e : Expr) : SM := if (isGl z x && !(x == ("__debug__" : Str))) = true then match ce.gl x, handV ce z e with
    | .exc c false, some d => tryM (fun k => ce.cat k c) mb (seqM (retM (cM d)) skipM)
    | _, _ => badS
  else badS
def stepS (ce : Ce) (lv : Lv) (sv : SLv) (z : Sc) (st : Stmt) : SM := match st with
  | .Pass _ => skipM
  | .Break _ => breakM
  | .Continue _ => contM
  | .Expr e _ => if noComp e = true then exprM (lv.E z e) else badS
  | .Return (some e) _ => retM (lv.E z e)
  | .Return none _ => retM (cM .non)
  | .If c a b _ => ifS (lv.T z c) (seqE (sv.S z) a) (seqE (sv.S z) b)
  | .Assign [tg] ex _ => asgE ce lv z tg ex
  | .For tg it body [] _ => if noSet it = true then match tgE ce z 10 tg with
      | some (_, g) => forM (itE ce z (lv.E z) tg it) g (seqE (sv.S z) body)
      | none => badS
    else badS
  | .While c body [] _ => whileM (lv.T z c) (seqE (sv.S z) body)
  | .Raise (some (.Call (.Name x _) [.Constant (.str _) _ _] [] _)) none _ => raiseE ce z x
  | .Raise (some (.Call (.Name x _) (a :: as) [] _)) none _ => raiseOE ce lv z x (a :: as)
  | .Try body [.ExceptHandler (some (.Name x _)) none [.Return (some e) _] _] [] [] _ => tryE ce z x (seqE (sv.S { z with tr := true }) body) e
  | .AugAssign (.Attribute o x _) op ex _ => match ce.an x, inG op with
    | some f, some g => augM ce.tb f g (lv.E z o) (lv.E z ex)
    | _, _ => badS
  | .AugAssign (.Subscript o i _) op ex pos => match inG op with
    | some g => if noSlice i = true then (if ce.hint pos.line pos.col = 1 then laugM g (lv.E z o) (lv.E z i) (lv.E z ex) else daugM g (lv.E z o) (lv.E z i) (lv.E z ex)) else badS
    | none => badS
  | _ => badS
def stN (ce : Ce) (lv : Lv) : Nat → SLv
  | 0 => ⟨fun _ _ => badS⟩
  | n + 1 => ⟨stepS ce lv (stN ce lv n)⟩
theorem raise_sd {ce : Ce} {k : Nat} {z : Sc} {X : Cx} {C : Ctx} {W : WX} (s : StOk ce z k X C W) {x m : Str} {j : Nat} {p p2 cpos pos : Pos} : PS X (.Raise (some (.Call (.Name x p) [.Constant (.str m) j p2] [] cpos)) none pos) (TS' C W (raiseE ce z x)) := by
  have c := s.c
  unfold raiseE
  refine ites_bad fun h => ?_
  rw [Bool.and_eq_true, Bool.not_eq_true'] at h
  split
  · rename_i q hq
    have := c.gl x
    rw [hq] at this
    exact ss_raise c.calm c.tk (this rfl) (gl_of c h.1) h.2
  · exact ss_bad
theorem raiseO_sd {ce : Ce} {k : Nat} {z : Sc} {X : Cx} {C : Ctx} {W : WX} (s : StOk ce z k X C W) {lv : Lv} (L : OkLv ce k lv) {x : Str} {a : Expr} {as : List Expr} {p cpos pos : Pos} :
    PS X (.Raise (some (.Call (.Name x p) (a :: as) [] cpos)) none pos) (TS' C W (raiseOE ce lv z x (a :: as))) := by
  have c := s.c
  unfold raiseOE
  refine ites_bad fun h => ?_
  rw [Bool.and_eq_true, Bool.and_eq_true, Bool.not_eq_true'] at h
  split
  · rename_i q fl hq
    have := c.gl x
    rw [hq] at this
    exact ss_raiseO c.calm c.tk s.room2 this (gl_of c h.1.1) h.1.2 (args_ok (L.E c) h.2) h.2
  · exact ss_bad
theorem GlOk.tr {X : Cx} {C : Ctx} {tb : Tb} {np : Nat → Nat} {G : Fn} {k : Nat} {x : Str} {g : Gk} (pn : List (Addr × Obj)) (xe : Value → Shared → Prop) (h : GlOk X C tb np G k x g) : GlOk (X.tr pn xe) C tb np G k x g := by
  cases g with
  | fn f =>
    obtain ⟨a, h1, h2, h3⟩ := h
    exact ⟨a, h1, h2, ⟨h3.ok⟩⟩
  | cl d f =>
    obtain ⟨a, h1, h2, h3, h4⟩ := h
    exact ⟨a, h1, h2, ⟨h3.ok⟩, ⟨h4.ok.imp fun fd h => h.imp fun ps h => ⟨h.1, h.2.1, fun ks n gD e => ⟨(h.2.2 ks n gD e).ex⟩⟩⟩⟩
  | exc q own =>
    intro h2
    obtain ⟨e1, e2, e3, e4, e5⟩ := h h2
    exact ⟨e1, e2, e3, e4, e5⟩
  | exo q fl => exact ⟨h.mg, h.T, h.init⟩
  | kd m => exact ⟨h.ex⟩
  | _ => exact h
theorem try_sd {ce : Ce} {k : Nat} {sv : SLv} (K : OkS ce k sv) {z : Sc} {X : Cx} {C : Ctx} {W : WX} (s : StOk ce z k X C W) {x : Str} {body : List Stmt} {e : Expr} {np p pos pos' : Pos} :
    PS X (.Try body [.ExceptHandler (some (.Name x np)) none [.Return (some e) p] pos'] [] [] pos) (TS' C W (tryE ce z x (seqE (sv.S { z with tr := true }) body) e)) := by
  have c := s.c
  unfold tryE
  refine ites_bad fun h => ?_
  rw [Bool.and_eq_true, Bool.not_eq_true'] at h
  split
  · rename_i q d hq hd
    have := c.gl x
    rw [hq] at this
    have E := this rfl
    refine ss_try s.stk s.frm ⟨gl_of c h.1, h.2, .inl E.mg⟩ c.tk (fun k hk => c.cat k q hk) (fun W' pn xe tk ps => ?_) (fun a pn => hand_ok c hd a pn) (fun e S => True.intro)
    have so : StOk ce { z with tr := true } k (X.tr pn xe) C W' := ⟨⟨c.hK, c.N, c.nd, c.sc, c.fn, c.calm, c.room, tk, (fun z => by cases z), fun x => (c.gl x).tr pn xe, c.ok, ⟨fun d m f e => by
      obtain ⟨h1, a, h2, h3⟩ := c.M.mt d m f e
      exact ⟨h1, a, h2, ⟨h3.ok⟩⟩⟩, c.an, c.cat, c.mkr⟩, ps, s.stk, s.frm, s.room2⟩
    exact seq_ok (K.S so) _
  · exact ss_bad
theorem stepS_ok {ce : Ce} {k : Nat} {lv : Lv} {sv : SLv} (L : OkLv ce k lv) (K : OkS ce k sv) : OkS ce k ⟨stepS ce lv sv⟩ where
  S := fun {z X C W} s st => by
    have c := s.c
    show PS X st (TS' C W (stepS ce lv sv z st))
    unfold stepS
    split
    · exact ss_skip
    · exact ss_break
    · exact ss_cont
    · exact ites_bad fun h => ss_expr (L.E c _) h
    · exact ss_ret (L.E c _)
    · exact ss_retN
    · exact ss_if (L.T c _) (seq_ok (K.S s) _) (seq_ok (K.S s) _)
    · exact ss_asgE s L
    · refine ites_bad fun h => ?_
      split
      · rename_i is g hg
        exact ss_for s.pass c.calm (it_ok c (L.E c) _ _) ((tg_ok c 10).1 _ is g hg) (seq_ok (K.S s) _) h
      · exact ss_bad
    · exact ss_while s.pass (L.T c _) (seq_ok (K.S s) _)
    · exact raise_sd s
    · exact raiseO_sd s L
    · exact try_sd K s
    · split
      · rename_i f g hf hg
        exact ss_aug c.hK c.ok (c.an _ _ hf) (L.E c _) (L.E c _) (inG_ok hg)
      · exact ss_bad
    · split
      · rename_i g hg
        refine ites_bad fun hs => ?_
        have hu : X.A.units + 1 < cLine := by
          have := c.room.units
          omega
        split
        · exact ss_laug (L.E c _) (L.E c _) (L.E c _) (inG_ok hg) hs
        · exact ss_daug hu (L.E c _) (L.E c _) (L.E c _) (inG_ok hg) hs
      · exact ss_bad
    · exact ss_bad
theorem stN_ok {ce : Ce} {k : Nat} {lv : Lv} (L : OkLv ce k lv) : ∀ n, OkS ce k (stN ce lv n)
  | 0 => ⟨fun _ _ => ss_bad⟩
  | n + 1 => stepS_ok L (stN_ok L n)
/-- a def's body -/
def bodyM (ce : Ce) (mk : Option Nat) (scope : Scope) (body : List Stmt) : SM := seqE ((stN ce (lvN ce 24) 12).S ⟨scope, fun _ => true, false, mk⟩) body
/-- a def, by its body: how many parameters, how many slots -/
def defM (ce : Ce) (mk : Option Nat) (scope : Scope) (body : List Stmt) (ds : List D) (S : Sto) : Out D := match bodyM ce mk scope body (ds.map some ++ List.replicate (ce.N.length - ds.length) none) S with
  | .nx _ S' => .ok .non S'
  | .rt d S' => .ok d S'
  | .exc x _ S' => .exc x S'
  | _ => .bad
theorem env_start {K : PySem.W.Frag} {l : Lay} {H : Hp} {ds : List D} {vs : List V} {N : List Str} (h : RDs K l H ds vs) : EnvR K l H (ds.map some ++ List.replicate (N.length - ds.length) none) (L2.start N vs) := by
  have hl := h.length
  unfold L2.start
  refine ⟨by rw [List.length_append, List.length_append, List.length_map, List.length_map, List.length_replicate, List.length_replicate, hl], fun i d hi => ?_⟩
  by_cases hd : i < ds.length
  · rw [List.getElem?_append_left (by rw [List.length_map]; exact hd), List.getElem?_map] at hi
    obtain ⟨x, hx, e⟩ := Option.map_eq_some_iff.mp hi
    cases e
    obtain ⟨v, hv, r⟩ := h.get hx
    refine ⟨v, ?_, r⟩
    rw [List.getElem?_append_left (by rw [List.length_map, hl]; exact hd), List.getElem?_map, hv]
    rfl
  · rw [List.getElem?_append_right (by rw [List.length_map]; omega), List.getElem?_replicate] at hi
    split at hi <;> cases hi
/-- what is known of the module, for every body -/
structure Wd (P : Program) (w : World) (K : PySem.W.Frag) (mg : Str → Option Value) (base : Heap) (C : Ctx) (tb : Tb) (np : Nat → Nat) (G : Fn) (gl : Str → Gk) (an : Str → Option Nat) (cat : Nat → Nat → Bool) (k : Nat) : Prop where
  hK : C.K = K
  gl : ∀ (N : List Str) (qual : Str) (scope : Scope) (f : Addr) (cd : Value) (A : Around) (outer : List Env) (s : Shared) (H : Hp) (E : XK) (x : Str), GlOk (cxOf (L2.CX P w) P w K mg base N qual scope f cd A outer s H E) C tb np G k x (gl x)
  ok : AOk C tb
  M : ∀ (N : List Str) (qual : Str) (scope : Scope) (f : Addr) (cd : Value) (A : Around) (outer : List Env) (s : Shared) (H : Hp) (E : XK), MOk (cxOf (L2.CX P w) P w K mg base N qual scope f cd A outer s H E) C tb np G k
  an : ∀ x f, an x = some f → C.anm f = x
  cat : ∀ c k, cat c k = true → PySem.W.exmOne K (.ref (C.xad c)) (.ref (C.xad k)) = some true
theorem def_ok {P : Program} {w : World} {K : PySem.W.Frag} {mg : Str → Option Value} {base : Heap} {C : Ctx} {tb : Tb} {np : Nat → Nat} {G : Fn} {gl : Str → Gk} {an : Str → Option Nat} {hint : Nat → Nat → Nat} {cat : Nat → Nat → Bool} {k : Nat} (Z : Wd P w K mg base C tb np G gl an cat k)
    {f : Addr} {name qual : Str} {params : Arguments} {body : List Stmt} {scope : Scope} {dV kV doc pm cdv ct oc : Value} {an' od : Option Addr} {osl : Array (Option Value)} {N ps : List Str}
    (lk : K.lookup f = some ⟨oc, od, .func (PySem.W.fnOf name qual params body scope dV kV doc pm an' cdv ct), osl⟩) (hcd : PySem.W.codeIn K cdv qual = true) (S : FnScope N ps scope)
    {mk : Option Nat} (hmk : ∀ n, mk = some n → ∃ c, cdv = .ref c ∧ TabB base mg c (C.tad n) ∧ C.tq n = qual ++ ".<locals>." ++ "<lambda>") :
    FnOk P w K mg base (L2.CX P w) (k + 4) f (PySem.W.fnOf name qual params body scope dV kV doc pm an' cdv ct) ps (spM C ps.length (defM ⟨N, an, gl, tb, np, G, hint, cat⟩ mk scope body)) := by
  refine fn_of (k := k + 3) lk hcd S (fun vs H Q E h => h.1) fun A outer s H vs Q E hr hsp => ?_
  obtain ⟨hl, S0, l, ds, r, hd, hp⟩ := hsp
  have so : StOk ⟨N, an, gl, tb, np, G, hint, cat⟩ ⟨scope, fun _ => true, false, mk⟩ k (cxOf (L2.CX P w) P w K mg base N qual scope f cdv A outer s H E) C (fun cls d _ H => E cls d H) := by
    have hmk' : ∀ n, mk = some n → MkIs (cxOf (L2.CX P w) P w K mg base N qual scope f cdv A outer s H E) C k n := fun n hn => by
      obtain ⟨c, h1, h2, h3⟩ := hmk n hn
      exact ⟨c, h2, h1, h3, hr⟩
    have hr1 : Room (k + 1) (A.deeper (envOfC qual scope s.heap.objs.size f cdv)) := hr.mono (by omega)
    refine ⟨⟨Z.hK, rfl, S.nd, rfl, fun _ _ => rfl, rfl, hr1, takes_of rfl rfl rfl rfl, fun _ => ⟨E, rfl⟩, fun x => Z.gl N qual scope f cdv A outer s H E x, Z.ok, Z.M N qual scope f cdv A outer s H E, Z.an, Z.cat, hmk'⟩, passes_of rfl, rfl, rfl, hr.mono (by omega)⟩
  refine ⟨TS' C (fun cls d _ H => E cls d H) (bodyM ⟨N, an, gl, tb, np, G, hint, cat⟩ mk scope body), seq_ok ((stN_ok (lvN_ok 24) 12).S so) body, ?_⟩
  refine ⟨_, S0, l, env_start hd, r, ?_⟩
  unfold defM at hp
  revert hp
  show Post C (fun cls d _ H => E cls d H) (QE C Q) [] l H (match bodyM ⟨N, an, gl, tb, np, G, hint, cat⟩ mk scope body (ds.map some ++ List.replicate (N.length - ds.length) none) S0 with
    | .nx _ S' => .ok .non S'
    | .rt d S' => .ok d S'
    | .exc x _ S' => .exc x S'
    | _ => .bad) → _
  generalize bodyM ⟨N, an, gl, tb, np, G, hint, cat⟩ mk scope body (ds.map some ++ List.replicate (N.length - ds.length) none) S0 = o
  intro hp
  cases o with
  | nx e S' => exact fun s' H' l' x r he => hp H' l' x r _ rfl
  | rt d S' => exact fun H' l' x r v hv => hp H' l' x r v hv
  | bk e S' => exact hp.elim
  | ct e S' => exact hp.elim
  | exc x e S' => exact fun s' H' l' cls d x r he rx => hp H' l' cls d x r rx
  | bad => exact hp.elim
end Pyx
/-! a law's defs, all of them -/
namespace Pyx
open PySem PySem.Spec PyProof.Rows L2
structure Tl where
  fa : List He.Fa
  fn : List He.DefD
  NS : List (List Str × List Str)
  cls : List Str
  exs : List Str
  ans : List Str
  gls : List (Str × Gk)
  pls : List (Nat × Nat)
  mts : List (Nat × Nat × Nat)
  dfs : List (Nat × Nat × List D)
  hint : Nat → Nat → Nat
  cats : List (Nat × Nat)
  kws : List (Nat × List Str × Nat × (List D → List D → List D))
  kwf : List Nat
  tps : List (Str × List He.Dv)
  mks : List Nat := []
def oddS (n : Nat) : Str := ⟨#[n + 2000000]⟩
def anmOf (ans : List Str) (f : Nat) : Str := match ans[f]? with
  | some x => x
  | none => oddS f
theorem anm_inj {ans : List Str} (h : ans.Nodup) (h2 : ans.all (fun x => x.cps.toList.all fun c => decide (c < 2000000)) = true) : ∀ f g, anmOf ans f = anmOf ans g → f = g := by
  have odd : ∀ (x : Str) (n : Nat), x ∈ ans → x ≠ oddS n := fun x n hx e => by
    have := List.all_eq_true.mp h2 x hx
    rw [e] at this
    have := of_decide_eq_true (List.all_eq_true.mp this (n + 2000000) (by simp [oddS]))
    omega
  have oddI : ∀ m n, oddS m = oddS n → m = n := fun m n e => by
    have : (#[m + 2000000] : Array Nat) = #[n + 2000000] := congrArg Str.cps e
    simpa using this
  intro f g e
  unfold anmOf at e
  cases hf : ans[f]? with
  | none =>
    rw [hf] at e
    cases hg : ans[g]? with
    | none =>
      rw [hg] at e
      exact oddI _ _ e
    | some y =>
      rw [hg] at e
      exact (odd y f (List.mem_of_getElem? hg) e.symm).elim
  | some x =>
    rw [hf] at e
    cases hg : ans[g]? with
    | none =>
      rw [hg] at e
      exact (odd x g (List.mem_of_getElem? hf) e).elim
    | some y =>
      rw [hg] at e
      obtain ⟨h1, h3⟩ := List.getElem?_eq_some_iff.mp hf
      obtain ⟨h4, h5⟩ := List.getElem?_eq_some_iff.mp hg
      have : ans[f] = ans[g] := by rw [h3, h5]; exact e
      exact (List.getElem_inj h).mp this
namespace Tl
variable (t : Tl)
def gl (x : Str) : Gk := match t.gls.lookup x with
  | some g => g
  | none => .no
def an (x : Str) : Option Nat := slotOf t.ans x 0
def np (f : Nat) : Nat := match t.NS[f]? with
  | some p => p.2.length
  | none => 0
def tb : Tb where
  pl := fun c f => t.pls.any fun p => p.1 == c && p.2 == f
  mt := fun c m => (t.mts.find? fun p => p.1 == c && p.2.1 == m).map (·.2.2)
  df := fun f n => match t.dfs.find? fun p => p.1 == f && p.2.1 == n with
    | some p => some p.2.2
    | none => if n = t.np f ∧ f ∉ t.kwf then some [] else none
  kw := fun f ks n => (t.kws.find? fun p => p.1 == f && decide (p.2.1 = ks) && p.2.2.1 == n).map (·.2.2.2)
def cat (c k : Nat) : Bool := t.cats.any fun p => p.1 == c && p.2 == k
/-- the table of a def that makes lambdas -/
def mkOf (i : Nat) : Option Nat := t.mks.idxOf? i
def mean : Nat → Fn
  | 0, _ => fun _ _ => .bad
  | j + 1, i => match t.fn[i]?, t.NS[i]? with
    | some d, some p => defM ⟨p.1, t.an, t.gl, t.tb, t.np, mean j, t.hint, t.cat⟩ (t.mkOf i) d.scope d.body
    | _, _ => fun _ _ => .bad
def ctx (K : PySem.W.Frag) : Ctx where
  K := K
  cad := fun c => match t.cls[c]? with
    | some x => He.ga K x
    | none => 0
  xad := fun c => match t.exs[c]? with
    | some x => He.ga K x
    | none => 0
  anm := anmOf t.ans
  tad := fun n => match t.mks[n]? with
    | some i => (match t.fn[i]? with
      | some d => (He.cT K d.at_).2
      | none => 0)
    | none => 0
  tq := fun n => match t.mks[n]? with
    | some i => (match t.fn[i]? with
      | some d => d.qual ++ ".<locals>." ++ "<lambda>"
      | none => "")
    | none => ""
end Tl
/-! ### what is checked of the tables -/
def hasF (fa : List He.Fa) (p : He.Fa → Bool) : Bool := fa.any p
def fGlo (x : Str) : He.Fa → Bool
  | .glo y => decide (y = x)
  | _ => false
def fFree (x : Str) : He.Fa → Bool
  | .free y => decide (y = x)
  | _ => false
def fMkr (x : Str) : He.Fa → Bool
  | .mkr y => decide (y = x)
  | _ => false
def fCls (x : Str) : He.Fa → Bool
  | .cls y => decide (y = x)
  | _ => false
def fInt (x : Str) (i : Int) : He.Fa → Bool
  | .int y j => decide (y = x ∧ j = i)
  | _ => false
def fStr (x s : Str) : He.Fa → Bool
  | .str y z => decide (y = x ∧ z = s)
  | _ => false
def fExc (x : Str) : He.Fa → Bool
  | .exc y => decide (y = x)
  | _ => false
def fExm (x z : Str) : He.Fa → Bool
  | .exm y u true => decide (y = x ∧ u = z)
  | _ => false
def fNoat (x f : Str) : He.Fa → Bool
  | .noat y g => decide (y = x ∧ g = f)
  | _ => false
def fMeth (x f : Str) : He.Fa → Bool
  | .meth y g => decide (y = x ∧ g = f)
  | _ => false
theorem hasF_of {fa : List He.Fa} {p : He.Fa → Bool} (h : hasF fa p = true) : ∃ f ∈ fa, p f = true := List.any_eq_true.mp h
def atIs (t : Tl) (i : Nat) (p : Str × Option Str) : Bool := match t.fn[i]? with
  | some d => decide (d.at_ = p)
  | none => false
theorem atIs_ok {t : Tl} {i : Nat} {p : Str × Option Str} (h : atIs t i p = true) : ∃ d, t.fn[i]? = some d ∧ d.at_ = p := by
  unfold atIs at h
  split at h
  · exact ⟨_, by assumption, of_decide_eq_true h⟩
  · cases h
def dvStrs : List He.Dv → Option (List Str)
  | [] => some []
  | .str z :: r => (dvStrs r).map (z :: ·)
  | _ => none
def strsD : List D → Option (List Str)
  | [] => some []
  | .str z :: r => if PySem.PyData.strOk z = true then (strsD r).map (z :: ·) else none
  | _ => none
def tpsB (t : Tl) (x : Str) (ds : List D) : Bool := t.tps.any fun p => decide (p.1 = x) && match dvStrs p.2, strsD ds with
  | some a, some b => decide (a = b)
  | _, _ => false
theorem dvStrs_v {K : PySem.W.Frag} : ∀ {vs : List He.Dv} {zs : List Str}, dvStrs vs = some zs → vs.map (He.Dv.v K) = zs.map V.str
  | [], zs, h => by
    cases h
    rfl
  | v :: r, zs, h => by
    cases v with
    | str z =>
      obtain ⟨rs, hr, e⟩ := Option.map_eq_some_iff.mp (show (dvStrs r).map (z :: ·) = some zs from h)
      subst e
      rw [List.map_cons, dvStrs_v hr]
      rfl
    | _ => cases h
theorem strsD_rd {K : PySem.W.Frag} {l : Lay} {H : Hp} : ∀ {ds : List D} {zs : List Str}, strsD ds = some zs → RDs K l H ds (zs.map V.str)
  | [], zs, h => by
    cases h
    rfl
  | d :: r, zs, h => by
    cases d with
    | str z =>
      have h' : (if PySem.PyData.strOk z = true then (strsD r).map (z :: ·) else none) = some zs := h
      split at h'
      · rename_i hz
        obtain ⟨rs, hr, e⟩ := Option.map_eq_some_iff.mp h'
        subst e
        exact ⟨.str z, rs.map V.str, rfl, ⟨rfl, hz⟩, strsD_rd hr⟩
      · cases h'
    | _ => cases h
def glsB (t : Tl) (q : Str × Gk) : Bool := match q.2 with
  | .no => true
  | .blt => hasF t.fa (fFree q.1)
  | .fn i => hasF t.fa (fGlo q.1) && atIs t i (q.1, none) && decide (i < t.NS.length)
  | .cl c i => hasF t.fa (fGlo q.1) && hasF t.fa (fMkr q.1) && atIs t i (q.1, some "__init__") && decide (t.cls[c]? = some q.1) && decide (i < t.NS.length)
  | .con d => match d with
    | .int i => hasF t.fa (fInt q.1 i)
    | .str s => hasF t.fa (fStr q.1 s) && PySem.PyData.strOk s
    | .ktup ds => hasF t.fa (fGlo q.1) && tpsB t q.1 ds
    | _ => false
  | .told _ => true
  | .exo _ _ => true
  | .kd _ => true
  | .exc c own => own || (hasF t.fa (fGlo q.1) && hasF t.fa (fExc q.1) && decide (t.exs[c]? = some q.1))
def plsB (t : Tl) (q : Nat × Nat) : Bool := match t.cls[q.1]?, t.ans[q.2]? with
  | some x, some f => hasF t.fa (fCls x) && hasF t.fa (fNoat x f)
  | _, _ => false
def mtsB (t : Tl) (q : Nat × Nat × Nat) : Bool := match t.cls[q.1]?, t.ans[q.2.1]? with
  | some x, some m => hasF t.fa (fCls x) && hasF t.fa (fMeth x m) && atIs t q.2.2 (x, some m) && decide (q.2.2 < t.NS.length)
  | _, _ => false
def catsB (t : Tl) (q : Nat × Nat) : Bool := match t.exs[q.1]?, t.exs[q.2]? with
  | some x, some y => hasF t.fa (fExm x y)
  | _, _ => false
def fnsB (p : List Str × List Str) (sc : Scope) : Bool := kindF sc && !sc.isCoroutine && !sc.isGenerator && decide p.1.Nodup && decide (p.1.take p.2.length = p.2) && (p.2.all fun x => match sc.names.lookup x with
    | some .local => true
    | some .cell => true
    | _ => false) && sc.names.all fun y => match y.2 with
    | .free => false
    | _ => true
theorem fns_ok {p : List Str × List Str} {sc : Scope} (h : fnsB p sc = true) : FnScope p.1 p.2 sc := by
  unfold fnsB at h
  simp only [Bool.and_eq_true, Bool.not_eq_true', decide_eq_true_eq] at h
  obtain ⟨⟨⟨⟨⟨⟨h1, h2⟩, h3⟩, h4⟩, h5⟩, h6⟩, h7⟩ := h
  refine ⟨kindF_ok h1, h2, h3, h4, h5, fun x hx => ?_, fun y hy e => ?_⟩
  · have := List.all_eq_true.mp h6 x hx
    split at this
    · exact .inl (by assumption)
    · exact .inr (by assumption)
    · cases this
  · have := List.all_eq_true.mp h7 y hy
    rw [e] at this
    cases this
def fnsAll : List He.DefD → List (List Str × List Str) → Bool
  | [], [] => true
  | d :: ds, p :: ps => fnsB p d.scope && fnsAll ds ps
  | _, _ => false
theorem fnsAll_ok : ∀ {ds : List He.DefD} {ps : List (List Str × List Str)}, fnsAll ds ps = true → ds.length = ps.length ∧ ∀ (i : Nat) (d : He.DefD) (p : List Str × List Str), ds[i]? = some d → ps[i]? = some p → FnScope p.1 p.2 d.scope
  | [], [], _ => ⟨rfl, fun i d p h => by simp at h⟩
  | [], _ :: _, h => by cases h
  | _ :: _, [], h => by cases h
  | d :: ds, p :: ps, h => by
    unfold fnsAll at h
    rw [Bool.and_eq_true] at h
    obtain ⟨h1, h2⟩ := fnsAll_ok h.2
    refine ⟨by rw [List.length_cons, List.length_cons, h1], fun i d' p' e e' => ?_⟩
    cases i with
    | zero =>
      cases e
      cases e'
      exact fns_ok h.1
    | succ i => exact h2 i d' p' (by simpa using e) (by simpa using e')
def Tl.okB (t : Tl) : Bool := decide t.ans.Nodup && (t.ans.all fun x => x.cps.toList.all fun c => decide (c < 2000000)) && t.gls.all (glsB t) && t.pls.all (plsB t) && t.mts.all (mtsB t) && fnsAll t.fn t.NS && t.cats.all (catsB t)
structure Tl.Good (t : Tl) : Prop where
  nd : t.ans.Nodup
  asc : (t.ans.all fun x => x.cps.toList.all fun c => decide (c < 2000000)) = true
  gls : t.gls.all (glsB t) = true
  pls : t.pls.all (plsB t) = true
  mts : t.mts.all (mtsB t) = true
  fns : fnsAll t.fn t.NS = true
  cats : t.cats.all (catsB t) = true
theorem Tl.good {t : Tl} (h : t.okB = true) : t.Good := by
  unfold Tl.okB at h
  simp only [Bool.and_eq_true, decide_eq_true_eq] at h
  obtain ⟨⟨⟨⟨⟨⟨h1, h2⟩, h3⟩, h4⟩, h5⟩, h6⟩, h7⟩ := h
  exact ⟨h1, h2, h3, h4, h5, h6, h7⟩
/-- how a def binds -/
def BindOk (t : Tl) (K : PySem.W.Frag) (i : Nat) (ps : List Str) (fd : FuncData) : Prop :=
  ∀ n dd, t.tb.df i n = some dd → n + dd.length = ps.length ∧ ∃ ds dvs, Binds K fd ps ds ∧ Vals dvs ds ∧ ∀ l H, RDs K l H dd dvs
end Pyx
/-! all defs keep their promises -/
namespace Pyx
open PySem PySem.Spec PyProof.Rows L2 LamX
section
variable {t : Tl} {P : Program} {w : World} {K : PySem.W.Frag} {mg : Str → Option Value} {base : Heap}
theorem bad_fn {C : Ctx} {f : Addr} {fd : FuncData} {ps : List Str} : FnOk P w K mg base (L2.CX P w) 0 f fd ps (spM C ps.length fun _ _ => .bad) :=
  ⟨fun vs H Q E h => h.1, fun A outer s H args us vs Q E hr e0 hb r hsp => by
    obtain ⟨_, _, _, _, _, _, h⟩ := hsp
    exact h.elim⟩
def Binding (t : Tl) (K : PySem.W.Frag) : Prop := ∀ (i : Nat) (d : He.DefD) (p : List Str × List Str) (fd : FuncData), t.fn[i]? = some d → t.NS[i]? = some p → FunD K d.name d.qual d.params d.body d.scope (d.dvs K) (d.kws K) (He.fAd K d.at_) fd → BindOk t K i p.2 fd
def KwBinding (t : Tl) (K : PySem.W.Frag) : Prop := ∀ (i : Nat) (d : He.DefD) (p : List Str × List Str) (fd : FuncData), t.fn[i]? = some d → t.NS[i]? = some p → FunD K d.name d.qual d.params d.body d.scope (d.dvs K) (d.kws K) (He.fAd K d.at_) fd →
  ∀ ks n gD, t.tb.kw i ks n = some gD → ∀ X : Cx, X.K = K → KwIs X (t.ctx K) fd p.2 ks n gD
/-- the defs that are handed lambdas -/
def Tolds (P : Program) (w : World) (K : PySem.W.Frag) (mg : Str → Option Value) (base : Heap) (t : Tl) : Prop := ∀ x tn, t.gls.lookup x = some (.told tn) → ∀ X : Cx, X.prog = P → X.w = w → X.K = K → X.mg = mg → X.base = base → ToldIs X (t.ctx K) x tn
/-- the exceptions' classes with an __init__ of their own -/
def Oexs (P : Program) (w : World) (K : PySem.W.Frag) (mg : Str → Option Value) (base : Heap) (t : Tl) : Prop := ∀ x q fl, t.gls.lookup x = some (.exo q fl) → ∀ X : Cx, X.prog = P → X.w = w → X.K = K → X.mg = mg → X.base = base → OexIs X (t.ctx K) x q fl
/-- the dicts of the module -/
def Kds (P : Program) (w : World) (K : PySem.W.Frag) (mg : Str → Option Value) (base : Heap) (t : Tl) : Prop := ∀ x m, t.gls.lookup x = some (.kd m) → ∀ X : Cx, X.prog = P → X.w = w → X.K = K → X.mg = mg → X.base = base → KdIs X x m
/-- the tables of those that make them -/
def TbsOk (K : PySem.W.Frag) (mg : Str → Option Value) (base : Heap) (t : Tl) : Prop := ∀ i ∈ t.mks, ∀ d, t.fn[i]? = some d → TabB base mg (He.cT K d.at_).1 (He.cT K d.at_).2
def TpsOk (t : Tl) (K : PySem.W.Frag) : Prop := ∀ p ∈ t.tps, He.tupB K p.1 p.2 = true
def Keeps (P : Program) (w : World) (K : PySem.W.Frag) (mg : Str → Option Value) (base : Heap) (t : Tl) (j : Nat) : Prop := ∀ (i : Nat) (d : He.DefD) (p : List Str × List Str) (fd : FuncData), t.fn[i]? = some d → t.NS[i]? = some p →
  FunD K d.name d.qual d.params d.body d.scope (d.dvs K) (d.kws K) (He.fAd K d.at_) fd → FnOk P w K mg base (L2.CX P w) (4 * j) (He.fAd K d.at_) fd p.2 (spM (t.ctx K) p.2.length (t.mean j i))
theorem fnIs_of {N : List Str} {qual : Str} {scope : Scope} {f : Addr} {cd : Value} {A : Around} {outer : List Env} {s : Shared} {H : Hp} {E : XK} {j i : Nat} {d : He.DefD} (g : t.Good) (c : He.SaysD t.fa t.fn K) (B : Binding t K) (kp : Keeps P w K mg base t j)
    (hi : t.fn[i]? = some d) (hl : i < t.NS.length) : PySem.W.keepIn K (.ref (He.fAd K d.at_)) = true ∧ FnIs (cxOf (L2.CX P w) P w K mg base N qual scope f cd A outer s H E) (t.ctx K) t.tb (t.mean j) (4 * j) i (t.np i) (He.fAd K d.at_) := by
  obtain ⟨fd, F⟩ := c.def_ i (d := d) hi
  have hp : t.NS[i]? = some t.NS[i] := List.getElem?_eq_getElem hl
  have hn : t.np i = t.NS[i].2.length := by
    unfold Tl.np
    rw [hp]
  refine ⟨F.kp, ⟨fd, t.NS[i].2, hn.symm, ?_, ?_⟩⟩
  · rw [hn]
    exact kp i d _ fd hi hp F
  · rw [hn]
    exact B i d _ fd hi hp F
theorem kfn_of {N : List Str} {qual : Str} {scope : Scope} {f : Addr} {cd : Value} {A : Around} {outer : List Env} {s : Shared} {H : Hp} {E : XK} {j i : Nat} {d : He.DefD} (c : He.SaysD t.fa t.fn K) (B : KwBinding t K) (kp : Keeps P w K mg base t j)
    (hi : t.fn[i]? = some d) (hl : i < t.NS.length) : KFn (cxOf (L2.CX P w) P w K mg base N qual scope f cd A outer s H E) (t.ctx K) t.tb (t.mean j) (4 * j) i (t.np i) (He.fAd K d.at_) := by
  obtain ⟨fd, F⟩ := c.def_ i (d := d) hi
  have hp : t.NS[i]? = some t.NS[i] := List.getElem?_eq_getElem hl
  have hn : t.np i = t.NS[i].2.length := by
    unfold Tl.np
    rw [hp]
  refine ⟨fd, t.NS[i].2, hn.symm, ?_, fun ks n gD e => B i d _ fd hi hp F ks n gD e _ rfl⟩
  rw [hn]
  exact kp i d _ fd hi hp F
theorem wd_of (g : t.Good) (KX : K.In base) (G : base.Ns mainGlobals mg) (c : He.SaysD t.fa t.fn K) (B : Binding t K) (KB : KwBinding t K) (TP : TpsOk t K) (TO : Tolds P w K mg base t) (OX : Oexs P w K mg base t) (KD : Kds P w K mg base t) {j : Nat} (kp : Keeps P w K mg base t j) : Wd P w K mg base (t.ctx K) t.tb t.np (t.mean j) t.gl t.an t.cat (4 * j) where
  hK := rfl
  gl := fun N qual scope f cd A outer s H E x => by
    unfold Tl.gl
    cases hl : t.gls.lookup x with
    | none => exact True.intro
    | some q =>
      by_cases hq : ∃ tn, q = .told tn
      · obtain ⟨tn, e⟩ := hq
        subst e
        exact TO x tn hl _ rfl rfl rfl rfl rfl
      by_cases hq2 : ∃ b fl, q = .exo b fl
      · obtain ⟨b, fl, e⟩ := hq2
        subst e
        exact OX x b fl hl _ rfl rfl rfl rfl rfl
      by_cases hq3 : ∃ m, q = .kd m
      · obtain ⟨m, e⟩ := hq3
        subst e
        exact KD x m hl _ rfl rfl rfl rfl rfl
      have hm := List.all_eq_true.mp g.gls (x, q) (PySem.mem_of_lookup hl)
      unfold glsB at hm
      cases q with
      | told tn => exact (hq ⟨tn, rfl⟩).elim
      | exo b fl => exact (hq2 ⟨b, fl, rfl⟩).elim
      | kd m => exact (hq3 ⟨m, rfl⟩).elim
      | no => exact True.intro
      | blt =>
        obtain ⟨y, hy, hf⟩ := hasF_of (show hasF t.fa (fFree x) = true from hm)
        cases y <;> first | (cases hf; done) | skip
        obtain rfl := of_decide_eq_true hf
        exact He.free_ok KX G (c.facts hy)
      | fn i =>
        have hm' : (hasF t.fa (fGlo x) && atIs t i (x, none) && decide (i < t.NS.length)) = true := hm
        simp only [Bool.and_eq_true, decide_eq_true_eq] at hm'
        obtain ⟨⟨h1, h2⟩, h3⟩ := hm'
        obtain ⟨y, hy, hf⟩ := hasF_of h1
        cases y <;> first | (cases hf; done) | skip
        obtain rfl := of_decide_eq_true hf
        obtain ⟨d, hd, ha⟩ := atIs_ok h2
        obtain ⟨k1, k2⟩ := fnIs_of (N := N) (qual := qual) (scope := scope) (f := f) (cd := cd) (A := A) (outer := outer) (s := s) (H := H) (E := E) g c B kp hd h3
        rw [ha] at k1 k2
        exact ⟨_, He.glo_ok KX G (c.facts hy), k1, k2⟩
      | cl b i =>
        have hm' : (hasF t.fa (fGlo x) && hasF t.fa (fMkr x) && atIs t i (x, some "__init__") && decide (t.cls[b]? = some x) && decide (i < t.NS.length)) = true := hm
        simp only [Bool.and_eq_true, decide_eq_true_eq] at hm'
        obtain ⟨⟨⟨⟨h1, h2⟩, h3⟩, h4⟩, h5⟩ := hm'
        have e : (t.ctx K).cad b = He.ga K x := by
          show (match t.cls[b]? with | some x => He.ga K x | none => 0) = _
          rw [h4]
        obtain ⟨y, hy, hf⟩ := hasF_of h1
        cases y <;> first | (cases hf; done) | skip
        obtain rfl := of_decide_eq_true hf
        obtain ⟨y, hy2, hf⟩ := hasF_of h2
        cases y <;> first | (cases hf; done) | skip
        obtain rfl := of_decide_eq_true hf
        obtain ⟨d, hd, ha⟩ := atIs_ok h3
        obtain ⟨k1, k2⟩ := fnIs_of (N := N) (qual := qual) (scope := scope) (f := f) (cd := cd) (A := A) (outer := outer) (s := s) (H := H) (E := E) g c B kp hd h5
        rw [ha] at k1 k2
        have k3 := kfn_of (N := N) (qual := qual) (scope := scope) (f := f) (cd := cd) (A := A) (outer := outer) (s := s) (H := H) (E := E) c KB kp hd h5
        rw [ha] at k3
        refine ⟨_, ?_, ?_, k2, k3⟩
        · rw [e]
          exact He.glo_ok KX G (c.facts hy)
        · rw [e]
          exact He.mkr_ok (c.facts hy2)
      | con d =>
        cases d with
        | int i =>
          obtain ⟨y, hy, hf⟩ := hasF_of (show hasF t.fa (fInt x i) = true from hm)
          cases y <;> first | (cases hf; done) | skip
          obtain ⟨rfl, rfl⟩ := of_decide_eq_true hf
          obtain ⟨tk, hk⟩ := He.int_ok KX G (c.facts hy)
          exact ⟨.int _, _, hk, ⟨tk, rfl⟩, fun _ _ => rfl⟩
        | str z =>
          have hm' : (hasF t.fa (fStr x z) && PySem.PyData.strOk z) = true := hm
          rw [Bool.and_eq_true] at hm'
          obtain ⟨y, hy, hf⟩ := hasF_of hm'.1
          cases y <;> first | (cases hf; done) | skip
          obtain ⟨rfl, rfl⟩ := of_decide_eq_true hf
          obtain ⟨tk, hk⟩ := He.str_ok KX G (c.facts hy)
          exact ⟨.str _, _, hk, ⟨tk, rfl⟩, fun _ _ => ⟨rfl, hm'.2⟩⟩
        | ktup ds =>
          have hm' : (hasF t.fa (fGlo x) && tpsB t x ds) = true := hm
          rw [Bool.and_eq_true] at hm'
          obtain ⟨y, hy, hf⟩ := hasF_of hm'.1
          cases y <;> first | (cases hf; done) | skip
          obtain rfl := of_decide_eq_true hf
          obtain ⟨p, hp, hq⟩ := List.any_eq_true.mp hm'.2
          rw [Bool.and_eq_true, decide_eq_true_eq] at hq
          obtain ⟨e1, e2⟩ := hq
          cases h1 : dvStrs p.2 with
          | none =>
            rw [h1] at e2
            cases e2
          | some zs =>
            cases h2 : strsD ds with
            | none =>
              rw [h1, h2] at e2
              cases e2
            | some ys =>
              rw [h1, h2] at e2
              have e3 : zs = ys := of_decide_eq_true e2
              subst e3
              have tb := He.tupB_ok (TP p hp) (fun _ => none)
              rw [e1, dvStrs_v h1] at tb
              rcases tb with tb | tb
              · rcases tb with tb | ⟨_, tb⟩ <;> cases tb
              · exact ⟨.ref (He.ga K _), _, He.glo_ok KX G (c.facts hy), rfl, fun l H => ⟨_, _, rfl, tb, strsD_rd h2⟩⟩
        | _ => cases hm
      | exc q own =>
        intro ho
        have hm' : (own || (hasF t.fa (fGlo x) && hasF t.fa (fExc x) && decide (t.exs[q]? = some x))) = true := hm
        rw [ho, Bool.false_or] at hm'
        simp only [Bool.and_eq_true, decide_eq_true_eq] at hm'
        obtain ⟨⟨h1, h2⟩, h3⟩ := hm'
        have e : (t.ctx K).xad q = He.ga K x := by
          show (match t.exs[q]? with | some x => He.ga K x | none => 0) = _
          rw [h3]
        obtain ⟨y, hy, hf⟩ := hasF_of h1
        cases y <;> first | (cases hf; done) | skip
        obtain rfl := of_decide_eq_true hf
        obtain ⟨y, hy2, hf⟩ := hasF_of h2
        cases y <;> first | (cases hf; done) | skip
        obtain rfl := of_decide_eq_true hf
        obtain ⟨e1, e2, e3, e4⟩ := He.exc_ok (c.facts hy2)
        refine ⟨?_, ?_, ?_, ?_, ?_⟩ <;> rw [e]
        · exact He.glo_ok KX G (c.facts hy)
        · exact e1
        · exact e2
        · exact e3
        · exact e4
  ok := {
    inj := anm_inj g.nd g.asc
    pl := fun b f h => by
      obtain ⟨q, hq, e⟩ := List.any_eq_true.mp (show (t.pls.any fun p => p.1 == b && p.2 == f) = true from h)
      rw [Bool.and_eq_true] at e
      have e1 : q.1 = b := eq_of_beq e.1
      have e2 : q.2 = f := eq_of_beq e.2
      subst e1 e2
      have hm := List.all_eq_true.mp g.pls q hq
      unfold plsB at hm
      cases h1 : t.cls[q.1]? with
      | none =>
        rw [h1] at hm
        cases hm
      | some x =>
        cases h2 : t.ans[q.2]? with
        | none =>
          rw [h1, h2] at hm
          cases hm
        | some y =>
          rw [h1, h2] at hm
          have hm' : (hasF t.fa (fCls x) && hasF t.fa (fNoat x y)) = true := hm
          rw [Bool.and_eq_true] at hm'
          have e1 : (t.ctx K).cad q.1 = He.ga K x := by
            show (match t.cls[q.1]? with | some x => He.ga K x | none => 0) = _
            rw [h1]
          have e2 : (t.ctx K).anm q.2 = y := by
            show (match t.ans[q.2]? with | some x => x | none => oddS q.2) = _
            rw [h2]
          rw [e1, e2]
          obtain ⟨y1, hy1, hf1⟩ := hasF_of hm'.1
          cases y1 <;> first | (cases hf1; done) | skip
          obtain rfl := of_decide_eq_true hf1
          obtain ⟨y2, hy2, hf2⟩ := hasF_of hm'.2
          cases y2 <;> first | (cases hf2; done) | skip
          obtain ⟨rfl, rfl⟩ := of_decide_eq_true hf2
          exact ⟨He.cls_ok (c.facts hy1), He.noat_ok (c.facts hy2)⟩ }
  M := fun N qual scope f cd A outer s H E => ⟨fun b m i h => by
    obtain ⟨q, hq, e⟩ := Option.map_eq_some_iff.mp (show (t.mts.find? fun p => p.1 == b && p.2.1 == m).map (·.2.2) = some i from h)
    subst e
    have e := List.find?_some hq
    have hq' := List.mem_of_find?_eq_some hq
    rw [Bool.and_eq_true] at e
    have e1 : q.1 = b := eq_of_beq e.1
    have e2 : q.2.1 = m := eq_of_beq e.2
    subst e1 e2
    have hm := List.all_eq_true.mp g.mts q hq'
    unfold mtsB at hm
    cases h1 : t.cls[q.1]? with
    | none =>
      rw [h1] at hm
      cases hm
    | some x =>
      cases h2 : t.ans[q.2.1]? with
      | none =>
        rw [h1, h2] at hm
        cases hm
      | some y =>
        rw [h1, h2] at hm
        have hm' : (hasF t.fa (fCls x) && hasF t.fa (fMeth x y) && atIs t q.2.2 (x, some y) && decide (q.2.2 < t.NS.length)) = true := hm
        simp only [Bool.and_eq_true, decide_eq_true_eq] at hm'
        obtain ⟨⟨⟨h3, h4⟩, h5⟩, h6⟩ := hm'
        have e1 : (t.ctx K).cad q.1 = He.ga K x := by
          show (match t.cls[q.1]? with | some x => He.ga K x | none => 0) = _
          rw [h1]
        have e2 : (t.ctx K).anm q.2.1 = y := by
          show (match t.ans[q.2.1]? with | some x => x | none => oddS q.2.1) = _
          rw [h2]
        rw [e1, e2]
        obtain ⟨y1, hy1, hf1⟩ := hasF_of h3
        cases y1 <;> first | (cases hf1; done) | skip
        obtain rfl := of_decide_eq_true hf1
        obtain ⟨y2, hy2, hf2⟩ := hasF_of h4
        cases y2 <;> first | (cases hf2; done) | skip
        obtain ⟨rfl, rfl⟩ := of_decide_eq_true hf2
        obtain ⟨d, hd, ha⟩ := atIs_ok h5
        obtain ⟨k1, k2⟩ := fnIs_of (N := N) (qual := qual) (scope := scope) (f := f) (cd := cd) (A := A) (outer := outer) (s := s) (H := H) (E := E) g c B kp hd h6
        rw [ha] at k1 k2
        exact ⟨He.cls_ok (c.facts hy1), _, He.meth_ok (c.facts hy2), k2⟩⟩
  an := fun x f h => by
    have := slot_ok (N := t.ans) (x := x) (i := f) h
    show (match t.ans[f]? with | some x => x | none => oddS f) = x
    rw [this]
  cat := fun a b h => by
    obtain ⟨q, hq, e⟩ := List.any_eq_true.mp (show (t.cats.any fun p => p.1 == a && p.2 == b) = true from h)
    rw [Bool.and_eq_true] at e
    have e1 : q.1 = a := eq_of_beq e.1
    have e2 : q.2 = b := eq_of_beq e.2
    subst e1 e2
    have hm := List.all_eq_true.mp g.cats q hq
    unfold catsB at hm
    cases h1 : t.exs[q.1]? with
    | none =>
      rw [h1] at hm
      cases hm
    | some x =>
      cases h2 : t.exs[q.2]? with
      | none =>
        rw [h1, h2] at hm
        cases hm
      | some y =>
        rw [h1, h2] at hm
        obtain ⟨f, hf, hz⟩ := hasF_of (show hasF t.fa (fExm x y) = true from hm)
        have e1 : (t.ctx K).xad q.1 = He.ga K x := by
          show (match t.exs[q.1]? with | some x => He.ga K x | none => 0) = _
          rw [h1]
        have e2 : (t.ctx K).xad q.2 = He.ga K y := by
          show (match t.exs[q.2]? with | some x => He.ga K x | none => 0) = _
          rw [h2]
        rw [e1, e2]
        cases f with
        | exm a b r =>
          cases r with
          | true =>
            obtain ⟨rfl, rfl⟩ := of_decide_eq_true (show decide (a = x ∧ b = y) = true from hz)
            exact He.exm_ok (c.facts hf)
          | false => cases hz
        | _ => cases hz
theorem idxOf_some : ∀ {l : List Nat} {i n : Nat}, l.idxOf? i = some n → l[n]? = some i := by
  intro l i n h
  unfold List.idxOf? at h
  obtain ⟨h1, h2, _⟩ := List.findIdx?_eq_some_iff_getElem.mp h
  rw [List.getElem?_eq_getElem h1, eq_of_beq h2]
theorem keeps_all (g : t.Good) (KX : K.In base) (G : base.Ns mainGlobals mg) (c : He.SaysD t.fa t.fn K) (B : Binding t K) (KB : KwBinding t K) (TP : TpsOk t K) (TO : Tolds P w K mg base t) (OX : Oexs P w K mg base t) (KD : Kds P w K mg base t) (TB : TbsOk K mg base t) : ∀ j, Keeps P w K mg base t j
  | 0 => fun i d p fd hi hp F => bad_fn
  | j + 1 => fun i d p fd hi hp F => by
    have Z := wd_of (P := P) (w := w) g KX G c B KB TP TO OX KD (keeps_all g KX G c B KB TP TO OX KD TB j)
    obtain ⟨oc, od, dV, kV, doc, pm, an, cdv, ct, osl, rfl, lk, hcd, _, _⟩ := F.ex
    have S := (fnsAll_ok g.fns).2 i d p hi hp
    have e : t.mean (j + 1) i = defM ⟨p.1, t.an, t.gl, t.tb, t.np, t.mean j, t.hint, t.cat⟩ (t.mkOf i) d.scope d.body := by
      show (match t.fn[i]?, t.NS[i]? with
        | some d, some p => defM ⟨p.1, t.an, t.gl, t.tb, t.np, t.mean j, t.hint, t.cat⟩ (t.mkOf i) d.scope d.body
        | _, _ => fun _ _ => .bad) = _
      rw [hi, hp]
    rw [e]
    refine def_ok (hint := t.hint) (cat := t.cat) Z lk hcd S fun n hn => ?_
    obtain ⟨c, ec⟩ := He.codeIn_ref hcd
    have hm : t.mks[n]? = some i := idxOf_some hn
    have e1 : (t.ctx K).tad n = (He.cT K d.at_).2 := by
      show (match t.mks[n]? with | some i => (match t.fn[i]? with | some d => (He.cT K d.at_).2 | none => 0) | none => 0) = _
      rw [hm]
      show (match t.fn[i]? with | some d => (He.cT K d.at_).2 | none => 0) = _
      rw [hi]
    have e2 : (t.ctx K).tq n = d.qual ++ ".<locals>." ++ "<lambda>" := by
      show (match t.mks[n]? with | some i => (match t.fn[i]? with | some d => d.qual ++ ".<locals>." ++ "<lambda>" | none => "") | none => "") = _
      rw [hm]
      show (match t.fn[i]? with | some d => d.qual ++ ".<locals>." ++ "<lambda>" | none => "") = _
      rw [hi]
    have e3 : He.codeOf K d.at_ = c := He.codeOf_eq lk ec
    have q := TB i (List.mem_of_getElem? hm) d hi
    rw [show (He.cT K d.at_).1 = c from e3] at q
    exact ⟨c, ec, by rw [e1]; exact q, e2⟩
end
/-! ### the law's own promise -/
def sto0 : Sto := ⟨0, fun _ => none⟩
def lay0 : Lay := ⟨fun _ => none, fun _ => False, fun _ => none⟩
theorem rel0 {C : Ctx} {H : Hp} : Rel C lay0 sto0 H where
  cells := fun i c h => by cases h
  dom := fun _ _ => rfl
  inj := fun i j a h => by cases h
  nos := fun a h => False.elim h
theorem law_sp {C : Ctx} {mu : List D → Sto → Out D} {H : Hp} {a : Addr} {ns : List Int} {S : Sto} (hS : SqL C.K H a (ns.map V.int)) (hm : mu [.scr ns] sto0 = .ok (.bl true) S) :
    spM C 1 mu [.ref a] H (fun v _ => v = .bl true) fun _ _ _ => False := by
  refine ⟨rfl, sto0, lay0, [.scr ns], rel0, ⟨.ref a, [], rfl, ⟨a, rfl, ?_⟩, rfl⟩, ?_⟩
  · rcases hS with h | h
    · exact .inl ⟨h, (fun _ z => by cases z), fun z => False.elim z⟩
    · exact .inr h
  · rw [hm]
    exact fun H' l' x r v hv => hv
end Pyx
/-! for the printed texts -/
namespace Pyx
open PySem PySem.Spec PyProof.Rows L2
def isI (z : Int) : List D → Bool
  | [.int w] => w == z
  | _ => false
/-- one default, a whole number -/
theorem bind_int {t : Tl} {K : PySem.W.Frag} (i : Nat) (z : Int) (ps : List Str) (fd : FuncData) (h : (t.dfs.all fun p => !(p.1 == i) || (p.2.1 + 1 == ps.length && isI z p.2.2)) = true) (hn : t.np i = ps.length) (B0 : Binds K fd ps []) (B1 : ∃ ds, Vals [V.int z] ds ∧ Binds K fd ps ds) : BindOk t K i ps fd := by
  intro n dd hd
  have e : (match t.dfs.find? (fun p => p.1 == i && p.2.1 == n) with
    | some p => some p.2.2
    | none => if n = t.np i ∧ i ∉ t.kwf then some [] else none) = some dd := hd
  split at e
  · rename_i p hf
    cases e
    have h1 := List.find?_some hf
    have h2 := List.all_eq_true.mp h p (List.mem_of_find?_eq_some hf)
    simp only [Bool.and_eq_true, beq_iff_eq] at h1
    obtain ⟨e1, e2⟩ := h1
    simp only [e1, beq_self_eq_true, Bool.not_true, Bool.false_or, Bool.and_eq_true, beq_iff_eq] at h2
    obtain ⟨h3, h4⟩ := h2
    obtain ⟨ds, hv, hb⟩ := B1
    have e3 : p.2.2 = [.int z] := by
      revert h4
      generalize p.2.2 = q
      intro h4
      unfold isI at h4
      split at h4
      · rw [eq_of_beq h4]
      · cases h4
    rw [e3]
    refine ⟨by rw [← e2]; exact h3, ds, [V.int z], hb, hv, fun l H => ⟨_, _, rfl, rfl, rfl⟩⟩
  · split at e
    · rename_i hn2
      cases e
      exact ⟨by rw [hn2.1, hn]; rfl, [], [], B0, .nil, fun _ _ => rfl⟩
    · cases e
/-- called by keywords alone -/
theorem bind_no {t : Tl} {K : PySem.W.Frag} (i : Nat) (ps : List Str) (fd : FuncData) (h : (t.dfs.all fun p => !(p.1 == i)) = true) (hk : i ∈ t.kwf) : BindOk t K i ps fd := by
  intro n dd hd
  have hf : t.dfs.find? (fun p => p.1 == i && p.2.1 == n) = none := by
    rw [List.find?_eq_none]
    intro p hp e
    have := List.all_eq_true.mp h p hp
    rw [Bool.not_eq_true'] at this
    rw [this, Bool.false_and] at e
    cases e
  have e : (match t.dfs.find? (fun p => p.1 == i && p.2.1 == n) with
    | some p => some p.2.2
    | none => if n = t.np i ∧ i ∉ t.kwf then some [] else none) = some dd := hd
  rw [hf] at e
  have e2 : (if n = t.np i ∧ i ∉ t.kwf then some ([] : List D) else none) = some dd := e
  rw [if_neg (fun q => q.2 hk)] at e2
  cases e2
theorem bind_plain {t : Tl} {K : PySem.W.Frag} (i : Nat) (ps : List Str) (fd : FuncData) (h : (t.dfs.all fun p => !(p.1 == i)) = true) (hn : t.np i = ps.length) (B : Binds K fd ps []) : BindOk t K i ps fd := by
  intro n dd hd
  have hf : t.dfs.find? (fun p => p.1 == i && p.2.1 == n) = none := by
    rw [List.find?_eq_none]
    intro p hp e
    have := List.all_eq_true.mp h p hp
    rw [Bool.not_eq_true'] at this
    rw [this, Bool.false_and] at e
    cases e
  have e : (match t.dfs.find? (fun p => p.1 == i && p.2.1 == n) with
    | some p => some p.2.2
    | none => if n = t.np i ∧ i ∉ t.kwf then some [] else none) = some dd := hd
  rw [hf] at e
  have e2 : (if n = t.np i ∧ i ∉ t.kwf then some ([] : List D) else none) = some dd := e
  split at e2
  · rename_i hn2
    cases e2
    exact ⟨by rw [hn2.1, hn]; rfl, [], [], B, .nil, fun _ _ => rfl⟩
  · cases e2
abbrev ltD : D → D → Sto → Option D := cmpI fun i j => decide (i < j)
abbrev leD : D → D → Sto → Option D := cmpI fun i j => decide (i ≤ j)
abbrev gtD : D → D → Sto → Option D := cmpI fun i j => decide (j < i)
abbrev geD : D → D → Sto → Option D := cmpI fun i j => decide (j ≤ i)
/-- a def by its body's meaning: n slots -/
def defX (n : Nat) (b : SM) (ds : List D) (S : Sto) : Out D := match b (ds.map some ++ List.replicate (n - ds.length) none) S with
  | .nx _ S' => .ok .non S'
  | .rt d S' => .ok d S'
  | .exc x _ S' => .exc x S'
  | _ => .bad
end Pyx
namespace Pyx
open PySem PySem.Spec PyProof.Rows L2
/-- what may leave a def, whatever the world -/
def CXe (P : Program) : CXT := fun outer H s E u s' => ∃ w, L2.CX P w outer H s E u s'
theorem cxe_no {P : Program} (H : Hp) (s : Shared) (e : Value) (s' : Shared) (h : CXe P [] H s (fun _ _ _ => False) e s') : False := by
  obtain ⟨w, a, B, H', cls, d, _, _, _, _, _, _, _, z⟩ := h
  exact z
theorem fn_cxe {P : Program} {w : World} {K : PySem.W.Frag} {mg : Str → Option Value} {base : Heap} {k : Nat} {f : Addr} {fd : FuncData} {ps : List Str} {sp : Sp} (F : FnOk P w K mg base (L2.CX P w) k f fd ps sp) : FnOk P w K mg base (CXe P) k f fd ps sp :=
  ⟨F.len, fun A outer s H args us vs Q E hr he hb hv hs => codeAny_mono (F.run A outer s H args us vs Q E hr he hb hv hs) fun r s' h => by
    cases r with
    | ok v => cases v <;> exact h
    | error e => exact ⟨w, h⟩⟩
end Pyx
/-! tools for reckoning with meanings -/
namespace Pyx
open PySem PySem.Spec PyProof.Rows L2
@[simp] theorem bind_ok {A B : Type} {a : A} {S : Sto} {f : A → Sto → Out B} : (Out.ok a S).bind f = f a S := rfl
@[simp] theorem bind_bad {A B : Type} {f : A → Sto → Out B} : (Out.bad : Out A).bind f = .bad := rfl
@[simp] theorem liftS_ok {A : Type} {a : A} {S : Sto} {e : Env'} {f : A → Sto → SO} : liftS (.ok a S) e f = f a S := rfl
@[simp] theorem liftS_bad {A : Type} {e : Env'} {f : A → Sto → SO} : liftS (.bad : Out A) e f = .bad := rfl
@[simp] theorem ofO_some {A : Type} {a : A} {S : Sto} : ofO (some a) S = .ok a S := rfl
@[simp] theorem ofO_none {A : Type} {S : Sto} : ofO (none : Option A) S = .bad := rfl
@[simp] theorem ofS_some {S : Sto} {e : Env'} : ofS (some S) e = .nx e S := rfl
@[simp] theorem seqM_nx {a b : SM} {e e' : Env'} {S S' : Sto} (h : a e S = .nx e' S') : seqM a b e S = b e' S' := by
  unfold seqM
  rw [h]
theorem seqM_rt {a b : SM} {e : Env'} {S S' : Sto} {d : D} (h : a e S = .rt d S') : seqM a b e S = .rt d S' := by
  unfold seqM
  rw [h]
/-! ### loops -/
theorem loop_gen {src : Src} {n : Nat} {g : GM} {body : SM} (item : Nat → Option D) (I : Nat → Env' → Sto → Prop) (hget : ∀ k e S, k ≤ n → I k e S → src.get S k = some (item k)) (hn : item n = none)
    (hs : ∀ k e S, k < n → I k e S → ∃ d e1 e' S', item k = some d ∧ g d e = some e1 ∧ (body e1 S = .nx e' S' ∨ body e1 S = .ct e' S') ∧ I (k + 1) e' S') :
    ∀ (m k f : Nat) (e : Env') (S : Sto), k + m = n → m < f → I k e S → ∃ e' S', loopM src g body f k e S = .nx e' S' ∧ I n e' S'
  | 0, k, 0, _, _, _, hf, _ => absurd hf (by omega)
  | 0, k, f + 1, e, S, hk, _, h => by
    have e0 : k = n := by omega
    subst e0
    refine ⟨e, S, ?_, h⟩
    unfold loopM
    rw [hget k e S (Nat.le_refl _) h, hn]
  | m + 1, k, 0, _, _, _, hf, _ => absurd hf (by omega)
  | m + 1, k, f + 1, e, S, hk, hf, h => by
    obtain ⟨d, e1, e', S', h1, h2, h3, h4⟩ := hs k e S (by omega) h
    obtain ⟨e2, S2, h5, h6⟩ := loop_gen item I hget hn hs m (k + 1) f e' S' (by omega) (by omega) h4
    refine ⟨e2, S2, ?_, h6⟩
    unfold loopM
    rw [hget k e S (by omega) h, h1]
    show (match g d e with
      | none => SO.bad
      | some e1 => match body e1 S with
        | .nx e' S' => loopM src g body f (k + 1) e' S'
        | .ct e' S' => loopM src g body f (k + 1) e' S'
        | .bk e' S' => .nx e' S'
        | o => o) = _
    rw [h2]
    show (match body e1 S with
        | .nx e' S' => loopM src g body f (k + 1) e' S'
        | .ct e' S' => loopM src g body f (k + 1) e' S'
        | .bk e' S' => .nx e' S'
        | o => o) = _
    rcases h3 with h3 | h3
    · rw [h3]
      exact h5
    · rw [h3]
      exact h5
theorem loop_fix {ds : List D} {g : GM} {body : SM} {e : Env'} {S : Sto} (I : Nat → Env' → Sto → Prop) (h0 : I 0 e S)
    (hs : ∀ k e S d, ds[k]? = some d → I k e S → ∃ e1 e' S', g d e = some e1 ∧ (body e1 S = .nx e' S' ∨ body e1 S = .ct e' S') ∧ I (k + 1) e' S') :
    ∃ e' S', loopM (.fix ds) g body ((Src.fix ds).fuel S) 0 e S = .nx e' S' ∧ I ds.length e' S' := by
  refine loop_gen (fun k => ds[k]?) I (fun k e S _ _ => rfl) (by simp) (fun k e S hk h => ?_) ds.length 0 _ e S (by omega) (Nat.lt_succ_self _) h0
  have hd : ds[k]? = some ds[k] := List.getElem?_eq_getElem hk
  obtain ⟨e1, e', S', h1, h2, h3⟩ := hs k e S _ hd h
  exact ⟨_, e1, e', S', hd, h1, h2, h3⟩
theorem loop_rng {lo c : Int} {n : Nat} {g : GM} {body : SM} {e : Env'} {S : Sto} (I : Nat → Env' → Sto → Prop) (h0 : I 0 e S)
    (hs : ∀ k e S, k < n → I k e S → ∃ e1 e' S', g (.int (lo + (k : Nat) * c)) e = some e1 ∧ (body e1 S = .nx e' S' ∨ body e1 S = .ct e' S') ∧ I (k + 1) e' S') :
    ∃ e' S', loopM (.rng lo c n) g body ((Src.rng lo c n).fuel S) 0 e S = .nx e' S' ∧ I n e' S' := by
  refine loop_gen (fun k => if k < n then some (.int (lo + (k : Nat) * c)) else none) I (fun k e S _ _ => rfl) (by simp) (fun k e S hk h => ?_) n 0 _ e S (by omega) (Nat.lt_succ_self _) h0
  obtain ⟨e1, e', S', h1, h2, h3⟩ := hs k e S hk h
  exact ⟨_, e1, e', S', if_pos hk, h1, h2, h3⟩
theorem loop_cel {ds : List D} {i : Id} {g : GM} {body : SM} {e : Env'} {S : Sto} (I : Nat → Env' → Sto → Prop) (h0 : I 0 e S) (hI : ∀ k e S, I k e S → S.at_ i = some (.lst ds))
    (hs : ∀ k e S d, ds[k]? = some d → I k e S → ∃ e1 e' S', g d e = some e1 ∧ (body e1 S = .nx e' S' ∨ body e1 S = .ct e' S') ∧ I (k + 1) e' S') :
    ∃ e' S', loopM (.cel i) g body ((Src.cel i).fuel S) 0 e S = .nx e' S' ∧ I ds.length e' S' := by
  have hf : (Src.cel i).fuel S = ds.length + 1 := by
    show (match S.at_ i with | some (.lst ds) => ds.length + 1 | _ => 0) = _
    rw [hI 0 e S h0]
  refine loop_gen (fun k => ds[k]?) I (fun k e S _ h => ?_) (by simp) (fun k e S hk h => ?_) ds.length 0 _ e S (by omega) (by rw [hf]; exact Nat.lt_succ_self _) h0
  · show (match S.at_ i with | some (.lst ds) => some ds[k]? | _ => none) = _
    rw [hI k e S h]
  · have hd : ds[k]? = some ds[k] := List.getElem?_eq_getElem hk
    obtain ⟨e1, e', S', h1, h2, h3⟩ := hs k e S _ hd h
    exact ⟨_, e1, e', S', hd, h1, h2, h3⟩
/-! ### list comprehensions -/
theorem lc_gen {src : Src} {n : Nat} {g : GM} {tt : TM} {te : EM} {e : Env'} (item : Nat → Option D) (I : Nat → Sto → List D → Prop) (hget : ∀ k S acc, k ≤ n → I k S acc → src.get S k = some (item k)) (hn : item n = none)
    (hs : ∀ k S acc, k < n → I k S acc → ∃ d e1 b S1, item k = some d ∧ g d e = some e1 ∧ tt e1 S = .ok b S1 ∧ if b = true then ∃ y S2, te e1 S1 = .ok y S2 ∧ acc.length < 1000000 ∧ I (k + 1) S2 (acc ++ [y]) else I (k + 1) S1 acc) :
    ∀ (m k f : Nat) (S : Sto) (acc : List D), k + m = n → m < f → I k S acc → ∃ acc' S', lcLoop src g tt te f k e S acc = .ok acc' S' ∧ I n S' acc'
  | 0, k, 0, _, _, _, hf, _ => absurd hf (by omega)
  | 0, k, f + 1, S, acc, hk, _, h => by
    have e0 : k = n := by omega
    subst e0
    refine ⟨acc, S, ?_, h⟩
    unfold lcLoop
    rw [hget k S acc (Nat.le_refl _) h, hn]
  | m + 1, k, 0, _, _, _, hf, _ => absurd hf (by omega)
  | m + 1, k, f + 1, S, acc, hk, hf, h => by
    obtain ⟨d, e1, b, S1, h1, h2, h3, h4⟩ := hs k S acc (by omega) h
    have step : lcLoop src g tt te (f + 1) k e S acc = (noX (tt e1 S)).bind fun b S1 => if b = true then (noX (te e1 S1)).bind fun y S2 => if acc.length < 1000000 then lcLoop src g tt te f (k + 1) e S2 (acc ++ [y]) else .bad
        else lcLoop src g tt te f (k + 1) e S1 acc := by
      rw [show lcLoop src g tt te (f + 1) k e S acc = (match src.get S k with
        | none => .bad
        | some none => .ok acc S
        | some (some d) => match g d e with
          | none => .bad
          | some e1 => (noX (tt e1 S)).bind fun b S1 => if b = true then (noX (te e1 S1)).bind fun y S2 => if acc.length < 1000000 then lcLoop src g tt te f (k + 1) e S2 (acc ++ [y]) else .bad
            else lcLoop src g tt te f (k + 1) e S1 acc) from rfl, hget k S acc (by omega) h, h1]
      show (match g d e with
          | none => Out.bad
          | some e1 => (noX (tt e1 S)).bind fun b S1 => if b = true then (noX (te e1 S1)).bind fun y S2 => if acc.length < 1000000 then lcLoop src g tt te f (k + 1) e S2 (acc ++ [y]) else .bad
            else lcLoop src g tt te f (k + 1) e S1 acc) = _
      rw [h2]
    rw [step, h3]
    show ∃ acc' S', (if b = true then (noX (te e1 S1)).bind fun y S2 => if acc.length < 1000000 then lcLoop src g tt te f (k + 1) e S2 (acc ++ [y]) else .bad
        else lcLoop src g tt te f (k + 1) e S1 acc) = .ok acc' S' ∧ I n S' acc'
    cases b with
    | true =>
      obtain ⟨y, S2, h5, h6, h7⟩ := h4
      rw [if_pos rfl, h5]
      show ∃ acc' S', (if acc.length < 1000000 then lcLoop src g tt te f (k + 1) e S2 (acc ++ [y]) else .bad) = .ok acc' S' ∧ I n S' acc'
      rw [if_pos h6]
      exact lc_gen item I hget hn hs m (k + 1) f S2 _ (by omega) (by omega) h7
    | false =>
      rw [if_neg Bool.false_ne_true]
      exact lc_gen item I hget hn hs m (k + 1) f S1 _ (by omega) (by omega) h4
/-- of things that stand -/
theorem lc_fix {ds : List D} {g : GM} {tt : TM} {te : EM} {e : Env'} {S : Sto} (I : Nat → Sto → List D → Prop) (h0 : I 0 S [])
    (hs : ∀ k S acc d, ds[k]? = some d → I k S acc → ∃ e1 b S1, g d e = some e1 ∧ tt e1 S = .ok b S1 ∧ if b = true then ∃ y S2, te e1 S1 = .ok y S2 ∧ acc.length < 1000000 ∧ I (k + 1) S2 (acc ++ [y]) else I (k + 1) S1 acc) :
    ∃ acc S', lcLoop (.fix ds) g tt te ((Src.fix ds).fuel S) 0 e S [] = .ok acc S' ∧ I ds.length S' acc := by
  refine lc_gen (fun k => ds[k]?) I (fun k S acc _ _ => rfl) (by simp) (fun k S acc hk h => ?_) ds.length 0 _ S [] (by omega) (Nat.lt_succ_self _) h0
  have hd : ds[k]? = some ds[k] := List.getElem?_eq_getElem hk
  obtain ⟨e1, b, S1, h1, h2, h3⟩ := hs k S acc _ hd h
  exact ⟨_, e1, b, S1, hd, h1, h2, h3⟩
theorem lc_cel {ds : List D} {i : Id} {g : GM} {tt : TM} {te : EM} {e : Env'} {S : Sto} (I : Nat → Sto → List D → Prop) (h0 : I 0 S []) (hI : ∀ k S acc, I k S acc → S.at_ i = some (.lst ds))
    (hs : ∀ k S acc d, ds[k]? = some d → I k S acc → ∃ e1 b S1, g d e = some e1 ∧ tt e1 S = .ok b S1 ∧ if b = true then ∃ y S2, te e1 S1 = .ok y S2 ∧ acc.length < 1000000 ∧ I (k + 1) S2 (acc ++ [y]) else I (k + 1) S1 acc) :
    ∃ acc S', lcLoop (.cel i) g tt te ((Src.cel i).fuel S) 0 e S [] = .ok acc S' ∧ I ds.length S' acc := by
  have hf : (Src.cel i).fuel S = ds.length + 1 := by
    show (match S.at_ i with | some (.lst ds) => ds.length + 1 | _ => 0) = _
    rw [hI 0 S [] h0]
  refine lc_gen (fun k => ds[k]?) I (fun k S acc _ h => ?_) (by simp) (fun k S acc hk h => ?_) ds.length 0 _ S [] (by omega) (by rw [hf]; exact Nat.lt_succ_self _) h0
  · show (match S.at_ i with | some (.lst ds) => some ds[k]? | _ => none) = _
    rw [hI k S acc h]
  · have hd : ds[k]? = some ds[k] := List.getElem?_eq_getElem hk
    obtain ⟨e1, b, S1, h1, h2, h3⟩ := hs k S acc _ hd h
    exact ⟨_, e1, b, S1, hd, h1, h2, h3⟩
theorem lc_rng {lo c : Int} {n : Nat} {g : GM} {tt : TM} {te : EM} {e : Env'} {S : Sto} (I : Nat → Sto → List D → Prop) (h0 : I 0 S [])
    (hs : ∀ k S acc, k < n → I k S acc → ∃ e1 b S1, g (.int (lo + (k : Nat) * c)) e = some e1 ∧ tt e1 S = .ok b S1 ∧ if b = true then ∃ y S2, te e1 S1 = .ok y S2 ∧ acc.length < 1000000 ∧ I (k + 1) S2 (acc ++ [y]) else I (k + 1) S1 acc) :
    ∃ acc S', lcLoop (.rng lo c n) g tt te ((Src.rng lo c n).fuel S) 0 e S [] = .ok acc S' ∧ I n S' acc := by
  refine lc_gen (fun k => if k < n then some (.int (lo + (k : Nat) * c)) else none) I (fun k S acc _ _ => rfl) (by simp) (fun k S acc hk h => ?_) n 0 _ S [] (by omega) (Nat.lt_succ_self _) h0
  obtain ⟨e1, b, S1, h1, h2, h3⟩ := hs k S acc hk h
  exact ⟨_, e1, b, S1, if_pos hk, h1, h2, h3⟩
/-! ### stores -/
def Sto.Ok (S : Sto) : Prop := ∀ c k, S.nx ≤ k → S.at_ (.obj c k) = none
def Fr (ch : List Id) (S S' : Sto) : Prop := S.nx ≤ S'.nx ∧ ∀ i, S.at_ i ≠ none → i ∉ ch → S'.at_ i = S.at_ i
theorem Fr.refl (ch : List Id) (S : Sto) : Fr ch S S := ⟨Nat.le_refl _, fun _ _ _ => rfl⟩
theorem Fr.trans {ch : List Id} {S S1 S2 : Sto} (a : Fr ch S S1) (b : Fr ch S1 S2) : Fr ch S S2 := ⟨Nat.le_trans a.1 b.1, fun i h hn => by
  have h1 := a.2 i h hn
  rw [b.2 i (by rw [h1]; exact h) hn, h1]⟩
theorem Fr.mono {ch ch' : List Id} {S S' : Sto} (a : Fr ch S S') (h : ∀ i, i ∈ ch → i ∈ ch') : Fr ch' S S' := ⟨a.1, fun i hi hn => a.2 i hi fun z => hn (h i z)⟩
theorem Fr.get {ch : List Id} {S S' : Sto} (a : Fr ch S S') {i : Id} {c : Cell} (h : S.at_ i = some c) (hn : i ∉ ch) : S'.at_ i = some c := by
  rw [a.2 i (by rw [h]; exact fun z => by cases z) hn, h]
theorem sto0_ok : sto0.Ok := fun _ _ _ => rfl
theorem Sto.Ok.set {S : Sto} (h : S.Ok) {i : Id} {c : Cell} (hi : S.at_ i ≠ none) : (S.set i c).Ok := fun d k hk => by
  show (if Id.obj d k = i then some c else S.at_ (.obj d k)) = none
  split
  · rename_i e
    rw [← e] at hi
    exact (hi (h d k hk)).elim
  · exact h d k hk
theorem fr_set {S : Sto} {i : Id} {c : Cell} : Fr [i] S (S.set i c) := ⟨Nat.le_refl _, fun j _ hn => Sto.set_ne (by simpa using hn)⟩
theorem alloc_eq {S : Sto} (h : S.Ok) {c : Cell} : alloc none c S = .ok (.cell (.obj 0 S.nx)) (S.bump.set (.obj 0 S.nx) c) := by
  unfold alloc newId
  rw [h 0 S.nx (Nat.le_refl _)]
theorem alloc_k {S : Sto} (h : S.Ok) {c : Nat} {l : Cell} : (S.bump.set (.obj c S.nx) l).Ok := fun d k hk => by
  have hk' : S.nx + 1 ≤ k := hk
  rw [Sto.set_ne (fun e => by injection e; omega)]
  exact h d k (by omega)
theorem alloc_fr {S : Sto} (h : S.Ok) {c : Nat} {l : Cell} : Fr [] S (S.bump.set (.obj c S.nx) l) := ⟨Nat.le_succ _, fun i hi _ => by
  rw [Sto.set_ne (fun e => by rw [e] at hi; exact hi (h c S.nx (Nat.le_refl _)))]
  rfl⟩
theorem Sto.Ok.ne {S : Sto} (h : S.Ok) {i : Id} {c : Nat} (hi : S.at_ i ≠ none) : i ≠ .obj c S.nx := fun e => by
  rw [e] at hi
  exact hi (h c S.nx (Nat.le_refl _))
end Pyx
/-! draws -/
namespace Pyx
open PySem PySem.Spec PyProof.Rows L2
def kTake (G : Fn) : SM := seqM (ifS (tstM (binM eqD (subM (varM 0) (cM (.int 0))) (lstM nilM))) (seqM (putM (varM 0) (cM (.int 1)) (binM modD (binM mulD (subM (varM 0) (cM (.int 1))) (cM (.int 48271))) (cM (.int 2147483647)))) (seqM (retM (binM modD (binM fdivD (subM (varM 0) (cM (.int 1))) (cM (.int 7))) (varM 1))) skipM)) skipM) (seqM (asgM (gNm 2) (subM (subM (varM 0) (cM (.int 0))) (cM (.int 0)))) (seqM (putM (subM (varM 0) (cM (.int 0))) (cM (.int 0)) (binM fdivD (varM 2) (varM 1))) (seqM (ifS (orM (tstM (binM eqD (subM (subM (varM 0) (cM (.int 0))) (cM (.int 0))) (cM (.int 0)))) (tstM (binM eqD (subM (subM (varM 0) (cM (.int 0))) (cM (.int 0))) (negM (cM (.int 1)))))) (seqM (exprM (bmM 1 popG (subM (varM 0) (cM (.int 0))) (consM (cM (.int 0)) nilM))) skipM) skipM) (seqM (retM (binM modD (varM 2) (varM 1))) skipM))))
/-- the draws' box: a list at b of the numbers' list at c and a number -/
def Box (S : Sto) (b c : Id) : Prop := b ≠ c ∧ ∃ (st : Int) (ms : List Int), S.at_ b = some (.lst [.cell c, .int st]) ∧ S.at_ c = some (.lst (ms.map .int)) ∧ ms.length < 1000000
theorem Box.keep {S S' : Sto} {b c : Id} (h : Box S b c) (h1 : S'.at_ b = S.at_ b) (h2 : S'.at_ c = S.at_ c) : Box S' b c := by
  obtain ⟨hn, st, ms, hb, hc, hl⟩ := h
  exact ⟨hn, st, ms, by rw [h1]; exact hb, by rw [h2]; exact hc, hl⟩
theorem Box.fr {S S' : Sto} {b c : Id} {ch : List Id} (h : Box S b c) (f : Fr ch S S') (nb : b ∉ ch) (nc : c ∉ ch) : Box S' b c := by
  obtain ⟨hn, st, ms, hb, hc, hl⟩ := h
  exact ⟨hn, st, ms, f.get hb nb, f.get hc nc, hl⟩
/-! items of lists and tuples -/
theorem atI_nat {A : Type} {xs : List A} {i : Nat} {x : A} (h : xs[i]? = some x) : atI xs (i : Int) = some x := by
  have hi := (List.getElem?_eq_some_iff.mp h).1
  unfold atI ixN
  rw [if_pos (by omega), if_pos (by omega)]
  show xs[(i : Int).toNat]? = _
  rw [Int.toNat_natCast]
  exact h
theorem atI_zero {A : Type} {x : A} {xs : List A} : atI (x :: xs) 0 = some x := atI_nat (i := 0) rfl
theorem atI_one {A : Type} {x y : A} {xs : List A} : atI (x :: y :: xs) 1 = some y := atI_nat (i := 1) rfl
theorem atI_two {A : Type} {x y z : A} {xs : List A} : atI (x :: y :: z :: xs) 2 = some z := atI_nat (i := 2) rfl
theorem top1_cel {S : Sto} {i : Id} {ds : List D} (h : S.at_ i = some (.lst ds)) : top1 S (.cell i) = .lst ds := by
  simp only [top1, h]
theorem dget_lst {S : Sto} {i : Id} {ds : List D} {k : D} (h : S.at_ i = some (.lst ds)) : dget (.cell i) k S = none := by
  simp only [dget, h]
theorem ixD_cel {S : Sto} {i : Id} {ds : List D} {k : Int} (h : S.at_ i = some (.lst ds)) : ixD (.cell i) (.int k) S = atI ds k := by
  simp only [ixD, top1_cel h]
theorem dput_lst {S : Sto} {i : Id} {ds : List D} {k d : D} (h : S.at_ i = some (.lst ds)) : dput (.cell i) k d S = none := by
  simp only [dput, h]
theorem setI_lst {S : Sto} {i : Id} {ds : List D} {k : Int} {d : D} {n : Nat} (h : S.at_ i = some (.lst ds)) (hn : ixN ds.length k = some n) : setI (.cell i) (.int k) d S = some (S.set i (.lst (ds.set n d))) := by
  simp only [setI, dput_lst h, lput, h, hn, Option.map_some]
theorem noCells_ints : ∀ ms : List Int, noCells (ms.map .int) = true
  | [] => rfl
  | m :: r => by
    show (noCell (.int m) && noCells (r.map .int)) = true
    rw [noCells_ints r]
    rfl
theorem eqD_nil {S : Sto} {c : Id} {ms : List Int} (h : S.at_ c = some (.lst (ms.map .int))) : eqD (.cell c) (.lst []) S = some (.bl ms.isEmpty) := by
  unfold eqD
  rw [top1_cel h]
  show eqRaw false (.lst (ms.map .int)) (.lst []) = _
  unfold eqRaw
  have e2 : (noCell (.lst (ms.map .int)) && noCell (.lst []) && decide (min (py (.lst (ms.map .int))).depth (py (.lst [])).depth ≤ 64)) = true := by
    rw [Bool.and_eq_true, Bool.and_eq_true]
    refine ⟨⟨noCells_ints ms, rfl⟩, decide_eq_true ?_⟩
    have h2 : (py (.lst [])).depth = 1 := rfl
    omega
  rw [if_pos e2]
  cases ms <;> rfl
theorem eqD_int {S : Sto} {i j : Int} : eqD (.int i) (.int j) S = some (.bl (decide (i = j))) := by
  have h : (noCell (.int i) && noCell (.int j) && decide (min (py (.int i)).depth (py (.int j)).depth ≤ 64)) = true := rfl
  show eqRaw false (.int i) (.int j) = _
  unfold eqRaw
  rw [if_pos h]
  have : PyData.eqv (py (.int i)) (py (.int j)) = decide (i = j) := by
    show PyData.eqv (.int i) (.int j) = _
    first | rfl | (unfold PyData.eqv; first | rfl | simp)
  rw [this]
  cases decide (i = j) <;> rfl
theorem binM_ok {g : D → D → Sto → Option D} {a b : EM} {e : Env'} {S S1 S2 : Sto} {x y : D} (ha : a e S = .ok x S1) (hb : b e S1 = .ok y S2) : binM g a b e S = ofO (g x y S2) S2 := by
  show (a e S).bind _ = _
  rw [ha]
  show (b e S1).bind _ = _
  rw [hb]
  rfl
theorem consM_ok {a : EM} {r : AM} {e : Env'} {S S1 S2 : Sto} {x : D} {xs : List D} (ha : a e S = .ok x S1) (hb : r e S1 = .ok xs S2) : consM a r e S = .ok (x :: xs) S2 := by
  show (a e S).bind _ = _
  rw [ha]
  show (r e S1).bind _ = _
  rw [hb]
  rfl
theorem calM_ok {g : List D → Sto → Option D} {r : AM} {e : Env'} {S S1 : Sto} {xs : List D} (hb : r e S = .ok xs S1) : calM g r e S = ofO (g xs S1) S1 := by
  show (r e S).bind _ = _
  rw [hb]
  rfl
theorem callM_ok {np : Nat} {dd : List D} {g : List D → Sto → Out D} {r : AM} {e : Env'} {S S1 : Sto} {xs : List D} (hb : r e S = .ok xs S1) (hn : (xs ++ dd).length = np) : callM np dd g r e S = g (xs ++ dd) S1 := by
  show (r e S).bind _ = _
  rw [hb]
  show (if (xs ++ dd).length = np then g (xs ++ dd) S1 else .bad) = _
  rw [if_pos hn]
theorem modD_int {i j : Int} {S : Sto} (h : 0 < j) : modD (.int i) (.int j) S = some (.int (i % j)) := by
  simp only [modD, if_pos h]
theorem fdivD_int {i j : Int} {S : Sto} (h : 0 < j ∧ j < 1073741824) : fdivD (.int i) (.int j) S = some (.int (i / j)) := by
  simp only [fdivD, if_pos h]
theorem mulD_int {i j : Int} {S : Sto} (h : mulOk i j) : mulD (.int i) (.int j) S = some (.int (i * j)) := by
  simp only [mulD, if_pos h]
theorem mulOk_r {i j : Int} (h : -1000000000 < j ∧ j < 1000000000) : mulOk i j := .inr (by
  have : (2 : Int) ^ 64 = 18446744073709551616 := by decide
  omega)
theorem mulOk_l {i j : Int} (h : -1000000000 < i ∧ i < 1000000000) : mulOk i j := .inl (by
  have : (2 : Int) ^ 64 = 18446744073709551616 := by decide
  omega)
/-- a draw -/
theorem take_ok {G : Fn} {S : Sto} {b c : Id} {m : Int} (h : Box S b c) (hm : 0 < m ∧ m < 1073741824) :
    ∃ r S', defX 3 (kTake G) [.cell b, .int m] S = .ok (.int r) S' ∧ 0 ≤ r ∧ r < m ∧ Box S' b c ∧ S'.nx = S.nx ∧ ∀ i, i ≠ b → i ≠ c → S'.at_ i = S.at_ i := by
  obtain ⟨hn, st, ms, hb, hc, hl⟩ := h
  cases ms with
  | nil =>
    refine ⟨st * 48271 % 2147483647 / 7 % m, S.set b (.lst [.cell c, .int (st * 48271 % 2147483647)]), ?_, Int.emod_nonneg _ (by omega), Int.emod_lt_of_pos _ hm.1, ?_, rfl, fun i h1 h2 => Sto.set_ne h1⟩
    · have hb2 : (S.set b (.lst [.cell c, .int (st * 48271 % 2147483647)])).at_ b = some (.lst [.cell c, .int (st * 48271 % 2147483647)]) := Sto.set_same
      simp [defX, kTake, seqM, ifS, liftS, tstM, binM, subM, varM, cM, lstM, nilM, Out.bind, dget_lst hb, ixD_cel hb, atI_zero, atI_one, ofO, eqD_nil hc, boolOf, putM, mulD_int (mulOk_r (show -1000000000 < (48271 : Int) ∧ (48271 : Int) < 1000000000 by decide)),
        modD_int (show (0 : Int) < 2147483647 by decide), setI_lst hb (show ixN 2 1 = some 1 by decide), ofS, retM, dget_lst hb2, ixD_cel hb2, fdivD_int (show (0 : Int) < 7 ∧ (7 : Int) < 1073741824 by decide), modD_int hm.1]
    · exact ⟨hn, _, [], Sto.set_same, by rw [Sto.set_ne (Ne.symm hn)]; exact hc, by decide⟩
  | cons a ms =>
    have hc : S.at_ c = some (.lst (.int a :: ms.map .int)) := hc
    have hcb : c ≠ b := Ne.symm hn
    obtain ⟨q, hqd⟩ : ∃ q, q = a / m := ⟨_, rfl⟩
    have l1 : ixN (D.int a :: ms.map D.int).length 0 = some 0 := by
      unfold ixN
      rw [if_pos (by decide), if_pos (by rw [List.length_cons]; omega)]
      rfl
    have hset : setI (.cell c) (.int 0) (.int (q)) S = some (S.set c (.lst (.int (q) :: ms.map .int))) := setI_lst hc l1
    have he : eqD (.cell c) (.lst []) S = some (.bl false) := eqD_nil (ms := a :: ms) hc
    have hb2 : (S.set c (.lst (.int (q) :: ms.map .int))).at_ b = some (.lst [.cell c, .int st]) := by rw [Sto.set_ne hn]; exact hb
    have hc2 : (S.set c (.lst (.int (q) :: ms.map .int))).at_ c = some (.lst (.int (q) :: ms.map .int)) := Sto.set_same
    by_cases hq : q = 0 ∨ q = -1
    · refine ⟨a % m, (S.set c (.lst (.int (q) :: ms.map .int))).set c (.lst (ms.map .int)), ?_, Int.emod_nonneg _ (by omega), Int.emod_lt_of_pos _ hm.1, ?_, rfl, fun i h1 h2 => by rw [Sto.set_ne h2, Sto.set_ne h2]⟩
      · have l2 : (D.int (q) :: ms.map D.int).length < 1000000 := by
          rw [List.length_cons, List.length_map]
          rw [List.length_cons] at hl
          exact hl
        have l3 : ixN (D.int (q) :: ms.map D.int).length 0 = some 0 := by
          unfold ixN
          rw [if_pos (by decide), if_pos (by rw [List.length_cons]; omega)]
          rfl
        have hpop : popG (.cell c) [.int 0] (S.set c (.lst (.int (q) :: ms.map .int))) = some (.int (q), (S.set c (.lst (.int (q) :: ms.map .int))).set c (.lst (ms.map .int))) := by
          simp only [popG, hc2, if_pos l2, l3]
          rfl
        have hty : tyIs 1 (.cell c) (S.set c (.lst (.int (q) :: ms.map .int))) = true := by
          simp only [tyIs, hc2]
        have ht : (decide (q = 0) || decide (q = -1)) = true := by
          rcases hq with hq | hq
          · rw [decide_eq_true hq]
            rfl
          · rw [decide_eq_true hq, Bool.or_true]
        cases h0 : decide (q = 0) with
        | true => simp [defX, kTake, seqM, skipM, ifS, liftS, tstM, binM, subM, varM, cM, lstM, nilM, consM, Out.bind, dget_lst hb, ixD_cel hb, dget_lst hc, ixD_cel hc, atI_zero, atI_one, ofO, he, boolOf, putM, asgM, gNm, fdivD_int hm, hset, ofS, retM, dget_lst hb2, ixD_cel hb2, dget_lst hc2, ixD_cel hc2, modD_int hm.1, orM, eqD_int, negM, negI, exprM, bmM, ← hqd, hty, hpop, h0]
        | false =>
          rw [h0, Bool.false_or] at ht
          simp [defX, kTake, seqM, skipM, ifS, liftS, tstM, binM, subM, varM, cM, lstM, nilM, consM, Out.bind, dget_lst hb, ixD_cel hb, dget_lst hc, ixD_cel hc, atI_zero, atI_one, ofO, he, boolOf, putM, asgM, gNm, fdivD_int hm, hset, ofS, retM, dget_lst hb2, ixD_cel hb2, dget_lst hc2, ixD_cel hc2, modD_int hm.1, orM, eqD_int, negM, negI, exprM, bmM, ← hqd, hty, hpop, h0, ht]
      · exact ⟨hn, st, ms, by rw [Sto.set_ne hn, Sto.set_ne hn]; exact hb, Sto.set_same, by rw [List.length_cons] at hl; omega⟩
    · refine ⟨a % m, S.set c (.lst (.int (q) :: ms.map .int)), ?_, Int.emod_nonneg _ (by omega), Int.emod_lt_of_pos _ hm.1, ?_, rfl, fun i h1 h2 => by rw [Sto.set_ne h2]⟩
      · have h0 : decide (q = 0) = false := decide_eq_false fun z => hq (.inl z)
        have h1 : decide (q = -1) = false := decide_eq_false fun z => hq (.inr z)
        simp [defX, kTake, seqM, skipM, ifS, liftS, tstM, binM, subM, varM, cM, lstM, nilM, consM, Out.bind, dget_lst hb, ixD_cel hb, dget_lst hc, ixD_cel hc, atI_zero, atI_one, ofO, he, boolOf, putM, asgM, gNm, fdivD_int hm, hset, ofS, retM, dget_lst hb2, ixD_cel hb2, dget_lst hc2, ixD_cel hc2, modD_int hm.1, orM, eqD_int, negM, negI, exprM, bmM, ← hqd, h0, h1]
      · exact ⟨hn, st, q :: ms, hb2, hc2, by rw [List.length_cons] at hl ⊢; exact hl⟩
end Pyx
/-! what the laws share: their beginning, likeness -/
namespace Pyx
open PySem PySem.Spec PyProof.Rows L2
def kBegun (G : Fn) : SM := seqM (asgM (gNm 1) (cM (.int 0))) (seqM (forM (seqI (varM 0)) (gNm 2) (seqM (asgM (gNm 1) (binM modD (binM addD (binM addD (binM mulD (varM 1) (cM (.int 48271))) (binM mulD (varM 2) (cM (.int 69621)))) (cM (.int 11))) (cM (.int 2147483647)))) skipM)) (seqM (retM (lstC none (consM (listC none (varM 0)) (consM (binM mulD (varM 1) (calM intF (consM (binM gtD (calM lenF (consM (varM 0) nilM)) (cM (.int 2))) nilM))) nilM)))) skipM))
theorem begun_ok {G : Fn} {S : Sto} {ns : List Int} (hS : S.Ok) (hl : ns.length < 1000000) :
    ∃ b c S', defX 3 (kBegun G) [.scr ns] S = .ok (.cell b) S' ∧ Box S' b c ∧ S'.Ok ∧ Fr [] S S' ∧ S.at_ b = none ∧ S.at_ c = none := by
  obtain ⟨e', S', h1, h2, st, x, he⟩ := loop_fix (ds := ns.map .int) (g := gNm 2) (body := seqM (asgM (gNm 1) (binM modD (binM addD (binM addD (binM mulD (varM 1) (cM (.int 48271))) (binM mulD (varM 2) (cM (.int 69621)))) (cM (.int 11))) (cM (.int 2147483647)))) skipM)
    (e := [some (.scr ns), some (.int 0), none]) (S := S) (fun _ e S' => S' = S ∧ ∃ st x, e = [some (.scr ns), some (.int st), x]) ⟨rfl, 0, none, rfl⟩ (fun k e S' d hd ⟨h1, st, x, h2⟩ => by
      subst h1 h2
      rw [List.getElem?_map] at hd
      obtain ⟨n, _, rfl⟩ := Option.map_eq_some_iff.mp hd
      refine ⟨_, [some (.scr ns), some (.int ((st * 48271 + n * 69621 + 11) % 2147483647)), some (.int n)], S', rfl, .inl ?_, rfl, _, _, rfl⟩
      simp [seqM, skipM, asgM, gNm, binM, varM, cM, Out.bind, liftS, mulD_int (mulOk_r (show -1000000000 < (48271 : Int) ∧ (48271 : Int) < 1000000000 by decide)), mulD_int (mulOk_r (show -1000000000 < (69621 : Int) ∧ (69621 : Int) < 1000000000 by decide)), addD, ofO, modD_int (show (0 : Int) < 2147483647 by decide)])
  subst h2 he
  have g1 := alloc_eq hS (c := .lst (ns.map .int))
  have hS1 := alloc_k hS (c := 0) (l := .lst (ns.map .int))
  have f1 := alloc_fr hS (c := 0) (l := .lst (ns.map .int))
  generalize hT : S'.bump.set (.obj 0 S'.nx) (.lst (ns.map .int)) = T at *
  have hT1 : T.at_ (.obj 0 S'.nx) = some (.lst (ns.map .int)) := by
    rw [← hT]
    exact Sto.set_same
  have hTn : T.nx = S'.nx + 1 := by
    rw [← hT]
    rfl
  obtain ⟨v, hv⟩ : ∃ v : Int, (calM intF (consM (binM gtD (calM lenF (consM (varM 0) nilM)) (cM (.int 2))) nilM)) [some (.scr ns), some (.int st), x] T = .ok (.int v) T ∧ -1000000000 < v ∧ v < 1000000000 := by
    refine ⟨if (2 : Int) < ns.length then 1 else 0, ?_, by split <;> omega⟩
    have hlen : lenF [D.scr ns] T = some (.int ns.length) := by
      show ((some (ns.map D.int)).map fun ds => D.int ds.length) = _
      simp
    simp [calM, consM, nilM, binM, varM, cM, Out.bind, ofO, hlen, cmpI, intF]
  have g2 := alloc_eq hS1 (c := .lst [.cell (.obj 0 S'.nx), .int (st * v)])
  have hS2 := alloc_k hS1 (c := 0) (l := .lst [.cell (.obj 0 S'.nx), .int (st * v)])
  have f2 := alloc_fr hS1 (c := 0) (l := .lst [.cell (.obj 0 S'.nx), .int (st * v)])
  refine ⟨.obj 0 T.nx, .obj 0 S'.nx, _, ?_, ⟨fun e => ?_, st * v, ns, Sto.set_same, ?_, hl⟩, hS2, f1.trans f2, hS _ _ (by omega), hS _ _ (Nat.le_refl _)⟩
  · have hsrc : seqI (varM 0) [some (.scr ns), some (.int 0), none] S' = .ok (.fix (ns.map .int)) S' := rfl
    have hlst : listC none (varM 0) [some (.scr ns), some (.int st), x] S' = .ok (.cell (.obj 0 S'.nx)) T := by
      show (match itemsD S' (.scr ns) with | some ds => alloc none (.lst ds) S' | none => .bad) = _
      exact g1
    have hmul : binM mulD (varM 1) (calM intF (consM (binM gtD (calM lenF (consM (varM 0) nilM)) (cM (.int 2))) nilM)) [some (.scr ns), some (.int st), x] T = .ok (.int (st * v)) T := by
      rw [binM_ok (a := varM 1) (x := .int st) rfl hv.1, mulD_int (mulOk_r hv.2)]
      rfl
    have hret : lstC none (consM (listC none (varM 0)) (consM (binM mulD (varM 1) (calM intF (consM (binM gtD (calM lenF (consM (varM 0) nilM)) (cM (.int 2))) nilM))) nilM)) [some (.scr ns), some (.int st), x] S' = alloc none (.lst [.cell (.obj 0 S'.nx), .int (st * v)]) T := by
      simp [lstC, consM, nilM, hlst, hmul]
    simp [defX, kBegun, seqM, asgM, gNm, cM, liftS, forM, hsrc, h1, retM, hret, g2]
  · injection e with _ e
    omega
  · rw [Sto.set_ne (fun e => by injection e with _ e; omega)]
    exact hT1
end Pyx
/-! likeness -/
namespace Pyx
open PySem PySem.Spec PyProof.Rows L2
def kAlikeL (f : Nat) (G : Fn) : SM := forM (rng1I (consM (calM lenF (consM (varM 1) nilM)) nilM)) (gNm 2) (seqM (ifS (notM (tstM (callM 2 ([]) (G f) (consM (subM (varM 0) (varM 2)) (consM (subM (varM 1) (varM 2)) nilM))))) (seqM (retM (cM (.bl false))) skipM) skipM) skipM)
def kAlike (f : Nat) (G : Fn) : SM := seqM (ifS (tstM (binM isND (varM 1) (cM .non))) (seqM (retM (binM isND (varM 0) (cM .non))) skipM) skipM) (seqM (ifS (tstM (isiM ("bool") (varM 1))) (seqM (retM (andV (isiM ("bool") (varM 0)) (binM eqD (varM 0) (varM 1)))) skipM) skipM) (seqM (ifS (tstM (isiM ("int") (varM 1))) (seqM (retM (andV (isiM ("int") (varM 0)) (andV (notV (isiM ("bool") (varM 0))) (binM eqD (varM 0) (varM 1))))) skipM) skipM) (seqM (ifS (tstM (isiM ("str") (varM 1))) (seqM (retM (andV (isiM ("str") (varM 0)) (binM eqD (varM 0) (varM 1)))) skipM) skipM) (seqM (ifS (orM (tstM (binM neD (isiM ("tuple") (varM 1)) (isiM ("tuple") (varM 0)))) (tstM (binM neD (isiM ("list") (varM 1)) (isiM ("list") (varM 0))))) (seqM (retM (cM (.bl false))) skipM) skipM) (seqM (ifS (tstM (binM neD (calM lenF (consM (varM 0) nilM)) (calM lenF (consM (varM 1) nilM)))) (seqM (retM (cM (.bl false))) skipM) skipM) (seqM (kAlikeL f G) (seqM (retM (cM (.bl true))) skipM)))))))
theorem kit_bb : kitB "bool" "bool" = some true := by kernel_rfl
theorem kit_bi : kitB "bool" "int" = some true := by kernel_rfl
theorem kit_bs : kitB "bool" "str" = some false := by kernel_rfl
theorem kit_bt : kitB "bool" "tuple" = some false := by kernel_rfl
theorem kit_bl : kitB "bool" "list" = some false := by kernel_rfl
theorem kit_ib : kitB "int" "bool" = some false := by kernel_rfl
theorem kit_ii : kitB "int" "int" = some true := by kernel_rfl
theorem kit_is : kitB "int" "str" = some false := by kernel_rfl
theorem kit_it : kitB "int" "tuple" = some false := by kernel_rfl
theorem kit_il : kitB "int" "list" = some false := by kernel_rfl
theorem kit_sb : kitB "str" "bool" = some false := by kernel_rfl
theorem kit_si : kitB "str" "int" = some false := by kernel_rfl
theorem kit_ss : kitB "str" "str" = some true := by kernel_rfl
theorem kit_st : kitB "str" "tuple" = some false := by kernel_rfl
theorem kit_sl : kitB "str" "list" = some false := by kernel_rfl
theorem kit_tb : kitB "tuple" "bool" = some false := by kernel_rfl
theorem kit_ti : kitB "tuple" "int" = some false := by kernel_rfl
theorem kit_ts : kitB "tuple" "str" = some false := by kernel_rfl
theorem kit_tt : kitB "tuple" "tuple" = some true := by kernel_rfl
theorem kit_tl : kitB "tuple" "list" = some false := by kernel_rfl
theorem kit_lb : kitB "list" "bool" = some false := by kernel_rfl
theorem kit_li : kitB "list" "int" = some false := by kernel_rfl
theorem kit_ls : kitB "list" "str" = some false := by kernel_rfl
theorem kit_lt : kitB "list" "tuple" = some false := by kernel_rfl
theorem kit_ll : kitB "list" "list" = some true := by kernel_rfl
theorem kit_nb : kitB "NoneType" "bool" = some false := by kernel_rfl
theorem kit_ni : kitB "NoneType" "int" = some false := by kernel_rfl
theorem kit_ns : kitB "NoneType" "str" = some false := by kernel_rfl
theorem kit_nt : kitB "NoneType" "tuple" = some false := by kernel_rfl
theorem kit_nl : kitB "NoneType" "list" = some false := by kernel_rfl
theorem isi_eq {T t : String} {d : D} {S : Sto} {b : Bool} (h : tyName S d = some t) (k : kitB t T = some b) : isiF T d S = some (.bl b) := by
  unfold isiF
  rw [h]
  show (kitB t T).map D.bl = _
  rw [k]
  rfl
theorem i_bb {v : Bool} {S : Sto} : isiF "bool" (.bl v) S = some (.bl true) := isi_eq rfl kit_bb
theorem i_bi {v : Bool} {S : Sto} : isiF "int" (.bl v) S = some (.bl true) := isi_eq rfl kit_bi
theorem i_bs {v : Bool} {S : Sto} : isiF "str" (.bl v) S = some (.bl false) := isi_eq rfl kit_bs
theorem i_bt {v : Bool} {S : Sto} : isiF "tuple" (.bl v) S = some (.bl false) := isi_eq rfl kit_bt
theorem i_bl {v : Bool} {S : Sto} : isiF "list" (.bl v) S = some (.bl false) := isi_eq rfl kit_bl
theorem i_ib {v : Int} {S : Sto} : isiF "bool" (.int v) S = some (.bl false) := isi_eq rfl kit_ib
theorem i_ii {v : Int} {S : Sto} : isiF "int" (.int v) S = some (.bl true) := isi_eq rfl kit_ii
theorem i_is {v : Int} {S : Sto} : isiF "str" (.int v) S = some (.bl false) := isi_eq rfl kit_is
theorem i_it {v : Int} {S : Sto} : isiF "tuple" (.int v) S = some (.bl false) := isi_eq rfl kit_it
theorem i_il {v : Int} {S : Sto} : isiF "list" (.int v) S = some (.bl false) := isi_eq rfl kit_il
theorem i_sb {v : Str} {S : Sto} : isiF "bool" (.str v) S = some (.bl false) := isi_eq rfl kit_sb
theorem i_si {v : Str} {S : Sto} : isiF "int" (.str v) S = some (.bl false) := isi_eq rfl kit_si
theorem i_ss {v : Str} {S : Sto} : isiF "str" (.str v) S = some (.bl true) := isi_eq rfl kit_ss
theorem i_st {v : Str} {S : Sto} : isiF "tuple" (.str v) S = some (.bl false) := isi_eq rfl kit_st
theorem i_sl {v : Str} {S : Sto} : isiF "list" (.str v) S = some (.bl false) := isi_eq rfl kit_sl
theorem i_tb {v : List D} {S : Sto} : isiF "bool" (.tup v) S = some (.bl false) := isi_eq rfl kit_tb
theorem i_ti {v : List D} {S : Sto} : isiF "int" (.tup v) S = some (.bl false) := isi_eq rfl kit_ti
theorem i_ts {v : List D} {S : Sto} : isiF "str" (.tup v) S = some (.bl false) := isi_eq rfl kit_ts
theorem i_tt {v : List D} {S : Sto} : isiF "tuple" (.tup v) S = some (.bl true) := isi_eq rfl kit_tt
theorem i_tl {v : List D} {S : Sto} : isiF "list" (.tup v) S = some (.bl false) := isi_eq rfl kit_tl
theorem i_lb {v : List D} {S : Sto} : isiF "bool" (.lst v) S = some (.bl false) := isi_eq rfl kit_lb
theorem i_li {v : List D} {S : Sto} : isiF "int" (.lst v) S = some (.bl false) := isi_eq rfl kit_li
theorem i_ls {v : List D} {S : Sto} : isiF "str" (.lst v) S = some (.bl false) := isi_eq rfl kit_ls
theorem i_lt {v : List D} {S : Sto} : isiF "tuple" (.lst v) S = some (.bl false) := isi_eq rfl kit_lt
theorem i_ll {v : List D} {S : Sto} : isiF "list" (.lst v) S = some (.bl true) := isi_eq rfl kit_ll
theorem i_nb  {S : Sto} : isiF "bool" .non S = some (.bl false) := isi_eq rfl kit_nb
theorem i_ni  {S : Sto} : isiF "int" .non S = some (.bl false) := isi_eq rfl kit_ni
theorem i_ns  {S : Sto} : isiF "str" .non S = some (.bl false) := isi_eq rfl kit_ns
theorem i_nt  {S : Sto} : isiF "tuple" .non S = some (.bl false) := isi_eq rfl kit_nt
theorem i_nl  {S : Sto} : isiF "list" .non S = some (.bl false) := isi_eq rfl kit_nl
theorem neD_int {S : Sto} {i j : Int} : neD (.int i) (.int j) S = some (.bl (!decide (i = j))) := by
  have h : (noCell (.int i) && noCell (.int j) && decide (min (py (.int i)).depth (py (.int j)).depth ≤ 64)) = true := rfl
  show eqRaw true (.int i) (.int j) = _
  unfold eqRaw
  rw [if_pos h]
  have : PyData.eqv (py (.int i)) (py (.int j)) = decide (i = j) := by
    show PyData.eqv (.int i) (.int j) = _
    first | rfl | (unfold PyData.eqv; first | rfl | simp)
  rw [this]
  cases decide (i = j) <;> rfl
theorem neD_bl {S : Sto} {i j : Bool} : neD (.bl i) (.bl j) S = some (.bl (i != j)) := by
  cases i <;> cases j <;> rfl
theorem eqD_bl {S : Sto} {i j : Bool} : eqD (.bl i) (.bl j) S = some (.bl (i == j)) := by
  cases i <;> cases j <;> rfl
theorem eqD_str {S : Sto} {i j : Str} : eqD (.str i) (.str j) S = some (.bl (decide (i = j))) := by
  have h : (noCell (.str i) && noCell (.str j) && decide (min (py (.str i)).depth (py (.str j)).depth ≤ 64)) = true := rfl
  show eqRaw false (.str i) (.str j) = _
  unfold eqRaw
  rw [if_pos h]
  have : PyData.eqv (py (.str i)) (py (.str j)) = decide (i = j) := by
    show PyData.eqv (.str i) (.str j) = _
    unfold PyData.eqv
    first | rfl | (simp; done) | (by_cases e : i = j <;> simp [e])
  rw [this]
  cases decide (i = j) <;> rfl
/-- data without stores -/
inductive Pl : Nat → D → Prop
  | non {n : Nat} : Pl n .non
  | bl {n : Nat} {b : Bool} : Pl n (.bl b)
  | int {n : Nat} {i : Int} : Pl n (.int i)
  | str {n : Nat} {s : Str} : Pl n (.str s)
  | tup {n : Nat} {ds : List D} (h : ∀ d ∈ ds, Pl n d) (hl : ds.length < 1000000) : Pl (n + 1) (.tup ds)
  | lst {n : Nat} {ds : List D} (h : ∀ d ∈ ds, Pl n d) (hl : ds.length < 1000000) : Pl (n + 1) (.lst ds)
theorem alike_loop {f : Nat} {G : Fn} {S : Sto} {x y : D} {ds : List D} (h : ∀ d ∈ ds, G f [d, d] S = .ok (.bl true) S) (hl : ds.length < 1000000) (hx : ∀ k d, ds[k]? = some d → dget x (.int (k : Nat)) S = none ∧ ixD x (.int (k : Nat)) S = some d) (hy : ∀ k d, ds[k]? = some d → dget y (.int (k : Nat)) S = none ∧ ixD y (.int (k : Nat)) S = some d)
    (hn : lenF [y] S = some (.int ds.length)) : ∃ e, kAlikeL f G [some x, some y, none] S = .nx e S := by
  have hr : rng1I (consM (calM lenF (consM (varM 1) nilM)) nilM) [some x, some y, none] S = .ok (.rng 0 1 ds.length) S := by
    simp [rng1I, consM, nilM, calM, varM, Out.bind, ofO, hn]
    omega
  obtain ⟨e', S', h1, h2, z, h3⟩ := loop_rng (lo := 0) (c := 1) (n := ds.length) (g := gNm 2) (body := seqM (ifS (notM (tstM (callM 2 ([]) (G f) (consM (subM (varM 0) (varM 2)) (consM (subM (varM 1) (varM 2)) nilM))))) (seqM (retM (cM (.bl false))) skipM) skipM) skipM)
    (e := [some x, some y, none]) (S := S) (fun _ e S' => S' = S ∧ ∃ z, e = [some x, some y, z]) ⟨rfl, none, rfl⟩ (fun k e S' hk ⟨h1, z, h2⟩ => by
      subst h1 h2
      have hd : ds[k]? = some ds[k] := List.getElem?_eq_getElem hk
      obtain ⟨x1, x2⟩ := hx k _ hd
      obtain ⟨y1, y2⟩ := hy k _ hd
      have hg := h ds[k] (List.mem_of_getElem? hd)
      have e0 : (0 : Int) + (k : Nat) * 1 = (k : Nat) := by omega
      rw [e0]
      refine ⟨_, [some x, some y, some (.int (k : Nat))], S', rfl, .inl ?_, rfl, _, rfl⟩
      simp [seqM, skipM, ifS, notM, tstM, callM, consM, nilM, subM, varM, Out.bind, liftS, ofO, boolOf, x1, x2, y1, y2, hg])
  subst h2
  refine ⟨e', ?_⟩
  unfold kAlikeL forM
  rw [hr]
  exact h1
theorem skip_if {c : TM} {a r : SM} {e : Env'} {S : Sto} (h : c e S = .ok false S) : seqM (ifS c a skipM) r e S = r e S := by
  have : ifS c a skipM e S = .nx e S := by
    show liftS (c e S) e _ = _
    rw [h]
    rfl
  exact seqM_nx this
theorem do_if {c : TM} {a b r : SM} {e : Env'} {S : Sto} {d : D} {S' : Sto} (h : c e S = .ok true S) (ha : a e S = .rt d S') : seqM (ifS c a b) r e S = .rt d S' := by
  have : ifS c a b e S = .rt d S' := by
    show liftS (c e S) e _ = _
    rw [h]
    exact ha
  exact seqM_rt this
theorem tst_ok {a : EM} {e : Env'} {S S' : Sto} {b : Bool} (h : a e S = .ok (.bl b) S') : tstM a e S = .ok b S' := by
  show (a e S).bind _ = _
  rw [h]
  rfl
theorem isiM_ok {T : String} {a : EM} {e : Env'} {S S' : Sto} {d r : D} (h : a e S = .ok d S') (hi : isiF T d S' = some r) : isiM T a e S = .ok r S' := by
  show (a e S).bind _ = _
  rw [h]
  show ofO (isiF T d S') S' = _
  rw [hi]
  rfl
theorem binM_eq {g : D → D → Sto → Option D} {a b : EM} {e : Env'} {S S1 S2 : Sto} {x y z : D} (ha : a e S = .ok x S1) (hb : b e S1 = .ok y S2) (hg : g x y S2 = some z) : binM g a b e S = .ok z S2 := by
  rw [binM_ok ha hb, hg]
  rfl
theorem orM_no {t u : TM} {e : Env'} {S : Sto} {b : Bool} (h : t e S = .ok false S) (h2 : u e S = .ok b S) : orM t u e S = .ok b S := by
  show (t e S).bind _ = _
  rw [h]
  exact h2
theorem cal_eq {g : List D → Sto → Option D} {r : AM} {e : Env'} {S S1 : Sto} {xs : List D} {d : D} (hb : r e S = .ok xs S1) (hg : g xs S1 = some d) : calM g r e S = .ok d S1 := by
  rw [calM_ok hb, hg]
  rfl
theorem alike_seq {f : Nat} {G : Fn} {S : Sto} {x y : D} {n : Int} {t1 t2 : Bool} {e : Env'} (h0 : isND y .non S = some (.bl false)) (hb : isiF "bool" y S = some (.bl false)) (hi : isiF "int" y S = some (.bl false)) (hs : isiF "str" y S = some (.bl false))
    (ht : isiF "tuple" y S = some (.bl t1)) (ht2 : isiF "tuple" x S = some (.bl t1)) (hl : isiF "list" y S = some (.bl t2)) (hl2 : isiF "list" x S = some (.bl t2)) (n1 : lenF [x] S = some (.int n)) (n2 : lenF [y] S = some (.int n)) (he : kAlikeL f G [some x, some y, none] S = .nx e S) :
    defX 3 (kAlike f G) [x, y] S = .ok (.bl true) S := by
  have v0 : varM 0 [some x, some y, none] S = .ok x S := rfl
  have v1 : varM 1 [some x, some y, none] S = .ok y S := rfl
  have key : kAlike f G [some x, some y, none] S = .rt (.bl true) S := by
    unfold kAlike
    rw [skip_if (tst_ok (binM_eq v1 rfl h0)), skip_if (tst_ok (isiM_ok v1 hb)), skip_if (tst_ok (isiM_ok v1 hi)), skip_if (tst_ok (isiM_ok v1 hs)),
      skip_if (orM_no (tst_ok (binM_eq (isiM_ok v1 ht) (isiM_ok v0 ht2) (z := .bl false) (by rw [neD_bl, bne_self_eq_false]))) (tst_ok (binM_eq (isiM_ok v1 hl) (isiM_ok v0 hl2) (z := .bl false) (by rw [neD_bl, bne_self_eq_false])))),
      skip_if (tst_ok (binM_eq (cal_eq (consM_ok v0 rfl) n1) (cal_eq (consM_ok v1 rfl) n2) (z := .bl false) (by rw [neD_int, decide_eq_true rfl]; rfl))), seqM_nx he]
    rfl
  unfold defX
  show (match kAlike f G [some x, some y, none] S with
    | .nx _ S' => Out.ok D.non S'
    | .rt d S' => .ok d S'
    | .exc x _ S' => .exc x S'
    | _ => .bad) = _
  rw [key]
theorem alike_ok {f : Nat} {G : Nat → Fn} (hG : ∀ j d S, G (j + 1) f d S = defX 3 (kAlike f (G j)) d S) : ∀ {n : Nat} {d : D} (S : Sto), Pl n d → ∀ j, n < j → G j f [d, d] S = .ok (.bl true) S := by
  intro n
  induction n with
  | zero =>
    intro d S h j hj
    obtain ⟨i, rfl⟩ : ∃ i, j = i + 1 := ⟨j - 1, by omega⟩
    rw [hG]
    cases h with
    | non => simp [defX, kAlike, seqM, ifS, liftS, tstM, binM, varM, cM, Out.bind, isND, ofO, boolOf, retM]
    | bl => simp [defX, kAlike, seqM, skipM, ifS, liftS, tstM, binM, varM, cM, Out.bind, isND, ofO, boolOf, retM, isiM, i_bb, andV, eqD_bl]
    | int => simp [defX, kAlike, seqM, skipM, ifS, liftS, tstM, binM, varM, cM, Out.bind, isND, ofO, boolOf, retM, isiM, i_ib, i_ii, andV, notV, eqD_int]
    | str => simp [defX, kAlike, seqM, skipM, ifS, liftS, tstM, binM, varM, cM, Out.bind, isND, ofO, boolOf, retM, isiM, i_sb, i_si, i_ss, andV, notV, eqD_str]
  | succ n ih =>
    intro d S h j hj
    obtain ⟨i, rfl⟩ : ∃ i, j = i + 1 := ⟨j - 1, by omega⟩
    rw [hG]
    cases h with
    | non => simp [defX, kAlike, seqM, ifS, liftS, tstM, binM, varM, cM, Out.bind, isND, ofO, boolOf, retM]
    | bl => simp [defX, kAlike, seqM, skipM, ifS, liftS, tstM, binM, varM, cM, Out.bind, isND, ofO, boolOf, retM, isiM, i_bb, andV, eqD_bl]
    | int => simp [defX, kAlike, seqM, skipM, ifS, liftS, tstM, binM, varM, cM, Out.bind, isND, ofO, boolOf, retM, isiM, i_ib, i_ii, andV, notV, eqD_int]
    | str => simp [defX, kAlike, seqM, skipM, ifS, liftS, tstM, binM, varM, cM, Out.bind, isND, ofO, boolOf, retM, isiM, i_sb, i_si, i_ss, andV, notV, eqD_str]
    | @tup _ ds h hl =>
      have hx : ∀ (k : Nat) (d : D), ds[k]? = some d → dget (.tup ds) (.int (k : Nat)) S = none ∧ ixD (.tup ds) (.int (k : Nat)) S = some d := fun k d hd => ⟨rfl, atI_nat hd⟩
      obtain ⟨e, he⟩ := alike_loop (f := f) (G := G i) (fun d hd => ih S (h d hd) i (by omega)) hl hx hx rfl
      exact alike_seq rfl i_tb i_ti i_ts i_tt i_tt i_tl i_tl rfl rfl he
    | @lst _ ds h hl =>
      have hx : ∀ (k : Nat) (d : D), ds[k]? = some d → dget (.lst ds) (.int (k : Nat)) S = none ∧ ixD (.lst ds) (.int (k : Nat)) S = some d := fun k d hd => ⟨rfl, atI_nat hd⟩
      obtain ⟨e, he⟩ := alike_loop (f := f) (G := G i) (fun d hd => ih S (h d hd) i (by omega)) hl hx hx rfl
      exact alike_seq rfl i_lb i_li i_ls i_lt i_lt i_ll i_ll rfl rfl he
end Pyx
/-! steps of expressions and statements, one lemma each -/
namespace Pyx
open PySem PySem.Spec PyProof.Rows L2
section
variable {e : Env'} {S S1 S2 S3 : Sto}
theorem methM_ok {tb : Tb} {np : Nat → Nat} {G : Fn} {m n f c : Nat} {a : EM} {t : AM} {i : Id} {fs : List (Nat × D)} {dd ds : List D} (ha : a e S = .ok (.cell i) S1) (hi : S1.at_ i = some (.ins c fs)) (hm : tb.mt c m = some f) (hl : fs.lookup m = none) (hd : tb.df f n = some dd)
    (ht : t e S1 = .ok ds S2) (hn : (D.cell i :: (ds ++ dd)).length = np f) : methM tb np G m n a t e S = G f (.cell i :: (ds ++ dd)) S2 := by
  simp only [methM, ha, bind_ok, hi, hm, hl, hd, ht]
  rw [if_pos hn]
theorem attM_ok {tb : Tb} {f c : Nat} {a : EM} {i : Id} {fs : List (Nat × D)} {d : D} (ha : a e S = .ok (.cell i) S1) (hi : S1.at_ i = some (.ins c fs)) (hp : tb.pl c f = true) (hl : fs.lookup f = some d) : attM tb f a e S = .ok d S1 := by
  simp only [attM, ha, bind_ok, getA, hi, hp, if_true, hl, ofO_some]
theorem subM_tup {a b : EM} {ds : List D} {k : Int} {d : D} (ha : a e S = .ok (.tup ds) S1) (hb : b e S1 = .ok (.int k) S2) (hd : atI ds k = some d) : subM a b e S = .ok d S2 := by
  simp only [subM, ha, hb, bind_ok, dget, ixD, top1, hd, ofO_some]
theorem subM_lst {a b : EM} {ds : List D} {k : Int} {d : D} (ha : a e S = .ok (.lst ds) S1) (hb : b e S1 = .ok (.int k) S2) (hd : atI ds k = some d) : subM a b e S = .ok d S2 := by
  simp only [subM, ha, hb, bind_ok, dget, ixD, top1, hd, ofO_some]
theorem subM_cel {a b : EM} {i : Id} {ds : List D} {k : Int} {d : D} (ha : a e S = .ok (.cell i) S1) (hb : b e S1 = .ok (.int k) S2) (hi : S2.at_ i = some (.lst ds)) (hd : atI ds k = some d) : subM a b e S = .ok d S2 := by
  simp only [subM, ha, hb, bind_ok, dget_lst hi, ixD_cel hi, hd, ofO_some]
theorem subM_dT {a b : EM} {i : Id} {kvs : List (List Key × D)} {k d : D} {q : List Key} (ha : a e S = .ok (.cell i) S1) (hb : b e S1 = .ok k S2) (hi : S2.at_ i = some (.dT kvs)) (hk : keyT k = some q) (hd : valD kvs q = some d) : subM a b e S = .ok d S2 := by
  simp only [subM, ha, hb, bind_ok, dget, hi, hk, Option.map_some, hd, ofO_some]
theorem tupM_ok {t : AM} {ds : List D} (ht : t e S = .ok ds S1) (hl : ds.length ≤ 1000) : tupM t e S = .ok (.tup ds) S1 := by
  simp only [tupM, ht, bind_ok, if_pos hl]
theorem lstM_ok {t : AM} {ds : List D} (ht : t e S = .ok ds S1) (hl : ds.length ≤ 1000) : lstM t e S = .ok (.lst ds) S1 := by
  simp only [lstM, ht, bind_ok, if_pos hl]
theorem nilM_ok : nilM e S = .ok [] S := rfl
theorem cM_ok {d : D} : cM d e S = .ok d S := rfl
theorem varM_ok {i : Nat} {d : D} (h : e[i]? = some (some d)) : varM i e S = .ok d S := by
  simp only [varM, h]
theorem asg_ok {g : GM} {a : EM} {e' : Env'} {d : D} {r : SM} (ha : a e S = .ok d S1) (hg : g d e = some e') : seqM (asgM g a) r e S = r e' S1 := by
  have : asgM g a e S = .nx e' S1 := by
    simp only [asgM, ha, liftS_ok, hg]
  exact seqM_nx this
theorem ret_ok {a : EM} {d : D} {r : SM} (ha : a e S = .ok d S1) : seqM (retM a) r e S = .rt d S1 := by
  have : retM a e S = .rt d S1 := by
    simp only [retM, ha, liftS_ok]
  exact seqM_rt this
theorem expr_ok {a : EM} {d : D} {r : SM} (ha : a e S = .ok d S1) : seqM (exprM a) r e S = r e S1 := by
  have : exprM a e S = .nx e S1 := by
    simp only [exprM, ha, liftS_ok]
  exact seqM_nx this
theorem put_ok {o i a : EM} {d x y : D} {T : Sto} {r : SM} (ha : a e S = .ok d S1) (ho : o e S1 = .ok x S2) (hi : i e S2 = .ok y S3) (hs : setI x y d S3 = some T) : seqM (putM o i a) r e S = r e T := by
  have : putM o i a e S = .nx e T := by
    simp only [putM, ha, ho, hi, liftS_ok, hs, ofS_some]
  exact seqM_nx this
theorem sat_ok {tb : Tb} {f : Nat} {o a : EM} {d x : D} {T : Sto} {r : SM} (ha : a e S = .ok d S1) (ho : o e S1 = .ok x S2) (hs : setAt tb f x d S2 = some T) : seqM (satM tb f o a) r e S = r e T := by
  have : satM tb f o a e S = .nx e T := by
    simp only [satM, ha, ho, liftS_ok, hs, ofS_some]
  exact seqM_nx this
theorem if_yes {c : TM} {a b r : SM} {e' : Env'} (hc : c e S = .ok true S1) (ha : a e S1 = .nx e' S2) : seqM (ifS c a b) r e S = r e' S2 := by
  have : ifS c a b e S = .nx e' S2 := by
    simp only [ifS, hc, liftS_ok, if_true]
    exact ha
  exact seqM_nx this
theorem if_no {c : TM} {a b r : SM} {e' : Env'} (hc : c e S = .ok false S1) (hb : b e S1 = .nx e' S2) : seqM (ifS c a b) r e S = r e' S2 := by
  have : ifS c a b e S = .nx e' S2 := by
    simp only [ifS, hc, liftS_ok]
    rw [if_neg Bool.false_ne_true]
    exact hb
  exact seqM_nx this
theorem if_rt {c : TM} {a b r : SM} {d : D} (hc : c e S = .ok true S1) (ha : a e S1 = .rt d S2) : seqM (ifS c a b) r e S = .rt d S2 := by
  have : ifS c a b e S = .rt d S2 := by
    simp only [ifS, hc, liftS_ok, if_true]
    exact ha
  exact seqM_rt this
theorem tst_eq {a : EM} {b : Bool} (h : a e S = .ok (.bl b) S1) : tstM a e S = .ok b S1 := tst_ok h
theorem not_eq' {t : TM} {b : Bool} (h : t e S = .ok b S1) : notM t e S = .ok (!b) S1 := by
  simp only [notM, h, bind_ok]
theorem and_no {t u : TM} (h : t e S = .ok false S1) : andM t u e S = .ok false S1 := by
  simp only [andM, h, bind_ok]
  rfl
theorem and_yes {t u : TM} {b : Bool} (h : t e S = .ok true S1) (h2 : u e S1 = .ok b S2) : andM t u e S = .ok b S2 := by
  simp only [andM, h, bind_ok, if_true, h2]
theorem or_yes {t u : TM} (h : t e S = .ok true S1) : orM t u e S = .ok true S1 := by
  simp only [orM, h, bind_ok, if_true]
theorem or_no {t u : TM} {b : Bool} (h : t e S = .ok false S1) (h2 : u e S1 = .ok b S2) : orM t u e S = .ok b S2 := by
  simp only [orM, h, bind_ok]
  rw [if_neg Bool.false_ne_true]
  exact h2
theorem ifM_yes {t : TM} {a b : EM} {d : D} (h : t e S = .ok true S1) (ha : a e S1 = .ok d S2) : ifM t a b e S = .ok d S2 := by
  simp only [ifM, h, bind_ok, if_true, ha]
theorem ifM_no {t : TM} {a b : EM} {d : D} (h : t e S = .ok false S1) (hb : b e S1 = .ok d S2) : ifM t a b e S = .ok d S2 := by
  simp only [ifM, h, bind_ok]
  rw [if_neg Bool.false_ne_true]
  exact hb
theorem call_eq {np : Nat} {dd : List D} {g : List D → Sto → Out D} {r : AM} {xs : List D} {d : D} (hb : r e S = .ok xs S1) (hn : (xs ++ dd).length = np) (hg : g (xs ++ dd) S1 = .ok d S2) : callM np dd g r e S = .ok d S2 := by
  rw [callM_ok hb hn, hg]
theorem bm_eq {t : Nat} {g : D → List D → Sto → Option (D × Sto)} {a : EM} {ta : AM} {x d : D} {ds : List D} (ha : a e S = .ok x S1) (hx : tyIs t x S1 = true) (ht : ta e S1 = .ok ds S2) (hg : g x ds S2 = some (d, S3)) : bmM t g a ta e S = .ok d S3 := by
  simp only [bmM, ha, bind_ok, hx, if_true, ht, hg]
theorem for_ok {im : IM} {g : GM} {body : SM} {src : Src} {e' : Env'} {r : SM} (hi : im e S = .ok src S1) (hl : loopM src g body (src.fuel S1) 0 e S1 = .nx e' S2) : seqM (forM im g body) r e S = r e' S2 := by
  have : forM im g body e S = .nx e' S2 := by
    simp only [forM, hi, liftS_ok, hl]
  exact seqM_nx this
theorem lcM_ok {h : Option (Option Id)} {vs : List Nat} {im : IM} {g : GM} {tt : TM} {te : EM} {src : Src} {ds : List D} {d : D} (hi : im e S = .ok src S1) (hl : lcLoop src g tt te (src.fuel S1) 0 (wipeE e vs) S1 [] = .ok ds S2) (he : endL h ds S2 = .ok d S3) : lcM h vs im g tt te e S = .ok d S3 := by
  simp only [lcM, hi, bind_ok, hl, he]
theorem defX_rt {n : Nat} {b : SM} {ds : List D} {d : D} (h : b (ds.map some ++ List.replicate (n - ds.length) none) S = .rt d S1) : defX n b ds S = .ok d S1 := by
  simp only [defX, h]
theorem defX_nx {n : Nat} {b : SM} {ds : List D} {e' : Env'} (h : b (ds.map some ++ List.replicate (n - ds.length) none) S = .nx e' S1) : defX n b ds S = .ok .non S1 := by
  simp only [defX, h]
end
/-! dicts -/
section
variable {A : Type} [DecidableEq A]
theorem valD_mem {kvs : List (A × D)} {k : A} {d : D} (h : valD kvs k = some d) : (k, d) ∈ kvs := by
  unfold valD at h
  obtain ⟨p, hp, e⟩ := Option.map_eq_some_iff.mp h
  have h1 := List.mem_of_find?_eq_some hp
  have h3 := List.find?_some hp
  have h2 := of_decide_eq_true h3
  subst e h2
  exact h1
theorem putD_mem {kvs : List (A × D)} {k k' : A} {d d' : D} (h : (k', d') ∈ putD kvs k d) : (k', d') ∈ kvs ∨ (k' = k ∧ d' = d) := by
  unfold putD at h
  split at h
  · obtain ⟨p, hp, e⟩ := List.mem_map.mp h
    split at e
    · rename_i hk
      cases e
      exact .inr ⟨hk, rfl⟩
    · subst e
      exact .inl hp
  · rcases List.mem_append.mp h with h | h
    · exact .inl h
    · cases List.mem_singleton.mp h
      exact .inr ⟨rfl, rfl⟩
theorem putD_len {kvs : List (A × D)} {k : A} {d : D} : (putD kvs k d).length ≤ kvs.length + 1 := by
  unfold putD
  split
  · rw [List.length_map]
    omega
  · rw [List.length_append]
    exact Nat.le_refl _
theorem find_map {k : A} {d : D} : ∀ {kvs : List (A × D)}, (kvs.any fun kv => decide (kv.1 = k)) = true → (kvs.map fun kv => if kv.1 = k then (kv.1, d) else kv).find? (fun kv => decide (kv.1 = k)) = some (k, d)
  | [], h => by cases h
  | p :: r, h => by
    rw [List.map_cons, List.find?_cons]
    by_cases e : p.1 = k
    · rw [if_pos e]
      have : decide ((p.1, d).1 = k) = true := decide_eq_true e
      rw [this, ← e]
    · rw [if_neg e, decide_eq_false e]
      refine find_map ?_
      rw [List.any_cons, decide_eq_false e, Bool.false_or] at h
      exact h
theorem valD_put {kvs : List (A × D)} {k : A} {d : D} : valD (putD kvs k d) k = some d := by
  unfold valD putD
  split
  · rename_i h
    rw [find_map h]
    rfl
  · rename_i h
    rw [List.find?_append]
    have : kvs.find? (fun kv => decide (kv.1 = k)) = none := by
      rw [List.find?_eq_none]
      intro p hp e
      exact h (List.any_eq_true.mpr ⟨p, hp, e⟩)
    rw [this]
    simp
end
/-! what is walked, where it may be a list of the store -/
def Holds (S : Sto) (x : D) (ds : List D) : Prop := x = .lst ds ∨ ∃ i, x = .cell i ∧ S.at_ i = some (.lst ds)
theorem for_seq {a : EM} {x : D} {ds : List D} {g : GM} {body r : SM} {e : Env'} {S S1 : Sto} (ha : a e S = .ok x S1) (I : Nat → Env' → Sto → Prop) (h0 : I 0 e S1) (hI : ∀ k e S, I k e S → Holds S x ds)
    (hs : ∀ k e S d, ds[k]? = some d → I k e S → ∃ e1 e' S', g d e = some e1 ∧ (body e1 S = .nx e' S' ∨ body e1 S = .ct e' S') ∧ I (k + 1) e' S') :
    ∃ e' S', seqM (forM (seqI a) g body) r e S = r e' S' ∧ I ds.length e' S' := by
  rcases hI 0 e S1 h0 with h | ⟨i, h, hi⟩
  · subst h
    obtain ⟨e', S', h1, h2⟩ := loop_fix (ds := ds) (g := g) (body := body) I h0 hs
    refine ⟨e', S', for_ok ?_ h1, h2⟩
    simp only [seqI, ha, bind_ok, srcOf, ofO_some]
  · subst h
    have hI' : ∀ k e S, I k e S → S.at_ i = some (.lst ds) := fun k e S h => by
      rcases hI k e S h with z | ⟨j, z, hj⟩
      · cases z
      · cases z
        exact hj
    obtain ⟨e', S', h1, h2⟩ := loop_cel (ds := ds) (i := i) (g := g) (body := body) I h0 hI' hs
    refine ⟨e', S', for_ok ?_ h1, h2⟩
    simp only [seqI, ha, bind_ok, srcOf, hi, ofO_some]
theorem lc_seq {a : EM} {x : D} {ds : List D} {h : Option (Option Id)} {vs : List Nat} {g : GM} {tt : TM} {te : EM} {e : Env'} {S S1 : Sto} (ha : a e S = .ok x S1) (I : Nat → Sto → List D → Prop) (h0 : I 0 S1 []) (hI : ∀ k S acc, I k S acc → Holds S x ds)
    (hs : ∀ k S acc d, ds[k]? = some d → I k S acc → ∃ e1 b S1, g d (wipeE e vs) = some e1 ∧ tt e1 S = .ok b S1 ∧ if b = true then ∃ y S2, te e1 S1 = .ok y S2 ∧ acc.length < 1000000 ∧ I (k + 1) S2 (acc ++ [y]) else I (k + 1) S1 acc) :
    ∃ acc S', lcM h vs (seqI a) g tt te e S = endL h acc S' ∧ I ds.length S' acc := by
  rcases hI 0 S1 [] h0 with h' | ⟨i, h', hi⟩
  · subst h'
    obtain ⟨acc, S', h1, h2⟩ := lc_fix (ds := ds) (g := g) (tt := tt) (te := te) (e := wipeE e vs) I h0 hs
    refine ⟨acc, S', ?_, h2⟩
    simp only [lcM, seqI, ha, bind_ok, srcOf, ofO_some, h1]
  · subst h'
    have hI' : ∀ k S acc, I k S acc → S.at_ i = some (.lst ds) := fun k S acc h => by
      rcases hI k S acc h with z | ⟨j, z, hj⟩
      · cases z
      · cases z
        exact hj
    obtain ⟨acc, S', h1, h2⟩ := lc_cel (ds := ds) (i := i) (g := g) (tt := tt) (te := te) (e := wipeE e vs) I h0 hI' hs
    refine ⟨acc, S', ?_, h2⟩
    simp only [lcM, seqI, ha, bind_ok, srcOf, hi, ofO_some, h1]
theorem lc_fixM {im : IM} {ds : List D} {h : Option (Option Id)} {vs : List Nat} {g : GM} {tt : TM} {te : EM} {e : Env'} {S S1 : Sto} (hi : im e S = .ok (.fix ds) S1) (I : Nat → Sto → List D → Prop) (h0 : I 0 S1 [])
    (hs : ∀ k S acc d, ds[k]? = some d → I k S acc → ∃ e1 b S1, g d (wipeE e vs) = some e1 ∧ tt e1 S = .ok b S1 ∧ if b = true then ∃ y S2, te e1 S1 = .ok y S2 ∧ acc.length < 1000000 ∧ I (k + 1) S2 (acc ++ [y]) else I (k + 1) S1 acc) :
    ∃ acc S', lcM h vs im g tt te e S = endL h acc S' ∧ I ds.length S' acc := by
  obtain ⟨acc, S', h1, h2⟩ := lc_fix (ds := ds) (g := g) (tt := tt) (te := te) (e := wipeE e vs) I h0 hs
  refine ⟨acc, S', ?_, h2⟩
  simp only [lcM, hi, bind_ok, h1]
theorem lc_rngM {im : IM} {lo c : Int} {n : Nat} {h : Option (Option Id)} {vs : List Nat} {g : GM} {tt : TM} {te : EM} {e : Env'} {S S1 : Sto} (hi : im e S = .ok (.rng lo c n) S1) (I : Nat → Sto → List D → Prop) (h0 : I 0 S1 [])
    (hs : ∀ k S acc, k < n → I k S acc → ∃ e1 b S1, g (.int (lo + (k : Nat) * c)) (wipeE e vs) = some e1 ∧ tt e1 S = .ok b S1 ∧ if b = true then ∃ y S2, te e1 S1 = .ok y S2 ∧ acc.length < 1000000 ∧ I (k + 1) S2 (acc ++ [y]) else I (k + 1) S1 acc) :
    ∃ acc S', lcM h vs im g tt te e S = endL h acc S' ∧ I n S' acc := by
  obtain ⟨acc, S', h1, h2⟩ := lc_rng (lo := lo) (c := c) (n := n) (g := g) (tt := tt) (te := te) (e := wipeE e vs) I h0 hs
  refine ⟨acc, S', ?_, h2⟩
  simp only [lcM, hi, bind_ok, h1]
theorem rng1_ok {t : AM} {n : Int} {e : Env'} {S S1 : Sto} (ht : t e S = .ok [.int n] S1) (hn : n < 1000000 ∧ -1000000 < n) : rng1I t e S = .ok (.rng 0 1 n.toNat) S1 := by
  simp only [rng1I, ht, bind_ok, if_pos hn]
theorem rng2_ok {t : AM} {a b : Int} {e : Env'} {S S1 : Sto} (ht : t e S = .ok [.int a, .int b] S1) (hn : (a < 1000000 ∧ -1000000 < a) ∧ (b < 1000000 ∧ -1000000 < b)) : rng2I t e S = .ok (.rng a 1 (b - a).toNat) S1 := by
  simp only [rng2I, ht, bind_ok, if_pos hn]
theorem rng3_ok {t : AM} {a b : Int} {e : Env'} {S S1 : Sto} (ht : t e S = .ok [.int a, .int b, .int (-1)] S1) (hn : (a < 1000000 ∧ -1000000 < a) ∧ (b < 1000000 ∧ -1000000 < b)) : rng3I t e S = .ok (.rng a (-1) (a - b).toNat) S1 := by
  simp only [rng3I, ht, bind_ok]
  rw [if_pos ⟨True.intro, hn⟩]
end Pyx
/-! reckoning by rows: each meaning at its place, what follows it not opened -/
namespace Pyx
open PySem PySem.Spec PyProof.Rows L2
section
variable {A B : Type} {e : Env'} {S S1 S2 : Sto} {x : Exn}
@[simp] theorem v_ok {a : A} {f : A → Sto → Out B} : (Out.ok a S).bind f = f a S := rfl
@[simp] theorem v_exc {f : A → Sto → Out B} : (Out.exc x S : Out A).bind f = .exc x S := rfl
@[simp] theorem v_liftok {a : A} {f : A → Sto → SO} : liftS (.ok a S) e f = f a S := rfl
@[simp] theorem v_liftexc {f : A → Sto → SO} : liftS (.exc x S : Out A) e f = .exc x e S := rfl
def SO.sq (o : SO) (b : SM) : SO := match o with
  | .nx e S => b e S
  | o => o
@[simp] theorem v_seq {a b : SM} : seqM a b e S = (a e S).sq b := rfl
@[simp] theorem v_nx {b : SM} : (SO.nx e S).sq b = b e S := rfl
@[simp] theorem v_rt {b : SM} {d : D} : (SO.rt d S).sq b = .rt d S := rfl
@[simp] theorem v_sexc {b : SM} : (SO.exc x e S).sq b = .exc x e S := rfl
@[simp] theorem v_bk {b : SM} : (SO.bk e S).sq b = .bk e S := rfl
@[simp] theorem v_ct {b : SM} : (SO.ct e S).sq b = .ct e S := rfl
@[simp] theorem v_skip : skipM e S = .nx e S := rfl
@[simp] theorem v_break : breakM e S = .bk e S := rfl
@[simp] theorem v_cont : contM e S = .ct e S := rfl
def exprK (e : Env') : D → Sto → SO := fun _ S => .nx e S
@[simp] theorem v_expr {a : EM} : exprM a e S = liftS (a e S) e (exprK e) := rfl
@[simp] theorem v_exprK {d : D} : exprK e d S = .nx e S := rfl
def retK : D → Sto → SO := fun d S => .rt d S
@[simp] theorem v_ret {a : EM} : retM a e S = liftS (a e S) e retK := rfl
@[simp] theorem v_retK {d : D} : retK d S = .rt d S := rfl
def ifSK (a b : SM) (e : Env') (k : Bool) (S : Sto) : SO := if k = true then a e S else b e S
@[simp] theorem v_ifS {c : TM} {a b : SM} : ifS c a b e S = liftS (c e S) e (ifSK a b e) := rfl
@[simp] theorem v_ifT {a b : SM} : ifSK a b e true S = a e S := rfl
@[simp] theorem v_ifF {a b : SM} : ifSK a b e false S = b e S := rfl
def asgK (g : GM) (e : Env') (d : D) (S : Sto) : SO := ofE (g d e) S where
  ofE (o : Option Env') (S : Sto) : SO := match o with
  | some e' => .nx e' S
  | none => .bad
@[simp] theorem v_asg {g : GM} {a : EM} : asgM g a e S = liftS (a e S) e (asgK g e) := rfl
@[simp] theorem v_asgN {i : Nat} {d : D} : asgK (gNm i) e d S = .nx (e.set i (some d)) S := rfl
@[simp] theorem v_asgT {n : Nat} {g : GMs} {ds : List D} (h : ds.length = n) : asgK (gTp n g) e (.tup ds) S = asgK.ofE (g ds e) S := by
  show asgK.ofE (if ds.length = n then g ds e else none) S = _
  rw [if_pos h]
@[simp] theorem v_gCons {i : Nat} {r : GMs} {d : D} {ds : List D} : gsCons (gNm i) r (d :: ds) e = r ds (e.set i (some d)) := rfl
@[simp] theorem v_gConsT {n : Nat} {g r : GMs} {ds2 : List D} {ds : List D} (h : ds2.length = n) : gsCons (gTp n g) r (.tup ds2 :: ds) e = (g ds2 e).bind fun e' => r ds e' := by
  show ((if ds2.length = n then g ds2 e else none).bind fun e' => r ds e') = _
  rw [if_pos h]
@[simp] theorem v_gNil : gsNil [] e = some e := rfl
@[simp] theorem v_ofE {e' : Env'} : asgK.ofE (some e') S = .nx e' S := rfl
@[simp] theorem v_gN {i : Nat} {d : D} : gNm i d e = some (e.set i (some d)) := rfl
@[simp] theorem v_gT {n : Nat} {g : GMs} {ds : List D} (h : ds.length = n) : gTp n g (.tup ds) e = g ds e := by
  show (if ds.length = n then g ds e else none) = _
  rw [if_pos h]
@[simp] theorem v_raise {c : Nat} : raiseM c e S = .exc ⟨c, none⟩ e S := rfl
/-! expressions -/
@[simp] theorem v_var0 {d : D} {r : Env'} : varM 0 (some d :: r) S = .ok d S := rfl
@[simp] theorem v_varS {o : Option D} {n : Nat} {r : Env'} : varM (n + 1) (o :: r) S = varM n r S := rfl
@[simp] theorem v_cM {d : D} : cM d e S = .ok d S := rfl
def binK2 (g : D → D → Sto → Option D) (x : D) : D → Sto → Out D := fun y S => ofO (g x y S) S
def binK (g : D → D → Sto → Option D) (b : EM) (e : Env') : D → Sto → Out D := fun x S => (b e S).bind (binK2 g x)
@[simp] theorem v_bin {g : D → D → Sto → Option D} {a b : EM} : binM g a b e S = (a e S).bind (binK g b e) := rfl
@[simp] theorem v_binK {g : D → D → Sto → Option D} {b : EM} {x : D} : binK g b e x S = (b e S).bind (binK2 g x) := rfl
@[simp] theorem v_binK2 {g : D → D → Sto → Option D} {x y : D} : binK2 g x y S = ofO (g x y S) S := rfl
@[simp] theorem v_of {a : A} : ofO (some a) S = .ok a S := rfl
def tstK : D → Sto → Out Bool := fun x S => ofO (boolOf x) S
@[simp] theorem v_tst {a : EM} : tstM a e S = (a e S).bind tstK := rfl
@[simp] theorem v_tstK {b : Bool} : tstK (.bl b) S = .ok b S := rfl
def notK : Bool → Sto → Out Bool := fun b S => .ok (!b) S
@[simp] theorem v_not {t : TM} : notM t e S = (t e S).bind notK := rfl
@[simp] theorem v_notK {b : Bool} : notK b S = .ok (!b) S := rfl
def andK (u : TM) (e : Env') : Bool → Sto → Out Bool := fun b S => if b = true then u e S else .ok false S
@[simp] theorem v_and {t u : TM} : andM t u e S = (t e S).bind (andK u e) := rfl
@[simp] theorem v_andT {u : TM} : andK u e true S = u e S := rfl
@[simp] theorem v_andF {u : TM} : andK u e false S = .ok false S := rfl
def orK (u : TM) (e : Env') : Bool → Sto → Out Bool := fun b S => if b = true then .ok true S else u e S
@[simp] theorem v_or {t u : TM} : orM t u e S = (t e S).bind (orK u e) := rfl
@[simp] theorem v_orT {u : TM} : orK u e true S = .ok true S := rfl
@[simp] theorem v_orF {u : TM} : orK u e false S = u e S := rfl
def ifK (a b : EM) (e : Env') : Bool → Sto → Out D := fun c S => if c = true then a e S else b e S
@[simp] theorem v_ifM {t : TM} {a b : EM} : ifM t a b e S = (t e S).bind (ifK a b e) := rfl
@[simp] theorem v_ifKT {a b : EM} : ifK a b e true S = a e S := rfl
@[simp] theorem v_ifKF {a b : EM} : ifK a b e false S = b e S := rfl
def andVK (b : EM) (e : Env') : D → Sto → Out D := fun x S => match x with
  | .bl true => b e S
  | .bl false => .ok (.bl false) S
  | _ => .bad
@[simp] theorem v_andV {a b : EM} : andV a b e S = (a e S).bind (andVK b e) := rfl
@[simp] theorem v_andVT {b : EM} : andVK b e (.bl true) S = b e S := rfl
@[simp] theorem v_andVF {b : EM} : andVK b e (.bl false) S = .ok (.bl false) S := rfl
def orVK (b : EM) (e : Env') : D → Sto → Out D := fun x S => match x with
  | .bl true => .ok (.bl true) S
  | .bl false => b e S
  | _ => .bad
@[simp] theorem v_orV {a b : EM} : orV a b e S = (a e S).bind (orVK b e) := rfl
@[simp] theorem v_orVT {b : EM} : orVK b e (.bl true) S = .ok (.bl true) S := rfl
@[simp] theorem v_orVF {b : EM} : orVK b e (.bl false) S = b e S := rfl
def notVK : D → Sto → Out D := fun x S => match x with
  | .bl b => .ok (.bl (!b)) S
  | _ => .bad
@[simp] theorem v_notV {a : EM} : notV a e S = (a e S).bind notVK := rfl
@[simp] theorem v_notVK {b : Bool} : notVK (.bl b) S = .ok (.bl (!b)) S := rfl
def chK2 (g' : D → D → Sto → Option D) (c : EM) (e : Env') (y : D) : D → Sto → Out D := fun z S3 => match z with
  | .bl true => (c e S3).bind (binK2 g' y)
  | .bl false => .ok (.bl false) S3
  | _ => .bad
def chK1 (g g' : D → D → Sto → Option D) (c : EM) (e : Env') (x : D) : D → Sto → Out D := fun y S2 => (ofO (g x y S2) S2).bind (chK2 g' c e y)
def chK (g g' : D → D → Sto → Option D) (b c : EM) (e : Env') : D → Sto → Out D := fun x S => (b e S).bind (chK1 g g' c e x)
@[simp] theorem v_ch {g g' : D → D → Sto → Option D} {a b c : EM} : chainM g g' a b c e S = (a e S).bind (chK g g' b c e) := rfl
@[simp] theorem v_chK {g g' : D → D → Sto → Option D} {b c : EM} {x : D} : chK g g' b c e x S = (b e S).bind (chK1 g g' c e x) := rfl
@[simp] theorem v_chK1 {g g' : D → D → Sto → Option D} {c : EM} {x y : D} : chK1 g g' c e x y S = (ofO (g x y S) S).bind (chK2 g' c e y) := rfl
@[simp] theorem v_chT {g' : D → D → Sto → Option D} {c : EM} {y : D} : chK2 g' c e y (.bl true) S = (c e S).bind (binK2 g' y) := rfl
@[simp] theorem v_chF {g' : D → D → Sto → Option D} {c : EM} {y : D} : chK2 g' c e y (.bl false) S = .ok (.bl false) S := rfl
@[simp] theorem v_nil : nilM e S = .ok [] S := rfl
def consK2 (x : D) : List D → Sto → Out (List D) := fun xs S => .ok (x :: xs) S
def consK (r : AM) (e : Env') : D → Sto → Out (List D) := fun x S => (r e S).bind (consK2 x)
@[simp] theorem v_cons {a : EM} {r : AM} : consM a r e S = (a e S).bind (consK r e) := rfl
@[simp] theorem v_consK {r : AM} {x : D} : consK r e x S = (r e S).bind (consK2 x) := rfl
@[simp] theorem v_consK2 {x : D} {xs : List D} : consK2 x xs S = .ok (x :: xs) S := rfl
def tupK : List D → Sto → Out D := fun xs S => if xs.length ≤ 1000 then .ok (.tup xs) S else .bad
@[simp] theorem v_tup {t : AM} : tupM t e S = (t e S).bind tupK := rfl
@[simp] theorem v_tupK {xs : List D} (h : xs.length ≤ 1000) : tupK xs S = .ok (.tup xs) S := if_pos h
def lstK : List D → Sto → Out D := fun xs S => if xs.length ≤ 1000 then .ok (.lst xs) S else .bad
@[simp] theorem v_lst {t : AM} : lstM t e S = (t e S).bind lstK := rfl
@[simp] theorem v_lstK {xs : List D} (h : xs.length ≤ 1000) : lstK xs S = .ok (.lst xs) S := if_pos h
def lstCK : List D → Sto → Out D := fun xs S => if xs.length ≤ 1000 then alloc none (.lst xs) S else .bad
@[simp] theorem v_lstC {t : AM} : lstC none t e S = (t e S).bind lstCK := rfl
@[simp] theorem v_lstCK {xs : List D} (h : xs.length ≤ 1000) : lstCK xs S = alloc none (.lst xs) S := if_pos h
def calK (g : List D → Sto → Option D) : List D → Sto → Out D := fun xs S => ofO (g xs S) S
@[simp] theorem v_cal {g : List D → Sto → Option D} {t : AM} : calM g t e S = (t e S).bind (calK g) := rfl
@[simp] theorem v_calK {g : List D → Sto → Option D} {xs : List D} : calK g xs S = ofO (g xs S) S := rfl
def isiK (T : String) : D → Sto → Out D := fun x S => ofO (isiF T x S) S
@[simp] theorem v_isi {T : String} {a : EM} : isiM T a e S = (a e S).bind (isiK T) := rfl
@[simp] theorem v_isiK {T : String} {x : D} : isiK T x S = ofO (isiF T x S) S := rfl
def callK (np : Nat) (dd : List D) (g : List D → Sto → Out D) : List D → Sto → Out D := fun ds S => if (ds ++ dd).length = np then g (ds ++ dd) S else .bad
@[simp] theorem v_call {np : Nat} {dd : List D} {g : List D → Sto → Out D} {t : AM} : callM np dd g t e S = (t e S).bind (callK np dd g) := rfl
@[simp] theorem v_callK {np : Nat} {g : List D → Sto → Out D} {ds : List D} (h : ds.length = np) : callK np [] g ds S = g ds S := by
  unfold callK
  rw [List.append_nil, if_pos h]
/-! attributes, methods -/
def attB (p : Bool) (o : Option D) (S : Sto) : Out D := if p = true then ofO o S else .bad
def attA (tb : Tb) (f : Nat) (c : Option Cell) (S : Sto) : Out D := match c with
  | some (.ins c fs) => attB (tb.pl c f) (fs.lookup f) S
  | _ => .bad
def attK (tb : Tb) (f : Nat) (x : D) (S : Sto) : Out D := match x with
  | .cell i => attA tb f (S.at_ i) S
  | _ => .bad
@[simp] theorem v_att {tb : Tb} {f : Nat} {a : EM} : attM tb f a e S = (a e S).bind (attK tb f) := by
  show (a e S).bind _ = _
  congr 1
  funext x S1
  show ofO (getA tb f x S1) S1 = _
  unfold getA attK
  cases x with
  | cell i =>
    show ofO (match S1.at_ i with | some (.ins c fs) => if tb.pl c f = true then fs.lookup f else none | _ => none) S1 = attA tb f (S1.at_ i) S1
    cases S1.at_ i with
    | none => rfl
    | some c =>
      cases c with
      | ins c fs =>
        show ofO (if tb.pl c f = true then fs.lookup f else none) S1 = attB (tb.pl c f) (fs.lookup f) S1
        unfold attB
        split <;> rfl
      | _ => rfl
  | _ => rfl
@[simp] theorem v_attK {tb : Tb} {f : Nat} {i : Id} : attK tb f (.cell i) S = attA tb f (S.at_ i) S := rfl
@[simp] theorem v_attA {tb : Tb} {f c : Nat} {fs : List (Nat × D)} : attA tb f (some (.ins c fs)) S = attB (tb.pl c f) (fs.lookup f) S := rfl
@[simp] theorem v_attB {d : D} : attB true (some d) S = .ok d S := rfl
def methD (np : Nat → Nat) (G : Fn) (f : Nat) (x : D) (dd : List D) : List D → Sto → Out D := fun ds S => if (x :: (ds ++ dd)).length = np f then G f (x :: (ds ++ dd)) S else .bad
def methC (np : Nat → Nat) (G : Fn) (f : Nat) (t : AM) (e : Env') (x : D) (o : Option (List D)) (S : Sto) : Out D := match o with
  | some dd => (t e S).bind (methD np G f x dd)
  | none => .bad
def methB (tb : Tb) (np : Nat → Nat) (G : Fn) (n : Nat) (t : AM) (e : Env') (x : D) (f : Option Nat) (l : Option D) (S : Sto) : Out D := match f, l with
  | some f, none => methC np G f t e x (tb.df f n) S
  | _, _ => .bad
def methA (tb : Tb) (np : Nat → Nat) (G : Fn) (m n : Nat) (t : AM) (e : Env') (x : D) (c : Option Cell) (S : Sto) : Out D := match c with
  | some (.ins c fs) => methB tb np G n t e x (tb.mt c m) (fs.lookup m) S
  | _ => .bad
def methK (tb : Tb) (np : Nat → Nat) (G : Fn) (m n : Nat) (t : AM) (e : Env') (x : D) (S : Sto) : Out D := match x with
  | .cell i => methA tb np G m n t e (.cell i) (S.at_ i) S
  | _ => .bad
@[simp] theorem v_meth {tb : Tb} {np : Nat → Nat} {G : Fn} {m n : Nat} {a : EM} {t : AM} : methM tb np G m n a t e S = (a e S).bind (methK tb np G m n t e) := by
  show (a e S).bind _ = _
  congr 1
  funext x S1
  unfold methK
  cases x with
  | cell i =>
    show (match S1.at_ i with
      | some (.ins c fs) => match tb.mt c m, fs.lookup m with
        | some f, none => match tb.df f n with
          | some dd => (t e S1).bind fun ds S2 => if (D.cell i :: (ds ++ dd)).length = np f then G f (D.cell i :: (ds ++ dd)) S2 else .bad
          | none => .bad
        | _, _ => .bad
      | _ => .bad) = methA tb np G m n t e (.cell i) (S1.at_ i) S1
    cases S1.at_ i with
    | none => rfl
    | some c =>
      cases c with
      | ins c fs =>
        show (match tb.mt c m, fs.lookup m with
          | some f, none => match tb.df f n with
            | some dd => (t e S1).bind fun ds S2 => if (D.cell i :: (ds ++ dd)).length = np f then G f (D.cell i :: (ds ++ dd)) S2 else .bad
            | none => .bad
          | _, _ => Out.bad) = methB tb np G n t e (.cell i) (tb.mt c m) (fs.lookup m) S1
        cases tb.mt c m with
        | none => rfl
        | some f =>
          cases fs.lookup m with
          | some _ => rfl
          | none =>
            show (match tb.df f n with
              | some dd => (t e S1).bind fun ds S2 => if (D.cell i :: (ds ++ dd)).length = np f then G f (D.cell i :: (ds ++ dd)) S2 else .bad
              | none => .bad) = methC np G f t e (.cell i) (tb.df f n) S1
            cases tb.df f n <;> rfl
      | _ => rfl
  | _ => rfl
@[simp] theorem v_methK {tb : Tb} {np : Nat → Nat} {G : Fn} {m n : Nat} {t : AM} {i : Id} : methK tb np G m n t e (.cell i) S = methA tb np G m n t e (.cell i) (S.at_ i) S := rfl
@[simp] theorem v_methA {tb : Tb} {np : Nat → Nat} {G : Fn} {m n c : Nat} {t : AM} {x : D} {fs : List (Nat × D)} : methA tb np G m n t e x (some (.ins c fs)) S = methB tb np G n t e x (tb.mt c m) (fs.lookup m) S := rfl
@[simp] theorem v_methB {tb : Tb} {np : Nat → Nat} {G : Fn} {n f : Nat} {t : AM} {x : D} : methB tb np G n t e x (some f) none S = methC np G f t e x (tb.df f n) S := rfl
@[simp] theorem v_methC {np : Nat → Nat} {G : Fn} {f : Nat} {t : AM} {x : D} {dd : List D} : methC np G f t e x (some dd) S = (t e S).bind (methD np G f x dd) := rfl
@[simp] theorem v_methD {np : Nat → Nat} {G : Fn} {f : Nat} {x : D} {ds dd : List D} (h : (x :: (ds ++ dd)).length = np f) : methD np G f x dd ds S = G f (x :: (ds ++ dd)) S := if_pos h
/-! places -/
def subO (o : Option (Option D)) (x y : D) (S : Sto) : Out D := match o with
  | some o => ofO o S
  | none => ofO (ixD x y S) S
def subK2 (x : D) : D → Sto → Out D := fun y S => subO (dget x y S) x y S
def subK (b : EM) (e : Env') : D → Sto → Out D := fun x S => (b e S).bind (subK2 x)
@[simp] theorem v_sub {a b : EM} : subM a b e S = (a e S).bind (subK b e) := rfl
@[simp] theorem v_subK {b : EM} {x : D} : subK b e x S = (b e S).bind (subK2 x) := rfl
@[simp] theorem v_subK2 {x y : D} : subK2 x y S = subO (dget x y S) x y S := rfl
@[simp] theorem v_subN {x y : D} : subO none x y S = ofO (ixD x y S) S := rfl
@[simp] theorem v_subS {o : Option D} {x y : D} : subO (some o) x y S = ofO o S := rfl
@[simp] theorem v_dgT {ds : List D} {y : D} : dget (.tup ds) y S = none := rfl
@[simp] theorem v_dgL {ds : List D} {y : D} : dget (.lst ds) y S = none := rfl
@[simp] theorem v_ixT {ds : List D} {i : Int} : ixD (.tup ds) (.int i) S = atI ds i := rfl
@[simp] theorem v_ixL {ds : List D} {i : Int} : ixD (.lst ds) (.int i) S = atI ds i := rfl
def satK2 (tb : Tb) (f : Nat) (e : Env') (d : D) : D → Sto → SO := fun x S => ofS (setAt tb f x d S) e
def satK (tb : Tb) (f : Nat) (o : EM) (e : Env') : D → Sto → SO := fun d S => liftS (o e S) e (satK2 tb f e d)
@[simp] theorem v_sat {tb : Tb} {f : Nat} {o a : EM} : satM tb f o a e S = liftS (a e S) e (satK tb f o e) := rfl
@[simp] theorem v_satK {tb : Tb} {f : Nat} {o : EM} {d : D} : satK tb f o e d S = liftS (o e S) e (satK2 tb f e d) := rfl
@[simp] theorem v_satK2 {tb : Tb} {f : Nat} {d x : D} : satK2 tb f e d x S = ofS (setAt tb f x d S) e := rfl
@[simp] theorem v_ofS {T : Sto} : ofS (some T) e = .nx e T := rfl
def bmA (g : D → List D → Sto → Option (D × Sto)) (x : D) : List D → Sto → Out D := fun ds S => bmO (g x ds S) where
  bmO (o : Option (D × Sto)) : Out D := match o with
  | some (d, S') => .ok d S'
  | none => .bad
def bmB (g : D → List D → Sto → Option (D × Sto)) (t : AM) (e : Env') (x : D) (b : Bool) (S : Sto) : Out D := if b = true then (t e S).bind (bmA g x) else .bad
def bmK (t : Nat) (g : D → List D → Sto → Option (D × Sto)) (ta : AM) (e : Env') : D → Sto → Out D := fun x S => bmB g ta e x (tyIs t x S) S
@[simp] theorem v_bm {t : Nat} {g : D → List D → Sto → Option (D × Sto)} {a : EM} {ta : AM} : bmM t g a ta e S = (a e S).bind (bmK t g ta e) := rfl
@[simp] theorem v_bmK {t : Nat} {g : D → List D → Sto → Option (D × Sto)} {ta : AM} {x : D} : bmK t g ta e x S = bmB g ta e x (tyIs t x S) S := rfl
@[simp] theorem v_bmB {g : D → List D → Sto → Option (D × Sto)} {t : AM} {x : D} : bmB g t e x true S = (t e S).bind (bmA g x) := rfl
@[simp] theorem v_bmA {g : D → List D → Sto → Option (D × Sto)} {x : D} {ds : List D} : bmA g x ds S = bmA.bmO (g x ds S) := rfl
@[simp] theorem v_bmO {d : D} {T : Sto} : bmA.bmO (some (d, T)) = .ok d T := rfl
def outX (o : SO) : Out D := match o with
  | .nx _ S' => .ok .non S'
  | .rt d S' => .ok d S'
  | .exc x _ S' => .exc x S'
  | _ => .bad
@[simp] theorem v_def {n : Nat} {b : SM} {ds : List D} : defX n b ds S = outX (b (ds.map some ++ List.replicate (n - ds.length) none) S) := rfl
@[simp] theorem v_ornt {d : D} : outX (.rt d S) = .ok d S := rfl
@[simp] theorem v_onx : outX (.nx e S) = .ok .non S := rfl
@[simp] theorem v_oexc : outX (.exc x e S) = .exc x S := rfl
def tryK (ca : Nat → Bool) (hand : SM) (o : SO) : SO := match o with
  | .exc x e' S' => tryB (ca x.c) hand e' S'
  | o => o where
  tryB (b : Bool) (hand : SM) (e' : Env') (S' : Sto) : SO := if b = true then hand e' S' else .bad
@[simp] theorem v_try {ca : Nat → Bool} {body hand : SM} : tryM ca body hand e S = tryK ca hand (body e S) := by
  unfold tryM tryK
  cases body e S <;> rfl
@[simp] theorem v_tryR {ca : Nat → Bool} {hand : SM} {d : D} : tryK ca hand (.rt d S) = .rt d S := rfl
@[simp] theorem v_tryN {ca : Nat → Bool} {hand : SM} : tryK ca hand (.nx e S) = .nx e S := rfl
@[simp] theorem v_tryX {ca : Nat → Bool} {hand : SM} {c : Nat} (h : ca c = true) : tryK ca hand (.exc ⟨c, none⟩ e S) = hand e S := by
  show (if ca c = true then hand e S else .bad) = _
  rw [if_pos h]
end
end Pyx
/-! try: return work() / except X as e: a suite that asks what e is -/
namespace Pyx
open PySem PySem.Spec PyProof.Rows L2 LamX
/-- the suite's names; slot ie is e's; what isinstance(e, k) tells -/
structure Hk where
  sc : Scope
  N : List Str
  en : Str
  ie : Nat
  isB : Str → Option Bool
/-- the exception, its dict -/
abbrev Xa : Type := Addr × Option (Addr × List (Str × Int))
def xisM (ie : Nat) (a : Xa) (b : Bool) : EM := fun e S => match e[ie]? with
  | some (some (.xv a' x')) => if a' = a.1 ∧ x' = a.2 then .ok (.bl b) S else .bad
  | _ => .bad
def xfM (ie : Nat) (a : Xa) (i : Int) : EM := fun e S => match e[ie]? with
  | some (some (.xv a' x')) => if a' = a.1 ∧ x' = a.2 then .ok (.int i) S else .bad
  | _ => .bad
/-- isinstance(e, c), e with its dict -/
def rIsEd (K : PySem.W.Frag) (D : Addr) (a : Xa) : List V → Hp → VK → Prop := fun xs H Q => (∀ dd fs, a.2 = some (dd, fs) → H dd = some (.xd (fs.map fun p => (p.1, V.int p.2)))) ∧ rIsE K D a.1 xs H Q
theorem call_isEd {X : Cx} {a : Xa} {D : Addr} {oe : Obj} {pn : List (Addr × Obj)} (C : ExcC X.K D) (hz : Zc (.ref D) (a.2.map (·.1)) oe) (hf : ∃ vs, oe.data = .fields vs) : CallR (X.suite a.1 ((a.1, oe) :: pn)) (.builtin "isinstance") (rIsEd X.K D a) := by
  obtain ⟨a, x⟩ := a
  cases x with
  | none =>
    intro pins s σ H xs us Q I r h
    exact call_isE C hz hf pins s σ H xs us Q I r h.2
  | some p =>
    obtain ⟨dd, fs⟩ := p
    intro pins s σ H xs us Q I r h
    obtain ⟨hx, c, cv, b, rfl, hcv, e, q⟩ := h
    have hx := hx dd fs rfl
    cases r with
    | cons rx rr =>
      cases rr with
      | cons rt rr =>
        cases rr
        cases rx
        have ec := hcv _ rt
        subst ec
        obtain ⟨hget, _⟩ := I.pin (a, oe) (List.mem_append.mpr (.inl List.mem_cons_self))
        obtain ⟨vs, hv⟩ := hf
        obtain ⟨mA, hns, hrel⟩ := (I.hok dd _ hx : ObjOk X.prog X.w H s.heap dd (.xd (fs.map fun p => (p.1, V.int p.2))))
        obtain ⟨od, es, ep, ho, _⟩ := hns
        have J : PySem.W.InstAt s.heap a oe D (some od) := by
          obtain ⟨oc, od', oda, osl⟩ := oe
          obtain ⟨h1, h2⟩ := hz
          dsimp only [Option.map_some] at h1 h2 hv
          subst h1 h2 hv
          exact ⟨hget, rfl, rfl, ho⟩
        have hcl : (PySem.W.clsIn X.K D).isSome = true := by
          obtain ⟨cd, hc, _⟩ := PySem.W.any_some C.hd
          rw [hc]
          rfl
        exact PySem.W.kia_one (PySem.W.kitx_exc hcl C.hg C.hk C.hs C.ha C.hn C.ht C.hm) I.kIn J e (fun z => nomatch z) fun tk => ⟨.bl b, H, I.kept (t' := tk) fun _ _ z => z, rfl, q⟩
def glS (sc : Scope) (x : Str) : Bool := match sc.names.lookup x with
  | some .globalImplicit => true
  | _ => false
theorem glS_ok {sc : Scope} {x : Str} (h : glS sc x = true) : sc.names.lookup x = some .globalImplicit := by
  unfold glS at h
  split at h
  · assumption
  · cases h
def loS (sc : Scope) (x : Str) : Bool := match sc.names.lookup x with
  | some .local => true
  | _ => false
theorem loS_ok {sc : Scope} {x : Str} (h : loS sc x = true) : sc.names.lookup x = some .local := by
  unfold loS at h
  split at h
  · assumption
  · cases h
structure HkOk (h : Hk) (X : Cx) (C : Ctx) (D : Addr) (a : Xa) : Prop where
  hK : C.K = X.K
  N : X.N = h.N
  nd : h.N.Nodup
  sc : X.env.scope = h.sc
  un : X.A.units + 64 < cLine
  ei : h.N[h.ie]? = some h.en
  el : h.sc.names.lookup h.en = some .local
  ed : (h.en == ("__debug__" : Str)) = false ∧ (h.en == ("__classdict__" : Str)) = false
  iso : X.mg "isinstance" = none
  is : ∀ k b, h.isB k = some b → Gl X k → ∃ (c : V) (cv : Value), (∀ u, RelV c u → u = cv) ∧ PySem.W.kitOne X.K (.ref D) cv = some b ∧ ∀ p, PE X (.Name k p) (tC c)
  cr : CallR X (.builtin "isinstance") (rIsEd X.K D a)
  xf : ∀ dd fs f i, a.2 = some (dd, fs) → fs.lookup f = some i → ∀ p pos, PE X (.Attribute (.Name h.en p) f pos) (fun s H Q => s[h.ie]? = some (some (.ref a.1)) ∧ H dd = some (.xd (fs.map fun p => (p.1, V.int p.2))) ∧ Q (.int i) H)
section
variable {h : Hk} {X : Cx} {C : Ctx} {D : Addr} {a : Xa} (K : HkOk h X C D a) {W : WX}
include K
theorem sd_xis {k : Str} {b : Bool} {p p2 p3 pos : Pos} (hk : h.isB k = some b) (hg : Gl X "isinstance") (hgk : Gl X k) : PE X (.Call (.Name "isinstance" p) [.Name h.en p2, .Name k p3] [] pos) (T C W (xisM h.ie a b)) := by
  obtain ⟨c, cv, h1, h2, h3⟩ := K.is k b hk hgk
  have hv : PE X (.Name h.en p2) (fun s H Q => ∃ v, s[h.ie]? = some (some v) ∧ Q v H) := pe_var (by rw [K.N]; exact K.ei) (.inl (by rw [K.sc]; exact K.el)) K.ed.1 K.ed.2
  refine PEmono (pe_callB K.cr hg K.iso rfl (pa_cons hv (pa_cons (h3 p3) pa_nil) (star_eq rfl)) (by decide) (by decide) (star_eq rfl) (star_any (es := [.Name k p3]) rfl)) fun s H Q hh => ?_
  obtain ⟨e, S, l, he, hr, hp⟩ := hh
  unfold xisM at hp
  split at hp
  · rename_i a' x' ha
    split at hp
    · rename_i ea
      obtain ⟨e1, e2⟩ := ea
      obtain ⟨v, hv, rd, xd⟩ := he.2 _ _ ha
      subst rd e1
      refine ⟨_, hv, ?_, c, cv, b, rfl, h1, h2, Post.pure hr hp _ rfl⟩
      intro dd fs ea
      rw [e2, ea] at xd
      exact xd.1
    · exact hp.elim
  · exact hp.elim
theorem sd_xf {f : Str} {i : Int} {dd : Addr} {fs : List (Str × Int)} {p pos : Pos} (ha : a.2 = some (dd, fs)) (hl : fs.lookup f = some i) : PE X (.Attribute (.Name h.en p) f pos) (T C W (xfM h.ie a i)) := by
  refine PEmono (K.xf dd fs f i ha hl p pos) fun s H Q hh => ?_
  obtain ⟨e, S, l, he, hr, hp⟩ := hh
  unfold xfM at hp
  split at hp
  · rename_i a' x' hx
    split at hp
    · rename_i ea
      obtain ⟨e1, e2⟩ := ea
      obtain ⟨v, hv, rd, xd⟩ := he.2 _ _ hx
      subst rd e1
      rw [e2, ha] at xd
      exact ⟨hv, xd.1, Post.pure hr hp _ rfl⟩
    · exact hp.elim
  · exact hp.elim
end
/-! ### compiled -/
def hNm (h : Hk) (x : Str) : EM := if (!(x == ("__debug__" : Str)) && !(x == ("__classdict__" : Str)) && loS h.sc x) = true then match slotOf h.N x 0 with
    | some i => varM i
    | none => badE
  else badE
def hCm (op : CmpOp) (y : Expr) (mx my : EM) : EM := match cmG op with
  | some g => if (!behindInMarks op y) = true then binM g mx my else badE
  | none => badE
def hAt (h : Hk) (a : Xa) (y f : Str) : EM := if (y == h.en) = true then match a.2 with
    | some (_, fs) => match fs.lookup f with
      | some i => xfM h.ie a i
      | none => badE
    | none => badE
  else badE
def hIs (h : Hk) (a : Xa) (x y k : Str) : EM := if (x == ("isinstance" : Str) && y == h.en && glS h.sc x && glS h.sc k) = true then match h.isB k with
    | some b => xisM h.ie a b
    | none => badE
  else badE
def hMt (o x : Expr) (m : Str) (apos pos : Pos) (mo : EM) (mx : AM) : EM := if (noSuper o && [x].all noStar && (apos.endLine == pos.line)) = true then (if m == ("count" : Str) then bmM 1 cntG mo mx else if m == ("index" : Str) then bmM 1 idxG mo mx else badE) else badE
structure HLv where
  E : Expr → EM
  T : Expr → TM
def hstepE (h : Hk) (a : Xa) (lv : HLv) (e : Expr) : EM := match e with
  | .Constant c _ _ => constE c
  | .Name x _ => hNm h x
  | .Attribute (.Name y _) f _ => hAt h a y f
  | .List es _ => if es.all noStar = true then lstM (argsE lv.E es) else badE
  | .Tuple es _ _ => if es.all noStar = true then tupM (argsE lv.E es) else badE
  | .BinOp x .Add y _ => binM addD (lv.E x) (lv.E y)
  | .Compare x [op] [y] _ => hCm op y (lv.E x) (lv.E y)
  | .Subscript x s _ => if noSlice s = true then subM (lv.E x) (lv.E s) else badE
  | .IfExp c x y _ => ifM (lv.T c) (lv.E x) (lv.E y)
  | .Call (.Name x _) [.Name y _, .Name k _] [] _ => hIs h a x y k
  | .Call (.Attribute o m apos) [x] [] pos => hMt o x m apos pos (lv.E o) (argsE lv.E [x])
  | _ => badE
def hstepT (lv : HLv) (e : Expr) : TM := match e with
  | .Compare x [op] [y] _ => tstM (hCm op y (lv.E x) (lv.E y))
  | .BoolOp .Or [x, y] _ => orM (lv.T x) (lv.T y)
  | .UnaryOp .Not x _ => notM (lv.T x)
  | e => if plainTest e = true then tstM (lv.E e) else badT
def hLv (h : Hk) (a : Xa) : Nat → HLv
  | 0 => ⟨fun _ => badE, fun _ => badT⟩
  | n + 1 => ⟨hstepE h a (hLv h a n), hstepT (hLv h a n)⟩
def hSet (h : Hk) (y : Str) (ex : Expr) (m : EM) : SM := if (loS h.sc y && noComp ex) = true then match slotOf h.N y 0 with
    | some i => asgM (gNm i) m
    | none => badS
  else badS
def hstepS (h : Hk) (lv : HLv) (S : Stmt → SM) (st : Stmt) : SM := match st with
  | .Assign [.Name y _] ex _ => hSet h y ex (lv.E ex)
  | .If c x y _ => ifS (lv.T c) (seqE S x) (seqE S y)
  | .Return (some e) _ => retM (lv.E e)
  | _ => badS
def hSt (h : Hk) (lv : HLv) : Nat → Stmt → SM
  | 0 => fun _ => badS
  | n + 1 => hstepS h lv (hSt h lv n)
section
variable {h : Hk} {X : Cx} {C : Ctx} {D : Addr} {a : Xa} (K : HkOk h X C D a) {W : WX}
include K
theorem hNm_ok {x : Str} {p : Pos} : PE X (.Name x p) (T C W (hNm h x)) := by
  unfold hNm
  refine ite_bad fun e => ?_
  simp only [Bool.and_eq_true, Bool.not_eq_true'] at e
  split
  · rename_i i hi
    exact sd_var (by rw [K.N]; exact slot_ok hi) (.inl (by rw [K.sc]; exact loS_ok e.2)) e.1.1 e.1.2
  · exact sd_bad
theorem hCm_ok {op : CmpOp} {x y : Expr} {mx my : EM} {pos : Pos} (hx : PE X x (T C W mx)) (hy : PE X y (T C W my)) : PE X (.Compare x [op] [y] pos) (T C W (hCm op y mx my)) := by
  unfold hCm
  split
  · rename_i g hg
    refine ite_bad fun hm => ?_
    rw [Bool.not_eq_true'] at hm
    exact sd_cmp (cmG_ok K.hK K.un hg) hx hy hm
  · exact sd_bad
theorem hCmT_ok {op : CmpOp} {x y : Expr} {mx my : EM} {pos : Pos} (hx : PE X x (T C W mx)) (hy : PE X y (T C W my)) : PT X (.Compare x [op] [y] pos) (TT' C W (tstM (hCm op y mx my))) := by
  unfold hCm
  split
  · rename_i g hg
    split
    · rename_i hm
      rw [Bool.not_eq_true'] at hm
      exact sdt_cmp (cmG_ok K.hK K.un hg) hx hy hm
    · exact sdt_bad
  · exact sdt_bad
theorem hAt_ok {y f : Str} {p pos : Pos} : PE X (.Attribute (.Name y p) f pos) (T C W (hAt h a y f)) := by
  unfold hAt
  refine ite_bad fun e => ?_
  have e := eqS e
  subst e
  split
  · rename_i dd fs ha
    split
    · rename_i i hi
      exact sd_xf K ha hi
    · exact sd_bad
  · exact sd_bad
theorem hIs_ok {x y k : Str} {p p2 p3 pos : Pos} : PE X (.Call (.Name x p) [.Name y p2, .Name k p3] [] pos) (T C W (hIs h a x y k)) := by
  unfold hIs
  refine ite_bad fun e => ?_
  simp only [Bool.and_eq_true] at e
  obtain ⟨⟨⟨e1, e2⟩, e3⟩, e4⟩ := e
  have e1 := eqS e1
  have e2 := eqS e2
  subst e1 e2
  split
  · rename_i b hb
    exact sd_xis K hb (show X.env.scope.names.lookup _ = _ by rw [K.sc]; exact glS_ok e3) (show X.env.scope.names.lookup _ = _ by rw [K.sc]; exact glS_ok e4)
  · exact sd_bad
theorem hMt_ok {o x : Expr} {m : Str} {apos pos : Pos} {mo : EM} {mx : AM} (ho : PE X o (T C W mo)) (hx : PA X [x] (TA' C W mx)) : PE X (.Call (.Attribute o m apos) [x] [] pos) (T C W (hMt o x m apos pos mo mx)) := by
  unfold hMt
  refine ite_bad fun e => ?_
  simp only [Bool.and_eq_true] at e
  obtain ⟨⟨e1, e2⟩, e3⟩ := e
  split
  · rename_i q
    have q := eqS q
    subst q
    exact sd_bm K.hK F.plainAttrs_list F.slot_list_count F.type_list_count (mg_cnt K.hK) ho hx e1 (by simpa using e2) (by show 1 < 29; decide) e3
  · split
    · rename_i q
      have q := eqS q
      subst q
      exact sd_bm K.hK F.plainAttrs_list F.slot_list_index F.type_list_index (mg_idx K.hK) ho hx e1 (by simpa using e2) (by show 1 < 29; decide) e3
    · exact sd_bad
theorem constE_ok {v : Const} {j : Nat} {pos : Pos} : PE X (.Constant v j pos) (T C W (constE v)) := by
  unfold constE
  split
  · exact sd_val pe_int fun _ _ => rfl
  · exact sd_val pe_bl fun _ _ => rfl
  · exact sd_val pe_non fun _ _ => rfl
  · exact ite_bad fun h => sd_val pe_str fun _ _ => ⟨rfl, h⟩
  · exact sd_bad
theorem hLv_ok : ∀ n, (∀ e, PE X e (T C W ((hLv h a n).E e))) ∧ ∀ e, PT X e (TT' C W ((hLv h a n).T e))
  | 0 => ⟨fun _ => sd_bad, fun _ => sdt_bad⟩
  | n + 1 => by
    obtain ⟨iE, iT⟩ := hLv_ok n
    refine ⟨fun e => ?_, fun e => ?_⟩
    · show PE X e (T C W (hstepE h a (hLv h a n) e))
      unfold hstepE
      split
      · exact constE_ok K
      · exact hNm_ok K
      · exact hAt_ok K
      · exact ite_bad fun hs => sd_lst (args_ok iE hs)
      · exact ite_bad fun hs => sd_tup (args_ok iE hs)
      · exact sd_bin (vo_add K.hK) (iE _) (iE _)
      · exact hCm_ok K (iE _) (iE _)
      · exact ite_bad fun hs => sd_sub K.hK (by have := K.un; omega) (iE _) (iE _) (fun o i => ix_eq hs o i) (fun o i => ix_eq hs o i)
      · exact sd_if (iT _) (iE _) (iE _)
      · exact hIs_ok K
      · rename_i o m apos x pos
        by_cases hs : [x].all noStar = true
        · exact hMt_ok K (iE _) (args_ok iE hs)
        · unfold hMt
          rw [Bool.not_eq_true] at hs
          rw [hs, Bool.and_false, Bool.false_and]
          exact sd_bad
      · exact sd_bad
    · show PT X e (TT' C W (hstepT (hLv h a n) e))
      unfold hstepT
      split
      · exact hCmT_ok K (iE _) (iE _)
      · exact (sdw_or (iT _) (sdw_one (iT _))).pt
      · exact sdt_not (iT _)
      · exact itet_bad fun hs => sdt_val (iE _) (test_eq hs)
theorem hSt_ok (m : Nat) : ∀ n st, PS X st (TS' C W (hSt h (hLv h a m) n st))
  | 0, st => ss_bad
  | n + 1, st => by
    have ih := hSt_ok m n
    obtain ⟨iE, iT⟩ := hLv_ok K (W := W) m
    show PS X st (TS' C W (hstepS h (hLv h a m) (hSt h (hLv h a m) n) st))
    unfold hstepS
    split
    · rename_i y py ex pos
      unfold hSet
      refine ites_bad fun e => ?_
      rw [Bool.and_eq_true] at e
      split
      · rename_i i hi
        exact ss_set (by rw [K.N]; exact K.nd) (by rw [K.N]; exact slot_ok hi) (.inl (by rw [K.sc]; exact loS_ok e.1)) (.inr (by rw [K.sc]; exact loS_ok e.1)) (iE _) (swap_eq e.2)
      · exact ss_bad
    · exact ss_if (iT _) (seq_ok ih _) (seq_ok ih _)
    · exact ss_ret (iE _)
    · exact ss_bad
end
def hBody (h : Hk) (a : Xa) (suite : List Stmt) : SM := seqE (hSt h (hLv h a 8) 4) suite
/-! ### the def -/
theorem envR_xv {K : PySem.W.Frag} {l : Lay} {H : Hp} {n ie : Nat} {a : Xa} {s : L2.St} (hl : s.length = n) (hi : ie < n) (hs : s[ie]? = some (some (.ref a.1))) (hx : XdAt l H a.2) : EnvR K l H ((List.replicate n none).set ie (some (.xv a.1 a.2))) s := by
  refine ⟨by simp [hl], fun i d hd => ?_⟩
  by_cases e : ie = i
  · subst e
    rw [List.getElem?_set_self (by simpa using hi)] at hd
    cases hd
    exact ⟨_, hs, rfl, hx⟩
  · rw [List.getElem?_set_ne e, List.getElem?_replicate] at hd
    split at hd <;> cases hd
/-- what is asked of one exception -/
structure TnOk (K : PySem.W.Frag) (mg : Str → Option Value) (C : Ctx) (CS : Addr) (sg : Scope) (Ng : List Str) (en : Str) (ie : Nat) (suite : List Stmt) (ex : Exn) (r : D) (isB : Str → Option Bool) : Prop where
  fs : ∀ fs, ex.fs = some fs → XfC K (C.xad ex.c) ∧ ∀ f i, fs.lookup f = some i → PySem.W.findIn K (.ref (C.xad ex.c)) f = some none
  exm : PySem.W.exmOne K (.ref (C.xad ex.c)) (.ref CS) = some true
  ec : ExcC K (C.xad ex.c)
  is : ∀ k b, isB k = some b → (∃ q : Addr, mg k = some (.ref q) ∧ (k == ("__debug__" : Str)) = false ∧ PySem.W.kitOne K (.ref (C.xad ex.c)) (.ref q) = some b) ∨ ∃ t : String, mg k = none ∧ bootBuiltins k = some (.type t) ∧ k ≠ "__name__" ∧ (k == ("__debug__" : Str)) = false ∧ PySem.W.kitOne K (.ref (C.xad ex.c)) (.type t) = some b
  ev : ∀ (a : Xa) (S : Sto), a.2.map (·.2) = ex.fs → hBody ⟨sg, Ng, en, ie, isB⟩ a suite ((List.replicate Ng.length none).set ie (some (.xv a.1 a.2))) S = .rt r S
theorem lookupV {f : Str} {i : Int} : ∀ {fs : List (Str × Int)}, fs.lookup f = some i → (fs.map fun p => (p.1, V.int p.2)).lookup f = some (V.int i)
  | [], h => by cases h
  | (g, j) :: r, h => by
    rw [List.map_cons, List.lookup_cons]
    rw [List.lookup_cons] at h
    cases q : (f == g) with
    | true =>
      simp only [q] at h ⊢
      cases h
      rfl
    | false =>
      simp only [q] at h ⊢
      exact lookupV h
theorem told_gives {X : Cx} {C : Ctx} (hK : C.K = X.K) (hr : Room 1 X.A) {tn : Exn → Option D} {Ng : List Str} {x a bx en q : Str} {sg : Scope} {g CS : Addr} {cdg : Value} {ie : Nat} {b0 : Stmt} {suite : List Stmt} {p1 p2 p3 p4 p7 p8 : Pos} (Sg : FnScope Ng [a] sg) (hge : sg.names.lookup bx = some .globalImplicit) (hme : X.mg bx = some (.ref CS)) (hde : (bx == ("__debug__" : Str)) = false)
    (hie : Ng[ie]? = some en) (hle : sg.names.lookup en = some .local) (hed : (en == ("__debug__" : Str)) = false ∧ (en == ("__classdict__" : Str)) = false) (hiso : X.mg "isinstance" = none)
    (hall : ∀ ex r, tn ex = some r → ∃ isB, TnOk X.K X.mg C CS sg Ng en ie (b0 :: suite) ex r isB) :
    GivesTo X Ng x sg g cdg [.Try [.Return (some (.Call (.Name a p1) [] [] p2)) p3] [.ExceptHandler (some (.Name bx p4)) (some en) (b0 :: suite) p7] [] [] p8] a q (TTd C tn) := by
  intro f c' s H Q tl act hc h
  have hgl : Gl (cxOf C8.CX0 X.prog X.w X.K X.mg X.base Ng x sg g cdg X.A X.stack s H C8.E0).nox bx := hge
  have hil : ie < Ng.length := (List.getElem?_eq_some_iff.mp hie).1
  have h0 : (L2.start Ng [V.ref f])[0]? = some (some (V.ref f)) := rfl
  refine ⟨_, pss_one (ps_try_as (X := (cxOf C8.CX0 X.prog X.w X.K X.mg X.base Ng x sg g cdg X.A X.stack s H C8.E0).nox) (c := .ref CS) (i := ie)
      (tb := fun W D σ H => ∃ Ech : XK, (∀ cls d σ' H', Ech cls d H' → W cls d σ' H') ∧ σ[0]? = some (some (.ref f)) ∧ H c' = some (CodeO c' q) ∧ tl Ech H D.rt)
      (ts := fun a cls d D σ H => (ie < σ.length → σ[ie]? = some (some (.ref a))) ∧ ∃ S l ex r, Rel C l S H ∧ RX C l H ex cls d ∧ tn ex = some r ∧ VPost C S l H r D.rt)
      rfl rfl Sg.nd hie hle ⟨hgl, hde, .inl hme⟩ LamX.takes0 (fun W pn xe tk _ => ?_) (fun a oe cls d pn hz hf => ?_)), ?_⟩
  · refine ⟨fun pins s' σ H' D I h' => ?_⟩
    obtain ⟨Ech, hW, h1, h2, h3⟩ := h'
    have hp := act W pn xe Ech p1 p2 tk hW
    have hq := pss_one (ps_ret (pos := p3) hp)
    exact hq.run pins s' σ H' D I ⟨h1, h2, h3⟩
  · refine ⟨fun pins s' σ H' D I h' => ?_⟩
    obtain ⟨hs, S, l, ex, r, hR, hx, htn, hv⟩ := h'
    obtain ⟨isB, T⟩ := hall ex r htn
    obtain ⟨hcls, hd⟩ := hx
    subst hcls
    obtain ⟨xd, hx1, hx2, hx3⟩ : ∃ x : Option (Addr × List (Str × Int)), d = x.map (·.1) ∧ x.map (·.2) = ex.fs ∧ XdAt l H' x := by
      cases hfs : ex.fs with
      | none =>
        rw [hfs] at hd
        exact ⟨none, hd, rfl, True.intro⟩
      | some fs =>
        rw [hfs] at hd
        obtain ⟨dd, e1, e2⟩ := hd
        exact ⟨some (dd, fs), e1, rfl, e2⟩
    subst hx1
    have hlen : σ.length = Ng.length := I.len
    have K : HkOk ⟨sg, Ng, en, ie, isB⟩ ((cxOf C8.CX0 X.prog X.w X.K X.mg X.base Ng x sg g cdg X.A X.stack s H C8.E0).nox.suite a ((a, oe) :: pn)) C (C.xad ex.c) (a, xd) := {
      hK := hK
      N := rfl
      nd := Sg.nd
      sc := rfl
      un := by
        have := hr.un
        show X.A.units + 3 + 64 < cLine
        omega
      ei := hie
      el := hle
      ed := hed
      iso := hiso
      is := fun k b hk hg => by
        rcases T.is k b hk with ⟨q, h1, h2, h3⟩ | ⟨t, h1, h2, h3, h4, h5⟩
        · exact ⟨.ref q, .ref q, fun u hu => hu, h3, fun p => pe_glob hg h1 rfl h2⟩
        · exact ⟨.ty t, .type t, fun u hu => hu, h5, fun p => pe_bltn hg h1 h2 rfl h3 h4⟩
      cr := call_isEd (a := (a, xd)) T.ec hz hf
      xf := fun dd fs f i ea hl p pos => by
        have ea : xd = some (dd, fs) := ea
        subst ea
        obtain ⟨q1, q2⟩ := T.fs fs hx2.symm
        refine PEmono (pe_xf (cls := .ref (C.xad ex.c)) (d := some dd) (te := fun s H Q => ∃ v, s[ie]? = some (some v) ∧ Q v H) q1 (q2 f i hl) hz hf (pe_var hie (.inl hle) hed.1 hed.2)) fun s H Q hh => ?_
        exact ⟨_, hh.1, rfl, rfl, dd, _, _, rfl, hh.2.1, lookupV hl, hh.2.2⟩ }
    refine (seq_ok (W := W0) (hSt_ok K 8 4) (b0 :: suite)).run pins s' σ H' D I ⟨_, S, l, envR_xv (a := (a, xd)) hlen hil (hs (by rw [hlen]; exact hil)) hx3, hR, ?_⟩
    have e := T.ev (a, xd) S hx2
    unfold hBody at e
    rw [e]
    exact fun H1 l1 x1 r1 v hv1 => hv H1 l1 x1 r1 v hv1
  · refine ⟨fun cls d H' => ∃ S l ex r, Rel C l S H' ∧ RX C l H' ex cls d ∧ tn ex = some r ∧ VPost C S l H' r Q, fun cls d σ' H' hh => ?_, h0, hc, h⟩
    obtain ⟨S, l, ex, r, hR, hx, htn, hv⟩ := hh
    obtain ⟨isB, T⟩ := hall ex r htn
    have ecls := hx.1
    refine ⟨true, by rw [ecls]; exact T.exm, fun _ a ha => ⟨fun hi => ?_, S, l, ex, r, hR, hx, htn, hv⟩, fun z => by cases z⟩
    exact List.getElem?_set_self (by simpa using hi)
end Pyx
/-! the def that is handed lambdas, of a law's tables; the store with the makers' tables -/
namespace Pyx
open PySem PySem.Spec PyProof.Rows L2 LamX
/-- the classes with an __init__ of their own -/
def ownNm (nm : Str) : Bool := decide (nm = "BadPlan") || decide (nm = "BadBook") || decide (nm = "BadText")
def flds (nm : Str) : List Str := if nm = "BadPlan" then ["number", "part"] else if nm = "BadBook" then ["number"] else if nm = "BadText" then ["row"] else []
def xnOf (nm : Str) : List (Str × Int) → Option D
  | [(f, i)] => if (nm = "BadBook" ∧ f = "number") ∨ (nm = "BadText" ∧ f = "row") then some (.tup [.str nm, .int i]) else none
  | [(f, i), (g, j)] => if nm = "BadPlan" ∧ f = "number" ∧ g = "part" then some (.tup [.str nm, .int j, .int i]) else none
  | _ => none
/-- what is told of one of class nm -/
def tnX1 (nm : Str) : Option (List (Str × Int)) → Option D
  | none => if ownNm nm = true then none else some (.tup [.str nm, .int 0])
  | some fs => xnOf nm fs
def tnOf (t : List (Nat × Str)) : Exn → Option D := fun ex => (t.lookup ex.c).bind fun nm => tnX1 nm ex.fs
theorem xnOf_fld {nm : Str} {fs : List (Str × Int)} {r : D} (h : xnOf nm fs = some r) : ownNm nm = true ∧ ∀ f i, fs.lookup f = some i → f ∈ flds nm := by
  have key : ∀ {fs : List (Str × Int)} {f : Str} {i : Int}, fs.lookup f = some i → f ∈ fs.map (·.1) := fun {fs f i} h => List.mem_map.mpr ⟨(f, i), PySem.mem_of_lookup h, rfl⟩
  unfold xnOf at h
  split at h
  · split at h
    · rename_i q
      rcases q with ⟨q1, q2⟩ | ⟨q1, q2⟩ <;> subst q1 q2
      · exact ⟨by decide, fun f i hf => by
          have := key hf
          rw [show flds "BadBook" = (["number"] : List Str) by decide]
          simpa using this⟩
      · exact ⟨by decide, fun f i hf => by
          have := key hf
          rw [show flds "BadText" = (["row"] : List Str) by decide]
          simpa using this⟩
    · cases h
  · split at h
    · rename_i q
      obtain ⟨q1, q2, q3⟩ := q
      subst q1 q2 q3
      exact ⟨by decide, fun f i hf => by
          have := key hf
          rw [show flds "BadPlan" = (["number", "part"] : List Str) by decide]
          simpa using this⟩
    · cases h
  · cases h
/-- the fields are read as fields -/
def xoB (K : PySem.W.Frag) (nm : Str) : Bool := xfB K (He.ga K nm) && (flds nm).all fun f => decide (PySem.W.findIn K (.ref (He.ga K nm)) f = some none)
def excCB (K : PySem.W.Frag) (D : Addr) : Bool := decide (PySem.W.findIn K (.ref D) "__getattribute__" = some (some (.builtin "BaseException.__getattribute__"))) && decide (PySem.W.findIn K (.ref D) "__getattr__" = some none) && decide (PySem.W.subIn K (.ref D) (.type "BaseException") = some true) && PySem.W.hasDictIn K D && decide (PySem.W.findIn K (.ref D) "__class__" = some (some (.builtin "object.__class__"))) &&
  decide (PySem.W.specialIn K (.builtin "object.__class__") "__get__" = some (some (.builtin "getset_descriptor.__get__"))) && decide (PySem.W.takesIn K (.builtin "object.__class__") = some true) && decide (PySem.W.mroIn K D (.type "object") = some true)
theorem excCB_ok {K : PySem.W.Frag} {D : Addr} (h : excCB K D = true) : ExcC K D := by
  unfold excCB at h
  simp only [Bool.and_eq_true, decide_eq_true_eq] at h
  obtain ⟨⟨⟨⟨⟨⟨⟨h1, h2⟩, h3⟩, h4⟩, h5⟩, h6⟩, h7⟩, h8⟩ := h
  exact ⟨h1, h2, h3, h4, h5, h6, h7, h8⟩
/-- an own class nm, by the names all -/
def isoB (K : PySem.W.Frag) (all : List Str) (nm : Str) : Bool := excCB K (He.ga K nm) && (all.all fun k => decide (PySem.W.kitOne K (.ref (He.ga K nm)) (.ref (He.ga K k)) = some (decide (k = nm)))) && decide (PySem.W.kitOne K (.ref (He.ga K nm)) (.type "ValueError") = some true)
def isBf (all : List Str) (nm k : Str) : Option Bool := if k ∈ all then some (decide (k = nm)) else if k = ("ValueError" : Str) then some true else none
theorem memN {B : Type} {k : Nat} {v : B} : ∀ {l : List (Nat × B)}, l.lookup k = some v → (k, v) ∈ l
  | [], h => by cases h
  | (a, b) :: r, h => by
    rw [List.lookup_cons] at h
    split at h
    · rename_i e
      cases h
      rw [beq_iff_eq.mp e]
      exact List.mem_cons_self
    · exact List.mem_cons_of_mem _ (memN h)
theorem tolds_of {t : Tl} {P : Program} {w : World} {K : PySem.W.Frag} {mg : Str → Option Value} {base : Heap} (KX : K.In base) (G : base.Ns mainGlobals mg) (c : He.SaysD t.fa t.fn K) (g : t.Good) {x a en : Str} {i ie : Nat} {d : He.DefD} {Ng : List Str} {tt : List (Nat × Str)} {all : List Str} {b0 : Stmt} {suite : List Stmt} {p1 p2 p3 p4 p7 p8 : Pos}
    (hu : (t.gls.all fun q => match q.2 with | .told _ => decide (q.1 = x) | _ => true) = true) (hl : t.gls.lookup x = some (.told (tnOf tt))) (hi : t.fn[i]? = some d) (hp : t.NS[i]? = some (Ng, [a])) (hn : d.name = x) (hq : d.qual = x) (hat : d.at_ = (x, none))
    (hb : d.body = [.Try [.Return (some (.Call (.Name a p1) [] [] p2)) p3] [.ExceptHandler (some (.Name "BoxError" p4)) (some en) (b0 :: suite) p7] [] [] p8]) (hbn : ∀ {fd : FuncData} {f : Addr}, FunD K d.name d.qual d.params d.body d.scope (d.dvs K) (d.kws K) f fd → L2.Binds K fd [a] [])
    (hf0 : Ng[0]? = some a) (hva : Vis d.scope a) (hfa : hasF t.fa (fGlo x) = true) (hfb : hasF t.fa (fGlo "BoxError") = true) (hfi : hasF t.fa (fFree "isinstance") = true) (hfv : hasF t.fa (fFree "ValueError") = true) (hall : (all.all fun k => hasF t.fa (fGlo k) && !(k == ("__debug__" : Str))) = true)
    (had : (a == ("__debug__" : Str)) = false ∧ (a == ("__classdict__" : Str)) = false) (hge : d.scope.names.lookup ("BoxError" : Str) = some .globalImplicit) (hie : Ng[ie]? = some en) (hle : d.scope.names.lookup en = some .local) (hed : (en == ("__debug__" : Str)) = false ∧ (en == ("__classdict__" : Str)) = false)
    (htt : (tt.all fun q => decide (t.exs[q.1]? = some q.2) && hasF t.fa (fExm q.2 "BoxError")) = true) (hiso : (tt.all fun q => isoB K all q.2) = true)
    (hxo : ∀ q ∈ tt, ownNm q.2 = true → xoB K q.2 = true)
    (hev : ∀ (k : Nat) (nm : Str), (k, nm) ∈ tt → ∀ (aa : Xa) (S : Sto) (r : D), tnX1 nm (aa.2.map (·.2)) = some r → hBody ⟨d.scope, Ng, en, ie, isBf all nm⟩ aa (b0 :: suite) ((List.replicate Ng.length none).set ie (some (.xv aa.1 aa.2))) S = .rt r S) : Tolds P w K mg base t := by
  intro y tn hy X e1 e2 e3 e4 e5
  have ey : y = x := of_decide_eq_true (List.all_eq_true.mp hu _ (PySem.mem_of_lookup hy))
  subst ey
  rw [hl] at hy
  cases hy
  subst e1 e2 e3 e4 e5
  obtain ⟨fd, F⟩ := c.def_ i hi
  have Bi := hbn F
  obtain ⟨oc, od, dV, kV, doc, pm, an, cdv, ct, osl, rfl, lk, hcd, _, _⟩ := F.ex
  have S := (fnsAll_ok g.fns).2 i d _ hi hp
  have gl : ∀ {z : Str}, hasF t.fa (fGlo z) = true → X.mg z = some (.ref (He.ga X.K z)) := fun {z} h => by
    obtain ⟨y, hy, hf⟩ := hasF_of h
    cases y <;> first | (cases hf; done) | skip
    obtain rfl := of_decide_eq_true hf
    exact He.glo_ok KX G (c.facts hy)
  have fr : ∀ {z : Str}, hasF t.fa (fFree z) = true → X.mg z = none := fun {z} h => by
    obtain ⟨y, hy, hf⟩ := hasF_of h
    cases y <;> first | (cases hf; done) | skip
    obtain rfl := of_decide_eq_true hf
    exact He.free_ok KX G (c.facts hy)
  have ea : He.fAd X.K d.at_ = He.ga X.K y := by rw [hat]; rfl
  have kp := F.kp
  rw [ea] at lk kp
  rw [hn, hq] at lk Bi
  rw [hq] at hcd
  refine ⟨a, He.ga X.K y, d.params, d.body, d.scope, dV, kV, doc, pm, cdv, ct, oc, an, od, osl, Ng, gl hfa, kp, lk, hcd, Bi, S, hf0, hva, had.1, had.2, fun Y q f1 f2 f3 f4 f5 hr => ?_⟩
  rw [hb]
  have hc3 : (t.ctx X.K).K = Y.K := f3.symm
  refine told_gives hc3 hr S hge (by rw [f4]; exact gl hfb) (by decide) hie hle hed (by rw [f4]; exact fr hfi) fun ex r hr2 => ?_
  unfold tnOf at hr2
  · obtain ⟨nm, hnm, hr3⟩ := Option.bind_eq_some_iff.mp hr2
    have hm := memN hnm
    have h1 := List.all_eq_true.mp htt _ hm
    rw [Bool.and_eq_true, decide_eq_true_eq] at h1
    have hx : (t.ctx X.K).xad ex.c = He.ga X.K nm := by
      show (match t.exs[ex.c]? with | some x => He.ga X.K x | none => 0) = _
      rw [h1.1]
    have h2 := List.all_eq_true.mp hiso _ hm
    unfold isoB at h2
    rw [Bool.and_eq_true, Bool.and_eq_true, decide_eq_true_eq] at h2
    obtain ⟨⟨i1, i2⟩, i3⟩ := h2
    refine ⟨isBf all nm, ⟨fun fs hfs => ?_, ?_, ?_, fun k b hk => ?_, fun aa S he => hev ex.c nm hm aa S r (by rw [he]; exact hr3)⟩⟩
    · rw [hfs] at hr3
      obtain ⟨o1, o2⟩ := xnOf_fld hr3
      have o3 := hxo _ hm o1
      unfold xoB at o3
      rw [Bool.and_eq_true] at o3
      rw [f3, hx]
      exact ⟨xfB_ok o3.1, fun f i hf => of_decide_eq_true (List.all_eq_true.mp o3.2 _ (o2 f i hf))⟩
    · obtain ⟨f, hf, hz⟩ := hasF_of h1.2
      rw [f3, hx]
      cases f with
      | exm a b r =>
        cases r with
        | true =>
          obtain ⟨rfl, rfl⟩ := of_decide_eq_true (show decide (a = nm ∧ b = "BoxError") = true from hz)
          exact He.exm_ok (c.facts hf)
        | false => cases hz
      | _ => cases hz
    · rw [f3, hx]
      exact excCB_ok i1
    · unfold isBf at hk
      rw [f3, f4, hx]
      split at hk
      · rename_i hka
        cases hk
        have h3 := List.all_eq_true.mp hall _ hka
        rw [Bool.and_eq_true, Bool.not_eq_true'] at h3
        exact .inl ⟨He.ga X.K k, gl h3.1, h3.2, of_decide_eq_true (List.all_eq_true.mp i2 _ hka)⟩
      · split at hk
        · rename_i hkv
          cases hk
          subst hkv
          exact .inr ⟨"ValueError", fr hfv, by decide +kernel, by decide, by decide, i3⟩
        · cases hk
/-! ### the store at the law's start -/
def stoT (m : Nat) : Sto := ⟨0, fun i => match i with
  | .obj 1000000 n => if n < m then some (.tbl n) else none
  | _ => none⟩
def layT (C : Ctx) (m : Nat) : Lay := ⟨fun i => match i with
  | .obj 1000000 n => if n < m then some (C.tad n) else none
  | _ => none, fun _ => False, fun _ => none⟩
theorem stoT_tid {m n : Nat} (h : n < m) : (stoT m).at_ (tid n) = some (.tbl n) := if_pos h
theorem layT_some {C : Ctx} {m : Nat} {i : Id} {a : Addr} (h : layT C m i = some a) : ∃ n, n < m ∧ i = tid n ∧ a = C.tad n := by
  cases i with
  | sub p f => cases h
  | obj c k =>
    by_cases e : c = 1000000
    · subst e
      have h' : (if k < m then some (C.tad k) else none) = some a := h
      split at h'
      · cases h'
        exact ⟨k, by assumption, rfl, rfl⟩
      · cases h'
    · exfalso
      have : layT C m (.obj c k) = none := by
        show (match Id.obj c k with | .obj 1000000 n => if n < m then some (C.tad n) else none | _ => none) = none
        split
        · rename_i heq
          cases heq
          exact (e rfl).elim
        · rfl
      rw [this] at h
      cases h
theorem stoT_some {m : Nat} {i : Id} {c : Cell} (h : (stoT m).at_ i = some c) : ∃ n, n < m ∧ i = tid n ∧ c = .tbl n := by
  cases i with
  | sub p f => cases h
  | obj q k =>
    by_cases e : q = 1000000
    · subst e
      have h' : (if k < m then some (Cell.tbl k) else none) = some c := h
      split at h'
      · cases h'
        exact ⟨k, by assumption, rfl, rfl⟩
      · cases h'
    · exfalso
      have : (stoT m).at_ (.obj q k) = none := by
        show (match Id.obj q k with | .obj 1000000 n => if n < m then some (Cell.tbl n) else none | _ => none) = none
        split
        · rename_i heq
          cases heq
          exact (e rfl).elim
        · rfl
      rw [this] at h
      cases h
theorem relT {C : Ctx} {H : Hp} {m : Nat} (hH : ∀ n, n < m → H (C.tad n) = some (.tbl #[])) (hi : ∀ n k, n < m → k < m → C.tad n = C.tad k → n = k) : Rel C (layT C m) (stoT m) H where
  cells := fun i c h => by
    obtain ⟨n, hn, rfl, rfl⟩ := stoT_some h
    refine ⟨C.tad n, if_pos hn, rfl, #[], hH n hn, True.intro, fun pos cv hc => ?_⟩
    have z : codeAmong pos [] = some cv := hc
    simp [codeAmong] at z
  dom := fun i h => by
    cases q : layT C m i with
    | none => rfl
    | some a =>
      obtain ⟨n, hn, rfl, _⟩ := layT_some q
      rw [stoT_tid hn] at h
      cases h
  inj := fun i j a h h' => by
    obtain ⟨n, hn, rfl, e⟩ := layT_some h
    obtain ⟨k, hk, rfl, e'⟩ := layT_some h'
    rw [hi n k hn hk (e.symm.trans e')]
  nos := fun a h => False.elim h
theorem law_spT {C : Ctx} {mu : List D → Sto → Out D} {H : Hp} {a : Addr} {ns : List Int} {S : Sto} {m : Nat} (hH : ∀ n, n < m → H (C.tad n) = some (.tbl #[])) (hi : ∀ n k, n < m → k < m → C.tad n = C.tad k → n = k) (hS : SqL C.K H a (ns.map V.int)) (hm : mu [.scr ns] (stoT m) = .ok (.bl true) S) :
    spM C 1 mu [.ref a] H (fun v _ => v = .bl true) fun _ _ _ => False := by
  refine ⟨rfl, stoT m, layT C m, [.scr ns], relT hH hi, ⟨.ref a, [], rfl, ⟨a, rfl, ?_⟩, rfl⟩, ?_⟩
  · rcases hS with h | h
    · refine .inl ⟨h, fun i z => ?_, fun z => False.elim z⟩
      obtain ⟨n, hn, _, e⟩ := layT_some z
      have hT := hH n hn
      rw [← e] at hT
      rcases h with h | ⟨o, h⟩ <;> rw [hT] at h <;> cases h
    · exact .inr h
  · rw [hm]
    exact fun H' l' x r v hv => hv
end Pyx
/-! the classes of exceptions with an __init__ of their own, of a law's tables -/
namespace Pyx
open PySem PySem.Spec PyProof.Rows L2 LamX
def oexB (K : PySem.W.Frag) (C : Addr) : Bool := (match K.lookup C with
  | some ⟨.type "type", _, .cls cd, sl⟩ => (match cd.mro, sl.toList with
    | .ref C' :: bm, [_, _, _, _, some (.builtin n), _] => C' == C && n == "ValueError.__new__" && !cd.hasDel && cd.hasDict && PySem.HandSPX.refsVE bm
    | _, _ => false)
  | _ => false) && decide (PySem.W.findIn K (.ref C) "__setattr__" = some (some (.builtin "object.__setattr__"))) && decide (PySem.W.subIn K (.ref C) (.type "BaseException") = some true) && decide (PySem.W.typeIn K (.ref C) = some (.type "type")) && PySem.W.keepIn K (.ref C)
theorem oexB_ok {K : PySem.W.Frag} {C : Addr} (h : oexB K C = true) : OexC K C := by
  unfold oexB at h
  simp only [Bool.and_eq_true, decide_eq_true_eq] at h
  obtain ⟨⟨⟨⟨q, h2⟩, h3⟩, h4⟩, h5⟩ := h
  refine ⟨?_, h2, h3, h4, h5⟩
  split at q
  · rename_i dd cd sl ho
    split at q
    · rename_i C' bm k0 k1 k2 k3 n k5 hm hs
      simp only [Bool.and_eq_true, beq_iff_eq, Bool.not_eq_true'] at q
      obtain ⟨⟨⟨⟨rfl, rfl⟩, hdel⟩, hdi⟩, ht⟩ := q
      obtain ⟨nm, bs, mro, ns, qn, hd, sn, sub, ab, col, del⟩ := cd
      dsimp only at hm hdel hdi
      subst hm hdel hdi
      have hsl : sl = #[k0, k1, k2, k3, some (.builtin "ValueError.__new__"), k5] := by
        obtain ⟨l⟩ := sl
        simp only at hs
        rw [hs]
      subst hsl
      exact ⟨nm, qn, ns, bs, bm, sn, sub, ab, col, dd, k0, k1, k2, k3, k5, ho, ht⟩
    · cases q
  · cases q
def baseB (K : PySem.W.Frag) (B : Addr) : Bool := PySem.W.readsIn K B (.type "type") && decide (PySem.W.specialIn K (.ref B) "__getattribute__" = some (some (.builtin "type.__getattribute__"))) && (match PySem.W.findCls K (.ref B) (.type "type") "__init__" with
  | some (.val (.builtin n)) => decide (n = "ValueError.__init__")
  | _ => false)
theorem baseB_ok {K : PySem.W.Frag} {B : Addr} (h : baseB K B = true) : BaseIs K B := by
  unfold baseB at h
  simp only [Bool.and_eq_true, decide_eq_true_eq] at h
  obtain ⟨⟨h1, h2⟩, h3⟩ := h
  refine ⟨h1, h2, ?_⟩
  split at h3
  · rename_i n hn
    rw [hn, of_decide_eq_true h3]
  · cases h3
/-- all that is asked of such a class x with fields fl -/
def oxB (K : PySem.W.Frag) (x : Str) (fl : List Str) : Bool := oexB K (He.ga K x) && decide (PySem.W.findIn K (.ref (He.ga K x)) "__init__" = some (some (.ref (He.ma K (He.ga K x) "__init__")))) && decide (PySem.W.typeIn K (.ref (He.ma K (He.ga K x) "__init__")) = some (.type "function")) && (fl.all fun f => decide (PySem.W.findIn K (.ref (He.ga K x)) f = some none)) && baseB K (He.ga K "BoxError")
section
variable {P : Program} {w : World} {K : PySem.W.Frag} {mg : Str → Option Value} {base : Heap} {C : Addr} {f : Addr} {name qual : Str} {params : Arguments} {scope : Scope} {dV kV doc pm cdv ct oc : Value} {an od : Option Addr} {osl : Array (Option Value)}
theorem init1_fn {z n1 : Str} {j : Nat} {p1 p2 p3 p4 p5 p6 q1 q2 q3 q4 : Pos} {body : List Stmt} (T : OexC K C) (TB : BaseIs K (He.ga K "BoxError")) (hB : mg "BoxError" = some (.ref (He.ga K "BoxError"))) (h1 : PySem.W.findIn K (.ref C) n1 = some none)
    (lk : K.lookup f = some ⟨oc, od, .func (PySem.W.fnOf name qual params body scope dV kV doc pm an cdv ct), osl⟩) (hcd : PySem.W.codeIn K cdv qual = true) (S : FnScope ["self", n1] ["self", n1] scope) (hg : scope.names.lookup ("BoxError" : Str) = some .globalImplicit) (hln : (p2.endLine == p5.line) = true)
    (hb : body = [.Expr (.Call (.Attribute (.Name "BoxError" p1) "__init__" p2) [.Name "self" p3, .Constant (.str z) j p4] [] p5) p6, .Assign [.Attribute (.Name "self" q1) n1 q2] (.Name n1 q3) q4]) (v0 : Vis scope "self") (v1 : Vis scope n1) (d1 : (n1 == ("__debug__" : Str)) = false ∧ (n1 == ("__classdict__" : Str)) = false) :
    FnOk P w K mg base (L2.CX P w) 1 f (PySem.W.fnOf name qual params body scope dV kV doc pm an cdv ct) ["self", n1] (spX C [n1]) := by
  subst hb
  refine fn_of (k := 0) lk hcd S (fun vs H Q E h => ?_) fun A outer s H vs Q E hr hsp => ?_
  · obtain ⟨a, is, e, hl, _⟩ := h
    rw [e, List.length_cons, List.length_map, hl]
    rfl
  · obtain ⟨a, is, e, hl, ha, hq⟩ := hsp
    subst e
    match is, hl with
    | [i], _ =>
      have pS : ∀ {p : Pos}, PE (cxOf (L2.CX P w) P w K mg base ["self", n1] qual scope f cdv A outer s H E) (.Name "self" p) (tVar 0) := fun {p} => pe_var rfl v0
      refine ⟨_, pss_cons (ps_expr (pe_binit (x := "BoxError") hg hB TB (pa_cons pS (pa_cons pe_str pa_nil)) (by decide) (meth_eq rfl rfl (by simp) hln))) (pss_one (ps_ost pS (pe_var (i := 1) rfl v1 d1.1 d1.2))), ?_⟩
      refine ⟨.ref a, rfl, a, C, [.str z], rfl, by simp, T, ha, .int i, rfl, .ref a, rfl, a, C, rfl, T, h1, .inl ⟨ha, fun dx hn ne => ?_⟩⟩
      exact hq dx _ hn ne upd_same ((upd_ne ne).trans upd_same) fun b hb hd => (upd_ne hb).trans (upd_ne hd)
theorem init2_fn {z n1 n2 : Str} {j : Nat} {p1 p2 p3 p4 p5 p6 q1 q2 q3 q4 q5 q6 q7 q8 : Pos} {body : List Stmt} (T : OexC K C) (TB : BaseIs K (He.ga K "BoxError")) (hB : mg "BoxError" = some (.ref (He.ga K "BoxError"))) (h1 : PySem.W.findIn K (.ref C) n1 = some none) (h2 : PySem.W.findIn K (.ref C) n2 = some none)
    (lk : K.lookup f = some ⟨oc, od, .func (PySem.W.fnOf name qual params body scope dV kV doc pm an cdv ct), osl⟩) (hcd : PySem.W.codeIn K cdv qual = true) (S : FnScope ["self", n1, n2] ["self", n1, n2] scope) (hg : scope.names.lookup ("BoxError" : Str) = some .globalImplicit) (hln : (p2.endLine == p5.line) = true)
    (hb : body = [.Expr (.Call (.Attribute (.Name "BoxError" p1) "__init__" p2) [.Name "self" p3, .Constant (.str z) j p4] [] p5) p6, .Assign [.Attribute (.Name "self" q1) n1 q2] (.Name n1 q3) q4, .Assign [.Attribute (.Name "self" q5) n2 q6] (.Name n2 q7) q8]) (v0 : Vis scope "self") (v1 : Vis scope n1) (v2 : Vis scope n2)
    (d1 : (n1 == ("__debug__" : Str)) = false ∧ (n1 == ("__classdict__" : Str)) = false) (d2 : (n2 == ("__debug__" : Str)) = false ∧ (n2 == ("__classdict__" : Str)) = false) :
    FnOk P w K mg base (L2.CX P w) 1 f (PySem.W.fnOf name qual params body scope dV kV doc pm an cdv ct) ["self", n1, n2] (spX C [n1, n2]) := by
  subst hb
  refine fn_of (k := 0) lk hcd S (fun vs H Q E h => ?_) fun A outer s H vs Q E hr hsp => ?_
  · obtain ⟨a, is, e, hl, _⟩ := h
    rw [e, List.length_cons, List.length_map, hl]
    rfl
  · obtain ⟨a, is, e, hl, ha, hq⟩ := hsp
    subst e
    match is, hl with
    | [i, k], _ =>
      have pS : ∀ {p : Pos}, PE (cxOf (L2.CX P w) P w K mg base ["self", n1, n2] qual scope f cdv A outer s H E) (.Name "self" p) (tVar 0) := fun {p} => pe_var rfl v0
      refine ⟨_, pss_cons (ps_expr (pe_binit (x := "BoxError") hg hB TB (pa_cons pS (pa_cons pe_str pa_nil)) (by decide) (meth_eq rfl rfl (by simp) hln))) (pss_cons (ps_ost pS (pe_var (i := 1) rfl v1 d1.1 d1.2)) (pss_one (ps_ost pS (pe_var (i := 2) rfl v2 d2.1 d2.2)))), ?_⟩
      refine ⟨.ref a, rfl, a, C, [.str z], rfl, by simp, T, ha, .int i, rfl, .ref a, rfl, a, C, rfl, T, h1, .inl ⟨ha, fun dx hn ne => ?_⟩⟩
      refine ⟨.int k, rfl, .ref a, rfl, a, C, rfl, T, h2, .inr ⟨dx, _, upd_same, (upd_ne ne).trans upd_same, by simp, ?_⟩⟩
      exact hq dx _ hn ne ((upd_ne (Ne.symm ne)).trans upd_same) upd_same fun b hb hd => (upd_ne hd).trans ((upd_ne hb).trans (upd_ne hd))
end
/-- one such class of the tables -/
theorem oex_of {t : Tl} {P : Program} {w : World} {K : PySem.W.Frag} {mg : Str → Option Value} {base : Heap} (KX : K.In base) (G : base.Ns mainGlobals mg) (c : He.SaysD t.fa t.fn K) {x : Str} {q i : Nat} {d : He.DefD} {ps fl : List Str} (hi : t.fn[i]? = some d) (hat : d.at_ = (x, some ("__init__" : Str))) (hx : t.exs[q]? = some x) (hfx : hasF t.fa (fGlo x) = true) (hfb : hasF t.fa (fGlo "BoxError") = true) (ho : oxB K x fl = true)
    (hbn : ∀ {fd : FuncData} {f : Addr}, FunD K d.name d.qual d.params d.body d.scope (d.dvs K) (d.kws K) f fd → L2.Binds K fd ps [])
    (hfn : ∀ {C f : Addr} {dV kV doc pm cdv ct oc : Value} {an od : Option Addr} {osl : Array (Option Value)}, OexC K C → BaseIs K (He.ga K "BoxError") → mg "BoxError" = some (.ref (He.ga K "BoxError")) → (∀ f ∈ fl, PySem.W.findIn K (.ref C) f = some none) → K.lookup f = some ⟨oc, od, .func (PySem.W.fnOf d.name d.qual d.params d.body d.scope dV kV doc pm an cdv ct), osl⟩ → PySem.W.codeIn K cdv d.qual = true →
      FnOk P w K mg base (L2.CX P w) 1 f (PySem.W.fnOf d.name d.qual d.params d.body d.scope dV kV doc pm an cdv ct) ps (spX C fl)) :
    ∀ X : Cx, X.prog = P → X.w = w → X.K = K → X.mg = mg → X.base = base → OexIs X (t.ctx K) x q fl := by
  intro X e1 e2 e3 e4 e5
  subst e1 e2 e3 e4 e5
  unfold oxB at ho
  simp only [Bool.and_eq_true, decide_eq_true_eq] at ho
  obtain ⟨⟨⟨⟨o1, o2⟩, o3⟩, o4⟩, o5⟩ := ho
  have gl : ∀ {z : Str}, hasF t.fa (fGlo z) = true → X.mg z = some (.ref (He.ga X.K z)) := fun {z} h => by
    obtain ⟨y, hy, hf⟩ := hasF_of h
    cases y <;> first | (cases hf; done) | skip
    obtain rfl := of_decide_eq_true hf
    exact He.glo_ok KX G (c.facts hy)
  have e : (t.ctx X.K).xad q = He.ga X.K x := by
    show (match t.exs[q]? with | some x => He.ga X.K x | none => 0) = _
    rw [hx]
  obtain ⟨fd, F⟩ := c.def_ i hi
  have Bi := hbn F
  obtain ⟨oc, od, dV, kV, doc, pm, an, cdv, ct, osl, rfl, lk, hcd, _, _⟩ := F.ex
  have ea : He.fAd X.K d.at_ = He.ma X.K (He.ga X.K x) "__init__" := by rw [hat]; rfl
  rw [ea] at lk
  refine ⟨by rw [e]; exact gl hfx, by rw [e]; exact oexB_ok o1, He.ma X.K (He.ga X.K x) "__init__", _, ps, by rw [e]; exact o2, o3, ?_, Bi⟩
  rw [e]
  exact hfn (oexB_ok o1) (baseB_ok o5) (gl hfb) (fun f hf => of_decide_eq_true (List.all_eq_true.mp o4 f hf)) lk hcd
end Pyx
/-! the suite of _law_told -/
namespace Pyx
open PySem PySem.Spec PyProof.Rows L2 LamX
def strsM : List Str → AM
  | [] => nilM
  | x :: r => consM (cM (.str x)) (strsM r)
def xisL (a : Xa) (b : Str → Bool) : List Str → AM
  | [] => nilM
  | x :: r => consM (xisM 1 a (b x)) (xisL a b r)
def tdK1 : List Str := ["BadBook", "BadCount", "BadName", "BadNotes"]
def tdK2 : List Str := ["BadPlan", "BadText", "Busy", "Cut"]
def tdK3 : List Str := ["Down", "Linked", "NoAccount", "NoAsk"]
def tdK4 : List Str := ["NoBox", "NoCard", "NoNotes", "TooMuch"]
def tdW1 : List Str := ["BadBook", "BadCount", "BadName", "BadNotes", "BadPlan", "BadText", "Busy", "Cut", "Down", "Linked"]
def tdW2 : List Str := ["NoAccount", "NoAsk", "NoBox", "NoCard", "NoNotes", "TooMuch"]
def tdA (a : Xa) (f : Str) : EM := match a.2 with
  | some (_, fs) => match fs.lookup f with
    | some i => xfM 1 a i
    | none => badE
  | none => badE
def tdEnd (a : Xa) : SM := seqM (asgM (gNm 3) (lstM (strsM tdW1)))
  (seqM (asgM (gNm 3) (binM addD (varM 3) (lstM (strsM tdW2))))
  (seqM (asgM (gNm 4) (subM (varM 3) (bmM 1 idxG (varM 2) (consM (cM (.bl true)) nilM))))
  (seqM (ifS (tstM (binM eqD (varM 4) (cM (.str "BadPlan")))) (seqM (retM (tupM (consM (varM 4) (consM (tdA a "part") (consM (tdA a "number") nilM))))) skipM) skipM)
  (seqM (ifS (tstM (binM eqD (varM 4) (cM (.str "BadBook")))) (seqM (retM (tupM (consM (varM 4) (consM (tdA a "number") nilM)))) skipM) skipM)
  (seqM (retM (tupM (consM (varM 4) (consM (ifM (tstM (binM eqD (varM 4) (cM (.str "BadText")))) (tdA a "row") (cM (.int 0))) nilM)))) skipM)))))
def tdIf (a : Xa) : SM := ifS (orM (tstM (binM neD (bmM 1 cntG (varM 2) (consM (cM (.bl true)) nilM)) (cM (.int 1)))) (notM (tstM (xisM 1 a true)))) (seqM (retM (tupM (consM (cM (.str "other")) (consM (cM (.int 0)) nilM)))) skipM) skipM
def toldX (a : Xa) (b : Str → Bool) : SM :=
  seqM (asgM (gNm 2) (lstM (xisL a b tdK1))) (seqM (asgM (gNm 2) (binM addD (varM 2) (lstM (xisL a b tdK2)))) (seqM (asgM (gNm 2) (binM addD (varM 2) (lstM (xisL a b tdK3)))) (seqM (asgM (gNm 2) (binM addD (varM 2) (lstM (xisL a b tdK4)))) (seqM (tdIf a) (tdEnd a)))))
theorem xis_ok {a : Xa} {b : Bool} {e : Env'} {S : Sto} (h : e[1]? = some (some (.xv a.1 a.2))) : xisM 1 a b e S = .ok (.bl b) S := by
  unfold xisM
  rw [h]
  exact if_pos ⟨rfl, rfl⟩
theorem xisL_ok {a : Xa} {b : Str → Bool} {e : Env'} {S : Sto} (h : e[1]? = some (some (.xv a.1 a.2))) : ∀ l, xisL a b l e S = .ok (l.map fun x => .bl (b x)) S
  | [] => rfl
  | x :: r => by
    show (xisM 1 a (b x) e S).bind (fun d S1 => (xisL a b r e S1).bind fun ds S2 => .ok (d :: ds) S2) = _
    rw [xis_ok h]
    show (xisL a b r e S).bind (fun ds S2 => .ok (D.bl (b x) :: ds) S2) = _
    rw [xisL_ok h r]
    rfl
/-- one class of the list -/
def tdFl (b : Str → Bool) : List D := ((((tdK1.map fun x => D.bl (b x)) ++ tdK2.map fun x => .bl (b x)) ++ tdK3.map fun x => .bl (b x)) ++ tdK4.map fun x => .bl (b x))
theorem told_pre {a : Xa} {S : Sto} {nm : Str} (h : nm ∈ (["Busy", "Cut", "Down", "Linked", "NoAccount", "NoAsk", "NoBox", "NoCard", "NoNotes", "TooMuch", "BadCount", "BadName", "BadNotes", "BadBook", "BadPlan", "BadText"] : List Str)) :
    toldX a (fun k => decide (k = nm)) [none, some (.xv a.1 a.2), none, none, none] S = tdEnd a [none, some (.xv a.1 a.2), some (.lst (tdFl fun k => decide (k = nm))), none, none] S := by
  have l1 : ∀ {b : Str → Bool} {e : Env'} {l : List Str}, e[1]? = some (some (.xv a.1 a.2)) → l.length ≤ 1000 → lstM (xisL a b l) e S = .ok (.lst (l.map fun x => .bl (b x))) S := fun {b e l} h hl => by
    show (xisL a b l e S).bind _ = _
    rw [xisL_ok h]
    exact if_pos (by rw [List.length_map]; exact hl)
  generalize hb : (fun k => decide (k = nm)) = b
  have s1 : ∀ (r : SM), seqM (asgM (gNm 2) (lstM (xisL a b tdK1))) r [none, some (.xv a.1 a.2), none, none, none] S = r [none, some (.xv a.1 a.2), some (.lst (tdK1.map fun x => .bl (b x))), none, none] S := fun r => by
    unfold seqM asgM
    rw [l1 rfl (by decide)]
    rfl
  have s2 : ∀ (r : SM) (ds : List D) (l : List Str), l.length ≤ 1000 → ds.length + l.length < 1000000 → seqM (asgM (gNm 2) (binM addD (varM 2) (lstM (xisL a b l)))) r [none, some (.xv a.1 a.2), some (.lst ds), none, none] S = r [none, some (.xv a.1 a.2), some (.lst (ds ++ l.map fun x => .bl (b x))), none, none] S := fun r ds l hl hl2 => by
    have e : binM addD (varM 2) (lstM (xisL a b l)) [none, some (.xv a.1 a.2), some (.lst ds), none, none] S = .ok (.lst (ds ++ l.map fun x => .bl (b x))) S := by
      show (lstM (xisL a b l) [none, some (.xv a.1 a.2), some (.lst ds), none, none] S).bind _ = _
      rw [l1 rfl hl]
      show ofO (addD (.lst ds) (.lst (l.map fun x => .bl (b x))) S) S = _
      unfold addD
      dsimp only
      rw [if_pos (by rw [List.length_map]; exact Nat.le_of_lt (line_small hl2))]
      rfl
    unfold seqM asgM
    rw [e]
    rfl
  have s3 : ∀ (ds : List D), bmM 1 cntG (varM 2) (consM (cM (.bl true)) nilM) [none, some (.xv a.1 a.2), some (.lst ds), none, none] S = .ok (.int 1) S → seqM (tdIf a) (tdEnd a) [none, some (.xv a.1 a.2), some (.lst ds), none, none] S = tdEnd a [none, some (.xv a.1 a.2), some (.lst ds), none, none] S := fun ds h => by
    have e1 : tstM (binM neD (bmM 1 cntG (varM 2) (consM (cM (.bl true)) nilM)) (cM (.int 1))) [none, some (.xv a.1 a.2), some (.lst ds), none, none] S = .ok false S := by
      unfold tstM binM
      rw [h]
      rfl
    have e2 : notM (tstM (xisM 1 a true)) [none, some (.xv a.1 a.2), some (.lst ds), none, none] S = .ok false S := by
      unfold notM tstM
      rw [xis_ok rfl]
      rfl
    have e3 : orM (tstM (binM neD (bmM 1 cntG (varM 2) (consM (cM (.bl true)) nilM)) (cM (.int 1)))) (notM (tstM (xisM 1 a true))) [none, some (.xv a.1 a.2), some (.lst ds), none, none] S = .ok false S := by
      unfold orM
      rw [e1]
      exact e2
    unfold seqM tdIf ifS
    rw [e3]
    rfl
  unfold toldX
  rw [s1, s2 _ _ _ (by decide) (by rw [List.length_map]; decide), s2 _ _ _ (by decide) (by rw [List.length_append, List.length_map, List.length_map]; decide), s2 _ _ _ (by decide) (by rw [List.length_append, List.length_append, List.length_map, List.length_map, List.length_map]; decide)]
  subst hb
  simp only [List.mem_cons, List.not_mem_nil, or_false] at h
  rcases h with h | h | h | h | h | h | h | h | h | h | h | h | h | h | h | h <;> subst h <;> (rw [s3 _ (by kernel_rfl)]; rfl)
theorem told_ev {a : Xa} {S : Sto} {nm : Str} (h : nm ∈ (["Busy", "Cut", "Down", "Linked", "NoAccount", "NoAsk", "NoBox", "NoCard", "NoNotes", "TooMuch", "BadCount", "BadName", "BadNotes"] : List Str)) : toldX a (fun k => decide (k = nm)) [none, some (.xv a.1 a.2), none, none, none] S = .rt (.tup [.str nm, .int 0]) S := by
  rw [told_pre ((by decide : ∀ x ∈ (["Busy", "Cut", "Down", "Linked", "NoAccount", "NoAsk", "NoBox", "NoCard", "NoNotes", "TooMuch", "BadCount", "BadName", "BadNotes"] : List Str), x ∈ (["Busy", "Cut", "Down", "Linked", "NoAccount", "NoAsk", "NoBox", "NoCard", "NoNotes", "TooMuch", "BadCount", "BadName", "BadNotes", "BadBook", "BadPlan", "BadText"] : List Str)) nm h)]
  simp only [List.mem_cons, List.not_mem_nil, or_false] at h
  rcases h with h | h | h | h | h | h | h | h | h | h | h | h | h <;> subst h <;> kernel_rfl
theorem xf_ok {a : Xa} {i : Int} {e : Env'} {S : Sto} (h : e[1]? = some (some (.xv a.1 a.2))) : xfM 1 a i e S = .ok (.int i) S := by
  unfold xfM
  rw [h]
  exact if_pos ⟨rfl, rfl⟩
theorem tn_simple {nm : Str} {x : Option (Addr × List (Str × Int))} {r : D} (ho : ownNm nm = false) (hr : tnX1 nm (x.map (·.2)) = some r) : r = .tup [.str nm, .int 0] := by
  cases x with
  | none =>
    have hr : (if ownNm nm = true then none else some (D.tup [.str nm, .int 0])) = some r := hr
    rw [ho] at hr
    cases hr
    rfl
  | some p =>
    have := (xnOf_fld hr).1
    rw [ho] at this
    cases this
def tdE3 (a : Xa) (nm : Str) : Env' := [none, some (.xv a.1 a.2), some (.lst (tdFl fun k => decide (k = nm))), some (.lst ((tdW1 ++ tdW2).map D.str)), some (.str nm)]
theorem told_evO {a : Xa} {S : Sto} {nm : Str} {r : D} (h : nm ∈ (["BadBook", "BadPlan", "BadText"] : List Str)) (hr : tnX1 nm (a.2.map (·.2)) = some r) : toldX a (fun k => decide (k = nm)) [none, some (.xv a.1 a.2), none, none, none] S = .rt r S := by
  rw [told_pre ((by decide : ∀ x ∈ (["BadBook", "BadPlan", "BadText"] : List Str), x ∈ (["Busy", "Cut", "Down", "Linked", "NoAccount", "NoAsk", "NoBox", "NoCard", "NoNotes", "TooMuch", "BadCount", "BadName", "BadNotes", "BadBook", "BadPlan", "BadText"] : List Str)) nm h)]
  obtain ⟨ad, x⟩ := a
  cases x with
  | none =>
    simp only [List.mem_cons, List.not_mem_nil, or_false] at h
    rcases h with h | h | h <;> subst h <;> cases hr
  | some p =>
    obtain ⟨dd, fs⟩ := p
    have hr : xnOf nm fs = some r := hr
    have t1 : ∀ (k : SM), nm ∈ (["BadBook", "BadPlan", "BadText"] : List Str) → seqM (asgM (gNm 3) (lstM (strsM tdW1))) (seqM (asgM (gNm 3) (binM addD (varM 3) (lstM (strsM tdW2)))) (seqM (asgM (gNm 4) (subM (varM 3) (bmM 1 idxG (varM 2) (consM (cM (.bl true)) nilM)))) k)) [none, some (.xv ad (some (dd, fs))), some (.lst (tdFl fun k => decide (k = nm))), none, none] S = k (tdE3 (ad, some (dd, fs)) nm) S := fun k h => by
      simp only [List.mem_cons, List.not_mem_nil, or_false] at h
      rcases h with h | h | h <;> subst h <;> kernel_rfl
    unfold tdEnd
    rw [t1 _ h]
    have iT : ∀ {c : TM} {A B : SM} {e : Env'}, c e S = .ok true S → ifS c A B e S = A e S := fun h => by
      unfold ifS
      rw [h]
      rfl
    have iF : ∀ {c : TM} {A B : SM} {e : Env'}, c e S = .ok false S → ifS c A B e S = B e S := fun h => by
      unfold ifS
      rw [h]
      rfl
    have sK : ∀ {A B : SM} {e : Env'}, A e S = .nx e S → seqM A B e S = B e S := fun h => by
      unfold seqM
      rw [h]
    have sR : ∀ {A B : SM} {e : Env'} {d : D}, A e S = .rt d S → seqM A B e S = .rt d S := fun h => by
      unfold seqM
      rw [h]
    have x1 : ∀ {f : Str} {i : Int}, fs.lookup f = some i → tdA (ad, some (dd, fs)) f (tdE3 (ad, some (dd, fs)) nm) S = .ok (.int i) S := fun {f i} hf => by
      unfold tdA
      dsimp only
      rw [hf]
      exact xf_ok rfl
    have c1 : ∀ {m : EM} {t : AM} {d : D} {ds : List D} {e : Env'}, m e S = .ok d S → t e S = .ok ds S → consM m t e S = .ok (d :: ds) S := fun {m t d ds e} h1 h2 => by
      show (m e S).bind (fun d S1 => (t e S1).bind fun ds S2 => .ok (d :: ds) S2) = _
      rw [h1]
      show (t e S).bind (fun ds S2 => .ok (d :: ds) S2) = _
      rw [h2]
      rfl
    have r1 : ∀ {t : AM} {ds : List D} {e : Env'}, t e S = .ok ds S → ds.length ≤ 1000 → retM (tupM t) e S = .rt (.tup ds) S := fun {t ds e} h hl => by
      unfold retM tupM
      rw [h]
      show liftS (if ds.length ≤ 1000 then Out.ok (D.tup ds) S else Out.bad) e _ = _
      rw [if_pos hl]
      rfl
    have v4 : varM 4 (tdE3 (ad, some (dd, fs)) nm) S = .ok (.str nm) S := rfl
    have n1 : nilM (tdE3 (ad, some (dd, fs)) nm) S = .ok [] S := rfl
    rcases fs with _ | ⟨⟨f, i⟩, _ | ⟨⟨g, j⟩, _ | ⟨_, _⟩⟩⟩
    · cases hr
    · have hr : (if (nm = "BadBook" ∧ f = "number") ∨ (nm = "BadText" ∧ f = "row") then some (D.tup [.str nm, .int i]) else none) = some r := hr
      split at hr
      · rename_i q
        cases hr
        rcases q with ⟨q1, q2⟩ | ⟨q1, q2⟩ <;> subst q1 q2
        · rw [sK (by rw [iF (by kernel_rfl)]; rfl), sR (by rw [iT (by kernel_rfl), sR (r1 (c1 v4 (c1 (x1 (by rfl)) n1)) (by simp))])]
        · have v5 : ifM (tstM (binM eqD (varM 4) (cM (.str "BadText")))) (tdA (ad, some (dd, [("row", i)])) "row") (cM (.int 0)) (tdE3 (ad, some (dd, [("row", i)])) "BadText") S = .ok (.int i) S := by
            unfold ifM
            rw [show tstM (binM eqD (varM 4) (cM (.str "BadText"))) (tdE3 (ad, some (dd, [("row", i)])) "BadText") S = .ok true S by kernel_rfl]
            exact x1 (f := "row") (by rfl)
          rw [sK (by rw [iF (by kernel_rfl)]; rfl), sK (by rw [iF (by kernel_rfl)]; rfl), sR (r1 (c1 v4 (c1 v5 n1)) (by simp))]
      · cases hr
    · have hr : (if nm = "BadPlan" ∧ f = "number" ∧ g = "part" then some (D.tup [.str nm, .int j, .int i]) else none) = some r := hr
      split at hr
      · rename_i q
        cases hr
        obtain ⟨q1, q2, q3⟩ := q
        subst q1 q2 q3
        rw [sR (by rw [iT (by kernel_rfl), sR (r1 (c1 v4 (c1 (x1 (by rfl)) (c1 (x1 (by rfl)) n1))) (by simp))])]
      · cases hr
    · cases hr
end Pyx
/-! the dicts of the module, by what is looked at in the head -/
namespace Pyx
open PySem PySem.Spec PyProof.Rows L2 LamX
theorem key_mem {P : Params} : ∀ {es : List DictEntry} {ks : List Str}, es.map He.keyOf = He.keysIn P ks → ∀ e ∈ es, ∃ k t, e.key = .str k t ∧ k ∈ ks
  | [], _, _, e, he => by cases he
  | d :: r, [], h, e, he => by cases h
  | d :: r, k :: ks, h, e, he => by
    have h1 : He.keyOf d :: r.map He.keyOf = some (k, PyData.keyHash P k) :: He.keysIn P ks := h
    injection h1 with h2 h3
    rcases List.mem_cons.mp he with rfl | he
    · unfold He.keyOf at h2
      split at h2
      · rename_i x t q
        obtain ⟨h5, h6⟩ := Prod.mk.inj (Option.some.inj h2)
        exact ⟨x, t, q, by rw [h5]; exact List.mem_cons_self⟩
      · cases h2
    · obtain ⟨k', t, e1, e2⟩ := key_mem h3 e he
      exact ⟨k', t, e1, List.mem_cons_of_mem _ e2⟩
theorem lookup_none {m : List (Str × Str)} {z : Str} (h : m.lookup z = none) : z ∉ m.map (·.1) := by
  induction m with
  | nil => simp
  | cons p r ih =>
    obtain ⟨k, v⟩ := p
    rw [List.lookup_cons] at h
    cases q : (z == k) with
    | true =>
      simp only [q] at h
      cases h
    | false =>
      simp only [q] at h
      intro hm
      rcases List.mem_cons.mp hm with e | e
      · have e : z = k := e
        rw [e] at q
        simp at q
      · exact ih h e
theorem kdok_of {K : PySem.W.Frag} {w : World} {p : Addr} {m : List (Str × Str)} (hd : He.dicW K p = some (He.keysIn w.params (m.map (·.1)))) (hb : kdB K p m = true) : KdOk K w p m := by
  refine ⟨He.dicW_ok hd, fun z => ?_⟩
  obtain ⟨es, n, D⟩ := He.dicW_ok hd
  obtain ⟨b1, b2⟩ := Bool.and_eq_true_iff.mp hb
  cases hz : m.lookup z with
  | some v =>
    have hm := PySem.mem_of_lookup hz
    obtain ⟨u, u1, u2⟩ := He.valsB_ok b1 (q := (z, .str v)) (List.mem_map.mpr ⟨(z, v), hm, rfl⟩)
    exact ⟨List.all_eq_true.mp b2 _ hm, u, u1, u2⟩
  | none =>
    have hn := lookup_none hz
    have hk : es.toList.map He.keyOf = He.keysIn w.params (m.map (·.1)) := by
      unfold He.dicW at hd
      rw [D.at_] at hd
      have hd : (match decide (("dict" : String) = "dict") && ((#[] : Array (Option Value)).isEmpty && !(p == sysModules)) with
        | true => some (es.toList.map He.keyOf)
        | false => none) = some (He.keysIn w.params (m.map (·.1))) := hd
      rw [D.low] at hd
      exact Option.some.inj hd
    show PySem.W.nsIn K p z = some none
    unfold PySem.W.nsIn
    rw [D.at_]
    dsimp only
    have f1 : es.toList.find? (fun e => e.key.isStr z) = none := by
      rw [List.find?_eq_none]
      intro e he q
      obtain ⟨k, t, e1, e2⟩ := key_mem hk e he
      rw [e1] at q
      have : k = z := by
        have q2 : (Value.str k t).isStr z = true := q
        exact eq_of_beq (show (k == z) = true from q2)
      exact hn (this ▸ e2)
    have f2 : es.toList.any (·.refKey) = false := by
      rw [List.any_eq_false]
      intro e he
      obtain ⟨k, t, e1, _⟩ := key_mem hk e he
      unfold DictEntry.refKey
      rw [e1]
      simp
    rw [f1]
    dsimp only
    rw [f2]
    rfl
theorem glo_of {t : Tl} {K : PySem.W.Frag} {mg : Str → Option Value} {base : Heap} (KX : K.In base) (G : base.Ns mainGlobals mg) (c : He.SaysD t.fa t.fn K) {z : Str} (h : hasF t.fa (fGlo z) = true) : mg z = some (.ref (He.ga K z)) := by
  obtain ⟨y, hy, hf⟩ := hasF_of h
  cases y <;> first | (cases hf; done) | skip
  obtain rfl := of_decide_eq_true hf
  exact He.glo_ok KX G (c.facts hy)
end Pyx
-- noteboxes_k13_texts_refused /opt/kit/linked/fb49e6ebd56ba6c2de1dca2ac2d723e9eb3280d5/law_k13_texts_refused/ law at 41; 17 fns 96 facts 37 names
namespace Hd
open PySem PySem.Spec PyProof.Rows L2 Pyx
def top (i : Nat) : Stmt := PySem.Challenge.pw_noteboxes_k13_texts_refused.main.body.getD i (.Pass ⟨0, 0, 0, 0⟩)
def fn0 : List He.DefD := [⟨("is_name", none), "is_name", "is_name", defArgs (top 21), defBody (top 21), defScope (top 21), [], []⟩,
  ⟨("number_of", none), "number_of", "number_of", defArgs (top 28), defBody (top 28), defScope (top 28), [], []⟩,
  ⟨("part_of", none), "part_of", "part_of", defArgs (top 29), defBody (top 29), defScope (top 29), [], []⟩,
  ⟨("deed_of", none), "deed_of", "deed_of", defArgs (top 30), defBody (top 30), defScope (top 30), [], []⟩,
  ⟨("read", none), "read", "read", defArgs (top 31), defBody (top 31), defScope (top 31), [], []⟩,
  ⟨("_law_begun", none), "_law_begun", "_law_begun", defArgs (top 33), defBody (top 33), defScope (top 33), [], []⟩,
  ⟨("_law_take", none), "_law_take", "_law_take", defArgs (top 34), defBody (top 34), defScope (top 34), [], []⟩,
  ⟨("_law_alike", none), "_law_alike", "_law_alike", defArgs (top 35), defBody (top 35), defScope (top 35), [], []⟩,
  ⟨("_law_told", none), "_law_told", "_law_told", defArgs (top 36), defBody (top 36), defScope (top 36), [], []⟩,
  ⟨("_law_spoilt", none), "_law_spoilt", "_law_spoilt", defArgs (top 37), defBody (top 37), defScope (top 37), [], []⟩,
  ⟨("_law_number", none), "_law_number", "_law_number", defArgs (top 38), defBody (top 38), defScope (top 38), [], []⟩,
  ⟨("_law_name", none), "_law_name", "_law_name", defArgs (top 39), defBody (top 39), defScope (top 39), [], []⟩,
  ⟨("_law_due", none), "_law_due", "_law_due", defArgs (top 40), defBody (top 40), defScope (top 40), [], []⟩,
  ⟨("law", none), "law", "law", defArgs (top 41), defBody (top 41), defScope (top 41), [], []⟩,
  ⟨("BadPlan", some "__init__"), "__init__", "BadPlan.__init__", defArgs (inClass (top 2) 0), defBody (inClass (top 2) 0), defScope (inClass (top 2) 0), [], []⟩,
  ⟨("BadBook", some "__init__"), "__init__", "BadBook.__init__", defArgs (inClass (top 3) 0), defBody (inClass (top 3) 0), defScope (inClass (top 3) 0), [], []⟩,
  ⟨("BadText", some "__init__"), "__init__", "BadText.__init__", defArgs (inClass (top 4) 0), defBody (inClass (top 4) 0), defScope (inClass (top 4) 0), [], []⟩]
def fn : List He.DefD := fn0
def fa0 : List He.Fa := [.glo "is_name",
  .keep "is_name",
  .glo "number_of",
  .keep "number_of",
  .glo "part_of",
  .keep "part_of",
  .glo "deed_of",
  .keep "deed_of",
  .glo "read",
  .keep "read",
  .glo "_law_begun",
  .keep "_law_begun",
  .glo "_law_take",
  .keep "_law_take",
  .glo "_law_alike",
  .keep "_law_alike",
  .glo "_law_told",
  .keep "_law_told",
  .glo "_law_spoilt",
  .keep "_law_spoilt"]
def fa1 : List He.Fa := [.glo "_law_number",
  .keep "_law_number",
  .glo "_law_name",
  .keep "_law_name",
  .glo "_law_due",
  .keep "_law_due",
  .glo "law",
  .keep "law",
  .glo "BoxError",
  .exc "BoxError",
  .exm "BoxError" "BoxError" true,
  .glo "BadPlan",
  .exm "BadPlan" "BoxError" true,
  .glo "BadBook",
  .exm "BadBook" "BoxError" true,
  .glo "BadText",
  .exm "BadText" "BoxError" true,
  .glo "BadCount",
  .exc "BadCount",
  .exm "BadCount" "BoxError" true]
def fa2 : List He.Fa := [.glo "BadNotes",
  .exc "BadNotes",
  .exm "BadNotes" "BoxError" true,
  .glo "BadName",
  .exc "BadName",
  .exm "BadName" "BoxError" true,
  .glo "NoBox",
  .exc "NoBox",
  .exm "NoBox" "BoxError" true,
  .glo "NoCard",
  .exc "NoCard",
  .exm "NoCard" "BoxError" true,
  .glo "NoAccount",
  .exc "NoAccount",
  .exm "NoAccount" "BoxError" true,
  .glo "NoAsk",
  .exc "NoAsk",
  .exm "NoAsk" "BoxError" true,
  .glo "NoNotes",
  .exc "NoNotes"]
def fa3 : List He.Fa := [.exm "NoNotes" "BoxError" true,
  .glo "Down",
  .exc "Down",
  .exm "Down" "BoxError" true,
  .glo "Cut",
  .exc "Cut",
  .exm "Cut" "BoxError" true,
  .glo "Linked",
  .exc "Linked",
  .exm "Linked" "BoxError" true,
  .glo "Busy",
  .exc "Busy",
  .exm "Busy" "BoxError" true,
  .glo "TooMuch",
  .exc "TooMuch",
  .exm "TooMuch" "BoxError" true,
  .str "LETTERS" "abcdefghijklmnopqrstuvwxyz",
  .int "MOST_LETTERS" 8,
  .str "FIGURES" "0123456789",
  .int "MOST_FIGURES" 5]
def fa4 : List He.Fa := [.str "LINE" "\n",
  .str "NUMBER" "n",
  .glo "FORMS",
  .free "isinstance",
  .free "int",
  .free "bool",
  .free "str",
  .free "tuple",
  .free "list",
  .free "len",
  .free "range",
  .free "max",
  .free "all",
  .free "zip",
  .free "enumerate",
  .free "ValueError"]
def fa : List He.Fa := fa0 ++ fa1 ++ fa2 ++ fa3 ++ fa4
def loose0 : List PySem.Str := ["BoxError",
  "BadPlan",
  "BadBook",
  "BadText",
  "BadCount",
  "BadNotes",
  "BadName",
  "NoBox",
  "NoCard",
  "NoAccount",
  "NoAsk",
  "NoNotes",
  "Down",
  "Cut",
  "Linked",
  "Busy",
  "TooMuch",
  "LETTERS",
  "MOST_LETTERS",
  "is_name"]
def loose1 : List PySem.Str := ["FIGURES",
  "MOST_FIGURES",
  "LINE",
  "NUMBER",
  "FORMS",
  "number_of",
  "part_of",
  "deed_of",
  "read",
  "_law_begun",
  "_law_take",
  "_law_alike",
  "_law_told",
  "_law_spoilt",
  "_law_number",
  "_law_name",
  "_law_due"]
def loose : List PySem.Str := loose0 ++ loose1
def tps : List (PySem.Str × List He.Dv) := []
def tAll : List PySem.Str := ["BadPlan", "BadBook", "BadText", "BadCount", "BadNotes", "BadName", "NoBox", "NoCard", "NoAccount", "NoAsk", "NoNotes", "Down", "Cut", "Linked", "Busy", "TooMuch"]
def tNm : List PySem.Str := ["BadText"]
def tOx : List (PySem.Str × List PySem.Str) := [("BadPlan", ["part", "number"]), ("BadBook", ["number"]), ("BadText", ["row"])]
def tDf : List (PySem.Str × Option PySem.Str) := [("law", none)]
def tKd_FORMS : List (PySem.Str × PySem.Str) := [("ask", "nwn"), ("alone", "nwn"), ("come", "n"), ("lose", "n"), ("twice", "n"), ("beat", "n"), ("cut", "n"), ("join", "n"), ("arm", "nn"), ("fall", "n"), ("rise", "n"), ("fill", "n*"), ("empty", "n"), ("stop", "w"), ("day", "")]
def tKd : List (PySem.Str × List (PySem.Str × PySem.Str)) := [("FORMS", tKd_FORMS)]
/-! ### a lean part of the heap: what the names reach, by kind -/
def kids (o : Obj) : List Addr := match o.data with
  | .dict es _ => es.toList.flatMap fun e => He.refV e.val
  | .func fd => He.refV fd.code ++ He.refV fd.defaults ++ He.refV fd.kwdefaults
  | .cls cd => [cd.ns]
  | _ => []
def pick (g : Addr → Option Obj) (as : List Addr) : List Addr := as.flatMap fun a => match g a with
  | some o => kids o
  | none => []
def asP (g : Addr → Option Obj) : Nat → List Addr → List Addr
  | 0, as => as
  | n + 1, as => as ++ asP g n (pick g as)
abbrev AlP : Type := He.AlD × Bool × Bool × List (Option (List (Option (PySem.Str × Int))))
def frP (g : Addr → Option Obj) : PySem.W.Frag := He.frT g (PySem.cStatics :: asP g 4 [mainGlobals])
def exB (K : PySem.W.Frag) : Bool := (tKd.all fun q => kdB K (He.ga K q.1) q.2) && ((tNm.all (isoB K tAll)) && decide ((tDf.map fun p => (He.cT K p).2).Nodup)) && ((tOx.all fun p => oxB K p.1 p.2) && tNm.all fun nm => !ownNm nm || xoB K nm)
def obsP (fa : List He.Fa) (fn : List He.DefD) (tps : List (PySem.Str × List He.Dv)) (g : Addr → Option Obj) : AlP := (He.obsD fa fn (frP g), tps.all (fun p => He.tupB (frP g) p.1 p.2), exB (frP g) && He.tabsB g tDf (frP g), tKd.map fun q => He.dicW (frP g) (He.ga (frP g) q.1))
def kdV (w : World) : List (Option (List (Option (PySem.Str × Int)))) := tKd.map fun q => some (He.keysIn w.params (q.2.map (·.1)))
structure SaysP (fa : List He.Fa) (fn : List He.DefD) (tps : List (PySem.Str × List He.Dv)) (w : World) (h : Heap) (K : PySem.W.Frag) : Prop where
  d : He.SaysD fa fn K
  tp : ∀ p ∈ tps, He.tupB K p.1 p.2 = true
  ex : exB K = true
  kd : (tKd.map fun q => He.dicW K (He.ga K q.1)) = kdV w
  hd : ∀ p ∈ tDf, PySem.W.codeHdIn K (He.cT K p).1 (He.cT K p).2 = true
  out : ∀ p ∈ tDf, K.lookup (He.cT K p).2 = none
  empty : ∀ p ∈ tDf, h.get? (He.cT K p).2 = some { cls := .none, data := .fields #[] }
theorem saysP_of {fa : List He.Fa} {fn : List He.DefD} {tps : List (PySem.Str × List He.Dv)} {w : World} {h : Heap} (e : obsP fa fn tps h.get? = (He.valD fn, true, true, kdV w)) : SaysP fa fn tps w h (frP h.get?) := by
  have e1 : He.obsD fa fn (frP h.get?) = He.valD fn := congrArg (fun z : AlP => z.1) e
  have e2 : tps.all (fun p => He.tupB (frP h.get?) p.1 p.2) = true := congrArg (fun z : AlP => z.2.1) e
  have e3 : (exB (frP h.get?) && He.tabsB h.get? tDf (frP h.get?)) = true := congrArg (fun z : AlP => z.2.2.1) e
  obtain ⟨h1, h2⟩ := Bool.and_eq_true_iff.mp e3
  have key : ∀ p ∈ tDf, PySem.W.codeHdIn (frP h.get?) (He.cT (frP h.get?) p).1 (He.cT (frP h.get?) p).2 = true ∧ ∃ o, h.get? (He.cT (frP h.get?) p).2 = some o ∧ He.emptyTab o = true := fun p hp => by
    obtain ⟨h3, h4⟩ := Bool.and_eq_true_iff.mp (List.all_eq_true.mp h2 p hp)
    refine ⟨h3, ?_⟩
    cases q : h.get? (He.cT (frP h.get?) p).2 with
    | none =>
      rw [q] at h4
      cases h4
    | some o =>
      rw [q] at h4
      exact ⟨o, rfl, h4⟩
  exact ⟨e1, List.all_eq_true.mp e2, h1, congrArg (fun z : AlP => z.2.2.2) e, fun p hp => (key p hp).1, fun p hp => by
    obtain ⟨_, o, q, z⟩ := key p hp
    exact He.frT_none q z, fun p hp => by
    obtain ⟨_, o, q, z⟩ := key p hp
    rw [q, He.emptyTab_eq z]⟩
def hookP (fa : List He.Fa) (fn : List He.DefD) (tps : List (PySem.Str × List He.Dv)) : PySem.W.Hook where
  α := AlP
  obs := fun s => obsP fa fn tps s.heap.get?
  val := fun w => (He.valD fn, true, true, kdV w)
  says := fun w h => ∃ K : PySem.W.Frag, K.In h ∧ SaysP fa fn tps w h K
  of := fun _ _ e => ⟨_, He.frT_in, saysP_of e⟩
  keeps := fun _ _ _ ⟨K, hK, c⟩ k => ⟨K, PySem.W.Frag.In.keeps hK k, ⟨c.d, c.tp, c.ex, c.kd, c.hd, c.out, fun p hp => k _ _ (c.empty p hp)⟩⟩
theorem obsP_eq {fa : List He.Fa} {fn : List He.DefD} {tps : List (PySem.Str × List He.Dv)} {g : Addr → Option Obj} {s : Shared} (h : ∀ a, g a = s.heap.get? a) : obsP fa fn tps g = (hookP fa fn tps).obs s := by
  have e : g = s.heap.get? := funext h
  subst e
  rfl
abbrev R : PySem.W.OpenRow := PySem.W.OpenLaw.row PySem.Challenge.rw_noteboxes_k13_texts_refused
abbrev hk : PySem.W.Hook := hookP fa fn tps
def ob (s : PySem.W.SharedT) : AlP := obsP fa fn tps (HandSHeadRun.getT s)
theorem ob_eq (s : PySem.W.SharedT) : ob s = hk.obs s.abs := obsP_eq (HandSHeadRun.getT_eq s)
theorem runB (b : Bool) (w0 w : World) (hw : w = w0.withFollow "special-get-raises" b) : HandSHeadRun.RunEq R (PySem.W.view R.prog [41]) hk ob 20000 loose w := by
  subst hw
  intro os
  cases b <;> kernel_rfl
theorem run (w : World) : HandSHeadRun.RunEq R (PySem.W.view R.prog [41]) hk ob 20000 loose w := runB (w.params.followText "special-get-raises") w w (World.withFollow_self ..).symm
/-! the tables -/
open Pyx
def tnT : List (Nat × PySem.Str) := [(3, "BadText")]
def tnX : Exn → Option D := tnOf tnT
def tNS0 : List (List PySem.Str × List PySem.Str) := [(["part", "sign"], ["part"]),
  (["word", "sign"], ["word"]),
  (["form", "word"], ["form", "word"]),
  (["words", "word", "rest", "numbers", "one", "form", "parts", "other"], ["words"]),
  (["text", "found", "row", "line", "deed"], ["text"]),
  (["_law_script", "_law_stirred", "_law_cell"], ["_law_script"]),
  (["_law_box", "_law_many", "_law_drawn"], ["_law_box", "_law_many"]),
  (["_law_found", "_law_due_here", "_law_k"], ["_law_found", "_law_due_here"]),
  (["_law_work", "e", "_law_kinds", "_law_words", "_law_word"], ["_law_work"]),
  (["_law_box", "_law_text", "_law_odd", "_law_rows", "_law_row", "_law_place", "_law_deed", "_law_at", "_law_word", "_law_some"], ["_law_box", "_law_text"]),
  (["_law_word", "_law_sign"], ["_law_word"]),
  (["_law_word", "_law_bad", "_law_sign"], ["_law_word"])]
def tNS1 : List (List PySem.Str × List PySem.Str) := [(["_law_text", "_law_forms", "_law_found", "_law_rows", "_law_place", "_law_words", "_law_parts", "_law_word", "_law_deed", "_law_form", "_law_k"], ["_law_text"]),
  (["_law_script", "_law_box", "_law_some", "_law_turn", "_law_rows", "_law_k", "_law_text", "_law_change", "_law_again"], ["_law_script"]),
  (["self", "part", "number"], ["self", "part", "number"]),
  (["self", "number"], ["self", "number"]),
  (["self", "row"], ["self", "row"])]
def tNS : List (List PySem.Str × List PySem.Str) := tNS0 ++ tNS1
def tAns : List PySem.Str := []
def tGls0 : List (PySem.Str × Gk) := [("is_name", .fn 0),
  ("number_of", .fn 1),
  ("part_of", .fn 2),
  ("deed_of", .fn 3),
  ("read", .fn 4),
  ("_law_begun", .fn 5),
  ("_law_take", .fn 6),
  ("_law_alike", .fn 7),
  ("_law_told", .told tnX),
  ("_law_spoilt", .fn 9),
  ("_law_number", .fn 10),
  ("_law_name", .fn 11),
  ("_law_due", .fn 12),
  ("law", .fn 13),
  ("LETTERS", .con (.str "abcdefghijklmnopqrstuvwxyz")),
  ("MOST_LETTERS", .con (.int 8))]
def tGls1 : List (PySem.Str × Gk) := [("FIGURES", .con (.str "0123456789")),
  ("MOST_FIGURES", .con (.int 5)),
  ("LINE", .con (.str "\n")),
  ("NUMBER", .con (.str "n")),
  ("FORMS", .kd tKd_FORMS),
  ("isinstance", .blt),
  ("int", .blt),
  ("bool", .blt),
  ("str", .blt),
  ("tuple", .blt),
  ("list", .blt),
  ("len", .blt),
  ("range", .blt),
  ("max", .blt),
  ("all", .blt),
  ("zip", .blt)]
def tGls2 : List (PySem.Str × Gk) := [("enumerate", .blt),
  ("ValueError", .blt),
  ("BoxError", .exc 0 false),
  ("BadPlan", .exo 1 ["part", "number"]),
  ("BadBook", .exo 2 ["number"]),
  ("BadText", .exo 3 ["row"]),
  ("BadCount", .exc 4 false),
  ("BadNotes", .exc 5 false),
  ("BadName", .exc 6 false),
  ("NoBox", .exc 7 false),
  ("NoCard", .exc 8 false),
  ("NoAccount", .exc 9 false),
  ("NoAsk", .exc 10 false),
  ("NoNotes", .exc 11 false),
  ("Down", .exc 12 false),
  ("Cut", .exc 13 false)]
def tGls3 : List (PySem.Str × Gk) := [("Linked", .exc 14 false),
  ("Busy", .exc 15 false),
  ("TooMuch", .exc 16 false)]
def tGls : List (PySem.Str × Gk) := tGls0 ++ tGls1 ++ tGls2 ++ tGls3
def tPls : List (Nat × Nat) := []
def tMts : List (Nat × Nat × Nat) := []
def tDfs : List (Nat × Nat × List D) := []
def tKws : List (Nat × List PySem.Str × Nat × (List D → List D → List D)) := []
def tHint (l c : Nat) : Nat := if l == 73 && c == 51 then 8 else if l == 76 && c == 12 then 1 else if l == 88 && c == 11 then 1 else if l == 88 && c == 12 then 1 else if l == 136 && c == 16 then 1 else if l == 149 && c == 45 then 5 else if l == 149 && c == 137 then 10 else if l == 150 && c == 11 then 9 else if l == 150 && c == 22 then 9 else if l == 161 && c == 29 then 1 else if l == 183 && c == 21 then 9 else 0
def tl : Tl where
  fa := fa
  fn := fn
  NS := tNS
  cls := []
  exs := ["BoxError", "BadPlan", "BadBook", "BadText", "BadCount", "BadNotes", "BadName", "NoBox", "NoCard", "NoAccount", "NoAsk", "NoNotes", "Down", "Cut", "Linked", "Busy", "TooMuch"]
  ans := tAns
  gls := tGls
  pls := tPls
  mts := tMts
  dfs := tDfs
  hint := tHint
  cats := [(0, 0), (1, 0), (2, 0), (3, 0), (4, 0), (5, 0), (6, 0), (7, 0), (8, 0), (9, 0), (10, 0), (11, 0), (12, 0), (13, 0), (14, 0), (15, 0), (16, 0)]
  kws := tKws
  kwf := []
  tps := tps
  mks := [13]
theorem tlGood : tl.Good := Tl.good (by kernel_rfl)
end Hd
namespace Hd
open PySem PySem.Spec PyProof.Rows L2 Pyx
section
variable {K : PySem.W.Frag}
theorem bind0 {fd : FuncData} {f : Addr} (F : FunD K (fn[0]'(by decide)).name (fn[0]'(by decide)).qual (fn[0]'(by decide)).params (fn[0]'(by decide)).body (fn[0]'(by decide)).scope [] [] f fd) : BindOk tl K 0 ["part"] fd :=
  bind_plain 0 ["part"] fd (by decide) rfl (F.bindsN fun _ _ _ _ _ _ us hl => match us, hl with | [_], _ => rfl)
theorem bind1 {fd : FuncData} {f : Addr} (F : FunD K (fn[1]'(by decide)).name (fn[1]'(by decide)).qual (fn[1]'(by decide)).params (fn[1]'(by decide)).body (fn[1]'(by decide)).scope [] [] f fd) : BindOk tl K 1 ["word"] fd :=
  bind_plain 1 ["word"] fd (by decide) rfl (F.bindsN fun _ _ _ _ _ _ us hl => match us, hl with | [_], _ => rfl)
theorem bind2 {fd : FuncData} {f : Addr} (F : FunD K (fn[2]'(by decide)).name (fn[2]'(by decide)).qual (fn[2]'(by decide)).params (fn[2]'(by decide)).body (fn[2]'(by decide)).scope [] [] f fd) : BindOk tl K 2 ["form", "word"] fd :=
  bind_plain 2 ["form", "word"] fd (by decide) rfl (F.bindsN fun _ _ _ _ _ _ us hl => match us, hl with | [_, _], _ => rfl)
theorem bind3 {fd : FuncData} {f : Addr} (F : FunD K (fn[3]'(by decide)).name (fn[3]'(by decide)).qual (fn[3]'(by decide)).params (fn[3]'(by decide)).body (fn[3]'(by decide)).scope [] [] f fd) : BindOk tl K 3 ["words"] fd :=
  bind_plain 3 ["words"] fd (by decide) rfl (F.bindsN fun _ _ _ _ _ _ us hl => match us, hl with | [_], _ => rfl)
theorem bind4 {fd : FuncData} {f : Addr} (F : FunD K (fn[4]'(by decide)).name (fn[4]'(by decide)).qual (fn[4]'(by decide)).params (fn[4]'(by decide)).body (fn[4]'(by decide)).scope [] [] f fd) : BindOk tl K 4 ["text"] fd :=
  bind_plain 4 ["text"] fd (by decide) rfl (F.bindsN fun _ _ _ _ _ _ us hl => match us, hl with | [_], _ => rfl)
theorem bind5 {fd : FuncData} {f : Addr} (F : FunD K (fn[5]'(by decide)).name (fn[5]'(by decide)).qual (fn[5]'(by decide)).params (fn[5]'(by decide)).body (fn[5]'(by decide)).scope [] [] f fd) : BindOk tl K 5 ["_law_script"] fd :=
  bind_plain 5 ["_law_script"] fd (by decide) rfl (F.bindsN fun _ _ _ _ _ _ us hl => match us, hl with | [_], _ => rfl)
theorem bind6 {fd : FuncData} {f : Addr} (F : FunD K (fn[6]'(by decide)).name (fn[6]'(by decide)).qual (fn[6]'(by decide)).params (fn[6]'(by decide)).body (fn[6]'(by decide)).scope [] [] f fd) : BindOk tl K 6 ["_law_box", "_law_many"] fd :=
  bind_plain 6 ["_law_box", "_law_many"] fd (by decide) rfl (F.bindsN fun _ _ _ _ _ _ us hl => match us, hl with | [_, _], _ => rfl)
theorem bind7 {fd : FuncData} {f : Addr} (F : FunD K (fn[7]'(by decide)).name (fn[7]'(by decide)).qual (fn[7]'(by decide)).params (fn[7]'(by decide)).body (fn[7]'(by decide)).scope [] [] f fd) : BindOk tl K 7 ["_law_found", "_law_due_here"] fd :=
  bind_plain 7 ["_law_found", "_law_due_here"] fd (by decide) rfl (F.bindsN fun _ _ _ _ _ _ us hl => match us, hl with | [_, _], _ => rfl)
theorem bind8 {fd : FuncData} {f : Addr} (F : FunD K (fn[8]'(by decide)).name (fn[8]'(by decide)).qual (fn[8]'(by decide)).params (fn[8]'(by decide)).body (fn[8]'(by decide)).scope [] [] f fd) : BindOk tl K 8 ["_law_work"] fd :=
  bind_plain 8 ["_law_work"] fd (by decide) rfl (F.bindsN fun _ _ _ _ _ _ us hl => match us, hl with | [_], _ => rfl)
theorem bind9 {fd : FuncData} {f : Addr} (F : FunD K (fn[9]'(by decide)).name (fn[9]'(by decide)).qual (fn[9]'(by decide)).params (fn[9]'(by decide)).body (fn[9]'(by decide)).scope [] [] f fd) : BindOk tl K 9 ["_law_box", "_law_text"] fd :=
  bind_plain 9 ["_law_box", "_law_text"] fd (by decide) rfl (F.bindsN fun _ _ _ _ _ _ us hl => match us, hl with | [_, _], _ => rfl)
theorem bind10 {fd : FuncData} {f : Addr} (F : FunD K (fn[10]'(by decide)).name (fn[10]'(by decide)).qual (fn[10]'(by decide)).params (fn[10]'(by decide)).body (fn[10]'(by decide)).scope [] [] f fd) : BindOk tl K 10 ["_law_word"] fd :=
  bind_plain 10 ["_law_word"] fd (by decide) rfl (F.bindsN fun _ _ _ _ _ _ us hl => match us, hl with | [_], _ => rfl)
theorem bind11 {fd : FuncData} {f : Addr} (F : FunD K (fn[11]'(by decide)).name (fn[11]'(by decide)).qual (fn[11]'(by decide)).params (fn[11]'(by decide)).body (fn[11]'(by decide)).scope [] [] f fd) : BindOk tl K 11 ["_law_word"] fd :=
  bind_plain 11 ["_law_word"] fd (by decide) rfl (F.bindsN fun _ _ _ _ _ _ us hl => match us, hl with | [_], _ => rfl)
theorem bind12 {fd : FuncData} {f : Addr} (F : FunD K (fn[12]'(by decide)).name (fn[12]'(by decide)).qual (fn[12]'(by decide)).params (fn[12]'(by decide)).body (fn[12]'(by decide)).scope [] [] f fd) : BindOk tl K 12 ["_law_text"] fd :=
  bind_plain 12 ["_law_text"] fd (by decide) rfl (F.bindsN fun _ _ _ _ _ _ us hl => match us, hl with | [_], _ => rfl)
theorem bind13 {fd : FuncData} {f : Addr} (F : FunD K (fn[13]'(by decide)).name (fn[13]'(by decide)).qual (fn[13]'(by decide)).params (fn[13]'(by decide)).body (fn[13]'(by decide)).scope [] [] f fd) : BindOk tl K 13 ["_law_script"] fd :=
  bind_plain 13 ["_law_script"] fd (by decide) rfl (F.bindsN fun _ _ _ _ _ _ us hl => match us, hl with | [_], _ => rfl)
theorem bind14 {fd : FuncData} {f : Addr} (F : FunD K (fn[14]'(by decide)).name (fn[14]'(by decide)).qual (fn[14]'(by decide)).params (fn[14]'(by decide)).body (fn[14]'(by decide)).scope [] [] f fd) : BindOk tl K 14 ["self", "part", "number"] fd :=
  bind_plain 14 ["self", "part", "number"] fd (by decide) rfl (F.bindsN fun _ _ _ _ _ _ us hl => match us, hl with | [_, _, _], _ => rfl)
theorem bind15 {fd : FuncData} {f : Addr} (F : FunD K (fn[15]'(by decide)).name (fn[15]'(by decide)).qual (fn[15]'(by decide)).params (fn[15]'(by decide)).body (fn[15]'(by decide)).scope [] [] f fd) : BindOk tl K 15 ["self", "number"] fd :=
  bind_plain 15 ["self", "number"] fd (by decide) rfl (F.bindsN fun _ _ _ _ _ _ us hl => match us, hl with | [_, _], _ => rfl)
theorem bind16 {fd : FuncData} {f : Addr} (F : FunD K (fn[16]'(by decide)).name (fn[16]'(by decide)).qual (fn[16]'(by decide)).params (fn[16]'(by decide)).body (fn[16]'(by decide)).scope [] [] f fd) : BindOk tl K 16 ["self", "row"] fd :=
  bind_plain 16 ["self", "row"] fd (by decide) rfl (F.bindsN fun _ _ _ _ _ _ us hl => match us, hl with | [_, _], _ => rfl)
theorem binding : Binding tl K := fun i d p fd hi hp F => match i, hi, hp with
  | 0, hi, hp => by
    have e := Option.some.inj hi
    have e2 := Option.some.inj hp
    subst e e2
    exact bind0 F
  | 1, hi, hp => by
    have e := Option.some.inj hi
    have e2 := Option.some.inj hp
    subst e e2
    exact bind1 F
  | 2, hi, hp => by
    have e := Option.some.inj hi
    have e2 := Option.some.inj hp
    subst e e2
    exact bind2 F
  | 3, hi, hp => by
    have e := Option.some.inj hi
    have e2 := Option.some.inj hp
    subst e e2
    exact bind3 F
  | 4, hi, hp => by
    have e := Option.some.inj hi
    have e2 := Option.some.inj hp
    subst e e2
    exact bind4 F
  | 5, hi, hp => by
    have e := Option.some.inj hi
    have e2 := Option.some.inj hp
    subst e e2
    exact bind5 F
  | 6, hi, hp => by
    have e := Option.some.inj hi
    have e2 := Option.some.inj hp
    subst e e2
    exact bind6 F
  | 7, hi, hp => by
    have e := Option.some.inj hi
    have e2 := Option.some.inj hp
    subst e e2
    exact bind7 F
  | 8, hi, hp => by
    have e := Option.some.inj hi
    have e2 := Option.some.inj hp
    subst e e2
    exact bind8 F
  | 9, hi, hp => by
    have e := Option.some.inj hi
    have e2 := Option.some.inj hp
    subst e e2
    exact bind9 F
  | 10, hi, hp => by
    have e := Option.some.inj hi
    have e2 := Option.some.inj hp
    subst e e2
    exact bind10 F
  | 11, hi, hp => by
    have e := Option.some.inj hi
    have e2 := Option.some.inj hp
    subst e e2
    exact bind11 F
  | 12, hi, hp => by
    have e := Option.some.inj hi
    have e2 := Option.some.inj hp
    subst e e2
    exact bind12 F
  | 13, hi, hp => by
    have e := Option.some.inj hi
    have e2 := Option.some.inj hp
    subst e e2
    exact bind13 F
  | 14, hi, hp => by
    have e := Option.some.inj hi
    have e2 := Option.some.inj hp
    subst e e2
    exact bind14 F
  | 15, hi, hp => by
    have e := Option.some.inj hi
    have e2 := Option.some.inj hp
    subst e e2
    exact bind15 F
  | 16, hi, hp => by
    have e := Option.some.inj hi
    have e2 := Option.some.inj hp
    subst e e2
    exact bind16 F
  | n + 17, hi, _ => by cases hi
theorem kwBinding : KwBinding tl K := fun i d p fd hi hp F ks n gD e X hX => by
  cases (show (none : Option (List D → List D → List D)) = some gD from e)
end
end Hd
namespace Hd
open PySem PySem.Spec PyProof.Rows L2 Pyx
abbrev F_is_name : Nat := 0
abbrev F_number_of : Nat := 1
abbrev F_part_of : Nat := 2
abbrev F_deed_of : Nat := 3
abbrev F_read : Nat := 4
abbrev F__law_begun : Nat := 5
abbrev F__law_take : Nat := 6
abbrev F__law_alike : Nat := 7
abbrev F__law_told : Nat := 8
abbrev F__law_spoilt : Nat := 9
abbrev F__law_number : Nat := 10
abbrev F__law_name : Nat := 11
abbrev F__law_due : Nat := 12
abbrev F_law : Nat := 13
abbrev F_BadPlan_init : Nat := 14
abbrev F_BadBook_init : Nat := 15
abbrev F_BadText_init : Nat := 16
abbrev X_BoxError : Nat := 0
abbrev X_BadPlan : Nat := 1
abbrev X_BadBook : Nat := 2
abbrev X_BadText : Nat := 3
abbrev X_BadCount : Nat := 4
abbrev X_BadNotes : Nat := 5
abbrev X_BadName : Nat := 6
abbrev X_NoBox : Nat := 7
abbrev X_NoCard : Nat := 8
abbrev X_NoAccount : Nat := 9
abbrev X_NoAsk : Nat := 10
abbrev X_NoNotes : Nat := 11
abbrev X_Down : Nat := 12
abbrev X_Cut : Nat := 13
abbrev X_Linked : Nat := 14
abbrev X_Busy : Nat := 15
abbrev X_TooMuch : Nat := 16
def bd_is_name (G : Fn) : SM := seqM (retM (andV (isiM ("str") (varM 0)) (andV (chainM leD leD (cM (.int 1)) (calM lenF (consM (varM 0) nilM)) (cM (.int 8))) (calM allF (consM (lcM none ([1]) (seqI (varM 0)) (gNm 1) yesM (binM ((inD false)) (varM 1) (cM (.str "abcdefghijklmnopqrstuvwxyz")))) nilM))))) skipM
theorem mn_is_name (j : Nat) : tl.mean (j + 1) F_is_name = defX 2 (bd_is_name (tl.mean j)) := by kernel_rfl
def bd_number_of (G : Fn) : SM := seqM (ifS (orM (notM (tstM (chainM leD leD (cM (.int 1)) (calM lenF (consM (varM 0) nilM)) (cM (.int 5))))) (notM (tstM (calM allF (consM (lcM none ([1]) (seqI (varM 0)) (gNm 1) yesM (binM ((inD false)) (varM 1) (cM (.str "0123456789")))) nilM))))) (seqM (retM (cM .non)) skipM) skipM) (seqM (retM (ifM (orM (tstM (binM eqD (varM 0) (cM (.str "0")))) (tstM (binM neD (subM (varM 0) (cM (.int 0))) (cM (.str "0"))))) (calM intF (consM (varM 0) nilM)) (cM .non))) skipM)
theorem mn_number_of (j : Nat) : tl.mean (j + 1) F_number_of = defX 2 (bd_number_of (tl.mean j)) := by kernel_rfl
def bd_part_of (G : Fn) : SM := seqM (ifS (tstM (binM eqD (varM 0) (cM (.str "n")))) (seqM (retM (callM 1 ([]) (G F_number_of) (consM (varM 1) nilM))) skipM) skipM) (seqM (retM (ifM (tstM (callM 1 ([]) (G F_is_name) (consM (varM 1) nilM))) (varM 1) (cM .non))) skipM)
theorem mn_part_of (j : Nat) : tl.mean (j + 1) F_part_of = defX 2 (bd_part_of (tl.mean j)) := by kernel_rfl
def bd_deed_of (G : Fn) : SM := seqM (asgM (gTp 2 (gsCons (gNm 1) (gsCons (gNm 2) gsNil))) (tupM (consM (subM (varM 0) (cM (.int 0))) (consM (sliceM (varM 0) (partM (cM (.int 1))) noPart) nilM)))) (seqM (ifS (tstM (kdInM true tKd_FORMS (varM 1))) (seqM (retM (cM .non)) skipM) skipM) (seqM (ifS (tstM (binM eqD (varM 1) (cM (.str "fill")))) (seqM (asgM (gNm 3) (lcM none ([4]) (seqI (varM 2)) (gNm 4) yesM (callM 1 ([]) (G F_number_of) (consM (varM 4) nilM)))) (seqM (retM (ifM (orM (tstM (binM ((inD false)) (cM .non) (varM 3))) (tstM (binM ltD (calM lenF (consM (varM 3) nilM)) (cM (.int 2))))) (cM .non) (tupM (consM (varM 1) (consM (subM (varM 3) (cM (.int 0))) (consM (calM tupF (consM (sliceM (varM 3) (partM (cM (.int 1))) noPart) nilM)) nilM)))))) skipM)) skipM) (seqM (asgM (gNm 5) (kdIxM tKd_FORMS (varM 1))) (seqM (asgM (gNm 6) (lcM none ([4, 7]) (zipSI (consM (varM 5) (consM (varM 2) nilM))) (gTp 2 (gsCons (gNm 4) (gsCons (gNm 7) gsNil))) yesM (callM 2 ([]) (G F_part_of) (consM (varM 4) (consM (varM 7) nilM))))) (seqM (retM (ifM (orM (tstM (binM neD (calM lenF (consM (varM 2) nilM)) (calM lenF (consM (varM 5) nilM)))) (tstM (binM ((inD false)) (cM .non) (varM 6)))) (cM .non) (calM tupF (consM (binM addD (lstM (consM (varM 1) nilM)) (varM 6)) nilM)))) skipM)))))
theorem mn_deed_of (j : Nat) : tl.mean (j + 1) F_deed_of = defX 8 (bd_deed_of (tl.mean j)) := by kernel_rfl
def bd_read_body1 (G : Fn) : SM := seqM (asgM (gNm 4) (callM 1 ([]) (G F_deed_of) (consM (bmM 0 splG (varM 3) (consM (cM (.str " ")) nilM)) nilM))) (seqM (ifS (tstM (binM isND (varM 4) (cM .non))) (seqM (raiseOM X_BadText (["row"]) (consM (varM 2) nilM)) skipM) skipM) (seqM (exprM (bmM 1 appG (varM 1) (consM (varM 4) nilM))) skipM))
def bd_read_for2 (G : Fn) : SM := forM (enumI2 (consM (ifM (tstM (binM neD (varM 0) (cM (.str "")))) (bmM 0 splG (varM 0) (consM (cM (.str "\n")) nilM)) (lstM nilM)) nilM)) (gTp 2 (gsCons (gNm 2) (gsCons (gNm 3) gsNil))) (bd_read_body1 G)
def bd_read (G : Fn) : SM := seqM (asgM (gNm 1) (lstC none nilM)) (seqM (bd_read_for2 G) (seqM (retM (varM 1)) skipM))
theorem mn_read (j : Nat) : tl.mean (j + 1) F_read = defX 5 (bd_read (tl.mean j)) := by kernel_rfl
def bd__law_begun_body1 (G : Fn) : SM := seqM (asgM (gNm 1) (binM modD (binM addD (binM addD (binM mulD (varM 1) (cM (.int 48271))) (binM mulD (varM 2) (cM (.int 69621)))) (cM (.int 11))) (cM (.int 2147483647)))) skipM
def bd__law_begun_for2 (G : Fn) : SM := forM (seqI (varM 0)) (gNm 2) (bd__law_begun_body1 G)
def bd__law_begun (G : Fn) : SM := seqM (asgM (gNm 1) (cM (.int 0))) (seqM (bd__law_begun_for2 G) (seqM (retM (lstC none (consM (listC none (varM 0)) (consM (binM mulD (varM 1) (calM intF (consM (binM gtD (calM lenF (consM (varM 0) nilM)) (cM (.int 2))) nilM))) nilM)))) skipM))
theorem mn__law_begun (j : Nat) : tl.mean (j + 1) F__law_begun = defX 3 (bd__law_begun (tl.mean j)) := by kernel_rfl
def bd__law_take (G : Fn) : SM := seqM (ifS (tstM (binM eqD (subM (varM 0) (cM (.int 0))) (lstM nilM))) (seqM (putM (varM 0) (cM (.int 1)) (binM modD (binM mulD (subM (varM 0) (cM (.int 1))) (cM (.int 48271))) (cM (.int 2147483647)))) (seqM (retM (binM modD (binM fdivD (subM (varM 0) (cM (.int 1))) (cM (.int 7))) (varM 1))) skipM)) skipM) (seqM (asgM (gNm 2) (subM (subM (varM 0) (cM (.int 0))) (cM (.int 0)))) (seqM (putM (subM (varM 0) (cM (.int 0))) (cM (.int 0)) (binM fdivD (varM 2) (varM 1))) (seqM (ifS (orM (tstM (binM eqD (subM (subM (varM 0) (cM (.int 0))) (cM (.int 0))) (cM (.int 0)))) (tstM (binM eqD (subM (subM (varM 0) (cM (.int 0))) (cM (.int 0))) (negM (cM (.int 1)))))) (seqM (exprM (bmM 1 popG (subM (varM 0) (cM (.int 0))) (consM (cM (.int 0)) nilM))) skipM) skipM) (seqM (retM (binM modD (varM 2) (varM 1))) skipM))))
theorem mn__law_take (j : Nat) : tl.mean (j + 1) F__law_take = defX 3 (bd__law_take (tl.mean j)) := by kernel_rfl
def bd__law_alike_body1 (G : Fn) : SM := seqM (ifS (notM (tstM (callM 2 ([]) (G F__law_alike) (consM (subM (varM 0) (varM 2)) (consM (subM (varM 1) (varM 2)) nilM))))) (seqM (retM (cM (.bl false))) skipM) skipM) skipM
def bd__law_alike_for2 (G : Fn) : SM := forM (rng1I (consM (calM lenF (consM (varM 1) nilM)) nilM)) (gNm 2) (bd__law_alike_body1 G)
def bd__law_alike (G : Fn) : SM := seqM (ifS (tstM (binM isND (varM 1) (cM .non))) (seqM (retM (binM isND (varM 0) (cM .non))) skipM) skipM) (seqM (ifS (tstM (isiM ("bool") (varM 1))) (seqM (retM (andV (isiM ("bool") (varM 0)) (binM eqD (varM 0) (varM 1)))) skipM) skipM) (seqM (ifS (tstM (isiM ("int") (varM 1))) (seqM (retM (andV (isiM ("int") (varM 0)) (andV (notV (isiM ("bool") (varM 0))) (binM eqD (varM 0) (varM 1))))) skipM) skipM) (seqM (ifS (tstM (isiM ("str") (varM 1))) (seqM (retM (andV (isiM ("str") (varM 0)) (binM eqD (varM 0) (varM 1)))) skipM) skipM) (seqM (ifS (orM (tstM (binM neD (isiM ("tuple") (varM 1)) (isiM ("tuple") (varM 0)))) (tstM (binM neD (isiM ("list") (varM 1)) (isiM ("list") (varM 0))))) (seqM (retM (cM (.bl false))) skipM) skipM) (seqM (ifS (tstM (binM neD (calM lenF (consM (varM 0) nilM)) (calM lenF (consM (varM 1) nilM)))) (seqM (retM (cM (.bl false))) skipM) skipM) (seqM (bd__law_alike_for2 G) (seqM (retM (cM (.bl true))) skipM)))))))
theorem mn__law_alike (j : Nat) : tl.mean (j + 1) F__law_alike = defX 3 (bd__law_alike (tl.mean j)) := by kernel_rfl
def bd__law_told (G : Fn) : SM := seqM badS skipM
theorem mn__law_told (j : Nat) : tl.mean (j + 1) F__law_told = defX 5 (bd__law_told (tl.mean j)) := by kernel_rfl
def bd__law_spoilt (G : Fn) : SM := seqM (asgM (gNm 2) (lstM (consM (cM (.str "ask")) (consM (cM (.str "fill")) (consM (cM (.str "come")) (consM (cM (.str "day")) (consM (cM (.str "stop")) (consM (cM (.str "0")) (consM (cM (.str "1")) (consM (cM (.str "00")) (consM (cM (.str "07")) (consM (cM (.str "99999")) (consM (cM (.str "100000")) (consM (cM (.str "-1")) (consM (cM (.str "")) (consM (cM (.str "x")) (consM (cM (.str "A")) (consM (cM (.str "a1")) nilM)))))))))))))))))) (seqM (asgM (gNm 2) (binM addD (varM 2) (lstM (consM (cM (.str "abcdefghi")) (consM (cM (.str "abcdefgh")) (consM (cM (.str "Ask")) (consM (cM (.str "1,2")) (consM (cM (.str "000")) nilM)))))))) (seqM (asgM (gNm 3) (lcM ((some none)) ([4]) (seqI (bmM 0 splG (varM 1) (consM (cM (.str "\n")) nilM))) (gNm 4) yesM (bmM 0 splG (varM 4) (consM (cM (.str " ")) nilM)))) (seqM (asgM (gTp 2 (gsCons (gNm 5) (gsCons (gNm 6) gsNil))) (tupM (consM (callM 2 ([]) (G F__law_take) (consM (varM 0) (consM (calM lenF (consM (varM 3) nilM)) nilM))) (consM (callM 2 ([]) (G F__law_take) (consM (varM 0) (consM (cM (.int 7)) nilM))) nilM)))) (seqM (asgM (gNm 4) (subM (varM 3) (varM 5))) (seqM (asgM (gTp 2 (gsCons (gNm 7) (gsCons (gNm 8) gsNil))) (tupM (consM (callM 2 ([]) (G F__law_take) (consM (varM 0) (consM (binM addD (calM lenF (consM (varM 4) nilM)) (cM (.int 1))) nilM))) (consM (subM (varM 2) (callM 2 ([]) (G F__law_take) (consM (varM 0) (consM (cM (.int 21)) nilM)))) nilM)))) (seqM (ifS (tstM (binM ltD (varM 6) (cM (.int 3)))) (seqM (putM (varM 3) (varM 5) (binM addD (binM addD (sliceM (varM 4) noPart (partM (varM 7))) (lstM (consM (varM 8) nilM))) (sliceM (varM 4) (partM (binM addD (varM 7) (binM fdivD (varM 6) (cM (.int 2))))) noPart))) skipM) (seqM (ifS (tstM (binM eqD (varM 6) (cM (.int 3)))) (seqM (putM (varM 3) (varM 5) (binM addD (sliceM (varM 4) noPart (partM (varM 7))) (sliceM (varM 4) (partM (binM addD (varM 7) (cM (.int 1)))) noPart))) skipM) (seqM (ifS (tstM (binM eqD (varM 6) (cM (.int 4)))) (seqM (putM (varM 3) (varM 5) (binM addD (sliceM (varM 4) noPart (partM (varM 7))) (sliceM (varM 4) (partM (calM maxF (consM (cM (.int 0)) (consM (binM subD (varM 7) (cM (.int 1))) nilM)))) noPart))) skipM) (seqM (ifS (tstM (binM eqD (varM 6) (cM (.int 5)))) (seqM (asgM (gNm 3) (binM addD (binM addD (sliceM (varM 3) noPart (partM (varM 5))) (lstM (consM (sliceM (varM 4) noPart (partM (varM 7))) (consM (sliceM (varM 4) (partM (varM 7)) noPart) nilM)))) (sliceM (varM 3) (partM (binM addD (varM 5) (cM (.int 1)))) noPart))) skipM) (seqM (asgM (gNm 3) (ifM (tstM (binM gtD (calM lenF (consM (varM 3) nilM)) (cM (.int 1)))) (binM addD (binM addD (sliceM (varM 3) noPart (partM (varM 5))) (repF (lstM (consM (varM 4) nilM)) (callM 2 ([]) (G F__law_take) (consM (varM 0) (consM (cM (.int 3)) nilM))))) (sliceM (varM 3) (partM (binM addD (varM 5) (cM (.int 1)))) noPart)) (addTop (varM 3) (lstM (consM (varM 4) nilM))))) skipM)) skipM)) skipM)) skipM)) (seqM (retM (bmM 0 joiG (cM (.str "\n")) (consM (lcM none ([9]) (seqI (varM 3)) (gNm 9) yesM (bmM 0 joiG (cM (.str " ")) (consM (varM 9) nilM))) nilM))) skipM)))))))
theorem mn__law_spoilt (j : Nat) : tl.mean (j + 1) F__law_spoilt = defX 10 (bd__law_spoilt (tl.mean j)) := by kernel_rfl
def bd__law_number (G : Fn) : SM := seqM (ifS (orM (notM (tstM (chainM leD leD (cM (.int 1)) (calM lenF (consM (varM 0) nilM)) (cM (.int 5))))) (tstM (binM neD (lcM none ([1]) (seqI (varM 0)) (gNm 1) (tstM (binM ((inD true)) (varM 1) (cM (.str "0123456789")))) (varM 1)) (lstM nilM)))) (seqM (retM (cM .non)) skipM) skipM) (seqM (retM (ifM (andM (tstM (binM eqD (subM (varM 0) (cM (.int 0))) (cM (.str "0")))) (tstM (binM neD (varM 0) (cM (.str "0"))))) (cM .non) (calM intF (consM (varM 0) nilM)))) skipM)
theorem mn__law_number (j : Nat) : tl.mean (j + 1) F__law_number = defX 2 (bd__law_number (tl.mean j)) := by kernel_rfl
def bd__law_name (G : Fn) : SM := seqM (asgM (gNm 1) (lcM none ([2]) (seqI (varM 0)) (gNm 2) (tstM (binM ((inD true)) (varM 2) (cM (.str "abcdefghijklmnopqrstuvwxyz")))) (varM 2))) (seqM (retM (ifM (andM (tstM (chainM leD leD (cM (.int 1)) (calM lenF (consM (varM 0) nilM)) (cM (.int 8)))) (tstM (binM eqD (varM 1) (lstM nilM)))) (varM 0) (cM .non))) skipM)
theorem mn__law_name (j : Nat) : tl.mean (j + 1) F__law_name = defX 3 (bd__law_name (tl.mean j)) := by kernel_rfl
def bd__law_due_body1 (G : Fn) : SM := seqM (asgM (gNm 5) (bmM 0 splG (subM (varM 3) (varM 4)) (consM (cM (.str " ")) nilM))) (seqM (ifS (andM (tstM (binM eqD (subM (varM 5) (cM (.int 0))) (cM (.str "fill")))) (tstM (binM gtD (calM lenF (consM (varM 5) nilM)) (cM (.int 2))))) (seqM (asgM (gNm 6) (lcM none ([7]) (seqI (sliceM (varM 5) (partM (cM (.int 1))) noPart)) (gNm 7) yesM (callM 1 ([]) (G F__law_number) (consM (varM 7) nilM)))) (seqM (asgM (gNm 8) (ifM (tstM (binM ((inD false)) (cM .non) (varM 6))) (cM .non) (tupM (consM (cM (.str "fill")) (consM (subM (varM 6) (cM (.int 0))) (consM (calM tupF (consM (sliceM (varM 6) (partM (cM (.int 1))) noPart) nilM)) nilM)))))) skipM)) (seqM (ifS (orM (tstM (binM ((inD true)) (subM (varM 5) (cM (.int 0))) (varM 1))) (tstM (binM neD (calM lenF (consM (varM 5) nilM)) (binM addD (calM lenF (consM (subM (varM 1) (subM (varM 5) (cM (.int 0)))) nilM)) (cM (.int 1)))))) (seqM (asgM (gNm 8) (cM .non)) skipM) (seqM (asgM (gNm 9) (subM (varM 1) (subM (varM 5) (cM (.int 0))))) (seqM (asgM (gNm 6) (lcM none ([10]) (rng1I (consM (calM lenF (consM (varM 9) nilM)) nilM)) (gNm 10) yesM (ifM (tstM (binM eqD (subM (varM 9) (varM 10)) (cM (.str "n")))) (callM 1 ([]) (G F__law_number) (consM (subM (varM 5) (binM addD (varM 10) (cM (.int 1)))) nilM)) (callM 1 ([]) (G F__law_name) (consM (subM (varM 5) (binM addD (varM 10) (cM (.int 1)))) nilM))))) (seqM (asgM (gNm 8) (ifM (tstM (binM ((inD false)) (cM .non) (varM 6))) (cM .non) (calM tupF (consM (binM addD (sliceM (varM 5) noPart (partM (cM (.int 1)))) (varM 6)) nilM)))) skipM)))) skipM)) (seqM (ifS (tstM (binM isND (varM 8) (cM .non))) (seqM (retM (tupM (consM (cM (.str "BadText")) (consM (varM 4) nilM)))) skipM) skipM) (seqM (exprM (bmM 1 appG (varM 2) (consM (varM 8) nilM))) skipM)))
def bd__law_due_for2 (G : Fn) : SM := forM (rng1I (consM (calM lenF (consM (varM 3) nilM)) nilM)) (gNm 4) (bd__law_due_body1 G)
def bd__law_due (G : Fn) : SM := seqM (asgM (gNm 1) (dispM none ([("ask", "nwn"), ("alone", "nwn"), ("come", "n"), ("lose", "n"), ("twice", "n"), ("beat", "n"), ("cut", "n"), ("join", "n")]))) (seqM (exprM (bmM 2 updG (varM 1) (consM (dispM none ([("arm", "nn"), ("fall", "n"), ("rise", "n"), ("empty", "n"), ("stop", "w"), ("day", "")])) nilM))) (seqM (asgM (gTp 2 (gsCons (gNm 2) (gsCons (gNm 3) gsNil))) (tupM (consM (lstC none nilM) (consM (ifM (tstM (binM neD (varM 0) (cM (.str "")))) (bmM 0 splG (varM 0) (consM (cM (.str "\n")) nilM)) (lstM nilM)) nilM)))) (seqM (bd__law_due_for2 G) (seqM (retM (varM 2)) skipM))))
theorem mn__law_due (j : Nat) : tl.mean (j + 1) F__law_due = defX 11 (bd__law_due (tl.mean j)) := by kernel_rfl
def bd_law_body1 (G : Fn) : SM := seqM (ifS (notM (tstM (callM 2 ([]) (G F__law_alike) (consM (toldM 0 tnX (callM 1 ([]) (G F_read) (consM (varM 6) nilM))) (consM (callM 1 ([]) (G F__law_due) (consM (varM 6) nilM)) nilM))))) (seqM (retM (cM (.bl false))) skipM) skipM) skipM
def bd_law_for2 (G : Fn) : SM := forM (rng1I (consM (cM (.int 2)) nilM)) (gNm 8) (bd_law_body1 G)
def bd_law_body3 (G : Fn) : SM := seqM (asgM (gNm 6) (callM 2 ([]) (G F__law_spoilt) (consM (varM 1) (consM (varM 6) nilM)))) skipM
def bd_law_for4 (G : Fn) : SM := forM (rng1I (consM (callM 2 ([]) (G F__law_take) (consM (varM 1) (consM (cM (.int 5)) nilM))) nilM)) (gNm 7) (bd_law_body3 G)
def bd_law_body5 (G : Fn) : SM := seqM (asgM (gNm 4) (lcM none ([5]) (rng1I (consM (binM addD (cM (.int 1)) (callM 2 ([]) (G F__law_take) (consM (varM 1) (consM (cM (.int 8)) nilM)))) nilM)) (gNm 5) yesM (subM (varM 2) (callM 2 ([]) (G F__law_take) (consM (varM 1) (consM (cM (.int 16)) nilM)))))) (seqM (asgM (gNm 6) (subM (lstM (consM (bmM 0 joiG (cM (.str "\n")) (consM (varM 4) nilM)) (consM (cM (.str "")) (consM (cM (.str " ")) (consM (cM (.str "\n")) nilM))))) (binM mulD (binM fdivD (callM 2 ([]) (G F__law_take) (consM (varM 1) (consM (cM (.int 8)) nilM))) (cM (.int 5))) (callM 2 ([]) (G F__law_take) (consM (varM 1) (consM (cM (.int 4)) nilM)))))) (seqM (bd_law_for4 G) (seqM (bd_law_for2 G) skipM)))
def bd_law_for6 (G : Fn) : SM := forM (rng1I (consM (cM (.int 4)) nilM)) (gNm 3) (bd_law_body5 G)
def bd_law (G : Fn) : SM := seqM (asgM (gNm 1) (callM 1 ([]) (G F__law_begun) (consM (varM 0) nilM))) (seqM (asgM (gNm 2) (lstM (consM (cM (.str "ask 0 x 20")) (consM (cM (.str "alone 1 abcdefgh 99999")) (consM (cM (.str "come 0")) (consM (cM (.str "lose 3")) (consM (cM (.str "twice 2")) (consM (cM (.str "beat 0")) (consM (cM (.str "cut 1")) (consM (cM (.str "join 1")) nilM)))))))))) (seqM (asgM (gNm 2) (binM addD (varM 2) (lstM (consM (cM (.str "arm 0 3")) (consM (cM (.str "fall 0")) (consM (cM (.str "rise 0")) (consM (cM (.str "fill 0 1 2 3 4 5 6")) (consM (cM (.str "fill 2 99")) (consM (cM (.str "empty 0")) (consM (cM (.str "stop x")) (consM (cM (.str "day")) nilM))))))))))) (seqM (bd_law_for6 G) (seqM (retM (cM (.bl true))) skipM))))
theorem mn_law (j : Nat) : tl.mean (j + 1) F_law = defX 9 (bd_law (tl.mean j)) := by kernel_rfl
def bd_BadPlan_init (G : Fn) : SM := seqM (exprM badE) (seqM badS (seqM badS skipM))
theorem mn_BadPlan_init (j : Nat) : tl.mean (j + 1) F_BadPlan_init = defX 3 (bd_BadPlan_init (tl.mean j)) := by kernel_rfl
def bd_BadBook_init (G : Fn) : SM := seqM (exprM badE) (seqM badS skipM)
theorem mn_BadBook_init (j : Nat) : tl.mean (j + 1) F_BadBook_init = defX 2 (bd_BadBook_init (tl.mean j)) := by kernel_rfl
def bd_BadText_init (G : Fn) : SM := seqM (exprM badE) (seqM badS skipM)
theorem mn_BadText_init (j : Nat) : tl.mean (j + 1) F_BadText_init = defX 2 (bd_BadText_init (tl.mean j)) := by kernel_rfl
theorem np_is_name : tl.np F_is_name = 1 := by kernel_rfl
theorem df_is_name : tl.tb.df F_is_name 1 = some [] := by kernel_rfl
theorem np_number_of : tl.np F_number_of = 1 := by kernel_rfl
theorem df_number_of : tl.tb.df F_number_of 1 = some [] := by kernel_rfl
theorem np_part_of : tl.np F_part_of = 2 := by kernel_rfl
theorem df_part_of : tl.tb.df F_part_of 2 = some [] := by kernel_rfl
theorem np_deed_of : tl.np F_deed_of = 1 := by kernel_rfl
theorem df_deed_of : tl.tb.df F_deed_of 1 = some [] := by kernel_rfl
theorem np_read : tl.np F_read = 1 := by kernel_rfl
theorem df_read : tl.tb.df F_read 1 = some [] := by kernel_rfl
theorem np__law_begun : tl.np F__law_begun = 1 := by kernel_rfl
theorem df__law_begun : tl.tb.df F__law_begun 1 = some [] := by kernel_rfl
theorem np__law_take : tl.np F__law_take = 2 := by kernel_rfl
theorem df__law_take : tl.tb.df F__law_take 2 = some [] := by kernel_rfl
theorem np__law_alike : tl.np F__law_alike = 2 := by kernel_rfl
theorem df__law_alike : tl.tb.df F__law_alike 2 = some [] := by kernel_rfl
theorem np__law_told : tl.np F__law_told = 1 := by kernel_rfl
theorem df__law_told : tl.tb.df F__law_told 1 = some [] := by kernel_rfl
theorem np__law_spoilt : tl.np F__law_spoilt = 2 := by kernel_rfl
theorem df__law_spoilt : tl.tb.df F__law_spoilt 2 = some [] := by kernel_rfl
theorem np__law_number : tl.np F__law_number = 1 := by kernel_rfl
theorem df__law_number : tl.tb.df F__law_number 1 = some [] := by kernel_rfl
theorem np__law_name : tl.np F__law_name = 1 := by kernel_rfl
theorem df__law_name : tl.tb.df F__law_name 1 = some [] := by kernel_rfl
theorem np__law_due : tl.np F__law_due = 1 := by kernel_rfl
theorem df__law_due : tl.tb.df F__law_due 1 = some [] := by kernel_rfl
theorem np_law : tl.np F_law = 1 := by kernel_rfl
theorem df_law : tl.tb.df F_law 1 = some [] := by kernel_rfl
theorem np_BadPlan_init : tl.np F_BadPlan_init = 3 := by kernel_rfl
theorem df_BadPlan_init : tl.tb.df F_BadPlan_init 3 = some [] := by kernel_rfl
theorem np_BadBook_init : tl.np F_BadBook_init = 2 := by kernel_rfl
theorem df_BadBook_init : tl.tb.df F_BadBook_init 2 = some [] := by kernel_rfl
theorem np_BadText_init : tl.np F_BadText_init = 2 := by kernel_rfl
theorem df_BadText_init : tl.tb.df F_BadText_init 2 = some [] := by kernel_rfl
theorem cat_BadPlan : tl.cat X_BadPlan X_BoxError = true := by kernel_rfl
theorem cat_BadBook : tl.cat X_BadBook X_BoxError = true := by kernel_rfl
theorem cat_BadText : tl.cat X_BadText X_BoxError = true := by kernel_rfl
theorem cat_BadCount : tl.cat X_BadCount X_BoxError = true := by kernel_rfl
theorem cat_BadNotes : tl.cat X_BadNotes X_BoxError = true := by kernel_rfl
theorem cat_BadName : tl.cat X_BadName X_BoxError = true := by kernel_rfl
theorem cat_NoBox : tl.cat X_NoBox X_BoxError = true := by kernel_rfl
theorem cat_NoCard : tl.cat X_NoCard X_BoxError = true := by kernel_rfl
theorem cat_NoAccount : tl.cat X_NoAccount X_BoxError = true := by kernel_rfl
theorem cat_NoAsk : tl.cat X_NoAsk X_BoxError = true := by kernel_rfl
theorem cat_NoNotes : tl.cat X_NoNotes X_BoxError = true := by kernel_rfl
theorem cat_Down : tl.cat X_Down X_BoxError = true := by kernel_rfl
theorem cat_Cut : tl.cat X_Cut X_BoxError = true := by kernel_rfl
theorem cat_Linked : tl.cat X_Linked X_BoxError = true := by kernel_rfl
theorem cat_Busy : tl.cat X_Busy X_BoxError = true := by kernel_rfl
theorem cat_TooMuch : tl.cat X_TooMuch X_BoxError = true := by kernel_rfl
end Hd
namespace Hd
open PySem PySem.Spec PyProof.Rows L2 Pyx LamX
def hSuite : List Stmt → List Stmt
  | [.Try _ [.ExceptHandler _ _ s _] _ _ _] => s
  | _ => []
def tdS : List Stmt := hSuite (fn[8]'(by decide)).body
def tdN : List PySem.Str := ["_law_work", "e", "_law_kinds", "_law_words", "_law_word"]
theorem td_body : (fn[8]'(by decide)).body = [.Try [.Return (some (.Call (.Name "_law_work" ⟨117, 15, 117, 24⟩) [] [] ⟨117, 15, 117, 26⟩)) ⟨117, 8, 117, 26⟩] [.ExceptHandler (some (.Name "BoxError" ⟨118, 11, 118, 19⟩)) (some "e") (tdS.getD 0 (.Pass ⟨0, 0, 0, 0⟩) :: tdS.drop 1) ⟨118, 4, 132, 66⟩] [] [] ⟨116, 4, 132, 66⟩] := by kernel_rfl
theorem td_ev (k : Nat) (nm : PySem.Str) (hm : (k, nm) ∈ tnT) (aa : Xa) (S : Sto) (r : D) (hr : tnX1 nm (aa.2.map (·.2)) = some r) : hBody ⟨(fn[8]'(by decide)).scope, tdN, "e", 1, isBf tAll nm⟩ aa (tdS.getD 0 (.Pass ⟨0, 0, 0, 0⟩) :: tdS.drop 1) ((List.replicate tdN.length none).set 1 (some (.xv aa.1 aa.2))) S = .rt r S := by
  simp only [tnT, List.mem_cons, Prod.mk.injEq, List.not_mem_nil, or_false] at hm
  rcases hm with ⟨rfl, rfl⟩
  · have e : hBody ⟨(fn[8]'(by decide)).scope, tdN, "e", 1, isBf tAll "BadText"⟩ aa (tdS.getD 0 (.Pass ⟨0, 0, 0, 0⟩) :: tdS.drop 1) = toldX aa (fun k => decide (k = ("BadText" : PySem.Str))) := by kernel_rfl
    rw [e]
    exact told_evO (by decide) hr
def tNm' : List PySem.Str := ["BadText"]
theorem tolds {P : Program} {w : World} {K : PySem.W.Frag} {mg : PySem.Str → Option Value} {base : Heap} (KX : K.In base) (G : base.Ns mainGlobals mg) (c : He.SaysD fa fn K) (hx : exB K = true) : Tolds P w K mg base tl := by
  obtain ⟨hx1, hx3⟩ := Bool.and_eq_true_iff.mp hx
  have hx2 := (Bool.and_eq_true_iff.mp (Bool.and_eq_true_iff.mp hx1).2).1
  have hx4 := (Bool.and_eq_true_iff.mp hx3).2
  have hm : ∀ q ∈ tnT, q.2 ∈ tNm := fun q hq => by
    have e : tnT.map (·.2) = tNm' := by kernel_rfl
    have : q.2 ∈ tnT.map (·.2) := List.mem_map.mpr ⟨q, hq, rfl⟩
    rw [e] at this
    exact (by decide : ∀ x ∈ tNm', x ∈ tNm) _ this
  refine tolds_of (t := tl) (x := "_law_told") (a := "_law_work") (en := "e") (i := 8) (ie := 1) (d := (fn[8]'(by decide))) (Ng := tdN) (tt := tnT) (all := tAll) KX G c tlGood (by kernel_rfl) (by kernel_rfl) rfl (by kernel_rfl) (by kernel_rfl) (by kernel_rfl) (by kernel_rfl) td_body
    (fun {fd f} F => F.bindsN fun _ _ _ _ _ _ us hl => match us, hl with | [_], _ => rfl) rfl (.inl (by kernel_rfl)) (by kernel_rfl) (by kernel_rfl) (by kernel_rfl) (by kernel_rfl) (by kernel_rfl) ⟨by decide, by decide⟩ (by kernel_rfl) rfl (by kernel_rfl) ⟨by decide, by decide⟩ (by kernel_rfl) (List.all_eq_true.mpr fun q hq => ?_) (fun q hq ho => ?_) td_ev
  · exact List.all_eq_true.mp hx2 _ (hm q hq)
  · have h := List.all_eq_true.mp hx4 _ (hm q hq)
    rw [ho] at h
    exact h
theorem ob_BadPlan : (fn[14]'(by decide)).body = [.Expr (.Call (.Attribute (.Name "BoxError" ⟨7, 8, 7, 16⟩) "__init__" ⟨7, 8, 7, 25⟩) [.Name "self" ⟨7, 26, 7, 30⟩, .Constant (.str "no plan") 0 ⟨7, 32, 7, 41⟩] [] ⟨7, 8, 7, 42⟩) ⟨7, 8, 7, 42⟩, .Assign [.Attribute (.Name "self" ⟨8, 8, 8, 12⟩) "part" ⟨8, 8, 8, 17⟩] (.Name "part" ⟨8, 20, 8, 24⟩) ⟨8, 8, 8, 24⟩, .Assign [.Attribute (.Name "self" ⟨9, 8, 9, 12⟩) "number" ⟨9, 8, 9, 19⟩] (.Name "number" ⟨9, 22, 9, 28⟩) ⟨9, 8, 9, 28⟩] := by kernel_rfl
theorem ob_BadBook : (fn[15]'(by decide)).body = [.Expr (.Call (.Attribute (.Name "BoxError" ⟨13, 8, 13, 16⟩) "__init__" ⟨13, 8, 13, 25⟩) [.Name "self" ⟨13, 26, 13, 30⟩, .Constant (.str "no such thing") 0 ⟨13, 32, 13, 47⟩] [] ⟨13, 8, 13, 48⟩) ⟨13, 8, 13, 48⟩, .Assign [.Attribute (.Name "self" ⟨14, 8, 14, 12⟩) "number" ⟨14, 8, 14, 19⟩] (.Name "number" ⟨14, 22, 14, 28⟩) ⟨14, 8, 14, 28⟩] := by kernel_rfl
theorem ob_BadText : (fn[16]'(by decide)).body = [.Expr (.Call (.Attribute (.Name "BoxError" ⟨18, 8, 18, 16⟩) "__init__" ⟨18, 8, 18, 25⟩) [.Name "self" ⟨18, 26, 18, 30⟩, .Constant (.str "no such thing") 0 ⟨18, 32, 18, 47⟩] [] ⟨18, 8, 18, 48⟩) ⟨18, 8, 18, 48⟩, .Assign [.Attribute (.Name "self" ⟨19, 8, 19, 12⟩) "row" ⟨19, 8, 19, 16⟩] (.Name "row" ⟨19, 19, 19, 22⟩) ⟨19, 8, 19, 22⟩] := by kernel_rfl
theorem oexs {P : Program} {w : World} {K : PySem.W.Frag} {mg : PySem.Str → Option Value} {base : Heap} (KX : K.In base) (G : base.Ns mainGlobals mg) (c : He.SaysD fa fn K) (hx : exB K = true) : Oexs P w K mg base tl := by
  obtain ⟨_, hx3⟩ := Bool.and_eq_true_iff.mp hx
  have hx4 := (Bool.and_eq_true_iff.mp hx3).1
  intro x q fl h
  have hm := PySem.mem_of_lookup h
  have hm2 : (x, Gk.exo q fl) ∈ (tl.gls.filter fun p => match p.2 with | .exo _ _ => true | _ => false) := List.mem_filter.mpr ⟨hm, rfl⟩
  have e : (tl.gls.filter fun p => match p.2 with | .exo _ _ => true | _ => false) = ([("BadPlan", .exo 1 ["part", "number"]), ("BadBook", .exo 2 ["number"]), ("BadText", .exo 3 ["row"])] : List (PySem.Str × Gk)) := by kernel_rfl
  rw [e] at hm2
  simp only [List.mem_cons, Prod.mk.injEq, Gk.exo.injEq, List.not_mem_nil, or_false] at hm2
  rcases hm2 with ⟨rfl, rfl, rfl⟩ | ⟨rfl, rfl, rfl⟩ | ⟨rfl, rfl, rfl⟩
  · exact oex_of (t := tl) (i := 14) (d := (fn[14]'(by decide))) (ps := ["self", "part", "number"]) KX G c rfl (by kernel_rfl) (by kernel_rfl) (by kernel_rfl) (by kernel_rfl) (List.all_eq_true.mp hx4 ("BadPlan", ["part", "number"]) (by decide)) (fun {fd f} F => F.bindsN fun _ _ _ _ _ _ us hl => match us, hl with | [_, _, _], _ => rfl) fun T TB hB hf lk hcd => init2_fn T TB hB (hf "part" (by simp)) (hf "number" (by simp)) lk hcd ((fnsAll_ok tlGood.fns).2 14 _ (["self", "part", "number"], ["self", "part", "number"]) rfl rfl) (by kernel_rfl) rfl ob_BadPlan (.inl (by kernel_rfl)) (.inl (by kernel_rfl)) (.inl (by kernel_rfl)) ⟨by decide, by decide⟩ ⟨by decide, by decide⟩
  · exact oex_of (t := tl) (i := 15) (d := (fn[15]'(by decide))) (ps := ["self", "number"]) KX G c rfl (by kernel_rfl) (by kernel_rfl) (by kernel_rfl) (by kernel_rfl) (List.all_eq_true.mp hx4 ("BadBook", ["number"]) (by decide)) (fun {fd f} F => F.bindsN fun _ _ _ _ _ _ us hl => match us, hl with | [_, _], _ => rfl) fun T TB hB hf lk hcd => init1_fn T TB hB (hf "number" (by simp)) lk hcd ((fnsAll_ok tlGood.fns).2 15 _ (["self", "number"], ["self", "number"]) rfl rfl) (by kernel_rfl) rfl ob_BadBook (.inl (by kernel_rfl)) (.inl (by kernel_rfl)) ⟨by decide, by decide⟩
  · exact oex_of (t := tl) (i := 16) (d := (fn[16]'(by decide))) (ps := ["self", "row"]) KX G c rfl (by kernel_rfl) (by kernel_rfl) (by kernel_rfl) (by kernel_rfl) (List.all_eq_true.mp hx4 ("BadText", ["row"]) (by decide)) (fun {fd f} F => F.bindsN fun _ _ _ _ _ _ us hl => match us, hl with | [_, _], _ => rfl) fun T TB hB hf lk hcd => init1_fn T TB hB (hf "row" (by simp)) lk hcd ((fnsAll_ok tlGood.fns).2 16 _ (["self", "row"], ["self", "row"]) rfl rfl) (by kernel_rfl) rfl ob_BadText (.inl (by kernel_rfl)) (.inl (by kernel_rfl)) ⟨by decide, by decide⟩
theorem kds {P : Program} {w : World} {K : PySem.W.Frag} {mg : PySem.Str → Option Value} {base : Heap} (KX : K.In base) (G : base.Ns mainGlobals mg) (c : He.SaysD fa fn K) (hx : exB K = true) (hk : (tKd.map fun q => He.dicW K (He.ga K q.1)) = kdV w) : Kds P w K mg base tl := by
  have hx1 := (Bool.and_eq_true_iff.mp (Bool.and_eq_true_iff.mp hx).1).1
  intro x m h X e1 e2 e3 e4 e5
  subst e1 e2 e3 e4 e5
  have hm := PySem.mem_of_lookup h
  have hm2 : (x, Gk.kd m) ∈ (tl.gls.filter fun p => match p.2 with | .kd _ => true | _ => false) := List.mem_filter.mpr ⟨hm, rfl⟩
  have e : (tl.gls.filter fun p => match p.2 with | .kd _ => true | _ => false) = ([("FORMS", .kd tKd_FORMS)] : List (PySem.Str × Gk)) := by kernel_rfl
  rw [e] at hm2
  simp only [List.mem_cons, Prod.mk.injEq, Gk.kd.injEq, List.not_mem_nil, or_false] at hm2
  have key : ∀ q ∈ tKd, KdOk X.K X.w (He.ga X.K q.1) q.2 := fun q hq => by
    obtain ⟨i, hi, e⟩ := List.getElem_of_mem hq
    refine kdok_of ?_ (List.all_eq_true.mp hx1 q hq)
    have e3 : (tKd.map fun q => He.dicW X.K (He.ga X.K q.1))[i]? = (kdV X.w)[i]? := by rw [hk]
    unfold kdV at e3
    rw [List.getElem?_map, List.getElem?_map, List.getElem?_eq_getElem hi, e] at e3
    exact Option.some.inj e3
  rcases hm2 with ⟨rfl, rfl⟩
  · exact ⟨_, glo_of (t := tl) KX G c (by kernel_rfl), key ("FORMS", tKd_FORMS) (by simp [tKd])⟩
end Hd
/-! k13: what holds for any law: helpers, draws, alike -/
namespace Hd
open PySem PySem.Spec PyProof.Rows L2 Pyx
abbrev nD (ns : List Int) : D := .tup (ns.map .int)
theorem leD_int {i j : Int} {S : Sto} : leD (.int i) (.int j) S = some (.bl (decide (i ≤ j))) := rfl
theorem ltD_int {i j : Int} {S : Sto} : ltD (.int i) (.int j) S = some (.bl (decide (i < j))) := rfl
theorem gtD_int {i j : Int} {S : Sto} : gtD (.int i) (.int j) S = some (.bl (decide (j < i))) := rfl
theorem geD_int {i j : Int} {S : Sto} : geD (.int i) (.int j) S = some (.bl (decide (j ≤ i))) := rfl
@[simp] theorem cmpI_int {p : Int → Int → Bool} {i j : Int} {S : Sto} : cmpI p (.int i) (.int j) S = some (.bl (p i j)) := rfl
@[simp] theorem addD_int {i j : Int} {S : Sto} : addD (.int i) (.int j) S = some (.int (i + j)) := rfl
@[simp] theorem addI_int {i j : Int} {S : Sto} : addI (.int i) (.int j) S = some (.int (i + j)) := rfl
@[simp] theorem subD_int {i j : Int} {S : Sto} : subD (.int i) (.int j) S = some (.int (i - j)) := rfl
@[simp] theorem isi_int_i {i : Int} {S : Sto} : isiF "int" (.int i) S = some (.bl true) := i_ii
@[simp] theorem isi_bool_i {i : Int} {S : Sto} : isiF "bool" (.int i) S = some (.bl false) := i_ib
@[simp] theorem isi_str_s {s : Str} {S : Sto} : isiF "str" (.str s) S = some (.bl true) := i_ss
@[simp] theorem isi_tup_t {ds : List D} {S : Sto} : isiF "tuple" (.tup ds) S = some (.bl true) := i_tt
@[simp] theorem isN_n {S : Sto} : isND .non .non S = some (.bl true) := rfl
@[simp] theorem isN_c {i : Id} {S : Sto} : isND (.cell i) .non S = some (.bl false) := rfl
@[simp] theorem isN_i {i : Int} {S : Sto} : isND (.int i) .non S = some (.bl false) := rfl
@[simp] theorem isN_t {ds : List D} {S : Sto} : isND (.tup ds) .non S = some (.bl false) := rfl
@[simp] theorem isN_s {s : Str} {S : Sto} : isND (.str s) .non S = some (.bl false) := rfl
@[simp] theorem noN_n {S : Sto} : notND .non .non S = some (.bl false) := rfl
@[simp] theorem noN_c {i : Id} {S : Sto} : notND (.cell i) .non S = some (.bl true) := rfl
@[simp] theorem noN_i {i : Int} {S : Sto} : notND (.int i) .non S = some (.bl true) := rfl
@[simp] theorem noN_t {ds : List D} {S : Sto} : notND (.tup ds) .non S = some (.bl true) := rfl
@[simp] theorem noN_s {s : Str} {S : Sto} : notND (.str s) .non S = some (.bl true) := rfl
theorem eqRaw_plain {neg : Bool} {a b : D} (ha : noCell a = true) (hb : noCell b = true) (hd : min (py a).depth (py b).depth ≤ 64) : eqRaw neg a b = some (.bl (neg != PyData.eqv (py a) (py b))) := by
  unfold eqRaw
  rw [if_pos (by rw [ha, hb, decide_eq_true hd]; rfl)]
@[simp] theorem eqv_int {i j : Int} : PyData.eqv (.int i) (.int j) = decide (i = j) := by
  first | rfl | (unfold PyData.eqv; first | rfl | simp)
@[simp] theorem eqv_str {i j : Str} : PyData.eqv (.str i) (.str j) = decide (i = j) := by
  unfold PyData.eqv
  by_cases e : i = j <;> simp [e]
@[simp] theorem eqD_ii {i j : Int} {S : Sto} : eqD (.int i) (.int j) S = some (.bl (decide (i = j))) := eqD_int
@[simp] theorem neD_ii {i j : Int} {S : Sto} : neD (.int i) (.int j) S = some (.bl (!decide (i = j))) := neD_int
@[simp] theorem eqD_ss {i j : Str} {S : Sto} : eqD (.str i) (.str j) S = some (.bl (decide (i = j))) := eqD_str
@[simp] theorem neD_ss {i j : Str} {S : Sto} : neD (.str i) (.str j) S = some (.bl (!decide (i = j))) := by
  have h : (noCell (.str i) && noCell (.str j) && decide (min (py (.str i)).depth (py (.str j)).depth ≤ 64)) = true := rfl
  show eqRaw true (.str i) (.str j) = _
  unfold eqRaw
  rw [if_pos h]
  show some (D.bl (true != PyData.eqv (.str i) (.str j))) = _
  rw [eqv_str]
  cases decide (i = j) <;> rfl
@[simp] theorem lenT {ds : List D} {S : Sto} : lenF [.tup ds] S = some (.int ds.length) := rfl
@[simp] theorem lenL {ds : List D} {S : Sto} : lenF [.lst ds] S = some (.int ds.length) := rfl
theorem top1C {i : Id} {ds : List D} {S : Sto} (h : S.at_ i = some (.lst ds)) : top1 S (.cell i) = .lst ds := by
  show (match S.at_ i with | some (.lst ds) => D.lst ds | _ => .cell i) = _
  rw [h]
theorem lenC {i : Id} {ds : List D} {S : Sto} (h : S.at_ i = some (.lst ds)) : lenF [.cell i] S = some (.int ds.length) := by
  show (itemsD S (.cell i)).map (fun ds => D.int ds.length) = _
  unfold itemsD
  rw [top1C h]
  rfl
theorem dgetC {i : Id} {ds : List D} {S : Sto} {y : D} (h : S.at_ i = some (.lst ds)) : dget (.cell i) y S = none := by
  show (match S.at_ i with | some (.dK kvs) => (keyD y).map (valD kvs) | some (.dT kvs) => (keyT y).map (valD kvs) | some (.lkK kvs) => (keyD y).map (valD kvs) | some (.lkT kvs) => (keyT y).map (valD kvs) | _ => none) = none
  rw [h]
theorem ixC {i : Id} {ds : List D} {S : Sto} {k : Int} (h : S.at_ i = some (.lst ds)) : ixD (.cell i) (.int k) S = atI ds k := by
  unfold ixD
  rw [top1C h]
theorem atI_last {ds : List D} {d : D} : atI (ds ++ [d]) (-1) = some d := by
  unfold atI ixN
  rw [List.length_append, List.length_singleton, if_neg (by omega), if_pos (by omega)]
  show (ds ++ [d])[_]? = _
  rw [show (-1 + ((ds.length + 1 : Nat) : Int)).toNat = ds.length by omega]
  simp
/-! ### comprehensions that change nothing -/
theorem lc_pure {e : Env'} {S : Sto} {ds : List D} {own : List Nat} {g : GM} {tt : TM} {te : EM} {im : IM} (him : im e S = .ok (.fix ds) S) (p : D → Bool) (f : D → D)
    (h : ∀ d ∈ ds, ∃ e1, g d (wipeE e own) = some e1 ∧ tt e1 S = .ok (p d) S ∧ (p d = true → te e1 S = .ok (f d) S)) (hl : ds.length ≤ 1000000) : lcM none own im g tt te e S = .ok (.lst ((ds.filter p).map f)) S := by
  obtain ⟨acc, S', h1, h2, h3⟩ := lc_fix (ds := ds) (g := g) (tt := tt) (te := te) (e := wipeE e own) (S := S) (fun k S' acc => S' = S ∧ acc = ((ds.take k).filter p).map f) ⟨rfl, rfl⟩ (fun k S' acc d hd ⟨h1, h2⟩ => by
    subst h1
    obtain ⟨e1, g1, g2, g3⟩ := h d (List.mem_of_getElem? hd)
    refine ⟨e1, p d, S', g1, g2, ?_⟩
    have ht : ds.take (k + 1) = ds.take k ++ [d] := by
      rw [List.take_succ, hd]
      rfl
    cases hp : p d with
    | true =>
      refine ⟨f d, S', g3 hp, ?_, rfl, ?_⟩
      · rw [h2]
        have hk := (List.getElem?_eq_some_iff.mp hd).1
        refine Nat.lt_of_le_of_lt (Nat.le_trans (by rw [List.length_map]; exact List.length_filter_le _ _) (by rw [List.length_take]; exact Nat.min_le_left _ _)) (by omega : k < 1000000)
      · rw [ht, List.filter_append, List.map_append, h2]
        simp [hp]
    | false =>
      refine ⟨rfl, ?_⟩
      rw [ht, List.filter_append, List.map_append, h2]
      simp [hp])
  subst h2
  show (im e S').bind _ = _
  rw [him]
  show (lcLoop (.fix ds) g tt te ((Src.fix ds).fuel S') 0 (wipeE e own) S' []).bind _ = _
  rw [h1]
  show Out.ok (D.lst acc) S' = _
  rw [h3, List.take_length]
theorem lc_pureC {e : Env'} {S : Sto} {i : Id} {ds : List D} {own : List Nat} {g : GM} {tt : TM} {te : EM} {im : IM} (him : im e S = .ok (.cel i) S) (hi : S.at_ i = some (.lst ds)) (p : D → Bool) (f : D → D)
    (h : ∀ d ∈ ds, ∃ e1, g d (wipeE e own) = some e1 ∧ tt e1 S = .ok (p d) S ∧ (p d = true → te e1 S = .ok (f d) S)) (hl : ds.length ≤ 1000000) : lcM none own im g tt te e S = .ok (.lst ((ds.filter p).map f)) S := by
  obtain ⟨acc, S', h1, h2, h3⟩ := lc_cel (ds := ds) (i := i) (g := g) (tt := tt) (te := te) (e := wipeE e own) (S := S) (fun k S' acc => S' = S ∧ acc = ((ds.take k).filter p).map f) ⟨rfl, rfl⟩ (fun k S' acc h => by rw [h.1]; exact hi) (fun k S' acc d hd ⟨h1, h2⟩ => by
    subst h1
    obtain ⟨e1, g1, g2, g3⟩ := h d (List.mem_of_getElem? hd)
    refine ⟨e1, p d, S', g1, g2, ?_⟩
    have ht : ds.take (k + 1) = ds.take k ++ [d] := by
      rw [List.take_succ, hd]
      rfl
    cases hp : p d with
    | true =>
      refine ⟨f d, S', g3 hp, ?_, rfl, ?_⟩
      · rw [h2]
        have hk := (List.getElem?_eq_some_iff.mp hd).1
        refine Nat.lt_of_le_of_lt (Nat.le_trans (by rw [List.length_map]; exact List.length_filter_le _ _) (by rw [List.length_take]; exact Nat.min_le_left _ _)) (by omega : k < 1000000)
      · rw [ht, List.filter_append, List.map_append, h2]
        simp [hp]
    | false =>
      refine ⟨rfl, ?_⟩
      rw [ht, List.filter_append, List.map_append, h2]
      simp [hp])
  subst h2
  show (im e S').bind _ = _
  rw [him]
  show (lcLoop (.cel i) g tt te ((Src.cel i).fuel S') 0 (wipeE e own) S' []).bind _ = _
  rw [h1]
  show Out.ok (D.lst acc) S' = _
  rw [h3, List.take_length]
theorem seqI_tup {a : EM} {e : Env'} {S S1 : Sto} {ds : List D} (h : a e S = .ok (.tup ds) S1) : seqI a e S = .ok (.fix ds) S1 := by
  show (a e S).bind _ = _
  rw [h]
  rfl
theorem seqI_lst {a : EM} {e : Env'} {S S1 : Sto} {ds : List D} (h : a e S = .ok (.lst ds) S1) : seqI a e S = .ok (.fix ds) S1 := by
  show (a e S).bind _ = _
  rw [h]
  rfl
theorem seqI_cel {a : EM} {e : Env'} {S S1 : Sto} {i : Id} {ds : List D} (h : a e S = .ok (.cell i) S1) (hi : S1.at_ i = some (.lst ds)) : seqI a e S = .ok (.cel i) S1 := by
  show (a e S).bind _ = _
  rw [h]
  show ofO (match S1.at_ i with | some (.lst _) => some (Src.cel i) | _ => none) S1 = _
  rw [hi]
  rfl
theorem inD_char {c : Nat} {z : Str} {S : Sto} : inD false (.str ⟨#[c]⟩) (.str z) S = some (.bl (decide (c ∈ z.cps.toList))) := by
  show (if (#[c] : Array Nat).size = 1 then some (D.bl (false != decide ((#[c] : Array Nat).toList.getD 0 0 ∈ z.cps.toList))) else none) = _
  rw [if_pos (show (#[c] : Array Nat).size = 1 from rfl)]
  show some (D.bl (false != decide (c ∈ z.cps.toList))) = _
  cases decide (c ∈ z.cps.toList) <;> rfl
def letters : List Nat := ("abcdefghijklmnopqrstuvwxyz" : Str).cps.toList
def isNameP (s : Str) : Bool := decide (1 ≤ s.length) && decide (s.length ≤ 8) && s.cps.toList.all fun c => decide (c ∈ letters)
theorem bools_map {A : Type} (l : List A) (f : A → Bool) : boolsD (l.map fun a => D.bl (f a)) = some (l.map f) := by
  induction l with
  | nil => rfl
  | cons a r ih =>
    show (boolsD (r.map fun a => D.bl (f a))).map (f a :: ·) = _
    rw [ih]
    rfl
theorem all_lst {A : Type} {l : List A} {f : A → Bool} {S : Sto} : allF [.lst (l.map fun a => D.bl (f a))] S = some (.bl (l.all f)) := by
  show (boolsD (l.map fun a => D.bl (f a))).map (fun ns => D.bl (ns.all id)) = _
  rw [bools_map]
  show some (D.bl ((l.map f).all id)) = _
  rw [List.all_map]
  rfl
theorem ints_map (l : List Int) : intsD (l.map D.int) = some l := by
  induction l with
  | nil => rfl
  | cons a r ih =>
    show (intsD (r.map D.int)).map (a :: ·) = _
    rw [ih]
    rfl
theorem sum_lst {l : List Int} {S : Sto} : sumF [.lst (l.map D.int)] S = some (.int l.sum) := by
  show (intsD (l.map D.int)).map (fun ns => D.int ns.sum) = _
  rw [ints_map]
  rfl
@[simp] theorem lenS {s : Str} {S : Sto} (h : s.length ≤ sizeLine) : lenF [.str s] S = some (.int s.length) := if_pos h
theorem c_is_name {j : Nat} {s : Str} {S : Sto} (h : s.length ≤ 1000) : tl.mean (j + 1) F_is_name [.str s] S = .ok (.bl (isNameP s)) S := by
  have hz : s.length ≤ sizeLine := line1000 h
  rw [mn_is_name]
  by_cases h1 : 1 ≤ s.length
  · by_cases h2 : s.length ≤ 8
    · have hlc := lc_pure (e := [some (.str s), none]) (S := S) (ds := s.cps.toList.map fun c => .str ⟨#[c]⟩) (own := [1]) (g := gNm 1) (tt := yesM) (te := binM (inD false) (varM 1) (cM (.str "abcdefghijklmnopqrstuvwxyz"))) (im := seqI (varM 0)) rfl (fun _ => true)
        (fun d => match d with | .str c => .bl (decide (c.cps.toList.getD 0 0 ∈ letters)) | _ => .non) (fun d hd => by
          obtain ⟨c, hc, rfl⟩ := List.mem_map.mp hd
          exact ⟨[some (.str s), some (.str ⟨#[c]⟩)], rfl, rfl, fun _ => by
            rw [v_bin, show varM 1 [some (.str s), some (.str ⟨#[c]⟩)] S = .ok (.str ⟨#[c]⟩) S from rfl, v_ok, v_binK, v_cM, v_ok, v_binK2, inD_char]
            rfl⟩) (by rw [List.length_map]; have : s.cps.toList.length = s.length := rfl; omega)
      rw [List.filter_eq_self.mpr (fun _ _ => rfl), List.map_map] at hlc
      have e1 : (1 : Int) ≤ (s.length : Int) := by omega
      have e2 : (s.length : Int) ≤ 8 := by omega
      have hall : allF [.lst (s.cps.toList.map fun c => D.bl (decide (c ∈ letters)))] S = some (.bl (s.cps.toList.all fun c => decide (c ∈ letters))) := all_lst
      have hlc' : lcM none [1] (seqI (varM 0)) (gNm 1) yesM (binM (inD false) (varM 1) (cM (.str "abcdefghijklmnopqrstuvwxyz"))) [some (.str s), none] S = .ok (.lst (s.cps.toList.map fun c => D.bl (decide (c ∈ letters)))) S := hlc
      have hp : isNameP s = s.cps.toList.all fun c => decide (c ∈ letters) := by
        unfold isNameP
        rw [decide_eq_true h1, decide_eq_true h2]
        rfl
      rw [hp]
      generalize (s.cps.toList.all fun c => decide (c ∈ letters)) = B at hall
      generalize (s.cps.toList.map fun c => D.bl (decide (c ∈ letters))) = R at hlc' hall
      simp [bd_is_name, hz, e1, e2, hlc', hall]
    · have e1 : (1 : Int) ≤ (s.length : Int) := by omega
      have e2 : ¬ (s.length : Int) ≤ 8 := by omega
      simp [bd_is_name, hz, e1, e2, isNameP, h2]
  · have e1 : ¬ (1 : Int) ≤ (s.length : Int) := by omega
    simp [bd_is_name, hz, e1, isNameP, h1]
theorem loop_genR {src : Src} {n : Nat} {g : GM} {body : SM} (item : Nat → Option D) (I : Nat → Env' → Sto → Prop) (P : D → Sto → Prop) (hget : ∀ k e S, k ≤ n → I k e S → src.get S k = some (item k)) (hn : item n = none)
    (hs : ∀ k e S, k < n → I k e S → ∃ d e1, item k = some d ∧ g d e = some e1 ∧ ((∃ e' S', (body e1 S = .nx e' S' ∨ body e1 S = .ct e' S') ∧ I (k + 1) e' S') ∨ ∃ r S', body e1 S = .rt r S' ∧ P r S')) :
    ∀ (m k f : Nat) (e : Env') (S : Sto), k + m = n → m < f → I k e S → (∃ e' S', loopM src g body f k e S = .nx e' S' ∧ I n e' S') ∨ ∃ r S', loopM src g body f k e S = .rt r S' ∧ P r S'
  | 0, k, 0, _, _, _, hf, _ => absurd hf (by omega)
  | 0, k, f + 1, e, S, hk, _, h => by
    have e0 : k = n := by omega
    subst e0
    refine .inl ⟨e, S, ?_, h⟩
    unfold loopM
    rw [hget k e S (Nat.le_refl _) h, hn]
  | m + 1, k, 0, _, _, _, hf, _ => absurd hf (by omega)
  | m + 1, k, f + 1, e, S, hk, hf, h => by
    obtain ⟨d, e1, h1, h2, h3⟩ := hs k e S (by omega) h
    have step : loopM src g body (f + 1) k e S = match body e1 S with
        | .nx e' S' => loopM src g body f (k + 1) e' S'
        | .ct e' S' => loopM src g body f (k + 1) e' S'
        | .bk e' S' => .nx e' S'
        | o => o := by
      show (match src.get S k with
        | none => SO.bad
        | some none => .nx e S
        | some (some d) => match g d e with
          | none => .bad
          | some e1 => match body e1 S with
            | .nx e' S' => loopM src g body f (k + 1) e' S'
            | .ct e' S' => loopM src g body f (k + 1) e' S'
            | .bk e' S' => .nx e' S'
            | o => o) = _
      rw [hget k e S (by omega) h, h1]
      show (match g d e with
        | none => SO.bad
        | some e1 => match body e1 S with
          | .nx e' S' => loopM src g body f (k + 1) e' S'
          | .ct e' S' => loopM src g body f (k + 1) e' S'
          | .bk e' S' => .nx e' S'
          | o => o) = _
      rw [h2]
    rcases h3 with ⟨e', S', h3, h4⟩ | ⟨r, S', h3, h4⟩
    · have ih := loop_genR item I P hget hn hs m (k + 1) f e' S' (by omega) (by omega) h4
      rw [step]
      rcases h3 with h3 | h3
      · rw [h3]
        exact ih
      · rw [h3]
        exact ih
    · refine .inr ⟨r, S', ?_, h4⟩
      rw [step, h3]
theorem loop_rngR {lo c : Int} {n : Nat} {g : GM} {body : SM} {e : Env'} {S : Sto} (I : Nat → Env' → Sto → Prop) (P : D → Sto → Prop) (h0 : I 0 e S)
    (hs : ∀ k e S, k < n → I k e S → ∃ e1, g (.int (lo + (k : Nat) * c)) e = some e1 ∧ ((∃ e' S', (body e1 S = .nx e' S' ∨ body e1 S = .ct e' S') ∧ I (k + 1) e' S') ∨ ∃ r S', body e1 S = .rt r S' ∧ P r S')) :
    (∃ e' S', loopM (.rng lo c n) g body ((Src.rng lo c n).fuel S) 0 e S = .nx e' S' ∧ I n e' S') ∨ ∃ r S', loopM (.rng lo c n) g body ((Src.rng lo c n).fuel S) 0 e S = .rt r S' ∧ P r S' := by
  refine loop_genR (fun k => if k < n then some (.int (lo + (k : Nat) * c)) else none) I P (fun k e S _ _ => rfl) (by simp) (fun k e S hk h => ?_) n 0 _ e S (by omega) (Nat.lt_succ_self _) h0
  obtain ⟨e1, h1, h2⟩ := hs k e S hk h
  exact ⟨_, e1, if_pos hk, h1, h2⟩
theorem rng1_a {n : Nat} (hn : n < 1000000) : ((n:Nat):Int) < 1000000 ∧ -1000000 < ((n:Nat):Int) := ⟨by omega, by omega⟩
theorem rng1_b {t : AM} {e : Env'} {S S1 : Sto} {z : Int} (h : t e S = .ok [.int z] S1) (h3 : z < 1000000 ∧ -1000000 < z) : rng1I t e S = .ok (.rng 0 1 z.toNat) S1 := by
  show (t e S).bind _ = _
  rw [h]
  exact if_pos h3
theorem rng1_ok {t : AM} {e : Env'} {S S1 : Sto} {n : Nat} (h : t e S = .ok [.int (n : Nat)] S1) (hn : n < 1000000) : rng1I t e S = .ok (.rng 0 1 n) S1 := rng1_b h (rng1_a hn)
theorem tupF_lst {ds : List D} {S : Sto} : tupF [.lst ds] S = some (.tup ds) := rfl
theorem atI_n {ds : List D} {i : Nat} : atI ds (i : Nat) = ds[i]? := by
  unfold atI ixN
  rw [if_pos (Int.natCast_nonneg i)]
  by_cases h : i < ds.length
  · rw [if_pos (by omega)]
    rfl
  · rw [if_neg (by omega), List.getElem?_eq_none (by omega)]
    rfl
structure Dr (b c : Id) (S : Sto) : Prop where
  ok : S.Ok
  box : Box S b c
section
variable {b c : Id} {S S' : Sto}
theorem Dr.live (d : Dr b c S) : S.at_ b ≠ none ∧ S.at_ c ≠ none := by
  obtain ⟨_, st, ms, h1, h2, _⟩ := d.box
  rw [h1, h2]
  exact ⟨(fun z => by cases z), (fun z => by cases z)⟩
theorem Dr.fr (d : Dr b c S) (ok : S'.Ok) (f : Fr [] S S') : Dr b c S' := ⟨ok, d.box.fr f (by simp) (by simp)⟩
theorem c_take {j : Nat} {m : Int} (d : Dr b c S) (hm : 0 < m ∧ m < 1073741824) :
    ∃ r S', tl.mean (j + 1) F__law_take [.cell b, .int m] S = .ok (.int r) S' ∧ (0 ≤ r ∧ r < m) ∧ Dr b c S' ∧ Fr [b, c] S S' := by
  obtain ⟨hS, h⟩ := d
  obtain ⟨r, S', h1, h2, h3, h4, h5, h6⟩ := take_ok (G := tl.mean j) h hm
  refine ⟨r, S', ?_, ⟨h2, h3⟩, ⟨fun d k hk => ?_, h4⟩, ⟨by rw [h5]; exact Nat.le_refl _, fun i _ hi => h6 i (fun z => hi (by rw [z]; exact List.mem_cons_self ..)) fun z => hi (by rw [z]; exact List.mem_cons_of_mem _ (List.mem_cons_self ..))⟩⟩
  · rw [mn__law_take]
    exact h1
  · obtain ⟨_, st, ms, hb, hc, _⟩ := h
    have nb : Id.obj d k ≠ b := fun z => by
      have := hS d k (by omega)
      rw [z, hb] at this
      cases this
    have nc : Id.obj d k ≠ c := fun z => by
      have := hS d k (by omega)
      rw [z, hc] at this
      cases this
    rw [h6 _ nb nc]
    exact hS d k (by omega)
theorem tk {j : Nat} {m : Int} {S1 : Sto} {e : Env'} {a1 a2 : EM} (h1 : a1 e S = .ok (.cell b) S) (h2 : a2 e S = .ok (.int m) S1) (d : Dr b c S1) (hm : 0 < m ∧ m < 1073741824) :
    ∃ r S', callM 2 [] (tl.mean (j + 1) F__law_take) (consM a1 (consM a2 nilM)) e S = .ok (.int r) S' ∧ (0 ≤ r ∧ r < m) ∧ Dr b c S' ∧ Fr [b, c] S1 S' := by
  obtain ⟨r, S', t1, t2, t3, t4⟩ := c_take (j := j) d hm
  exact ⟨r, S', call_eq (consM_ok h1 (consM_ok h2 rfl)) rfl t1, t2, t3, t4⟩
theorem atI_lt {ds : List D} {r : Int} (h0 : 0 ≤ r) (h1 : r < ds.length) : ∃ d, atI ds r = some d ∧ ds[r.toNat]? = some d := by
  have hr : r = ((r.toNat : Nat) : Int) := (Int.toNat_of_nonneg h0).symm
  have hl : r.toNat < ds.length := by omega
  refine ⟨ds[r.toNat], ?_, List.getElem?_eq_getElem hl⟩
  have h := atI_n (ds := ds) (i := r.toNat)
  rw [← hr, List.getElem?_eq_getElem hl] at h
  exact h
theorem sel {j : Nat} {e : Env'} {a1 la : EM} {ds : List D} {S0 : Sto} (hl : la e S0 = .ok (.lst ds) S) (h1 : a1 e S = .ok (.cell b) S) (d : Dr b c S) (hn : 0 < ds.length ∧ ds.length < 1000) {a2 : EM} (h2 : a2 e S = .ok (.int ds.length) S) :
    ∃ v S', subM la (callM 2 [] (tl.mean (j + 1) F__law_take) (consM a1 (consM a2 nilM))) e S0 = .ok v S' ∧ v ∈ ds ∧ Dr b c S' ∧ Fr [b, c] S S' := by
  obtain ⟨r, S', t1, t2, t3, t4⟩ := tk (j := j) h1 h2 d (by omega)
  obtain ⟨v, v1, v2⟩ := atI_lt (ds := ds) t2.1 t2.2
  exact ⟨v, S', subM_lst hl t1 v1, List.mem_of_getElem? v2, t3, t4⟩
end
section
variable {S S1 : Sto}
theorem skip_if_at {c : TM} {a r : SM} {e : Env'} {S S1 : Sto} (h : c e S = .ok false S1) : seqM (ifS c a skipM) r e S = r e S1 := if_no h rfl
end
def flatN : Nat → D → Prop
  | 0, .non => True
  | 0, .bl _ => True
  | 0, .int _ => True
  | 0, .str _ => True
  | n + 1, .non => True
  | n + 1, .bl _ => True
  | n + 1, .int _ => True
  | n + 1, .str _ => True
  | n + 1, .tup ds => ds.length < 1000000 ∧ ∀ x ∈ ds, flatN n x
  | n + 1, .lst ds => ds.length < 1000000 ∧ ∀ x ∈ ds, flatN n x
  | _, _ => False
section
variable {S : Sto}
theorem neb (a : Bool) : neD (.bl a) (.bl a) S = some (.bl false) := by cases a <;> rfl
theorem isiM_eq {T : String} {a : EM} {e : Env'} {d r : D} (ha : a e S = .ok d S) (h : isiF T d S = some r) : isiM T a e S = .ok r S := by
  rw [v_isi, ha, v_ok, v_isiK, h]
  rfl
theorem alike0_non {j : Nat} : tl.mean (j + 1) F__law_alike [.non, .non] S = .ok (.bl true) S := by
  rw [mn__law_alike]
  simp [bd__law_alike]
theorem alike0_int {j : Nat} {i : Int} : tl.mean (j + 1) F__law_alike [.int i, .int i] S = .ok (.bl true) S := by
  rw [mn__law_alike]
  simp [bd__law_alike]
theorem alike0_str {j : Nat} {s : Str} : tl.mean (j + 1) F__law_alike [.str s, .str s] S = .ok (.bl true) S := by
  have h1 : isiF "bool" (.str s) S = some (.bl false) := rfl
  have h2 : isiF "int" (.str s) S = some (.bl false) := rfl
  rw [mn__law_alike]
  simp [bd__law_alike, h1, h2]
theorem alike0_bl {j : Nat} {b : Bool} : tl.mean (j + 1) F__law_alike [.bl b, .bl b] S = .ok (.bl true) S := by
  have v0 : varM 0 [some (D.bl b), some (D.bl b), none] S = .ok (.bl b) S := rfl
  have v1 : varM 1 [some (D.bl b), some (D.bl b), none] S = .ok (.bl b) S := rfl
  have i1 : isiF "bool" (.bl b) S = some (.bl true) := rfl
  have hq : eqD (.bl b) (.bl b) S = some (.bl true) := by cases b <;> rfl
  rw [mn__law_alike, v_def]
  show outX (bd__law_alike (tl.mean j) [some (.bl b), some (.bl b), none] S) = _
  generalize [some (D.bl b), some (.bl b), none] = E at v0 v1 ⊢
  unfold bd__law_alike
  rw [skip_if_at (tst_eq (binM_eq v1 (b := cM .non) (y := .non) rfl (z := .bl false) (by cases b <;> rfl)))]
  have hr : andV (isiM ("bool") (varM 0)) (binM eqD (varM 0) (varM 1)) E S = .ok (.bl true) S := by
    rw [v_andV, isiM_eq v0 i1]
    exact binM_eq v0 v1 hq
  have hb : seqM (retM (andV (isiM ("bool") (varM 0)) (binM eqD (varM 0) (varM 1)))) skipM E S = .rt (.bl true) S := by
    rw [ret_ok hr]
  have hi : ifS (tstM (isiM ("bool") (varM 1))) (seqM (retM (andV (isiM ("bool") (varM 0)) (binM eqD (varM 0) (varM 1)))) skipM) skipM E S = .rt (.bl true) S := by
    simp only [ifS, tst_eq (isiM_eq v1 i1), liftS_ok, if_true]
    exact hb
  rw [v_seq, hi]
  rfl
theorem alike_seq {j : Nat} {x : D} {ds : List D} {tb lb : Bool} (hN : isND x .non S = some (.bl false)) (i1 : isiF "bool" x S = some (.bl false)) (i2 : isiF "int" x S = some (.bl false)) (i3 : isiF "str" x S = some (.bl false)) (i4 : isiF "tuple" x S = some (.bl tb)) (i5 : isiF "list" x S = some (.bl lb)) (hlen : lenF [x] S = some (.int ds.length))
    (hs : ∀ (e : Env') (a b : EM) (k : Int) (d : D), a e S = .ok x S → b e S = .ok (.int k) S → atI ds k = some d → subM a b e S = .ok d S) (hl : ds.length < 1000000) (h : ∀ d ∈ ds, tl.mean (j + 1) F__law_alike [d, d] S = .ok (.bl true) S) : tl.mean (j + 2) F__law_alike [x, x] S = .ok (.bl true) S := by
  obtain ⟨e', S', l1, hS, y, he⟩ := loop_rng (lo := 0) (c := 1) (n := ds.length) (g := gNm 2) (body := bd__law_alike_body1 (tl.mean (j + 1))) (e := [some x, some x, none]) (S := S)
    (fun k e S' => S' = S ∧ ∃ y, e = [some x, some x, y]) ⟨rfl, none, rfl⟩ (fun k e S' hk ⟨hS, y, he⟩ => by
      subst hS he
      have e0 : (0 : Int) + (k : Nat) * 1 = (k : Nat) := by rw [Int.mul_one, Int.zero_add]
      rw [e0]
      have hd : ds[k]? = some ds[k] := List.getElem?_eq_getElem hk
      have hc := h ds[k] (List.getElem_mem hk)
      generalize ds[k] = d at hd hc
      have s0 : subM (varM 0) (varM 2) [some x, some x, some (.int (k : Nat))] S' = .ok d S' := hs _ _ _ (k : Nat) d rfl rfl (by rw [atI_n]; exact hd)
      have s1 : subM (varM 1) (varM 2) [some x, some x, some (.int (k : Nat))] S' = .ok d S' := hs _ _ _ (k : Nat) d rfl rfl (by rw [atI_n]; exact hd)
      have hcall : callM 2 ([]) (tl.mean (j + 1) F__law_alike) (consM (subM (varM 0) (varM 2)) (consM (subM (varM 1) (varM 2)) nilM)) [some x, some x, some (.int (k : Nat))] S' = .ok (.bl true) S' := call_eq (consM_ok s0 (consM_ok s1 rfl)) rfl hc
      refine ⟨[some x, some x, some (.int (k : Nat))], [some x, some x, some (.int (k : Nat))], S', rfl, .inl ?_, rfl, _, rfl⟩
      unfold bd__law_alike_body1
      rw [skip_if_at (not_eq' (tst_eq hcall))]
      rfl)
  subst hS he
  rw [mn__law_alike, v_def]
  show outX (bd__law_alike (tl.mean (j + 1)) [some x, some x, none] S') = _
  have v0 : varM 0 [some x, some x, none] S' = .ok x S' := rfl
  have v1 : varM 1 [some x, some x, none] S' = .ok x S' := rfl
  generalize [some x, some x, none] = E at v0 v1 l1 ⊢
  have hlen' : ∀ a : EM, a E S' = .ok x S' → calM lenF (consM a nilM) E S' = .ok (.int (ds.length : Nat)) S' := fun a ha => cal_eq (consM_ok ha rfl) hlen
  have hr : rng1I (consM (calM lenF (consM (varM 1) nilM)) nilM) E S' = .ok (.rng 0 1 ds.length) S' := Hd.rng1_ok (consM_ok (hlen' _ v1) (r := nilM) (xs := []) rfl) hl
  unfold bd__law_alike bd__law_alike_for2
  rw [skip_if_at (tst_eq (binM_eq v1 (b := cM .non) (y := .non) rfl hN))]
  rw [skip_if_at (tst_eq (isiM_eq v1 i1)), skip_if_at (tst_eq (isiM_eq v1 i2)), skip_if_at (tst_eq (isiM_eq v1 i3))]
  rw [skip_if_at (or_no (tst_eq (binM_eq (isiM_eq v1 i4) (isiM_eq v0 i4) (neb tb))) (tst_eq (binM_eq (isiM_eq v1 i5) (isiM_eq v0 i5) (neb lb))))]
  rw [skip_if_at (tst_eq (binM_eq (hlen' _ v0) (hlen' _ v1) (z := .bl false) (by rw [neD_int, decide_eq_true rfl]; rfl)))]
  rw [for_ok hr l1]
  rfl
theorem alike_self : ∀ (n j : Nat) (d : D), flatN n d → tl.mean (j + n + 1) F__law_alike [d, d] S = .ok (.bl true) S
  | 0, j, .non, _ => alike0_non
  | 0, j, .bl b, _ => alike0_bl
  | 0, j, .int i, _ => alike0_int
  | 0, j, .str s, _ => alike0_str
  | n + 1, j, .non, _ => alike0_non
  | n + 1, j, .bl b, _ => alike0_bl
  | n + 1, j, .int i, _ => alike0_int
  | n + 1, j, .str s, _ => alike0_str
  | n + 1, j, .tup ds, h => alike_seq (j := j + n) (tb := true) (lb := false) rfl rfl rfl rfl rfl rfl lenT (fun e a b k d ha hb hd => subM_tup ha hb hd) h.1 fun d hd => alike_self n j d (h.2 d hd)
  | n + 1, j, .lst ds, h => alike_seq (j := j + n) (tb := false) (lb := true) rfl rfl rfl rfl rfl rfl lenL (fun e a b k d ha hb hd => subM_lst ha hb hd) h.1 fun d hd => alike_self n j d (h.2 d hd)
theorem flatN_mono : ∀ (n : Nat) (d : D), flatN n d → flatN (n + 1) d
  | 0, .non, _ => trivial
  | 0, .bl b, _ => trivial
  | 0, .int i, _ => trivial
  | 0, .str s, _ => trivial
  | n + 1, .non, _ => trivial
  | n + 1, .bl b, _ => trivial
  | n + 1, .int i, _ => trivial
  | n + 1, .str s, _ => trivial
  | n + 1, .tup ds, h => ⟨h.1, fun x hx => flatN_mono n x (h.2 x hx)⟩
  | n + 1, .lst ds, h => ⟨h.1, fun x hx => flatN_mono n x (h.2 x hx)⟩
theorem flat_nD {ns : List Int} (h : ns.length < 1000000) : flatN 1 (nD ns) := ⟨by rw [List.length_map]; exact h, fun x hx => by
  obtain ⟨i, _, rfl⟩ := List.mem_map.mp hx
  exact trivial⟩
end
end Hd
/-! k13: texts cut and joined -/
namespace Hd
open PySem PySem.Spec PyProof.Rows L2 Pyx
abbrev sg (c : Nat) : Str := ⟨#[c]⟩
/-- a text of signs that are -/
def okT (s : Str) : Prop := ∀ c ∈ s.cps.toList, c < 0x110000
theorem okT.is {s : Str} (h : okT s) : PySem.PyData.strOk s = true := by
  unfold PySem.PyData.strOk
  rw [← Array.all_toList, List.all_eq_true]
  exact fun c hc => decide_eq_true (h c hc)
theorem okT_of {s : Str} (h : PySem.PyData.strOk s = true) : okT s := fun c hc => by
  unfold PySem.PyData.strOk at h
  rw [← Array.all_toList, List.all_eq_true] at h
  exact of_decide_eq_true (h c hc)
theorem sp_eq : (" " : Str) = sg 32 := by kernel_rfl
theorem nl_eq : ("\n" : Str) = sg 10 := by kernel_rfl
theorem spl_ne (c : Nat) : ∀ (l acc : List Nat), TL.spl [c] 0 acc l ≠ []
  | [], acc => by
    rw [TL.spl_nil]
    simp
  | x :: r, acc => by
    cases h : TL.pre [c] (x :: r) with
    | true =>
      rw [TL.spl_hit h]
      simp
    | false =>
      rw [TL.spl_miss h]
      exact spl_ne c r _
theorem spl_sum (c : Nat) : ∀ (l acc : List Nat), ((TL.spl [c] 0 acc l).map fun p => p.length + 1).sum = acc.length + l.length + 1
  | [], acc => by
    rw [TL.spl_nil]
    simp
  | x :: r, acc => by
    cases h : TL.pre [c] (x :: r) with
    | true =>
      rw [TL.spl_hit h]
      have := spl_sum c r []
      rw [List.map_cons, List.sum_cons, show [c].length - 1 = 0 from rfl, this, List.length_cons, List.length_nil]
      omega
    | false =>
      rw [TL.spl_miss h, spl_sum c r (acc ++ [x]), List.length_append, List.length_cons, List.length_cons, List.length_nil]
      omega
theorem spl_mem (c : Nat) : ∀ (l acc p : List Nat) (x : Nat), p ∈ TL.spl [c] 0 acc l → x ∈ p → x ∈ acc ∨ x ∈ l
  | [], acc, p, x, h, hx => by
    rw [TL.spl_nil] at h
    rw [List.mem_singleton.mp h] at hx
    exact .inl hx
  | y :: r, acc, p, x, h, hx => by
    cases q : TL.pre [c] (y :: r) with
    | true =>
      rw [TL.spl_hit q] at h
      rcases List.mem_cons.mp h with h | h
      · rw [h] at hx
        exact .inl hx
      · rcases spl_mem c r [] p x h hx with z | z
        · cases z
        · exact .inr (List.mem_cons_of_mem _ z)
    | false =>
      rw [TL.spl_miss q] at h
      rcases spl_mem c r _ p x h hx with z | z
      · rcases List.mem_append.mp z with z | z
        · exact .inl z
        · exact .inr (by rw [List.mem_singleton.mp z]; exact List.mem_cons_self)
      · exact .inr (List.mem_cons_of_mem _ z)
abbrev cutT (t : Str) (c : Nat) : List Str := Txt.split t (sg c)
def wt (ws : List Str) : Nat := (ws.map fun p => p.length + 1).sum
section
variable {t : Str} {c : Nat} {S : Sto}
theorem cut_eq (hc : c < 256) : cutT t c = (TL.spl [c] 0 [] t.cps.toList).map SX.S := by
  have h := SX.split_S (a := t.cps.toList) (b := [c]) (by simp) (by simp [hc])
  rw [SX.S_tl] at h
  exact h
theorem cut_ne (hc : c < 256) : cutT t c ≠ [] := by
  rw [cut_eq hc]
  exact fun h => spl_ne c _ _ (List.map_eq_nil_iff.mp h)
theorem cut_wt (hc : c < 256) : wt (cutT t c) = t.length + 1 := by
  unfold wt
  rw [cut_eq hc, List.map_map]
  have h := spl_sum c t.cps.toList []
  rw [show (fun p : Str => p.length + 1) ∘ SX.S = fun p : List Nat => p.length + 1 from funext fun p => by
    show (SX.S p).length + 1 = _
    rw [SX.S_len], h]
  simp [Str.length]
theorem cut_ok (hc : c < 256) (h : okT t) : ∀ p ∈ cutT t c, okT p := fun p hp x hx => by
  rw [cut_eq hc] at hp
  obtain ⟨q, hq, rfl⟩ := List.mem_map.mp hp
  have hx : x ∈ q := by simpa [SX.S] using hx
  rcases spl_mem c _ _ q x hq hx with z | z
  · cases z
  · exact h x z
theorem wt_len {ws : List Str} : ws.length ≤ wt ws := by
  induction ws with
  | nil => exact Nat.zero_le _
  | cons a r ih =>
    unfold wt at ih ⊢
    rw [List.map_cons, List.sum_cons, List.length_cons]
    omega
theorem wt_mem {ws : List Str} {p : Str} (h : p ∈ ws) : p.length + 1 ≤ wt ws := by
  induction ws with
  | nil => cases h
  | cons a r ih =>
    unfold wt at ih ⊢
    rw [List.map_cons, List.sum_cons]
    rcases List.mem_cons.mp h with h | h
    · rw [h]
      omega
    · have := ih h
      omega
theorem wt_app {a b : List Str} : wt (a ++ b) = wt a + wt b := by
  unfold wt
  rw [List.map_append, List.sum_append]
theorem wt_cons {a : Str} {b : List Str} : wt (a :: b) = a.length + 1 + wt b := by
  unfold wt
  rw [List.map_cons, List.sum_cons]
theorem wt_sub {a b : List Str} (h : a.Sublist b) : wt a ≤ wt b := by
  induction h with
  | slnil => exact Nat.le_refl _
  | cons x _ ih =>
    rw [wt_cons]
    omega
  | cons_cons x _ ih =>
    rw [wt_cons, wt_cons]
    omega
theorem join_wt {ys : List Str} : (Txt.join (sg c) ys).length ≤ wt ys := by
  rw [TL.join_eq]
  refine Nat.le_trans (StrLaws.join_length_le _ _) ?_
  have h : ∀ ys : List Str, (ys.map (·.length)).sum + ys.length * 1 = wt ys := fun ys => by
    induction ys with
    | nil => rfl
    | cons a r ih =>
      rw [wt_cons, ← ih, List.map_cons, List.sum_cons, List.length_cons]
      omega
  rw [← h]
  exact Nat.le_refl _
theorem okT_app {a b : Str} (ha : okT a) (hb : okT b) : okT (a ++ b) := fun x hx => by
  have hx : x ∈ (a.cps ++ b.cps).toList := hx
  rw [Array.toList_append] at hx
  rcases List.mem_append.mp hx with h | h
  · exact ha x h
  · exact hb x h
theorem okT_sg (hc : c < 256) : okT (sg c) := fun x hx => by
  have hx : x ∈ [c] := hx
  rw [List.mem_singleton.mp hx]
  omega
theorem join_ok (hc : c < 256) : ∀ {ys : List Str}, (∀ p ∈ ys, okT p) → okT (Txt.join (sg c) ys) := fun {ys} h => by
  rw [TL.join_eq]
  induction ys with
  | nil => exact fun x hx => by cases hx
  | cons a r ih =>
    cases r with
    | nil => exact h a List.mem_cons_self
    | cons b r => exact okT_app (okT_app (h a List.mem_cons_self) (okT_sg hc)) (ih fun p hp => h p (List.mem_cons_of_mem _ hp))
theorem strsX_map : ∀ {ys : List Str}, strsX (ys.map D.str) = some ys
  | [] => rfl
  | a :: r => by
    show (strsX (r.map D.str)).map (a :: ·) = _
    rw [strsX_map]
    rfl
theorem sizeL : sizeLine = 16777216 := by decide
theorem spl_ok (hc : c < 256) (ht : okT t) (hl : t.length ≤ 1000000) : splG (.str t) [.str (sg c)] S = some (.lst ((cutT t c).map D.str), S) := by
  have h : ((sg c).length == 0) = false ∧ t.length + 2 ≤ sizeLine ∧ (Txt.split t (sg c)).all PySem.PyData.strOk = true := ⟨rfl, by rw [sizeL]; omega, List.all_eq_true.mpr fun p hp => (cut_ok hc ht p hp).is⟩
  show (if _ then _ else _) = _
  rw [if_pos h]
theorem joi_ok {ys : List Str} (hc : c < 256) (h : ∀ p ∈ ys, okT p) (hw : wt ys ≤ 1000000) : joiG (.str (sg c)) [.lst (ys.map D.str)] S = some (.str (Txt.join (sg c) ys), S) := by
  have hs : (ys.map (·.length)).sum + ys.length * (sg c).length ≤ 16777216 := by
    have h : ∀ ys : List Str, (ys.map (·.length)).sum + ys.length * 1 = wt ys := fun ys => by
      induction ys with
      | nil => rfl
      | cons a r ih =>
        rw [wt_cons, ← ih, List.map_cons, List.sum_cons, List.length_cons]
        omega
    have := h ys
    show _ + ys.length * 1 ≤ _
    omega
  show (strsX (ys.map D.str)).bind _ = _
  rw [strsX_map]
  show (if _ then _ else _) = _
  rw [if_pos ⟨hs, (join_ok hc h).is⟩]
theorem cut_le (hc : c < 256) : ∀ p ∈ cutT t c, p.length ≤ t.length := fun p hp => by
  have := wt_mem hp
  rw [cut_wt hc] at this
  omega
theorem cut_n (hc : c < 256) : (cutT t c).length ≤ t.length + 1 := by
  rw [← cut_wt hc]
  exact wt_len
end
end Hd
/-! k13: numbers and names, written -/
namespace Hd
open PySem PySem.Spec PyProof.Rows L2 Pyx
def figs : List Nat := [48, 49, 50, 51, 52, 53, 54, 55, 56, 57]
theorem figs_eq : ("0123456789" : Str) = ⟨figs.toArray⟩ := by kernel_rfl
theorem zero_eq : ("0" : Str) = sg 48 := by kernel_rfl
def figB (s : Str) : Bool := s.cps.toList.all fun c => decide (c ∈ figs)
def lenB (n : Nat) (s : Str) : Bool := decide (1 ≤ s.length ∧ s.length ≤ n)
/-- its first sign isn't 0, or it is 0 -/
def headB (s : Str) : Bool := decide (s = sg 48) || !decide (s.cps.toList.head? = some 48)
def numD (s : Str) : D := if (lenB 5 s && figB s) = true then (if headB s = true then .int (NumText.digitsVal s.cps.toList : Nat) else .non) else .non
section
variable {S : Sto} {j : Nat}
theorem chain_len {a : EM} {e : Env'} {s : Str} (n : Nat) {N : Int} (hN : N = (n : Nat)) (ha : a e S = .ok (.str s) S) (hl : s.length ≤ 1000000) : chainM leD leD (cM (.int 1)) (calM lenF (consM a nilM)) (cM (.int N)) e S = .ok (.bl (lenB n s)) S := by
  subst hN
  have h2 : calM lenF (consM a nilM) e S = .ok (.int (s.length : Nat)) S := cal_eq (consM_ok ha (r := nilM) (xs := []) rfl) (lenS (by rw [sizeL]; omega))
  unfold lenB
  by_cases h : 1 ≤ s.length
  · have h3 : leD (.int 1) (.int (s.length : Nat)) S = some (.bl true) := by rw [leD_int, decide_eq_true (by omega)]
    simp only [chainM, cM_ok, h2, bind_ok, h3, ofO_some]
    rw [leD_int]
    simp only [ofO_some]
    congr 2
    exact decide_eq_decide.mpr (by omega)
  · have h3 : leD (.int 1) (.int (s.length : Nat)) S = some (.bl false) := by rw [leD_int, decide_eq_false (by omega)]
    simp only [chainM, cM_ok, h2, bind_ok, h3, ofO_some]
    rw [decide_eq_false (by omega)]
theorem seqI_str {a : EM} {e : Env'} {s : Str} (h : a e S = .ok (.str s) S) : seqI a e S = .ok (.fix (s.cps.toList.map fun c => .str ⟨#[c]⟩)) S := by
  show (a e S).bind _ = _
  rw [h]
  rfl
theorem inD_no {c : Nat} {z : Str} : inD true (.str ⟨#[c]⟩) (.str z) S = some (.bl (!decide (c ∈ z.cps.toList))) := by
  show (if (⟨#[c]⟩ : Str).cps.size = 1 then some (D.bl (true != decide ((⟨#[c]⟩ : Str).cps.toList.getD 0 0 ∈ z.cps.toList))) else none) = _
  rw [if_pos (show (⟨#[c]⟩ : Str).cps.size = 1 from rfl)]
  show some (D.bl (true != decide (c ∈ z.cps.toList))) = _
  rw [Bool.true_bne]
/-- whether all signs are among these -/
theorem all_in {a : EM} {e : Env'} {s z : Str} {i : Nat} (ha : a e S = .ok (.str s) S) (hi : ∀ d, varM i ((wipeE e [i]).set i (some d)) S = .ok d S) (hl : s.length ≤ 1000000) :
    calM allF (consM (lcM none ([i]) (seqI a) (gNm i) yesM (binM ((inD false)) (varM i) (cM (.str z)))) nilM) e S = .ok (.bl (s.cps.toList.all fun c => decide (c ∈ z.cps.toList))) S := by
  have h := lc_pure (e := e) (S := S) (own := [i]) (g := gNm i) (tt := yesM) (te := binM ((inD false)) (varM i) (cM (.str z))) (seqI_str ha) (fun _ => true) (fun d => match d with | .str x => .bl (decide (x.cps.toList.getD 0 0 ∈ z.cps.toList)) | _ => .non) (fun d hd => by
    obtain ⟨c, _, rfl⟩ := List.mem_map.mp hd
    refine ⟨_, rfl, rfl, fun _ => ?_⟩
    exact binM_eq (hi _) rfl inD_char) (by rw [List.length_map, Array.length_toList]; exact hl)
  rw [List.filter_eq_self.mpr (fun _ _ => rfl), List.map_map] at h
  refine cal_eq (consM_ok h rfl) ?_
  exact all_lst (l := s.cps.toList) (f := fun c => decide (c ∈ z.cps.toList))
/-- the signs that aren't among these -/
theorem some_out {a : EM} {e : Env'} {s z : Str} {i : Nat} (ha : a e S = .ok (.str s) S) (hi : ∀ d, varM i ((wipeE e [i]).set i (some d)) S = .ok d S) (hl : s.length ≤ 1000000) :
    lcM none ([i]) (seqI a) (gNm i) (tstM (binM ((inD true)) (varM i) (cM (.str z)))) (varM i) e S = .ok (.lst ((s.cps.toList.filter fun c => !decide (c ∈ z.cps.toList)).map fun c => .str (sg c))) S := by
  have h := lc_pure (e := e) (S := S) (own := [i]) (g := gNm i) (tt := tstM (binM ((inD true)) (varM i) (cM (.str z)))) (te := varM i) (seqI_str ha) (fun d => match d with | .str x => !decide (x.cps.toList.getD 0 0 ∈ z.cps.toList) | _ => false) (fun d => d) (fun d hd => by
    obtain ⟨c, _, rfl⟩ := List.mem_map.mp hd
    exact ⟨_, rfl, tst_eq (binM_eq (hi _) rfl inD_no), fun _ => hi _⟩) (by rw [List.length_map, Array.length_toList]; exact hl)
  rw [List.map_id', List.filter_map] at h
  exact h
theorem eqRaw_nil {neg : Bool} {l : List Nat} : eqRaw neg (.lst (l.map fun c => .str (sg c))) (.lst []) = some (.bl (neg != decide (l = []))) := by
  have hn : ∀ l : List Nat, noCells (l.map fun c => D.str (sg c)) = true := fun l => by
    induction l with
    | nil => rfl
    | cons a r ih =>
      show (noCell (.str (sg a)) && noCells (r.map fun c => D.str (sg c))) = true
      rw [ih]
      rfl
  rw [eqRaw_plain (a := .lst (l.map fun c => .str (sg c))) (b := .lst []) (hn l) rfl (by
    have h2 : (py (.lst [])).depth = 1 := rfl
    omega)]
  cases l <;> rfl
theorem all_bad {l z : List Nat} : (l.filter fun c => !decide (c ∈ z)) = [] ↔ (l.all fun c => decide (c ∈ z)) = true := by
  rw [List.filter_eq_nil_iff, List.all_eq_true]
  exact ⟨fun h x hx => by simpa using h x hx, fun h x hx => by simpa using h x hx⟩
theorem head_at {s : Str} (h : 1 ≤ s.length) : ∃ c, atI s.cps.toList 0 = some c ∧ s.cps.toList.head? = some c := by
  have hl : 0 < s.cps.toList.length := by rw [Array.length_toList]; exact h
  cases q : s.cps.toList with
  | nil =>
    rw [q] at hl
    cases hl
  | cons c r => exact ⟨c, atI_zero, rfl⟩
theorem sub_head {a : EM} {e : Env'} {s : Str} {c : Nat} (ha : a e S = .ok (.str s) S) (ok : okT s) (hl : s.length ≤ 1000000) (hc : atI s.cps.toList 0 = some c) : subM a (cM (.int 0)) e S = .ok (.str (sg c)) S := by
  have h1 : ixD (.str s) (.int 0) S = some (.str (sg c)) := by
    show (if s.length ≤ sizeLine ∧ PySem.PyData.strOk s = true then (atI s.cps.toList 0).map (fun c => D.str ⟨#[c]⟩) else none) = _
    rw [if_pos ⟨by rw [sizeL]; omega, ok.is⟩, hc]
    rfl
  have h2 : dget (.str s) (.int 0) S = none := rfl
  simp only [subM, ha, bind_ok, cM_ok, h1, h2, ofO_some]
theorem sg_inj {a b : Nat} (h : sg a = sg b) : a = b := by
  have := congrArg (fun z : Str => z.cps.toList) h
  simpa using this
theorem int_text {s : Str} (h1 : lenB 5 s = true) (h2 : figB s = true) : intF [.str s] S = some (.int (NumText.digitsVal s.cps.toList : Nat)) := by
  have h1 := of_decide_eq_true h1
  have hi : PySem.intText? s = some ((NumText.digitsVal s.cps.toList : Nat) : Int) := by
    have := SX.int_S (a := s.cps.toList) (by
      rw [List.all_eq_true]
      intro c hc
      have := of_decide_eq_true (List.all_eq_true.mp h2 c hc)
      simp only [figs, List.mem_cons, List.not_mem_nil, or_false] at this
      simp only [Bool.and_eq_true, decide_eq_true_eq]
      omega) (by
      intro e
      have hz : s.cps.size = 0 := by rw [← Array.length_toList, e]; rfl
      have h0 : 1 ≤ s.cps.size := h1.1
      omega) (by rw [Array.length_toList]; exact Nat.le_trans h1.2 (by decide))
    rw [SX.S_tl] at this
    exact this
  show (if s.length ≤ 640 then (PySem.intText? s).map D.int else none) = _
  rw [if_pos (by omega), hi]
  rfl
theorem head_dec {s : Str} {c : Nat} (h : s.cps.toList.head? = some c) : headB s = (decide (s = sg 48) || !decide (c = 48)) := by
  unfold headB
  rw [h]
  congr 2
  exact decide_eq_decide.mpr ⟨fun e => Option.some.inj e, fun e => by rw [e]⟩
/-- the number that a word writes -/
theorem c_number_of {s : Str} (ok : okT s) (hl : s.length ≤ 1000000) : tl.mean (j + 1) F_number_of [.str s] S = .ok (numD s) S := by
  rw [mn_number_of, v_def]
  show outX (bd_number_of (tl.mean j) [some (.str s), none] S) = _
  have v0 : varM 0 [some (.str s), none] S = .ok (.str s) S := rfl
  have h1 := chain_len 5 (N := 5) rfl v0 hl
  have h2 := all_in (z := ("0123456789" : Str)) v0 (i := 1) (fun d => rfl) hl
  rw [show ("0123456789" : Str).cps.toList = figs by rw [figs_eq]] at h2
  unfold bd_number_of numD
  by_cases g1 : lenB 5 s = true
  · by_cases g2 : figB s = true
    · obtain ⟨c, hc, hh⟩ := head_at (of_decide_eq_true g1).1
      have h2 : calM allF (consM (lcM none ([1]) (seqI (varM 0)) (gNm 1) yesM (binM ((inD false)) (varM 1) (cM (.str "0123456789")))) nilM) [some (.str s), none] S = .ok (.bl true) S := by rw [h2]; exact congrArg (fun b => Out.ok (D.bl b) S) g2
      rw [g1] at h1
      rw [g1, g2, skip_if_at (or_no (not_eq' (tst_eq h1)) (not_eq' (tst_eq h2)))]
      have h3 := binM_eq v0 (b := cM (.str "0")) (y := .str "0") rfl (eqD_ss (S := S))
      have h4 := binM_eq (sub_head v0 ok hl hc) (b := cM (.str "0")) (y := .str "0") rfl (neD_ss (S := S))
      rw [zero_eq] at h3 h4 ⊢
      rw [head_dec hh]
      have e4 : decide (sg c = sg 48) = decide (c = 48) := decide_eq_decide.mpr ⟨sg_inj, fun e => by rw [e]⟩
      rw [e4] at h4
      have h5 : orM (tstM (binM eqD (varM 0) (cM (.str (sg 48))))) (tstM (binM neD (subM (varM 0) (cM (.int 0))) (cM (.str (sg 48))))) [some (.str s), none] S = .ok (decide (s = sg 48) || !decide (c = 48)) S := by
        cases q : decide (s = sg 48) with
        | true =>
          rw [q] at h3
          exact or_yes (tst_eq h3)
        | false =>
          rw [q] at h3
          exact or_no (tst_eq h3) (tst_eq h4)
      cases q : (decide (s = sg 48) || !decide (c = 48)) with
      | true =>
        rw [q] at h5
        rw [ret_ok (ifM_yes h5 (cal_eq (consM_ok v0 (r := nilM) (xs := []) rfl) (int_text g1 g2)))]
        rfl
      | false =>
        rw [q] at h5
        rw [ret_ok (ifM_no h5 (d := .non) rfl)]
        rfl
    · have g2 := Bool.eq_false_iff.mpr g2
      have h2 : calM allF (consM (lcM none ([1]) (seqI (varM 0)) (gNm 1) yesM (binM ((inD false)) (varM 1) (cM (.str "0123456789")))) nilM) [some (.str s), none] S = .ok (.bl false) S := by rw [h2]; exact congrArg (fun b => Out.ok (D.bl b) S) g2
      rw [g1] at h1
      rw [g1, g2, if_rt (or_no (not_eq' (tst_eq h1)) (not_eq' (tst_eq h2))) (d := .non) (S2 := S) rfl]
      rfl
  · have g1 := Bool.eq_false_iff.mpr g1
    rw [g1] at h1
    rw [g1, if_rt (or_yes (not_eq' (tst_eq h1))) (d := .non) (S2 := S) rfl]
    rfl
theorem c_law_number {s : Str} (ok : okT s) (hl : s.length ≤ 1000000) : tl.mean (j + 1) F__law_number [.str s] S = .ok (numD s) S := by
  rw [mn__law_number, v_def]
  show outX (bd__law_number (tl.mean j) [some (.str s), none] S) = _
  have v0 : varM 0 [some (.str s), none] S = .ok (.str s) S := rfl
  have h1 := chain_len 5 (N := 5) rfl v0 hl
  have h2 := some_out (z := ("0123456789" : Str)) v0 (i := 1) (fun d => rfl) hl
  have h2 := binM_eq (g := neD) h2 (b := lstM nilM) (y := .lst []) rfl (eqRaw_nil (neg := true))
  rw [show ("0123456789" : Str).cps.toList = figs by rw [figs_eq]] at h2
  have h2 : binM neD (lcM none ([1]) (seqI (varM 0)) (gNm 1) (tstM (binM ((inD true)) (varM 1) (cM (.str "0123456789")))) (varM 1)) (lstM nilM) [some (.str s), none] S = .ok (.bl (!figB s)) S := by
    rw [h2]
    congr 2
    cases q : figB s with
    | true => rw [decide_eq_true (all_bad.mpr q)]; rfl
    | false => rw [decide_eq_false (fun z => by rw [show figB s = true from all_bad.mp z] at q; cases q)]; rfl
  unfold bd__law_number numD
  by_cases g1 : lenB 5 s = true
  · by_cases g2 : figB s = true
    · obtain ⟨c, hc, hh⟩ := head_at (of_decide_eq_true g1).1
      rw [g1] at h1
      rw [g2] at h2
      rw [g1, g2, skip_if_at (or_no (not_eq' (tst_eq h1)) (tst_eq h2))]
      have h3 := binM_eq v0 (b := cM (.str "0")) (y := .str "0") rfl (neD_ss (S := S))
      have h4 := binM_eq (sub_head v0 ok hl hc) (b := cM (.str "0")) (y := .str "0") rfl (eqD_ss (S := S))
      rw [zero_eq] at h3 h4 ⊢
      rw [head_dec hh]
      have e4 : decide (sg c = sg 48) = decide (c = 48) := decide_eq_decide.mpr ⟨sg_inj, fun e => by rw [e]⟩
      rw [e4] at h4
      have h5 : andM (tstM (binM eqD (subM (varM 0) (cM (.int 0))) (cM (.str (sg 48))))) (tstM (binM neD (varM 0) (cM (.str (sg 48))))) [some (.str s), none] S = .ok (!(decide (s = sg 48) || !decide (c = 48))) S := by
        cases q : decide (c = 48) with
        | true =>
          rw [q] at h4
          rw [and_yes (tst_eq h4) (tst_eq h3)]
          simp
        | false =>
          rw [q] at h4
          rw [and_no (tst_eq h4)]
          simp
      cases q : (decide (s = sg 48) || !decide (c = 48)) with
      | true =>
        rw [q] at h5
        rw [ret_ok (ifM_no h5 (cal_eq (consM_ok v0 (r := nilM) (xs := []) rfl) (int_text g1 g2)))]
        rfl
      | false =>
        rw [q] at h5
        rw [ret_ok (ifM_yes h5 (d := .non) rfl)]
        rfl
    · have g2 := Bool.eq_false_iff.mpr g2
      rw [g2] at h2
      rw [g1] at h1
      rw [g1, g2, if_rt (or_no (not_eq' (tst_eq h1)) (tst_eq h2)) (d := .non) (S2 := S) rfl]
      rfl
  · have g1 := Bool.eq_false_iff.mpr g1
    rw [g1] at h1
    rw [g1, if_rt (or_yes (not_eq' (tst_eq h1))) (d := .non) (S2 := S) rfl]
    rfl
def namD (s : Str) : D := if isNameP s = true then .str s else .non
theorem name_len {s : Str} : isNameP s = (lenB 8 s && s.cps.toList.all fun c => decide (c ∈ letters)) := by
  unfold isNameP lenB
  rw [Bool.decide_and]
theorem c_law_name {s : Str} (hl : s.length ≤ 1000000) : tl.mean (j + 1) F__law_name [.str s] S = .ok (namD s) S := by
  rw [mn__law_name, v_def]
  show outX (bd__law_name (tl.mean j) [some (.str s), none, none] S) = _
  have h2 := some_out (z := ("abcdefghijklmnopqrstuvwxyz" : Str)) (e := [some (.str s), none, none]) (a := varM 0) (s := s) (S := S) rfl (i := 2) (fun d => rfl) hl
  rw [show ("abcdefghijklmnopqrstuvwxyz" : Str).cps.toList = letters from rfl] at h2
  unfold bd__law_name namD
  rw [asg_ok h2 rfl]
  generalize hx : (List.map (fun c => D.str (sg c)) (List.filter (fun c => !decide (c ∈ letters)) s.cps.toList)) = xs
  have v0 : varM 0 [some (.str s), some (.lst xs), none] S = .ok (.str s) S := rfl
  have h1 := chain_len 8 (N := 8) rfl v0 hl
  have h3 : binM eqD (varM 1) (lstM nilM) [some (.str s), some (.lst xs), none] S = .ok (.bl (s.cps.toList.all fun c => decide (c ∈ letters))) S := by
    have h4 := binM_eq (g := eqD) (a := varM 1) (b := lstM nilM) (e := [some (.str s), some (.lst xs), none]) (S := S) (x := .lst xs) (y := .lst []) rfl rfl (by
      show eqRaw false (.lst xs) (.lst []) = _
      rw [← hx]
      exact eqRaw_nil (neg := false))
    rw [h4]
    congr 2
    cases q : (s.cps.toList.all fun c => decide (c ∈ letters)) with
    | true => rw [decide_eq_true (all_bad.mpr q)]; rfl
    | false => rw [decide_eq_false (fun z => by rw [show (s.cps.toList.all fun c => decide (c ∈ letters)) = true from all_bad.mp z] at q; cases q)]; rfl
  rw [name_len]
  show outX (seqM (retM _) skipM [some (.str s), some (.lst xs), none] S) = _
  cases g1 : lenB 8 s with
  | true =>
    rw [g1] at h1
    have h5 := and_yes (tst_eq h1) (tst_eq h3)
    cases g2 : (s.cps.toList.all fun c => decide (c ∈ letters)) with
    | true =>
      rw [g2] at h5
      rw [ret_ok (ifM_yes h5 v0)]
      rfl
    | false =>
      rw [g2] at h5
      rw [ret_ok (ifM_no h5 (d := .non) rfl)]
      rfl
  | false =>
    rw [g1] at h1
    rw [ret_ok (ifM_no (and_no (tst_eq h1)) (d := .non) rfl)]
    rfl
end
end Hd
/-! k13: the deed of a row's words -/
namespace Hd
open PySem PySem.Spec PyProof.Rows L2 Pyx
theorem cut_to {A : Type} {xs : List A} {k : Int} (h : 0 ≤ k) : Pyx.cutD xs none (some k) = xs.take k.toNat := by
  obtain ⟨n, rfl⟩ := Int.eq_ofNat_of_zero_le h
  unfold Pyx.cutD
  rw [HT.sIx_none, HT.sIx_nat, Int.toNat_natCast, List.drop_zero, Nat.sub_zero, List.take_eq_take_iff]
  omega
theorem cut_from {A : Type} {xs : List A} {k : Int} (h : 0 ≤ k) : Pyx.cutD xs (some k) none = xs.drop k.toNat := by
  obtain ⟨n, rfl⟩ := Int.eq_ofNat_of_zero_le h
  unfold Pyx.cutD
  rw [HT.sIx_none, HT.sIx_nat, Int.toNat_natCast]
  by_cases hn : n ≤ xs.length
  · rw [Nat.min_eq_left hn, List.take_of_length_le]
    rw [List.length_drop]
    exact Nat.le_refl _
  · rw [Nat.min_eq_right (by omega), Nat.sub_self, List.take_zero, List.drop_of_length_le (by omega)]
def isN : D → Bool
  | .non => true
  | _ => false
section
variable {S : Sto} {j : Nat}
theorem inD_non {ds : List D} (h : ∀ d ∈ ds, flatD d = true) : inD false .non (.lst ds) S = some (.bl (ds.any isN)) := by
  show (if flatD .non && ds.all flatD then some (D.bl (false != inSeq .non ds)) else _) = _
  have h1 : (flatD .non && ds.all flatD) = true := by
    show (true && ds.all flatD) = true
    rw [List.all_eq_true.mpr h]
    rfl
  rw [if_pos h1]
  have h2 : inSeq .non ds = ds.any isN := by
    unfold inSeq
    rw [Bool.eq_iff_iff, List.any_eq_true, List.any_eq_true]
    refine ⟨fun ⟨d, hd, e⟩ => ⟨d, hd, ?_⟩, fun ⟨d, hd, e⟩ => ⟨d, hd, ?_⟩⟩
    · have := h d hd
      cases d <;> first | rfl | (cases e; done) | (cases this; done)
    · cases d <;> first | rfl | (cases e; done)
  rw [h2]
  cases ds.any isN <;> rfl
theorem num_flat (s : Str) : flatD (numD s) = true := by
  unfold numD
  split
  · split <;> rfl
  · rfl
theorem nam_flat (s : Str) : flatD (namD s) = true := by
  unfold namD
  split <;> rfl
def partD (f : Nat) (s : Str) : D := if f = 110 then numD s else namD s
theorem part_flat (f : Nat) (s : Str) : flatD (partD f s) = true := by
  unfold partD
  split
  · exact num_flat s
  · exact nam_flat s
def rowC (w : Str) (rest : List Str) : D := match tKd_FORMS.lookup w with
    | none => .non
    | some f => if w = "fill" then (if ((rest.map numD).any isN || decide (rest.length < 2)) = true then .non else .tup [.str w, (rest.map numD).headD .non, .tup (rest.map numD).tail])
      else (if (!decide (rest.length = f.length) || (List.zipWith partD f.cps.toList rest).any isN) = true then .non else .tup (.str w :: List.zipWith partD f.cps.toList rest))
def rowD : List Str → D
  | [] => .non
  | w :: rest => rowC w rest
theorem n_eq : ("n" : Str) = sg 110 := by kernel_rfl
theorem c_is_nameX {s : Str} (hl : s.length ≤ 1000000) : tl.mean (j + 1) F_is_name [.str s] S = .ok (.bl (isNameP s)) S := by
  rw [mn_is_name, v_def]
  show outX (bd_is_name (tl.mean j) [some (.str s), none] S) = _
  have v0 : varM 0 [some (.str s), none] S = .ok (.str s) S := rfl
  have h1 := chain_len 8 (N := 8) rfl v0 hl
  have h2 := all_in (z := ("abcdefghijklmnopqrstuvwxyz" : Str)) v0 (i := 1) (fun d => rfl) hl
  rw [name_len]
  have h3 : andV (isiM ("str") (varM 0)) (andV (chainM leD leD (cM (.int 1)) (calM lenF (consM (varM 0) nilM)) (cM (.int 8))) (calM allF (consM (lcM none ([1]) (seqI (varM 0)) (gNm 1) yesM (binM ((inD false)) (varM 1) (cM (.str "abcdefghijklmnopqrstuvwxyz")))) nilM))) [some (.str s), none] S = .ok (.bl (lenB 8 s && s.cps.toList.all fun c => decide (c ∈ letters))) S := by
    rw [v_andV, isiM_eq v0 isi_str_s]
    show andV _ _ _ S = _
    rw [v_andV, h1]
    cases g1 : lenB 8 s with
    | true => exact h2
    | false => rfl
  unfold bd_is_name
  rw [ret_ok h3]
  rfl
theorem c_part_of {c : Nat} {s : Str} (ok : okT s) (hl : s.length ≤ 1000000) : tl.mean (j + 2) F_part_of [.str (sg c), .str s] S = .ok (partD c s) S := by
  rw [mn_part_of, v_def]
  show outX (bd_part_of (tl.mean (j + 1)) [some (.str (sg c)), some (.str s)] S) = _
  have v1 : varM 1 [some (.str (sg c)), some (.str s)] S = .ok (.str s) S := rfl
  have h1 := binM_eq (g := eqD) (a := varM 0) (e := [some (.str (sg c)), some (.str s)]) (S := S) (x := .str (sg c)) rfl (b := cM (.str "n")) (y := .str "n") rfl (eqD_ss (S := S))
  rw [n_eq, show decide (sg c = sg 110) = decide (c = 110) from decide_eq_decide.mpr ⟨sg_inj, fun e => by rw [e]⟩] at h1
  unfold bd_part_of partD
  rw [n_eq]
  by_cases hc : c = 110
  · rw [decide_eq_true hc] at h1
    have c1 := call_eq (np := 1) (dd := []) (consM_ok v1 (r := nilM) (xs := []) rfl) rfl (c_number_of (j := j) (S := S) ok hl)
    rw [if_pos hc, if_rt (tst_eq h1) (ret_ok c1)]
    rfl
  · rw [decide_eq_false hc] at h1
    rw [if_neg hc, skip_if_at (tst_eq h1)]
    have h2 := tst_eq (call_eq (np := 1) (dd := []) (consM_ok v1 (r := nilM) (xs := []) rfl) rfl (c_is_nameX (j := j) (S := S) hl))
    unfold namD
    cases q : isNameP s with
    | true =>
      rw [q] at h2
      rw [ret_ok (ifM_yes h2 v1)]
      rfl
    | false =>
      rw [q] at h2
      rw [ret_ok (ifM_no h2 (d := .non) rfl)]
      rfl
theorem slM_lst {a : EM} {lo hi : OM} {e : Env'} {ds : List D} {p q : Option Int} (ha : a e S = .ok (.lst ds) S) (hp : lo e S = .ok p S) (hq : hi e S = .ok q S) : sliceM a lo hi e S = .ok (.lst (Pyx.cutD ds p q)) S := by
  unfold sliceM
  rw [ha, v_ok, hp, v_ok, hq]
  rfl
theorem partM_ok {a : EM} {e : Env'} {k : Int} {S1 : Sto} (ha : a e S = .ok (.int k) S1) : partM a e S = .ok (some k) S1 := by
  unfold partM
  rw [ha]
  rfl
/-- every word of a list made anew -/
theorem lc_words {e : Env'} {i : Nat} {a te : EM} {ws : List Str} {f : Str → D} (ha : a e S = .ok (.lst (ws.map D.str)) S) (h : ∀ s ∈ ws, te ((wipeE e [i]).set i (some (.str s))) S = .ok (f s) S) (hl : ws.length ≤ 1000000) :
    lcM none ([i]) (seqI a) (gNm i) yesM te e S = .ok (.lst (ws.map f)) S := by
  have h1 := lc_pure (e := e) (S := S) (own := [i]) (g := gNm i) (tt := yesM) (te := te) (seqI_lst ha) (fun _ => true) (fun d => match d with | .str s => f s | _ => .non) (fun d hd => by
    obtain ⟨s, hs, rfl⟩ := List.mem_map.mp hd
    exact ⟨_, rfl, rfl, fun _ => h s hs⟩) (by rw [List.length_map]; exact hl)
  rw [List.filter_eq_self.mpr (fun _ _ => rfl), List.map_map] at h1
  exact h1
theorem forms_ok : (tKd_FORMS.all fun p => PySem.PyData.strOk p.2 && decide (p.2.length ≤ 3)) = true := by kernel_rfl
theorem form_ok {w f : Str} (h : tKd_FORMS.lookup w = some f) : okT f ∧ f.length ≤ 3 := by
  have h1 := List.all_eq_true.mp forms_ok _ (PySem.mem_of_lookup h)
  rw [Bool.and_eq_true] at h1
  exact ⟨okT_of h1.1, of_decide_eq_true h1.2⟩
theorem zip_parts {f : List Nat} {ws : List Str} {g : D → D} (h : ∀ c s, g (pairD (.str (sg c)) (.str s)) = partD c s) : (List.zipWith pairD (f.map fun c => D.str ⟨#[c]⟩) (ws.map D.str)).map g = List.zipWith partD f ws := by
  induction f generalizing ws with
  | nil => rfl
  | cons c r ih =>
    cases ws with
    | nil => rfl
    | cons s t =>
      show g (pairD (.str (sg c)) (.str s)) :: (List.zipWith pairD (r.map fun c => D.str ⟨#[c]⟩) (t.map D.str)).map g = _
      rw [ih, h]
      rfl
theorem zip_mem {f : List Nat} {ws : List Str} {d : D} (h : d ∈ List.zipWith pairD (f.map fun c => D.str ⟨#[c]⟩) (ws.map D.str)) : ∃ c s, s ∈ ws ∧ d = pairD (.str (sg c)) (.str s) := by
  induction f generalizing ws with
  | nil => cases h
  | cons c r ih =>
    cases ws with
    | nil => cases h
    | cons s t =>
      rcases List.mem_cons.mp h with h | h
      · exact ⟨c, s, List.mem_cons_self, h⟩
      · obtain ⟨c, s, h1, h2⟩ := ih h
        exact ⟨c, s, List.mem_cons_of_mem _ h1, h2⟩
def okW (ws : List Str) : Prop := (∀ s ∈ ws, okT s ∧ s.length ≤ 1000000) ∧ ws.length ≤ 1000000 ∧ ws ≠ []
theorem parts_flat {f : List Nat} {ws : List Str} : ∀ d ∈ List.zipWith partD f ws, flatD d = true := by
  induction f generalizing ws with
  | nil => intro d h; cases h
  | cons c r ih =>
    cases ws with
    | nil => intro d h; cases h
    | cons s t =>
      intro d h
      rcases List.mem_cons.mp h with h | h
      · rw [h]
        exact part_flat c s
      · exact ih d h
theorem or_or {t u : TM} {e : Env'} {a b : Bool} (h1 : t e S = .ok a S) (h2 : u e S = .ok b S) : orM t u e S = .ok (a || b) S := by
  cases a with
  | true => exact or_yes h1
  | false => exact or_no h1 h2
theorem ifM_if {t : TM} {a b : EM} {e : Env'} {c : Bool} {x y : D} (h : t e S = .ok c S) (ha : c = true → a e S = .ok x S) (hb : c = false → b e S = .ok y S) : ifM t a b e S = .ok (if c = true then x else y) S := by
  cases c with
  | true => exact ifM_yes h (ha rfl)
  | false => exact ifM_no h (hb rfl)
theorem c_deed_of {ws : List Str} (h : okW ws) : tl.mean (j + 3) F_deed_of [.lst (ws.map D.str)] S = .ok (rowD ws) S := by
  obtain ⟨hw, hn, hne⟩ := h
  cases ws with
  | nil => exact absurd rfl hne
  | cons w rest =>
  have hw1 := hw w List.mem_cons_self
  have hr : ∀ s ∈ rest, okT s ∧ s.length ≤ 1000000 := fun s hs => hw s (List.mem_cons_of_mem _ hs)
  have hrl : rest.length ≤ 1000000 := by rw [List.length_cons] at hn; omega
  rw [mn_deed_of, v_def]
  show outX (bd_deed_of (tl.mean (j + 2)) [some (.lst (.str w :: rest.map D.str)), none, none, none, none, none, none, none] S) = _
  unfold bd_deed_of
  have a1 : tupM (consM (subM (varM 0) (cM (.int 0))) (consM (sliceM (varM 0) (partM (cM (.int 1))) noPart) nilM)) [some (.lst (.str w :: rest.map D.str)), none, none, none, none, none, none, none] S = .ok (.tup [.str w, .lst (rest.map D.str)]) S := by
    refine tupM_ok (consM_ok (subM_lst (S1 := S) rfl rfl atI_zero) (consM_ok (slM_lst rfl (partM_ok (k := 1) rfl) rfl) rfl)) (by simp) |>.trans ?_
    rw [cut_from (by decide)]
    rfl
  rw [asg_ok a1 (show gTp 2 (gsCons (gNm 1) (gsCons (gNm 2) gsNil)) (.tup [.str w, .lst (rest.map D.str)]) _ = some [some (.lst (.str w :: rest.map D.str)), some (.str w), some (.lst (rest.map D.str)), none, none, none, none, none] from rfl)]
  have a2 : tstM (kdInM true tKd_FORMS (varM 1)) [some (.lst (.str w :: rest.map D.str)), some (.str w), some (.lst (rest.map D.str)), none, none, none, none, none] S = .ok (true != (tKd_FORMS.lookup w).isSome) S := rfl
  show _ = Out.ok (rowC w rest) S
  unfold rowC
  cases hf : tKd_FORMS.lookup w with
  | none =>
    rw [hf] at a2
    rw [if_rt a2 (ret_ok (d := .non) (S1 := S) rfl)]
    rfl
  | some f =>
    rw [hf] at a2
    rw [skip_if_at a2]
    have a3 := tst_eq (binM_eq (g := eqD) (a := varM 1) (b := cM (.str "fill")) (e := [some (.lst (.str w :: rest.map D.str)), some (.str w), some (.lst (rest.map D.str)), none, none, none, none, none]) (S := S) (x := .str w) rfl rfl (eqD_ss (S := S)))
    dsimp only
    by_cases hfill : w = ("fill" : Str)
    · rw [decide_eq_true hfill] at a3
      rw [if_pos hfill]
      have b1 := lc_words (e := [some (.lst (.str w :: rest.map D.str)), some (.str w), some (.lst (rest.map D.str)), none, none, none, none, none]) (S := S) (i := 4) (a := varM 2) (te := callM 1 ([]) (tl.mean (j + 2) F_number_of) (consM (varM 4) nilM)) (ws := rest) (f := numD) rfl (fun s hs => call_eq (consM_ok (x := .str s) (S1 := S) rfl rfl) rfl (c_number_of (hr s hs).1 (hr s hs).2)) hrl
      have e1 : varM 3 [some (.lst (.str w :: rest.map D.str)), some (.str w), some (.lst (rest.map D.str)), some (.lst (rest.map numD)), none, none, none, none] S = .ok (.lst (rest.map numD)) S := rfl
      have b2 := tst_eq (binM_eq (g := inD false) (a := cM .non) (b := varM 3) (x := .non) rfl e1 (inD_non (S := S) (fun d hd => by
        obtain ⟨s, _, rfl⟩ := List.mem_map.mp hd
        exact num_flat s)))
      have b3 := tst_eq (binM_eq (g := ltD) (a := calM lenF (consM (varM 3) nilM)) (b := cM (.int 2)) (cal_eq (consM_ok e1 (r := nilM) (xs := []) rfl) lenL) rfl (ltD_int (S := S)))
      have b4 := or_or b2 b3
      rw [show decide (((rest.map numD).length : Nat) < (2 : Int)) = decide (rest.length < 2) from decide_eq_decide.mpr (by rw [List.length_map]; omega)] at b4
      have b5 : (((rest.map numD).any isN || decide (rest.length < 2)) = false) → tupM (consM (varM 1) (consM (subM (varM 3) (cM (.int 0))) (consM (calM tupF (consM (sliceM (varM 3) (partM (cM (.int 1))) noPart) nilM)) nilM))) [some (.lst (.str w :: rest.map D.str)), some (.str w), some (.lst (rest.map D.str)), some (.lst (rest.map numD)), none, none, none, none] S = .ok (.tup [.str w, (rest.map numD).headD .non, .tup (rest.map numD).tail]) S := fun q => by
        rw [Bool.or_eq_false_iff] at q
        have q2 := of_decide_eq_false q.2
        cases rest with
        | nil => exact absurd q2 (by simp)
        | cons r rs =>
          refine tupM_ok (consM_ok (x := .str w) (S1 := S) rfl (consM_ok (subM_lst (S1 := S) e1 rfl atI_zero) (consM_ok (cal_eq (consM_ok (slM_lst e1 (partM_ok (k := 1) rfl) rfl) (r := nilM) (xs := []) rfl) tupF_lst) rfl))) (by simp) |>.trans ?_
          rw [cut_from (by decide)]
          rfl
      have b6 := ifM_if (a := cM .non) (x := .non) b4 (fun _ => rfl) b5
      refine (congrArg outX (if_rt a3 (d := _) (S2 := S) ?_)).trans rfl
      rw [asg_ok b1 rfl]
      exact ret_ok b6
    · rw [decide_eq_false hfill] at a3
      rw [if_neg hfill, skip_if_at a3]
      obtain ⟨fo, fl⟩ := form_ok hf
      have c1 : kdIxM tKd_FORMS (varM 1) [some (.lst (.str w :: rest.map D.str)), some (.str w), some (.lst (rest.map D.str)), none, none, none, none, none] S = .ok (.str f) S := by
        show ofO ((tKd_FORMS.lookup w).map D.str) S = _
        rw [hf]
        rfl
      rw [asg_ok c1 rfl]
      show outX (seqM _ _ [some (.lst (.str w :: rest.map D.str)), some (.str w), some (.lst (rest.map D.str)), none, none, some (.str f), none, none] S) = _
      have c2 : zipSI (consM (varM 5) (consM (varM 2) nilM)) [some (.lst (.str w :: rest.map D.str)), some (.str w), some (.lst (rest.map D.str)), none, none, some (.str f), none, none] S = .ok (.fix (List.zipWith pairD (signsD f) (rest.map D.str))) S := by
        show (if PySem.PyData.strOk f = true then _ else _) = _
        rw [if_pos fo.is]
      have c3 := lc_pure (e := [some (.lst (.str w :: rest.map D.str)), some (.str w), some (.lst (rest.map D.str)), none, none, some (.str f), none, none]) (S := S) (own := [4, 7]) (g := gTp 2 (gsCons (gNm 4) (gsCons (gNm 7) gsNil))) (tt := yesM) (te := callM 2 ([]) (tl.mean (j + 2) F_part_of) (consM (varM 4) (consM (varM 7) nilM))) c2 (fun _ => true)
        (fun d => match d with | .tup [.str c, .str s] => partD (c.cps.toList.getD 0 0) s | _ => .non) (fun d hd => by
          obtain ⟨c, s, hs, rfl⟩ := zip_mem hd
          exact ⟨_, rfl, rfl, fun _ => call_eq (consM_ok (x := .str (sg c)) (S1 := S) rfl (consM_ok (x := .str s) (S1 := S) rfl rfl)) rfl (c_part_of (hr s hs).1 (hr s hs).2)⟩) (by
          rw [List.length_zipWith, List.length_map]
          omega)
      rw [List.filter_eq_self.mpr (fun _ _ => rfl), show signsD f = f.cps.toList.map fun c => D.str ⟨#[c]⟩ from rfl, zip_parts (fun c s => rfl)] at c3
      rw [asg_ok c3 rfl]
      show outX (seqM (retM _) _ [some (.lst (.str w :: rest.map D.str)), some (.str w), some (.lst (rest.map D.str)), none, none, some (.str f), some (.lst (List.zipWith partD f.cps.toList rest)), none] S) = _
      have e6 : varM 6 [some (.lst (.str w :: rest.map D.str)), some (.str w), some (.lst (rest.map D.str)), none, none, some (.str f), some (.lst (List.zipWith partD f.cps.toList rest)), none] S = .ok (.lst (List.zipWith partD f.cps.toList rest)) S := rfl
      have d1 := tst_eq (binM_eq (g := neD) (a := calM lenF (consM (varM 2) nilM)) (b := calM lenF (consM (varM 5) nilM)) (e := [some (.lst (.str w :: rest.map D.str)), some (.str w), some (.lst (rest.map D.str)), none, none, some (.str f), some (.lst (List.zipWith partD f.cps.toList rest)), none]) (S := S) (cal_eq (consM_ok (x := .lst (rest.map D.str)) (S1 := S) rfl (r := nilM) (xs := []) rfl) lenL) (cal_eq (consM_ok (x := .str f) (S1 := S) rfl (r := nilM) (xs := []) rfl) (lenS (by rw [sizeL]; omega))) (neD_ii (S := S)))
      have d2 := tst_eq (binM_eq (g := inD false) (a := cM .non) (b := varM 6) (x := .non) rfl e6 (inD_non (S := S) parts_flat))
      have d3 := or_or d1 d2
      rw [show decide ((((rest.map D.str).length : Nat) : Int) = ((f.length : Nat) : Int)) = decide (rest.length = f.length) from decide_eq_decide.mpr (by rw [List.length_map]; omega)] at d3
      have hz : (List.zipWith partD f.cps.toList rest).length ≤ 1000000 := by
        rw [List.length_zipWith]
        omega
      have d4 : calM tupF (consM (binM addD (lstM (consM (varM 1) nilM)) (varM 6)) nilM) [some (.lst (.str w :: rest.map D.str)), some (.str w), some (.lst (rest.map D.str)), none, none, some (.str f), some (.lst (List.zipWith partD f.cps.toList rest)), none] S = .ok (.tup (.str w :: List.zipWith partD f.cps.toList rest)) S := by
        refine cal_eq (consM_ok (binM_eq (lstM_ok (consM_ok (x := .str w) (S1 := S) rfl (r := nilM) (xs := []) rfl) (by simp)) e6 (z := .lst (.str w :: List.zipWith partD f.cps.toList rest)) ?_) (r := nilM) (xs := []) rfl) tupF_lst
        show (if _ then _ else _) = _
        rw [if_pos (by rw [sizeL]; simp only [List.length_cons, List.length_nil]; omega)]
        rfl
      rw [ret_ok (ifM_if (a := cM .non) (x := .non) d3 (fun _ => rfl) (fun _ => d4))]
      rfl
end
end Hd
/-! k13: a text read -/
namespace Hd
open PySem PySem.Spec PyProof.Rows L2 Pyx
def stops : SO → Bool
  | .rt _ _ => true
  | .exc _ _ _ => true
  | _ => false
/-- a loop that may be left by return, by raise -/
theorem loop_stop {src : Src} {n : Nat} {g : GM} {body : SM} (item : Nat → Option D) (I : Nat → Env' → Sto → Prop) (P : SO → Prop) (hget : ∀ k e S, k ≤ n → I k e S → src.get S k = some (item k)) (hn : item n = none)
    (hs : ∀ k e S, k < n → I k e S → ∃ d e1, item k = some d ∧ g d e = some e1 ∧ ((∃ e' S', body e1 S = .nx e' S' ∧ I (k + 1) e' S') ∨ ∃ o, body e1 S = o ∧ stops o = true ∧ P o)) :
    ∀ (m k f : Nat) (e : Env') (S : Sto), k + m = n → m < f → I k e S → (∃ e' S', loopM src g body f k e S = .nx e' S' ∧ I n e' S') ∨ ∃ o, loopM src g body f k e S = o ∧ stops o = true ∧ P o
  | 0, k, 0, _, _, _, hf, _ => absurd hf (by omega)
  | 0, k, f + 1, e, S, hk, _, h => by
    have e0 : k = n := by omega
    subst e0
    refine .inl ⟨e, S, ?_, h⟩
    unfold loopM
    rw [hget k e S (Nat.le_refl _) h, hn]
  | m + 1, k, 0, _, _, _, hf, _ => absurd hf (by omega)
  | m + 1, k, f + 1, e, S, hk, hf, h => by
    obtain ⟨d, e1, h1, h2, h3⟩ := hs k e S (by omega) h
    have step : loopM src g body (f + 1) k e S = match body e1 S with
        | .nx e' S' => loopM src g body f (k + 1) e' S'
        | .ct e' S' => loopM src g body f (k + 1) e' S'
        | .bk e' S' => .nx e' S'
        | o => o := by
      show (match src.get S k with
        | none => SO.bad
        | some none => .nx e S
        | some (some d) => match g d e with
          | none => .bad
          | some e1 => match body e1 S with
            | .nx e' S' => loopM src g body f (k + 1) e' S'
            | .ct e' S' => loopM src g body f (k + 1) e' S'
            | .bk e' S' => .nx e' S'
            | o => o) = _
      rw [hget k e S (by omega) h, h1]
      show (match g d e with
        | none => SO.bad
        | some e1 => match body e1 S with
          | .nx e' S' => loopM src g body f (k + 1) e' S'
          | .ct e' S' => loopM src g body f (k + 1) e' S'
          | .bk e' S' => .nx e' S'
          | o => o) = _
      rw [h2]
    rcases h3 with ⟨e', S', h3, h4⟩ | ⟨o, h3, h4, h5⟩
    · have ih := loop_stop item I P hget hn hs m (k + 1) f e' S' (by omega) (by omega) h4
      rw [step, h3]
      exact ih
    · refine .inr ⟨o, ?_, h4, h5⟩
      rw [step, h3]
      cases o <;> first | rfl | cases h4
theorem loop_fixS {ds : List D} {g : GM} {body : SM} {e : Env'} {S : Sto} (I : Nat → Env' → Sto → Prop) (P : SO → Prop) (h0 : I 0 e S)
    (hs : ∀ k e S d, ds[k]? = some d → I k e S → ∃ e1, g d e = some e1 ∧ ((∃ e' S', body e1 S = .nx e' S' ∧ I (k + 1) e' S') ∨ ∃ o, body e1 S = o ∧ stops o = true ∧ P o)) :
    (∃ e' S', loopM (.fix ds) g body ((Src.fix ds).fuel S) 0 e S = .nx e' S' ∧ I ds.length e' S') ∨ ∃ o, loopM (.fix ds) g body ((Src.fix ds).fuel S) 0 e S = o ∧ stops o = true ∧ P o := by
  refine loop_stop (fun k => ds[k]?) I P (fun k e S _ _ => rfl) (by simp) (fun k e S hk h => ?_) ds.length 0 _ e S (by omega) (Nat.lt_succ_self _) h0
  have hd : ds[k]? = some ds[k] := List.getElem?_eq_getElem hk
  obtain ⟨e1, h1, h2⟩ := hs k e S _ hd h
  exact ⟨_, e1, hd, h1, h2⟩
theorem loop_rngS {n : Nat} {g : GM} {body : SM} {e : Env'} {S : Sto} (I : Nat → Env' → Sto → Prop) (P : SO → Prop) (h0 : I 0 e S)
    (hs : ∀ k e S, k < n → I k e S → ∃ e1, g (.int (k : Nat)) e = some e1 ∧ ((∃ e' S', body e1 S = .nx e' S' ∧ I (k + 1) e' S') ∨ ∃ o, body e1 S = o ∧ stops o = true ∧ P o)) :
    (∃ e' S', loopM (.rng 0 1 n) g body ((Src.rng 0 1 n).fuel S) 0 e S = .nx e' S' ∧ I n e' S') ∨ ∃ o, loopM (.rng 0 1 n) g body ((Src.rng 0 1 n).fuel S) 0 e S = o ∧ stops o = true ∧ P o := by
  refine loop_stop (fun k => if k < n then some (.int (0 + (k : Nat) * 1)) else none) I P (fun k e S _ _ => rfl) (by simp) (fun k e S hk h => ?_) n 0 _ e S (by omega) (Nat.lt_succ_self _) h0
  obtain ⟨e1, h1, h2⟩ := hs k e S hk h
  exact ⟨_, e1, if_pos hk, by rw [show (0 : Int) + (k : Nat) * 1 = (k : Nat) by omega]; exact h1, h2⟩
section
variable {S S1 S2 : Sto} {j : Nat}
theorem for_stop {im : IM} {g : GM} {body r : SM} {src : Src} {e : Env'} {o : SO} (hi : im e S = .ok src S1) (hl : loopM src g body (src.fuel S1) 0 e S1 = o) (ho : stops o = true) : seqM (forM im g body) r e S = o := by
  have h : Pyx.forM im g body e S = o := by
    unfold Pyx.forM
    rw [hi]
    exact hl
  unfold seqM
  rw [h]
  cases o <;> first | rfl | cases ho
theorem seq_exc {a r : SM} {e e' : Env'} {S S' : Sto} {x : Exn} (h : a e S = .exc x e' S') : seqM a r e S = .exc x e' S' := by
  unfold seqM
  rw [h]
theorem if_exc {c : TM} {a b r : SM} {e e' : Env'} {S S1 S2 : Sto} {x : Exn} (hc : c e S = .ok true S1) (ha : a e S1 = .exc x e' S2) : seqM (ifS c a b) r e S = .exc x e' S2 := by
  have : ifS c a b e S = .exc x e' S2 := by
    simp only [ifS, hc, liftS_ok, if_true]
    exact ha
  exact seq_exc this
def badX (n : Nat) : Exn := ⟨X_BadText, some [("row", (n : Int))]⟩
theorem raise_text {e : Env'} {n : Nat} (h : varM 2 e S = .ok (.int (n : Nat)) S) : seqM (raiseOM X_BadText (["row"]) (consM (varM 2) nilM)) skipM e S = .exc (badX n) e S := by
  refine seq_exc ?_
  unfold raiseOM
  rw [consM_ok (r := nilM) (xs := []) h rfl]
  rfl
theorem isN_is (d : D) : isND d .non S = some (.bl (isN d)) := by cases d <;> rfl
theorem app_ok {a b : EM} {e : Env'} {i : Id} {d : D} {ds : List D} (ha : a e S = .ok (.cell i) S) (hb : b e S = .ok d S) (hi : S.at_ i = some (.lst ds)) (hl : ds.length < 1000000) : bmM 1 appG a (consM b nilM) e S = .ok .non (S.set i (.lst (ds ++ [d]))) := by
  refine bm_eq ha ?_ (consM_ok hb (r := nilM) (xs := []) rfl) ?_
  · show (match S.at_ i with | some (.lst _) => true | _ => false) = true
    rw [hi]
  · show (match S.at_ i with
      | some (.lst ds) => if ds.length < 1000000 then some (D.non, S.set i (.lst (ds ++ [d]))) else none
      | _ => none) = _
    rw [hi]
    exact if_pos hl
theorem fr_new {T : Sto} {i : Id} {c : Cell} (f : Fr [] S T) (hi : S.at_ i = none) : Fr [] S (T.set i c) := ⟨f.1, fun q hq _ => by
  rw [Sto.set_ne fun e => hq (by rw [e]; exact hi)]
  exact f.2 q hq (by simp)⟩
/-- the rows of a text, as deeds -/
def linesT (t : Str) : List Str := if t = "" then [] else cutT t 10
def deedT (l : Str) : D := rowD (cutT l 32)
def rowsT (t : Str) : List D := (linesT t).map deedT
def FirstN (ds : List D) (n : Nat) : Prop := (∃ d, ds[n]? = some d ∧ isN d = true) ∧ ∀ m, m < n → ∀ d, ds[m]? = some d → isN d = false
theorem FirstN.uniq {ds : List D} {n m : Nat} (h : FirstN ds n) (k : FirstN ds m) : n = m := by
  obtain ⟨⟨d, h1, h2⟩, h3⟩ := h
  obtain ⟨⟨d', k1, k2⟩, k3⟩ := k
  rcases Nat.lt_trichotomy n m with q | q | q
  · rw [k3 n q d h1] at h2
    cases h2
  · exact q
  · rw [h3 m q d' k1] at k2
    cases k2
/-- a text that is: its signs, not too long -/
structure TOk (t : Str) : Prop where
  ok : okT t
  len : t.length ≤ 100000
theorem TOk.line {t l : Str} (h : TOk t) (hl : l ∈ linesT t) : okT l ∧ l.length ≤ 100000 := by
  unfold linesT at hl
  split at hl
  · cases hl
  · exact ⟨cut_ok (by decide) h.ok l hl, Nat.le_trans (cut_le (by decide) l hl) h.len⟩
theorem TOk.nlines {t : Str} (h : TOk t) : (linesT t).length ≤ 100001 := by
  unfold linesT
  split
  · simp
  · exact Nat.le_trans (cut_n (by decide)) (by have := h.len; omega)
theorem okW_line {l : Str} (h : okT l ∧ l.length ≤ 100000) : okW (cutT l 32) := ⟨fun s hs => ⟨cut_ok (by decide) h.1 s hs, by have := cut_le (t := l) (c := 32) (by decide) s hs; omega⟩, by have := cut_n (t := l) (c := 32) (by decide); omega, cut_ne (by decide)⟩
/-- the lines of a text, in a list -/
theorem lines_ok {e : Env'} {a : EM} {t : Str} (h : TOk t) (ha : a e S = .ok (.str t) S) : ifM (tstM (binM neD a (cM (.str "")))) (bmM 0 splG a (consM (cM (.str "\n")) nilM)) (lstM nilM) e S = .ok (.lst ((linesT t).map D.str)) S := by
  have h1 := tst_eq (binM_eq ha (b := cM (.str "")) (y := .str "") rfl (neD_ss (S := S)))
  rw [ifM_if h1 (x := .lst ((cutT t 10).map D.str)) (y := .lst []) (fun _ => ?_) (fun _ => rfl)]
  · congr 1
    unfold linesT
    by_cases q : t = ""
    · rw [if_pos q, decide_eq_true q]
      rfl
    · rw [if_neg q, decide_eq_false q]
      rfl
  · rw [nl_eq]
    exact bm_eq ha rfl (consM_ok (x := .str (sg 10)) rfl rfl) (spl_ok (by decide) h.ok (by have := h.len; omega))
theorem enum_get {ls : List Str} {k : Nat} {d : D} (h : (enum0 (ls.map D.str))[k]? = some d) : ∃ l, ls[k]? = some l ∧ d = .tup [.int (k : Nat), .str l] := by
  unfold enum0 at h
  rw [List.getElem?_mapIdx, List.getElem?_map] at h
  cases q : ls[k]? with
  | none =>
    rw [q] at h
    cases h
  | some l =>
    rw [q] at h
    exact ⟨l, rfl, (Option.some.inj h).symm⟩
theorem take_get {A : Type} {l : List A} {k : Nat} {x : A} (h : l[k]? = some x) : l.take (k + 1) = l.take k ++ [x] := by
  rw [List.take_succ, h]
  rfl
theorem c_read {t : Str} (h : TOk t) (hS : S.Ok) :
    (∃ i S', tl.mean (j + 4) F_read [.str t] S = .ok (.cell i) S' ∧ S.at_ i = none ∧ S'.at_ i = some (.lst (rowsT t)) ∧ (∀ d ∈ rowsT t, isN d = false) ∧ Fr [] S S' ∧ S'.Ok) ∨
    ∃ n S', tl.mean (j + 4) F_read [.str t] S = .exc (badX n) S' ∧ FirstN (rowsT t) n ∧ Fr [] S S' ∧ S'.Ok := by
  rw [mn_read]
  simp only [v_def]
  show (∃ i S', outX (bd_read (tl.mean (j + 3)) [some (.str t), none, none, none, none] S) = _ ∧ _) ∨ ∃ n S', outX (bd_read (tl.mean (j + 3)) [some (.str t), none, none, none, none] S) = _ ∧ _
  unfold bd_read bd_read_for2
  have a1 : lstC none nilM [some (.str t), none, none, none, none] S = .ok (.cell (.obj 0 S.nx)) (S.bump.set (.obj 0 S.nx) (.lst [])) := alloc_eq hS
  rw [asg_ok a1 rfl]
  have hi0 : S.at_ (.obj 0 S.nx) = none := hS 0 S.nx (Nat.le_refl _)
  have f1 := alloc_fr hS (c := 0) (l := .lst [])
  have k1 := alloc_k hS (c := 0) (l := .lst [])
  have g1 : (S.bump.set (.obj 0 S.nx) (.lst [])).at_ (.obj 0 S.nx) = some (.lst []) := Sto.set_same
  generalize S.bump.set (.obj 0 S.nx) (.lst []) = T1 at f1 k1 g1 ⊢
  generalize Id.obj 0 S.nx = i at hi0 g1 ⊢
  show (∃ i' S', outX (seqM _ _ [some (.str t), some (.cell i), none, none, none] T1) = _ ∧ _) ∨ ∃ n S', outX (seqM _ _ [some (.str t), some (.cell i), none, none, none] T1) = _ ∧ _
  have a2 : enumI2 (consM (ifM (tstM (binM neD (varM 0) (cM (.str "")))) (bmM 0 splG (varM 0) (consM (cM (.str "\n")) nilM)) (lstM nilM)) nilM) [some (.str t), some (.cell i), none, none, none] T1 = .ok (.fix (enum0 ((linesT t).map D.str))) T1 := by
    unfold enumI2
    rw [consM_ok (lines_ok h rfl) (r := nilM) (xs := []) rfl]
    rfl
  have hN := h.nlines
  rcases loop_fixS (ds := enum0 ((linesT t).map D.str)) (g := gTp 2 (gsCons (gNm 2) (gsCons (gNm 3) gsNil))) (body := bd_read_body1 (tl.mean (j + 3))) (e := [some (.str t), some (.cell i), none, none, none]) (S := T1)
    (fun k e T => (∃ y2 y3 y4 : Option D, e = [some (.str t), some (.cell i), y2, y3, y4]) ∧ T.at_ i = some (.lst ((rowsT t).take k)) ∧ (∀ m, m < k → ∀ d, (rowsT t)[m]? = some d → isN d = false) ∧ Fr [] S T ∧ T.Ok)
    (fun o => ∃ n e T, o = .exc (badX n) e T ∧ FirstN (rowsT t) n ∧ Fr [] S T ∧ T.Ok)
    ⟨⟨_, _, _, rfl⟩, g1, fun m hm => absurd hm (by omega), f1, k1⟩
    (fun k e T d hd ⟨⟨y2, y3, y4, he⟩, hT, hb, hf, hk⟩ => by
      subst he
      obtain ⟨l, hl, rfl⟩ := enum_get hd
      have hkl : k < (linesT t).length := (List.getElem?_eq_some_iff.mp hl).1
      have hlo := h.line (List.mem_of_getElem? hl)
      have hrow : (rowsT t)[k]? = some (deedT l) := by
        unfold rowsT
        rw [List.getElem?_map, hl]
        rfl
      refine ⟨[some (.str t), some (.cell i), some (.int (k : Nat)), some (.str l), y4], rfl, ?_⟩
      have b1 : callM 1 ([]) (tl.mean (j + 3) F_deed_of) (consM (bmM 0 splG (varM 3) (consM (cM (.str " ")) nilM)) nilM) [some (.str t), some (.cell i), some (.int (k : Nat)), some (.str l), y4] T = .ok (deedT l) T := by
        have s1 : bmM 0 splG (varM 3) (consM (cM (.str " ")) nilM) [some (.str t), some (.cell i), some (.int (k : Nat)), some (.str l), y4] T = .ok (.lst ((cutT l 32).map D.str)) T := by
          rw [sp_eq]
          exact bm_eq (x := .str l) rfl rfl (consM_ok (x := .str (sg 32)) rfl rfl) (spl_ok (by decide) hlo.1 (by have := hlo.2; omega))
        exact call_eq (consM_ok s1 (r := nilM) (xs := []) rfl) rfl (c_deed_of (okW_line hlo))
      unfold bd_read_body1
      rw [asg_ok b1 rfl]
      show (∃ e' S', seqM _ _ [some (.str t), some (.cell i), some (.int (k : Nat)), some (.str l), some (deedT l)] T = _ ∧ _) ∨ ∃ o, seqM _ _ [some (.str t), some (.cell i), some (.int (k : Nat)), some (.str l), some (deedT l)] T = _ ∧ _
      have b2 := tst_eq (binM_eq (g := isND) (a := varM 4) (b := cM .non) (e := [some (.str t), some (.cell i), some (.int (k : Nat)), some (.str l), some (deedT l)]) (S := T) (x := deedT l) rfl rfl (isN_is (S := T) _))
      cases q : isN (deedT l) with
      | true =>
        rw [q] at b2
        rw [if_exc b2 (raise_text (n := k) rfl)]
        exact .inr ⟨_, rfl, rfl, k, _, T, rfl, ⟨⟨_, hrow, q⟩, hb⟩, hf, hk⟩
      | false =>
        rw [q] at b2
        rw [skip_if_at b2]
        have b3 := app_ok (a := varM 1) (b := varM 4) (e := [some (.str t), some (.cell i), some (.int (k : Nat)), some (.str l), some (deedT l)]) (S := T) (d := deedT l) rfl rfl hT (by rw [List.length_take]; omega)
        rw [expr_ok b3]
        refine .inl ⟨_, _, rfl, ⟨_, _, _, rfl⟩, ?_, fun m hm d hd => ?_, fr_new hf hi0, hk.set (by rw [hT]; exact fun z => by cases z)⟩
        · rw [Sto.set_same, take_get hrow]
        · by_cases e : m = k
          · rw [e, hrow] at hd
            rw [← Option.some.inj hd]
            exact q
          · exact hb m (by omega) d hd) with ⟨e', S', l1, ⟨y2, y3, y4, he⟩, hT, hb, hf, hk⟩ | ⟨o, l1, l2, n, e', T, ho, hF, hf, hk⟩
  · subst he
    rw [for_ok a2 l1]
    have hlen : (enum0 ((linesT t).map D.str)).length = (rowsT t).length := by
      unfold enum0 rowsT
      rw [List.length_mapIdx, List.length_map, List.length_map]
    rw [hlen, List.take_length] at hT
    refine .inl ⟨i, S', ?_, hi0, hT, fun d hd => ?_, hf, hk⟩
    · rw [ret_ok (d := .cell i) (S1 := S') rfl]
      rfl
    · obtain ⟨m, hm, e⟩ := List.getElem_of_mem hd
      exact hb m (by rw [hlen]; exact hm) d (by rw [List.getElem?_eq_getElem hm, e])
  · rw [for_stop a2 l1 l2, ho]
    exact .inr ⟨n, T, rfl, hF, hf, hk⟩
end
end Hd
/-! k13: what a text is due -/
namespace Hd
open PySem PySem.Spec PyProof.Rows L2 Pyx
abbrev fmA : List (Str × Str) := [("ask", "nwn"), ("alone", "nwn"), ("come", "n"), ("lose", "n"), ("twice", "n"), ("beat", "n"), ("cut", "n"), ("join", "n")]
abbrev fmB : List (Str × Str) := [("arm", "nn"), ("fall", "n"), ("rise", "n"), ("empty", "n"), ("stop", "w"), ("day", "")]
def dkL (l : List (Str × Str)) : List (Key × D) := l.map fun p => (.inr p.1, .str p.2)
theorem fm_merge : Pyx.mergeD (Pyx.mergeD [] (dkL fmA)) (dkL fmB) = dkL (fmA ++ fmB) := by kernel_rfl
theorem fm_forms : tKd_FORMS = (fmA ++ ([("arm", "nn"), ("fall", "n"), ("rise", "n")] : List (Str × Str))) ++ (("fill", "n*") : Str × Str) :: ([("empty", "n"), ("stop", "w"), ("day", "")] : List (Str × Str)) := by kernel_rfl
theorem valD_dkL {w : Str} : ∀ l : List (Str × Str), valD (dkL l) (.inr w : Key) = (l.lookup w).map D.str
  | [] => rfl
  | (k, v) :: r => by
    have ih := valD_dkL (w := w) r
    unfold valD dkL at ih ⊢
    rw [List.map_cons, List.find?_cons, List.lookup_cons]
    by_cases h : w = k
    · subst h
      simp
    · have h1 : decide ((Sum.inr k : Key) = Sum.inr w) = false := decide_eq_false fun e => h (Sum.inr.inj e).symm
      have h2 : (w == k) = false := beq_eq_false_iff_ne.mpr h
      rw [h1, h2]
      exact ih
theorem lookup_mid {w k v : Str} {A B : List (Str × Str)} (h : w ≠ k) : (A ++ (k, v) :: B).lookup w = (A ++ B).lookup w := by
  induction A with
  | nil =>
    show ((k, v) :: B).lookup w = B.lookup w
    rw [List.lookup_cons, beq_eq_false_iff_ne.mpr h]
  | cons p r ih =>
    obtain ⟨a, b⟩ := p
    rw [List.cons_append, List.cons_append, List.lookup_cons, List.lookup_cons, ih]
theorem fm_fill : (fmA ++ fmB).lookup ("fill" : Str) = none := by kernel_rfl
theorem fm_fill2 : tKd_FORMS.lookup ("fill" : Str) = some ("n*" : Str) := by kernel_rfl
theorem fm_other {w : Str} (h : w ≠ "fill") : (fmA ++ fmB).lookup w = tKd_FORMS.lookup w := by
  rw [fm_forms, lookup_mid h]
  rfl
section
variable {S : Sto} {j : Nat}
abbrev Ed (t : Str) (i1 i2 : Id) (y4 y5 y6 y7 y8 y9 y10 : Option D) : Env' := [some (.str t), some (.cell i1), some (.cell i2), some (.lst ((linesT t).map D.str)), y4, y5, y6, y7, y8, y9, y10]
theorem dgetK {i : Id} {kvs : List (Key × D)} {w : Str} (h : S.at_ i = some (.dK kvs)) : dget (.cell i) (.str w) S = some (valD kvs (.inr w)) := by
  simp only [dget, h, keyD, Option.map_some]
theorem inD_dK {i : Id} {kvs : List (Key × D)} {w : Str} (h : S.at_ i = some (.dK kvs)) : inD true (.str w) (.cell i) S = some (.bl (!(valD kvs (.inr w)).isSome)) := by
  unfold inD
  rw [dgetK h]
  show some (D.bl (true != (valD kvs (.inr w)).isSome)) = _
  rw [Bool.true_bne]
theorem subM_dK {a b : EM} {e : Env'} {i : Id} {kvs : List (Key × D)} {w : Str} {d : D} (ha : a e S = .ok (.cell i) S) (hb : b e S = .ok (.str w) S) (h : S.at_ i = some (.dK kvs)) (hv : valD kvs (.inr w) = some d) : subM a b e S = .ok d S := by
  simp only [subM, ha, hb, bind_ok, dgetK h, hv, ofO_some]
theorem sub_str {a b : EM} {e : Env'} {s : Str} {k c : Nat} (ha : a e S = .ok (.str s) S) (hb : b e S = .ok (.int (k : Nat)) S) (ok : okT s) (hl : s.length ≤ 1000000) (hc : s.cps.toList[k]? = some c) : subM a b e S = .ok (.str (sg c)) S := by
  have h0 : atI s.cps.toList (k : Int) = some c := Pyx.atI_nat hc
  have h1 : ixD (.str s) (.int (k : Nat)) S = some (.str (sg c)) := by
    show (if s.length ≤ sizeLine ∧ PySem.PyData.strOk s = true then (atI s.cps.toList (k : Int)).map (fun c => D.str ⟨#[c]⟩) else none) = _
    rw [if_pos ⟨by rw [sizeL]; omega, ok.is⟩, h0]
    rfl
  have h2 : dget (.str s) (.int (k : Nat)) S = none := rfl
  simp only [subM, ha, hb, bind_ok, h1, h2, ofO_some]
/-- the deed of a row, as the law makes it -/
theorem c_due_row {t : Str} {i1 i2 : Id} {w : Str} {rest : List Str} {r : SM} {k : Nat} {y6 y7 y8 y9 y10 : Option D} (hi : S.at_ i1 = some (.dK (dkL (fmA ++ fmB)))) (hw : okW (w :: rest)) :
    ∃ y6' y9', seqM (ifS (andM (tstM (binM eqD (subM (varM 5) (cM (.int 0))) (cM (.str "fill")))) (tstM (binM gtD (calM lenF (consM (varM 5) nilM)) (cM (.int 2))))) (seqM (asgM (gNm 6) (lcM none ([7]) (seqI (sliceM (varM 5) (partM (cM (.int 1))) noPart)) (gNm 7) yesM (callM 1 ([]) (tl.mean (j + 1) F__law_number) (consM (varM 7) nilM)))) (seqM (asgM (gNm 8) (ifM (tstM (binM ((inD false)) (cM .non) (varM 6))) (cM .non) (tupM (consM (cM (.str "fill")) (consM (subM (varM 6) (cM (.int 0))) (consM (calM tupF (consM (sliceM (varM 6) (partM (cM (.int 1))) noPart) nilM)) nilM)))))) skipM)) (seqM (ifS (orM (tstM (binM ((inD true)) (subM (varM 5) (cM (.int 0))) (varM 1))) (tstM (binM neD (calM lenF (consM (varM 5) nilM)) (binM addD (calM lenF (consM (subM (varM 1) (subM (varM 5) (cM (.int 0)))) nilM)) (cM (.int 1)))))) (seqM (asgM (gNm 8) (cM .non)) skipM) (seqM (asgM (gNm 9) (subM (varM 1) (subM (varM 5) (cM (.int 0))))) (seqM (asgM (gNm 6) (lcM none ([10]) (rng1I (consM (calM lenF (consM (varM 9) nilM)) nilM)) (gNm 10) yesM (ifM (tstM (binM eqD (subM (varM 9) (varM 10)) (cM (.str "n")))) (callM 1 ([]) (tl.mean (j + 1) F__law_number) (consM (subM (varM 5) (binM addD (varM 10) (cM (.int 1)))) nilM)) (callM 1 ([]) (tl.mean (j + 1) F__law_name) (consM (subM (varM 5) (binM addD (varM 10) (cM (.int 1)))) nilM))))) (seqM (asgM (gNm 8) (ifM (tstM (binM ((inD false)) (cM .non) (varM 6))) (cM .non) (calM tupF (consM (binM addD (sliceM (varM 5) noPart (partM (cM (.int 1)))) (varM 6)) nilM)))) skipM)))) skipM)) r (Ed t i1 i2 (some (.int (k : Nat))) (some (.lst (.str w :: rest.map D.str))) y6 y7 y8 y9 y10) S = r (Ed t i1 i2 (some (.int (k : Nat))) (some (.lst (.str w :: rest.map D.str))) y6' y7 (some (rowC w rest)) y9' y10) S := by
  obtain ⟨hw0, hn, _⟩ := hw
  have hw1 := hw0 w List.mem_cons_self
  have hr : ∀ s ∈ rest, okT s ∧ s.length ≤ 1000000 := fun s hs => hw0 s (List.mem_cons_of_mem _ hs)
  have hrl : rest.length + 1 ≤ 1000000 := by rw [List.length_cons] at hn; omega
  have w0 : ∀ (y6 y8 y9 y10 : Option D), subM (varM 5) (cM (.int 0)) (Ed t i1 i2 (some (.int (k : Nat))) (some (.lst (.str w :: rest.map D.str))) y6 y7 y8 y9 y10) S = .ok (.str w) S := fun _ _ _ _ => subM_lst (S1 := S) rfl rfl atI_zero
  have ln : ∀ (y6 y8 y9 y10 : Option D), calM lenF (consM (varM 5) nilM) (Ed t i1 i2 (some (.int (k : Nat))) (some (.lst (.str w :: rest.map D.str))) y6 y7 y8 y9 y10) S = .ok (.int ((rest.length + 1 : Nat) : Int)) S := fun _ _ _ _ => cal_eq (consM_ok (x := .lst (.str w :: rest.map D.str)) (S1 := S) rfl (r := nilM) (xs := []) rfl) (by rw [lenL, List.length_cons, List.length_map])
  have c1 := tst_eq (binM_eq (g := eqD) (w0 y6 y8 y9 y10) (b := cM (.str "fill")) (y := .str "fill") rfl (eqD_ss (S := S)))
  have c2 := tst_eq (binM_eq (g := gtD) (ln y6 y8 y9 y10) (b := cM (.int 2)) (y := .int 2) rfl (gtD_int (S := S)))
  have fin : ∀ (y6 y8 y9 y10 : Option D) (a b : EM), tstM (binM ((inD true)) (subM (varM 5) (cM (.int 0))) (varM 1)) (Ed t i1 i2 (some (.int (k : Nat))) (some (.lst (.str w :: rest.map D.str))) y6 y7 y8 y9 y10) S = .ok (!((fmA ++ fmB).lookup w).isSome) S := fun _ _ _ _ _ _ => tst_eq (binM_eq (w0 _ _ _ _) (b := varM 1) (y := .cell i1) rfl (by
    rw [inD_dK hi, valD_dkL]
    congr 3
    cases (fmA ++ fmB).lookup w <;> rfl))
  unfold rowC
  by_cases hf : w = "fill" ∧ 2 < rest.length + 1
  · obtain ⟨h1, h2⟩ := hf
    have c3 : andM (tstM (binM eqD (subM (varM 5) (cM (.int 0))) (cM (.str "fill")))) (tstM (binM gtD (calM lenF (consM (varM 5) nilM)) (cM (.int 2)))) (Ed t i1 i2 (some (.int (k : Nat))) (some (.lst (.str w :: rest.map D.str))) y6 y7 y8 y9 y10) S = .ok true S := by
      rw [decide_eq_true h1] at c1
      rw [and_yes c1 c2, decide_eq_true (by omega)]
    refine ⟨some (.lst (rest.map numD)), y9, ?_⟩
    refine if_yes c3 ?_
    have b1 := lc_words (e := Ed t i1 i2 (some (.int (k : Nat))) (some (.lst (.str w :: rest.map D.str))) y6 y7 y8 y9 y10) (S := S) (i := 7) (a := sliceM (varM 5) (partM (cM (.int 1))) noPart) (te := callM 1 ([]) (tl.mean (j + 1) F__law_number) (consM (varM 7) nilM)) (ws := rest) (f := numD) ((slM_lst (ds := .str w :: rest.map D.str) rfl (partM_ok (k := 1) rfl) rfl).trans (by
      rw [cut_from (by decide)]
      rfl)) (fun s hs => call_eq (consM_ok (x := .str s) (S1 := S) rfl rfl) rfl (c_law_number (hr s hs).1 (hr s hs).2)) (by omega)
    rw [asg_ok b1 rfl]
    have e1 : varM 6 (Ed t i1 i2 (some (.int (k : Nat))) (some (.lst (.str w :: rest.map D.str))) (some (.lst (rest.map numD))) y7 y8 y9 y10) S = .ok (.lst (rest.map numD)) S := rfl
    have b2 := tst_eq (binM_eq (g := inD false) (a := cM .non) (b := varM 6) (x := .non) rfl e1 (inD_non (S := S) (fun d hd => by
      obtain ⟨s, _, rfl⟩ := List.mem_map.mp hd
      exact num_flat s)))
    have b5 : tupM (consM (cM (.str "fill")) (consM (subM (varM 6) (cM (.int 0))) (consM (calM tupF (consM (sliceM (varM 6) (partM (cM (.int 1))) noPart) nilM)) nilM))) (Ed t i1 i2 (some (.int (k : Nat))) (some (.lst (.str w :: rest.map D.str))) (some (.lst (rest.map numD))) y7 y8 y9 y10) S = .ok (.tup [.str w, (rest.map numD).headD .non, .tup (rest.map numD).tail]) S := by
      cases rest with
      | nil => exact absurd h2 (by simp)
      | cons r rs =>
        refine tupM_ok (consM_ok (x := .str w) (S1 := S) (by rw [h1]; rfl) (consM_ok (subM_lst (S1 := S) e1 rfl atI_zero) (consM_ok (cal_eq (consM_ok (slM_lst e1 (partM_ok (k := 1) rfl) rfl) (r := nilM) (xs := []) rfl) tupF_lst) rfl))) (by simp) |>.trans ?_
        rw [cut_from (by decide)]
        rfl
    have b6 := ifM_if (a := cM .non) (x := .non) b2 (fun _ => rfl) (fun _ => b5)
    have b7 := asg_ok (g := gNm 8) (r := skipM) b6 rfl
    refine b7.trans ?_
    rw [h1, fm_fill2]
    dsimp only
    rw [if_pos rfl, decide_eq_false (show ¬ rest.length < 2 by omega), Bool.or_false]
    rfl
  · have c3 : andM (tstM (binM eqD (subM (varM 5) (cM (.int 0))) (cM (.str "fill")))) (tstM (binM gtD (calM lenF (consM (varM 5) nilM)) (cM (.int 2)))) (Ed t i1 i2 (some (.int (k : Nat))) (some (.lst (.str w :: rest.map D.str))) y6 y7 y8 y9 y10) S = .ok false S := by
      by_cases h1 : w = "fill"
      · rw [decide_eq_true h1] at c1
        rw [and_yes c1 c2, decide_eq_false (fun q => hf ⟨h1, by omega⟩)]
      · rw [decide_eq_false h1] at c1
        exact and_no c1
    have c4 := fin y6 y8 y9 y10 (cM .non) (cM .non)
    have non : ∀ v : D, v = .non → (∃ b, orM (tstM (binM ((inD true)) (subM (varM 5) (cM (.int 0))) (varM 1))) (tstM (binM neD (calM lenF (consM (varM 5) nilM)) (binM addD (calM lenF (consM (subM (varM 1) (subM (varM 5) (cM (.int 0)))) nilM)) (cM (.int 1))))) (Ed t i1 i2 (some (.int (k : Nat))) (some (.lst (.str w :: rest.map D.str))) y6 y7 y8 y9 y10) S = .ok b S ∧ b = true) → ∃ y6' y9', seqM (ifS (andM (tstM (binM eqD (subM (varM 5) (cM (.int 0))) (cM (.str "fill")))) (tstM (binM gtD (calM lenF (consM (varM 5) nilM)) (cM (.int 2))))) (seqM (asgM (gNm 6) (lcM none ([7]) (seqI (sliceM (varM 5) (partM (cM (.int 1))) noPart)) (gNm 7) yesM (callM 1 ([]) (tl.mean (j + 1) F__law_number) (consM (varM 7) nilM)))) (seqM (asgM (gNm 8) (ifM (tstM (binM ((inD false)) (cM .non) (varM 6))) (cM .non) (tupM (consM (cM (.str "fill")) (consM (subM (varM 6) (cM (.int 0))) (consM (calM tupF (consM (sliceM (varM 6) (partM (cM (.int 1))) noPart) nilM)) nilM)))))) skipM)) (seqM (ifS (orM (tstM (binM ((inD true)) (subM (varM 5) (cM (.int 0))) (varM 1))) (tstM (binM neD (calM lenF (consM (varM 5) nilM)) (binM addD (calM lenF (consM (subM (varM 1) (subM (varM 5) (cM (.int 0)))) nilM)) (cM (.int 1)))))) (seqM (asgM (gNm 8) (cM .non)) skipM) (seqM (asgM (gNm 9) (subM (varM 1) (subM (varM 5) (cM (.int 0))))) (seqM (asgM (gNm 6) (lcM none ([10]) (rng1I (consM (calM lenF (consM (varM 9) nilM)) nilM)) (gNm 10) yesM (ifM (tstM (binM eqD (subM (varM 9) (varM 10)) (cM (.str "n")))) (callM 1 ([]) (tl.mean (j + 1) F__law_number) (consM (subM (varM 5) (binM addD (varM 10) (cM (.int 1)))) nilM)) (callM 1 ([]) (tl.mean (j + 1) F__law_name) (consM (subM (varM 5) (binM addD (varM 10) (cM (.int 1)))) nilM))))) (seqM (asgM (gNm 8) (ifM (tstM (binM ((inD false)) (cM .non) (varM 6))) (cM .non) (calM tupF (consM (binM addD (sliceM (varM 5) noPart (partM (cM (.int 1)))) (varM 6)) nilM)))) skipM)))) skipM)) r (Ed t i1 i2 (some (.int (k : Nat))) (some (.lst (.str w :: rest.map D.str))) y6 y7 y8 y9 y10) S = r (Ed t i1 i2 (some (.int (k : Nat))) (some (.lst (.str w :: rest.map D.str))) y6' y7 (some v) y9' y10) S := fun v hv ⟨b, hb, hb2⟩ => by
      subst hv hb2
      refine ⟨y6, y9, if_no c3 ?_⟩
      exact if_yes hb rfl
    cases hl : tKd_FORMS.lookup w with
    | none =>
      have hwf : w ≠ "fill" := fun e => by rw [e, fm_fill2] at hl; cases hl
      rw [fm_other hwf, hl] at c4
      exact non .non rfl ⟨_, or_yes c4, rfl⟩
    | some f =>
      dsimp only
      by_cases hwf : w = "fill"
      · have h2 : rest.length < 2 := by
          have : ¬ 2 < rest.length + 1 := fun q => hf ⟨hwf, q⟩
          omega
        rw [if_pos hwf, decide_eq_true h2, Bool.or_true, if_pos rfl]
        rw [hwf, fm_fill] at c4
        exact non .non rfl ⟨_, by rw [hwf] at *; exact or_yes c4, rfl⟩
      · rw [if_neg hwf]
        rw [fm_other hwf, hl] at c4
        obtain ⟨fo, fl⟩ := form_ok hl
        have hv : valD (dkL (fmA ++ fmB)) (.inr w : Key) = some (.str f) := by
          rw [valD_dkL, fm_other hwf, hl]
          rfl
        have fs : ∀ (y6 y8 y9 y10 : Option D), subM (varM 1) (subM (varM 5) (cM (.int 0))) (Ed t i1 i2 (some (.int (k : Nat))) (some (.lst (.str w :: rest.map D.str))) y6 y7 y8 y9 y10) S = .ok (.str f) S := fun _ _ _ _ => subM_dK rfl (w0 _ _ _ _) hi hv
        have c5 := tst_eq (binM_eq (g := neD) (ln y6 y8 y9 y10) (binM_eq (g := addD) (cal_eq (consM_ok (fs y6 y8 y9 y10) (r := nilM) (xs := []) rfl) (lenS (S := S) (by rw [sizeL]; omega))) (b := cM (.int 1)) (y := .int 1) rfl (addD_int (S := S))) (neD_ii (S := S)))
        rw [show decide (((rest.length + 1 : Nat) : Int) = ((f.length : Nat) : Int) + 1) = decide (rest.length = f.length) from decide_eq_decide.mpr (by omega)] at c5
        have c6 := or_no c4 c5
        by_cases hlen : rest.length = f.length
        · rw [decide_eq_true hlen] at c6 ⊢
          show ∃ y6' y9', _ = r (Ed t i1 i2 _ _ y6' y7 (some (if (false || (List.zipWith partD f.cps.toList rest).any isN) = true then _ else _)) y9' y10) S
          rw [Bool.false_or]
          refine ⟨some (.lst (List.zipWith partD f.cps.toList rest)), some (.str f), if_no c3 ?_⟩
          refine (if_no (r := skipM) (e' := Ed t i1 i2 (some (.int (k : Nat))) (some (.lst (.str w :: rest.map D.str))) (some (.lst (List.zipWith partD f.cps.toList rest))) y7 (some (if (List.zipWith partD f.cps.toList rest).any isN = true then .non else .tup (.str w :: List.zipWith partD f.cps.toList rest))) (some (.str f)) y10) (S2 := S) c6 ?_).trans rfl
          rw [asg_ok (fs y6 y8 y9 y10) (show gNm 9 (.str f) _ = some (Ed t i1 i2 (some (.int (k : Nat))) (some (.lst (.str w :: rest.map D.str))) y6 y7 y8 (some (.str f)) y10) from rfl)]
          have r1 : rng1I (consM (calM lenF (consM (varM 9) nilM)) nilM) (Ed t i1 i2 (some (.int (k : Nat))) (some (.lst (.str w :: rest.map D.str))) y6 y7 y8 (some (.str f)) y10) S = .ok (.rng 0 1 f.length) S := Hd.rng1_ok (consM_ok (cal_eq (consM_ok (x := .str f) (S1 := S) rfl (r := nilM) (xs := []) rfl) (lenS (S := S) (by rw [sizeL]; omega))) (r := nilM) (xs := []) rfl) (by omega)
          have hzl : (List.zipWith partD f.cps.toList rest).length = f.length := by
            rw [List.length_zipWith, Array.length_toList, hlen]
            exact Nat.min_self _
          obtain ⟨acc, S2, l1, hS2, hacc⟩ := lc_rngM (h := none) (vs := [10]) (g := gNm 10) (tt := yesM) (te := ifM (tstM (binM eqD (subM (varM 9) (varM 10)) (cM (.str "n")))) (callM 1 ([]) (tl.mean (j + 1) F__law_number) (consM (subM (varM 5) (binM addD (varM 10) (cM (.int 1)))) nilM)) (callM 1 ([]) (tl.mean (j + 1) F__law_name) (consM (subM (varM 5) (binM addD (varM 10) (cM (.int 1)))) nilM))) r1
            (fun m T acc => T = S ∧ acc = (List.zipWith partD f.cps.toList rest).take m) ⟨rfl, rfl⟩ (fun m T acc hm ⟨e1, e2⟩ => by
              subst e1
              have e0 : (0 : Int) + (m : Nat) * 1 = (m : Nat) := by omega
              obtain ⟨c, hc⟩ : ∃ c, f.cps.toList[m]? = some c := ⟨_, List.getElem?_eq_getElem (by rw [Array.length_toList]; exact hm)⟩
              obtain ⟨s, hs⟩ : ∃ s, rest[m]? = some s := ⟨_, List.getElem?_eq_getElem (by omega)⟩
              have hso := hr s (List.mem_of_getElem? hs)
              have hz : (List.zipWith partD f.cps.toList rest)[m]? = some (partD c s) := by
                rw [List.getElem?_zipWith, hc, hs]
              refine ⟨Ed t i1 i2 (some (.int (k : Nat))) (some (.lst (.str w :: rest.map D.str))) y6 y7 y8 (some (.str f)) (some (.int (m : Nat))), true, T, by rw [e0]; rfl, rfl, ?_⟩
              rw [if_pos rfl]
              have v5 : subM (varM 5) (binM addD (varM 10) (cM (.int 1))) (Ed t i1 i2 (some (.int (k : Nat))) (some (.lst (.str w :: rest.map D.str))) y6 y7 y8 (some (.str f)) (some (.int (m : Nat)))) T = .ok (.str s) T := subM_lst (k := ((m + 1 : Nat) : Int)) (S1 := T) rfl (binM_eq (x := .int (m : Nat)) (S1 := T) rfl rfl (addD_int (S := T))) (Pyx.atI_nat (by
                rw [List.getElem?_cons_succ, List.getElem?_map, hs]
                rfl))
              have q1 := tst_eq (binM_eq (g := eqD) (sub_str (a := varM 9) (b := varM 10) (e := Ed t i1 i2 (some (.int (k : Nat))) (some (.lst (.str w :: rest.map D.str))) y6 y7 y8 (some (.str f)) (some (.int (m : Nat)))) (S := T) rfl rfl fo (by omega) hc) (b := cM (.str "n")) (y := .str "n") rfl (eqD_ss (S := T)))
              rw [n_eq, show decide (sg c = sg 110) = decide (c = 110) from decide_eq_decide.mpr ⟨sg_inj, fun e => by rw [e]⟩] at q1
              rw [n_eq]
              refine ⟨partD c s, T, ?_, by rw [e2, List.length_take]; omega, rfl, by rw [e2, take_get hz]⟩
              unfold partD
              by_cases h110 : c = 110
              · rw [decide_eq_true h110] at q1
                rw [if_pos h110]
                exact ifM_yes q1 (call_eq (consM_ok v5 (r := nilM) (xs := []) rfl) rfl (c_law_number hso.1 hso.2))
              · rw [decide_eq_false h110] at q1
                rw [if_neg h110]
                exact ifM_no q1 (call_eq (consM_ok v5 (r := nilM) (xs := []) rfl) rfl (c_law_name hso.2)))
          subst hS2
          rw [← hzl, List.take_length] at hacc
          subst hacc
          have l1 := l1.trans (rfl : endL none _ S2 = .ok (.lst (List.zipWith partD f.cps.toList rest)) S2)
          rw [asg_ok l1 (show gNm 6 _ _ = some (Ed t i1 i2 (some (.int (k : Nat))) (some (.lst (.str w :: rest.map D.str))) (some (.lst (List.zipWith partD f.cps.toList rest))) y7 y8 (some (.str f)) y10) from rfl)]
          have e6 : varM 6 (Ed t i1 i2 (some (.int (k : Nat))) (some (.lst (.str w :: rest.map D.str))) (some (.lst (List.zipWith partD f.cps.toList rest))) y7 y8 (some (.str f)) y10) S2 = .ok (.lst (List.zipWith partD f.cps.toList rest)) S2 := rfl
          have d2 := tst_eq (binM_eq (g := inD false) (a := cM .non) (b := varM 6) (x := .non) rfl e6 (inD_non (S := S2) parts_flat))
          have d4 : calM tupF (consM (binM addD (sliceM (varM 5) noPart (partM (cM (.int 1)))) (varM 6)) nilM) (Ed t i1 i2 (some (.int (k : Nat))) (some (.lst (.str w :: rest.map D.str))) (some (.lst (List.zipWith partD f.cps.toList rest))) y7 y8 (some (.str f)) y10) S2 = .ok (.tup (.str w :: List.zipWith partD f.cps.toList rest)) S2 := by
            refine cal_eq (consM_ok (binM_eq (slM_lst (ds := .str w :: rest.map D.str) rfl rfl (partM_ok (k := 1) rfl)) e6 (z := .lst (.str w :: List.zipWith partD f.cps.toList rest)) ?_) (r := nilM) (xs := []) rfl) tupF_lst
            rw [cut_to (by decide)]
            show (if _ then _ else _) = _
            rw [if_pos (by
              rw [sizeL, hzl]
              show 1 + f.length ≤ _
              omega)]
            rfl
          have d5 := ifM_if (a := cM .non) (x := .non) d2 (fun _ => rfl) (fun _ => d4)
          exact asg_ok (g := gNm 8) (r := skipM) d5 rfl
        · rw [decide_eq_false hlen] at c6 ⊢
          exact non _ rfl ⟨_, c6, rfl⟩
end
end Hd
/-! k13: the law's own reading; told; alike -/
namespace Hd
open PySem PySem.Spec PyProof.Rows L2 Pyx
section
variable {S : Sto} {j : Nat}
theorem c_due {t : Str} (h : TOk t) (hS : S.Ok) :
    (∃ i S', tl.mean (j + 2) F__law_due [.str t] S = .ok (.cell i) S' ∧ S'.at_ i = some (.lst (rowsT t)) ∧ (∀ d ∈ rowsT t, isN d = false) ∧ Fr [] S S' ∧ S'.Ok) ∨
    ∃ n S', tl.mean (j + 2) F__law_due [.str t] S = .ok (.tup [.str "BadText", .int (n : Nat)]) S' ∧ FirstN (rowsT t) n ∧ Fr [] S S' ∧ S'.Ok := by
  rw [mn__law_due]
  simp only [v_def]
  show (∃ i S', outX (bd__law_due (tl.mean (j + 1)) [some (.str t), none, none, none, none, none, none, none, none, none, none] S) = _ ∧ _) ∨ ∃ n S', outX (bd__law_due (tl.mean (j + 1)) [some (.str t), none, none, none, none, none, none, none, none, none, none] S) = _ ∧ _
  unfold bd__law_due bd__law_due_for2
  -- the forms
  have a1 : dispM none fmA [some (.str t), none, none, none, none, none, none, none, none, none, none] S = .ok (.cell (.obj 0 S.nx)) (S.bump.set (.obj 0 S.nx) (.dK (mergeD [] (dkL fmA)))) := by
    unfold dispM
    rw [if_pos (by decide)]
    exact alloc_eq hS
  rw [asg_ok a1 rfl]
  have hi0 : S.at_ (.obj 0 S.nx) = none := hS 0 S.nx (Nat.le_refl _)
  have f1 := alloc_fr hS (c := 0) (l := .dK (mergeD [] (dkL fmA)))
  have k1 := alloc_k hS (c := 0) (l := .dK (mergeD [] (dkL fmA)))
  have g1 : (S.bump.set (.obj 0 S.nx) (.dK (mergeD [] (dkL fmA)))).at_ (.obj 0 S.nx) = some (.dK (mergeD [] (dkL fmA))) := Sto.set_same
  generalize S.bump.set (.obj 0 S.nx) (.dK (mergeD [] (dkL fmA))) = T1 at f1 k1 g1 ⊢
  generalize Id.obj 0 S.nx = i1 at hi0 g1 ⊢
  show (∃ i' S', outX (seqM _ _ [some (.str t), some (.cell i1), none, none, none, none, none, none, none, none, none] T1) = _ ∧ _) ∨ ∃ n S', outX (seqM _ _ [some (.str t), some (.cell i1), none, none, none, none, none, none, none, none, none] T1) = _ ∧ _
  have f2 := alloc_fr k1 (c := 0) (l := .dK (mergeD [] (dkL fmB)))
  have k2 := alloc_k k1 (c := 0) (l := .dK (mergeD [] (dkL fmB)))
  have g2 : (T1.bump.set (.obj 0 T1.nx) (.dK (mergeD [] (dkL fmB)))).at_ (.obj 0 T1.nx) = some (.dK (mergeD [] (dkL fmB))) := Sto.set_same
  have n12 : i1 ≠ .obj 0 T1.nx := k1.ne (by rw [g1]; exact fun z => by cases z)
  have g12 : (T1.bump.set (.obj 0 T1.nx) (.dK (mergeD [] (dkL fmB)))).at_ i1 = some (.dK (mergeD [] (dkL fmA))) := by
    rw [f2.2 i1 (by rw [g1]; exact fun z => by cases z) (by simp), g1]
  have a2 : bmM 2 updG (varM 1) (consM (dispM none fmB) nilM) [some (.str t), some (.cell i1), none, none, none, none, none, none, none, none, none] T1 = .ok .non ((T1.bump.set (.obj 0 T1.nx) (.dK (mergeD [] (dkL fmB)))).set i1 (.dK (dkL (fmA ++ fmB)))) := by
    refine bm_eq (x := .cell i1) (S1 := T1) rfl ?_ (consM_ok (x := .cell (.obj 0 T1.nx)) (S1 := T1.bump.set (.obj 0 T1.nx) (.dK (mergeD [] (dkL fmB)))) ?_ (r := nilM) (xs := []) rfl) ?_
    · show (match T1.at_ i1 with | some (.dK _) => true | some (.dT _) => true | _ => false) = true
      rw [g1]
    · unfold dispM
      rw [if_pos (by decide)]
      exact alloc_eq k1
    · show (if i1 = .obj 0 T1.nx then none else match (T1.bump.set (.obj 0 T1.nx) (.dK (mergeD [] (dkL fmB)))).at_ i1, (T1.bump.set (.obj 0 T1.nx) (.dK (mergeD [] (dkL fmB)))).at_ (.obj 0 T1.nx) with
        | some (.dK kvs), some (.dK more) => if kvs.length + more.length ≤ 100000 then some (D.non, (T1.bump.set (.obj 0 T1.nx) (.dK (mergeD [] (dkL fmB)))).set i1 (.dK (mergeD kvs more))) else none
        | _, _ => none) = _
      rw [if_neg n12, g12, g2]
      show (if (mergeD [] (dkL fmA)).length + (mergeD [] (dkL fmB)).length ≤ 100000 then some (D.non, (T1.bump.set (.obj 0 T1.nx) (.dK (mergeD [] (dkL fmB)))).set i1 (.dK (mergeD (mergeD [] (dkL fmA)) (mergeD [] (dkL fmB))))) else none) = _
      have e1 : (mergeD [] (dkL fmA)).length + (mergeD [] (dkL fmB)).length ≤ 100000 := by
        have q1 : (mergeD [] (dkL fmA)).length = 8 := by kernel_rfl
        have q2 : (mergeD [] (dkL fmB)).length = 6 := by kernel_rfl
        omega
      have e2 : mergeD (mergeD [] (dkL fmA)) (mergeD [] (dkL fmB)) = dkL (fmA ++ fmB) := by kernel_rfl
      rw [if_pos e1, e2]
  rw [expr_ok a2]
  have hi1 : T1.at_ i1 ≠ none := by rw [g1]; exact fun z => by cases z
  have g3 : ((T1.bump.set (.obj 0 T1.nx) (.dK (mergeD [] (dkL fmB)))).set i1 (.dK (dkL (fmA ++ fmB)))).at_ i1 = some (.dK (dkL (fmA ++ fmB))) := Sto.set_same
  have f3 : Fr [] S ((T1.bump.set (.obj 0 T1.nx) (.dK (mergeD [] (dkL fmB)))).set i1 (.dK (dkL (fmA ++ fmB)))) := fr_new (f1.trans f2) hi0
  have k3 : ((T1.bump.set (.obj 0 T1.nx) (.dK (mergeD [] (dkL fmB)))).set i1 (.dK (dkL (fmA ++ fmB)))).Ok := k2.set (by rw [g12]; exact fun z => by cases z)
  generalize (T1.bump.set (.obj 0 T1.nx) (.dK (mergeD [] (dkL fmB)))).set i1 (.dK (dkL (fmA ++ fmB))) = T2 at g3 f3 k3 ⊢
  -- found, the rows
  have f4 := alloc_fr k3 (c := 0) (l := .lst [])
  have k4 := alloc_k k3 (c := 0) (l := .lst [])
  have g4 : (T2.bump.set (.obj 0 T2.nx) (.lst [])).at_ (.obj 0 T2.nx) = some (.lst []) := Sto.set_same
  have hi2 : T2.at_ (.obj 0 T2.nx) = none := k3 0 T2.nx (Nat.le_refl _)
  have n13 : i1 ≠ .obj 0 T2.nx := k3.ne (by rw [g3]; exact fun z => by cases z)
  have g14 : (T2.bump.set (.obj 0 T2.nx) (.lst [])).at_ i1 = some (.dK (dkL (fmA ++ fmB))) := by
    rw [f4.2 i1 (by rw [g3]; exact fun z => by cases z) (by simp), g3]
  have a3 : lstC none nilM [some (.str t), some (.cell i1), none, none, none, none, none, none, none, none, none] T2 = .ok (.cell (.obj 0 T2.nx)) (T2.bump.set (.obj 0 T2.nx) (.lst [])) := alloc_eq k3
  have hj0 : S.at_ (.obj 0 T2.nx) = none := by
    cases q : S.at_ (.obj 0 T2.nx) with
    | none => rfl
    | some c =>
      have := f3.2 (.obj 0 T2.nx) (by rw [q]; exact fun z => by cases z) (by simp)
      rw [hi2, q] at this
      cases this
  have f5 : Fr [] S (T2.bump.set (.obj 0 T2.nx) (.lst [])) := f3.trans f4
  generalize T2.bump.set (.obj 0 T2.nx) (.lst []) = T3 at f5 k4 g4 g14 a3 ⊢
  generalize Id.obj 0 T2.nx = i2 at g4 n13 a3 hj0 ⊢
  have a4 : tupM (consM (lstC none nilM) (consM (ifM (tstM (binM neD (varM 0) (cM (.str "")))) (bmM 0 splG (varM 0) (consM (cM (.str "\n")) nilM)) (lstM nilM)) nilM)) [some (.str t), some (.cell i1), none, none, none, none, none, none, none, none, none] T2 = .ok (.tup [.cell i2, .lst ((linesT t).map D.str)]) T3 :=
    tupM_ok (consM_ok a3 (consM_ok (lines_ok h rfl) rfl)) (by simp)
  rw [asg_ok a4 (show gTp 2 (gsCons (gNm 2) (gsCons (gNm 3) gsNil)) _ _ = some (Ed t i1 i2 none none none none none none none) from rfl)]
  have hN := h.nlines
  have rr : rng1I (consM (calM lenF (consM (varM 3) nilM)) nilM) (Ed t i1 i2 none none none none none none none) T3 = .ok (.rng 0 1 (linesT t).length) T3 := Hd.rng1_ok (consM_ok (cal_eq (consM_ok (x := .lst ((linesT t).map D.str)) (S1 := T3) rfl (r := nilM) (xs := []) rfl) (by rw [lenL, List.length_map])) (r := nilM) (xs := []) rfl) (by omega)
  rcases loop_rngS (n := (linesT t).length) (g := gNm 4) (body := bd__law_due_body1 (tl.mean (j + 1))) (e := Ed t i1 i2 none none none none none none none) (S := T3)
    (fun k e T => (∃ y4 y5 y6 y7 y8 y9 y10 : Option D, e = Ed t i1 i2 y4 y5 y6 y7 y8 y9 y10) ∧ T.at_ i1 = some (.dK (dkL (fmA ++ fmB))) ∧ T.at_ i2 = some (.lst ((rowsT t).take k)) ∧ (∀ m, m < k → ∀ d, (rowsT t)[m]? = some d → isN d = false) ∧ Fr [] S T ∧ T.Ok)
    (fun o => ∃ n T, o = .rt (.tup [.str "BadText", .int (n : Nat)]) T ∧ FirstN (rowsT t) n ∧ Fr [] S T ∧ T.Ok)
    ⟨⟨_, _, _, _, _, _, _, rfl⟩, g14, g4, fun m hm => absurd hm (by omega), f5, k4⟩
    (fun k e T hk ⟨⟨y4, y5, y6, y7, y8, y9, y10, he⟩, hT1, hT2, hb, hf, ho⟩ => by
      subst he
      obtain ⟨l, hl⟩ : ∃ l, (linesT t)[k]? = some l := ⟨_, List.getElem?_eq_getElem hk⟩
      have hlo := h.line (List.mem_of_getElem? hl)
      have hrow : (rowsT t)[k]? = some (deedT l) := by
        unfold rowsT
        rw [List.getElem?_map, hl]
        rfl
      refine ⟨Ed t i1 i2 (some (.int (k : Nat))) y5 y6 y7 y8 y9 y10, rfl, ?_⟩
      have b1 : bmM 0 splG (subM (varM 3) (varM 4)) (consM (cM (.str " ")) nilM) (Ed t i1 i2 (some (.int (k : Nat))) y5 y6 y7 y8 y9 y10) T = .ok (.lst ((cutT l 32).map D.str)) T := by
        rw [sp_eq]
        refine bm_eq (x := .str l) (subM_lst (S1 := T) (ds := (linesT t).map D.str) (k := (k : Nat)) rfl rfl (Pyx.atI_nat ?_)) rfl (consM_ok (x := .str (sg 32)) rfl rfl) (spl_ok (by decide) hlo.1 (by have := hlo.2; omega))
        rw [List.getElem?_map, hl]
        rfl
      unfold bd__law_due_body1
      rw [asg_ok b1 (show gNm 5 _ _ = some (Ed t i1 i2 (some (.int (k : Nat))) (some (.lst ((cutT l 32).map D.str))) y6 y7 y8 y9 y10) from rfl)]
      have hw := okW_line hlo
      have hd : deedT l = rowD (cutT l 32) := rfl
      generalize cutT l 32 = ws at hw hd ⊢
      cases ws with
      | nil => exact absurd rfl hw.2.2
      | cons w rest =>
        have hd : deedT l = rowC w rest := hd
        obtain ⟨y6', y9', b2⟩ := c_due_row (j := j) (t := t) (i2 := i2) (k := k) (y6 := y6) (y7 := y7) (y8 := y8) (y9 := y9) (y10 := y10) (r := seqM (ifS (tstM (binM isND (varM 8) (cM .non))) (seqM (retM (tupM (consM (cM (.str "BadText")) (consM (varM 4) nilM)))) skipM) skipM) (seqM (exprM (bmM 1 appG (varM 2) (consM (varM 8) nilM))) skipM)) hT1 hw
        rw [← hd] at b2
        rw [List.map_cons, b2]
        have b3 := tst_eq (binM_eq (g := isND) (a := varM 8) (b := cM .non) (e := Ed t i1 i2 (some (.int (k : Nat))) (some (.lst (.str w :: rest.map D.str))) y6' y7 (some (deedT l)) y9' y10) (S := T) (x := deedT l) rfl rfl (isN_is (S := T) _))
        cases q : isN (deedT l) with
        | true =>
          rw [q] at b3
          have b4 : tupM (consM (cM (.str "BadText")) (consM (varM 4) nilM)) (Ed t i1 i2 (some (.int (k : Nat))) (some (.lst (.str w :: rest.map D.str))) y6' y7 (some (deedT l)) y9' y10) T = .ok (.tup [.str "BadText", .int (k : Nat)]) T := tupM_ok (consM_ok (x := .str "BadText") rfl (consM_ok (x := .int (k : Nat)) rfl rfl)) (by simp)
          rw [if_rt b3 (ret_ok b4)]
          exact .inr ⟨_, rfl, rfl, k, T, rfl, ⟨⟨_, hrow, q⟩, hb⟩, hf, ho⟩
        | false =>
          rw [q] at b3
          rw [skip_if_at b3]
          have hkr : (rowsT t).length = (linesT t).length := by unfold rowsT; rw [List.length_map]
          have b4 := app_ok (a := varM 2) (b := varM 8) (e := Ed t i1 i2 (some (.int (k : Nat))) (some (.lst (.str w :: rest.map D.str))) y6' y7 (some (deedT l)) y9' y10) (S := T) (d := deedT l) rfl rfl hT2 (by rw [List.length_take]; omega)
          rw [expr_ok b4]
          refine .inl ⟨_, _, rfl, ⟨_, _, _, _, _, _, _, rfl⟩, ?_, ?_, fun m hm d hd => ?_, fr_new hf hj0, ho.set (by rw [hT2]; exact fun z => by cases z)⟩
          · rw [Sto.set_ne n13, hT1]
          · rw [Sto.set_same, take_get hrow]
          · by_cases e : m = k
            · rw [e, hrow] at hd
              rw [← Option.some.inj hd]
              exact q
            · exact hb m (by omega) d hd) with ⟨e', S', l1, ⟨y4, y5, y6, y7, y8, y9, y10, he⟩, hT1, hT2, hb, hf, hk⟩ | ⟨o, l1, l2, n, T, ho, hF, hf, hk⟩
  · subst he
    rw [for_ok rr l1]
    have hkr : (linesT t).length = (rowsT t).length := by unfold rowsT; rw [List.length_map]
    rw [hkr, List.take_length] at hT2
    refine .inl ⟨i2, S', ?_, hT2, fun d hd => ?_, hf, hk⟩
    · rw [ret_ok (d := .cell i2) (S1 := S') rfl]
      rfl
    · obtain ⟨m, hm, e⟩ := List.getElem_of_mem hd
      exact hb m (by rw [hkr]; exact hm) d (by rw [List.getElem?_eq_getElem hm, e])
  · rw [for_stop rr l1 l2, ho]
    exact .inr ⟨n, T, rfl, hF, hf, hk⟩
/-! ### alike -/
theorem isi_c {i : Id} {ds : List D} {T : String} (h : S.at_ i = some (.lst ds)) : isiF T (.cell i) S = (kitB "list" T).map D.bl := by
  show (match S.at_ i with
    | some (.lst _) => some "list"
    | some (.dK _) => some "dict"
    | some (.dT _) => some "dict"
    | _ => none : Option String).bind _ = _
  rw [h]
  rfl
theorem alike_cells {i1 i2 : Id} {ds : List D} (h1 : S.at_ i1 = some (.lst ds)) (h2 : S.at_ i2 = some (.lst ds)) (hl : ds.length < 1000000) (h : ∀ d ∈ ds, tl.mean (j + 1) F__law_alike [d, d] S = .ok (.bl true) S) : tl.mean (j + 2) F__law_alike [.cell i1, .cell i2] S = .ok (.bl true) S := by
  obtain ⟨e', S', l1, hS, y, he⟩ := loop_rng (lo := 0) (c := 1) (n := ds.length) (g := gNm 2) (body := bd__law_alike_body1 (tl.mean (j + 1))) (e := [some (.cell i1), some (.cell i2), none]) (S := S)
    (fun k e S' => S' = S ∧ ∃ y, e = [some (.cell i1), some (.cell i2), y]) ⟨rfl, none, rfl⟩ (fun k e S' hk ⟨hS, y, he⟩ => by
      subst hS he
      have e0 : (0 : Int) + (k : Nat) * 1 = (k : Nat) := by rw [Int.mul_one, Int.zero_add]
      rw [e0]
      have hd : ds[k]? = some ds[k] := List.getElem?_eq_getElem hk
      have hc := h ds[k] (List.getElem_mem hk)
      generalize ds[k] = d at hd hc
      have s0 : subM (varM 0) (varM 2) [some (.cell i1), some (.cell i2), some (.int (k : Nat))] S' = .ok d S' := subM_cel (S1 := S') (k := (k : Nat)) rfl rfl h1 (by rw [atI_n]; exact hd)
      have s1 : subM (varM 1) (varM 2) [some (.cell i1), some (.cell i2), some (.int (k : Nat))] S' = .ok d S' := subM_cel (S1 := S') (k := (k : Nat)) rfl rfl h2 (by rw [atI_n]; exact hd)
      have hcall : callM 2 ([]) (tl.mean (j + 1) F__law_alike) (consM (subM (varM 0) (varM 2)) (consM (subM (varM 1) (varM 2)) nilM)) [some (.cell i1), some (.cell i2), some (.int (k : Nat))] S' = .ok (.bl true) S' := call_eq (consM_ok s0 (consM_ok s1 rfl)) rfl hc
      refine ⟨[some (.cell i1), some (.cell i2), some (.int (k : Nat))], [some (.cell i1), some (.cell i2), some (.int (k : Nat))], S', rfl, .inl ?_, rfl, _, rfl⟩
      unfold bd__law_alike_body1
      rw [skip_if_at (not_eq' (tst_eq hcall))]
      rfl)
  subst hS he
  rw [mn__law_alike, v_def]
  show outX (bd__law_alike (tl.mean (j + 1)) [some (.cell i1), some (.cell i2), none] S') = _
  have v0 : varM 0 [some (.cell i1), some (.cell i2), none] S' = .ok (.cell i1) S' := rfl
  have v1 : varM 1 [some (.cell i1), some (.cell i2), none] S' = .ok (.cell i2) S' := rfl
  generalize [some (D.cell i1), some (.cell i2), none] = E at v0 v1 l1 ⊢
  have ln1 : calM lenF (consM (varM 0) nilM) E S' = .ok (.int (ds.length : Nat)) S' := cal_eq (consM_ok v0 rfl) (lenC h1)
  have ln2 : calM lenF (consM (varM 1) nilM) E S' = .ok (.int (ds.length : Nat)) S' := cal_eq (consM_ok v1 rfl) (lenC h2)
  have hr : rng1I (consM (calM lenF (consM (varM 1) nilM)) nilM) E S' = .ok (.rng 0 1 ds.length) S' := Hd.rng1_ok (consM_ok ln2 (r := nilM) (xs := []) rfl) hl
  have q : ∀ (i : Id), S'.at_ i = some (.lst ds) → isiF "bool" (.cell i) S' = some (.bl false) ∧ isiF "int" (.cell i) S' = some (.bl false) ∧ isiF "str" (.cell i) S' = some (.bl false) ∧ isiF "tuple" (.cell i) S' = some (.bl false) ∧ isiF "list" (.cell i) S' = some (.bl true) := fun i hi => by
    rw [isi_c hi, isi_c hi, isi_c hi, isi_c hi, isi_c hi, kit_lb, kit_li, kit_ls, kit_lt, kit_ll]
    exact ⟨rfl, rfl, rfl, rfl, rfl⟩
  obtain ⟨p1, p2, p3, p4, p5⟩ := q i1 h1
  obtain ⟨q1, q2, q3, q4, q5⟩ := q i2 h2
  unfold bd__law_alike bd__law_alike_for2
  rw [skip_if_at (tst_eq (binM_eq v1 (b := cM .non) (y := .non) rfl isN_c))]
  rw [skip_if_at (tst_eq (isiM_eq v1 q1)), skip_if_at (tst_eq (isiM_eq v1 q2)), skip_if_at (tst_eq (isiM_eq v1 q3))]
  rw [skip_if_at (or_no (tst_eq (binM_eq (isiM_eq v1 q4) (isiM_eq v0 p4) (neb false))) (tst_eq (binM_eq (isiM_eq v1 q5) (isiM_eq v0 p5) (neb true))))]
  rw [skip_if_at (tst_eq (binM_eq ln1 ln2 (z := .bl false) (by rw [neD_int, decide_eq_true rfl]; rfl)))]
  rw [for_ok hr l1]
  rfl
theorem num_f0 (s : Str) : flatN 0 (numD s) := by
  unfold numD
  split
  · split <;> exact trivial
  · exact trivial
theorem nam_f0 (s : Str) : flatN 0 (namD s) := by
  unfold namD
  split <;> exact trivial
theorem row_flat {w : Str} {rest : List Str} (hl : rest.length < 900000) : flatN 2 (rowC w rest) := by
  unfold rowC
  split
  · exact trivial
  · split
    · split
      · exact trivial
      · refine ⟨by simp, fun d hd => ?_⟩
        simp only [List.mem_cons, List.not_mem_nil, or_false] at hd
        rcases hd with rfl | rfl | rfl
        · exact trivial
        · cases rest with
          | nil => exact trivial
          | cons a r => exact flatN_mono 0 _ (num_f0 a)
        · refine ⟨by rw [List.length_tail, List.length_map]; omega, fun d hd => ?_⟩
          obtain ⟨s, _, rfl⟩ := List.mem_map.mp (List.mem_of_mem_tail hd)
          exact num_f0 s
    · split
      · exact trivial
      · refine ⟨by rw [List.length_cons, List.length_zipWith]; omega, fun d hd => ?_⟩
        rcases List.mem_cons.mp hd with rfl | hd
        · exact trivial
        · refine flatN_mono 0 _ ?_
          obtain ⟨i, hi, e⟩ := List.getElem_of_mem hd
          rw [List.getElem_zipWith] at e
          rw [← e]
          unfold partD
          split
          · exact num_f0 _
          · exact nam_f0 _
theorem rows_flat {t : Str} (h : TOk t) : ∀ d ∈ rowsT t, flatN 2 d := fun d hd => by
  obtain ⟨l, hl, rfl⟩ := List.mem_map.mp hd
  have hlo := h.line hl
  have hn := cut_n (t := l) (c := 32) (by decide)
  show flatN 2 (rowD (cutT l 32))
  generalize cutT l 32 = ws at hn
  cases ws with
  | nil => exact trivial
  | cons w rest => exact row_flat (by rw [List.length_cons] at hn; have := hlo.2; omega)
/-! ### told -/
structure Lw (b c : Id) (S : Sto) : Prop where
  dr : Dr b c S
  tb : S.at_ (tid 0) = some (.tbl 0)
  nb : tid 0 ≠ b ∧ tid 0 ≠ c
variable {b c : Id} {S' : Sto} {e : Env'}
theorem Lw.fr (l : Lw b c S) (ok : S'.Ok) (f : Fr [] S S') : Lw b c S' := ⟨l.dr.fr ok f, by
  rw [f.2 (tid 0) (by rw [l.tb]; exact fun z => by cases z) (by simp), l.tb], l.nb⟩
theorem Lw.draw (l : Lw b c S) (d : Dr b c S') (f : Fr [b, c] S S') : Lw b c S' := ⟨d, by
  rw [f.2 (tid 0) (by rw [l.tb]; exact fun z => by cases z) (by simp [l.nb.1, l.nb.2]), l.tb], l.nb⟩
theorem Lw.begun {ns : List Int} (ok : S.Ok) (tb : S.at_ (tid 0) = some (.tbl 0)) (hl : ns.length < 1000000) : ∃ b c S', tl.mean 39 F__law_begun [.scr ns] S = .ok (.cell b) S' ∧ Lw b c S' := by
  obtain ⟨b, c, S', h1, h2, h3, h4, h5, h6⟩ := begun_ok (G := tl.mean 38) ok hl
  refine ⟨b, c, S', ?_, ⟨h3, h2⟩, ?_, fun e => ?_, fun e => ?_⟩
  · rw [mn__law_begun]
    exact h1
  · rw [h4.2 (tid 0) (by rw [tb]; exact fun z => by cases z) (by simp), tb]
  · rw [← e, tb] at h5
    cases h5
  · rw [← e, tb] at h6
    cases h6
theorem told_ok {m : EM} {d : D} (tb : S.at_ (tid 0) = some (.tbl 0)) (h : m e S = .ok d S') : toldM 0 tnX m e S = .ok d S' := by
  unfold toldM
  rw [tb]
  dsimp only
  rw [if_pos rfl, h]
theorem told_bad {m : EM} {n : Nat} (tb : S.at_ (tid 0) = some (.tbl 0)) (h : m e S = .exc (badX n) S') : toldM 0 tnX m e S = .ok (.tup [.str "BadText", .int (n : Nat)]) S' := by
  unfold toldM
  rw [tb]
  dsimp only
  rw [if_pos rfl, h]
  show ofO (tnX (badX n)) S' = _
  rw [show tnX (badX n) = some (.tup [.str "BadText", .int (n : Nat)]) by kernel_rfl]
  rfl
theorem call_exc {np : Nat} {g : List D → Sto → Out D} {r : AM} {xs : List D} {x : Exn} {S1 S2 : Sto} (hb : r e S = .ok xs S1) (hn : (xs ++ []).length = np) (hg : g (xs ++ []) S1 = .exc x S2) : callM np [] g r e S = .exc x S2 := by
  rw [callM_ok hb hn]
  exact hg
/-- what is told is what is due -/
theorem c_told {t : Str} (h : TOk t) (l : Lw b c S) (hv : ∀ T, varM 6 e T = .ok (.str t) T) : ∃ S', bd_law_body1 (tl.mean 39) e S = .nx e S' ∧ Lw b c S' := by
  have fin : ∀ {x y : D} {T1 T2 : Sto}, toldM 0 tnX (callM 1 ([]) (tl.mean 39 F_read) (consM (varM 6) nilM)) e S = .ok x T1 → callM 1 ([]) (tl.mean 39 F__law_due) (consM (varM 6) nilM) e T1 = .ok y T2 → tl.mean 39 F__law_alike [x, y] T2 = .ok (.bl true) T2 → bd_law_body1 (tl.mean 39) e S = .nx e T2 := fun h1 h2 h3 => by
    have h4 := not_eq' (tst_eq (call_eq (np := 2) (dd := []) (consM_ok h1 (consM_ok h2 (r := nilM) (xs := []) rfl)) rfl h3))
    unfold bd_law_body1
    rw [skip_if_at h4]
    rfl
  rcases c_read (j := 35) h l.dr.ok with ⟨i, S1, r1, hi0, r2, r3, r4, r5⟩ | ⟨n, S1, r1, r2, r4, r5⟩
  · have m1 := told_ok l.tb (call_eq (np := 1) (dd := []) (consM_ok (hv S) (r := nilM) (xs := []) rfl) rfl r1)
    rcases c_due (j := 37) h r5 with ⟨i2, S2, d1, d2, d3, d4, d5⟩ | ⟨n, S2, d1, d2, d4, d5⟩
    · refine ⟨S2, fin m1 (call_eq (np := 1) (dd := []) (consM_ok (hv S1) (r := nilM) (xs := []) rfl) rfl d1) ?_, (l.fr r5 r4).fr d5 d4⟩
      have e1 : S2.at_ i = some (.lst (rowsT t)) := d4.get r2 (by simp)
      refine alike_cells (j := 37) e1 d2 ?_ fun d hd => alike_self 2 35 d (rows_flat h d hd)
      have := h.nlines
      unfold rowsT
      rw [List.length_map]
      omega
    · obtain ⟨⟨d, q1, q2⟩, _⟩ := d2
      rw [r3 d (List.mem_of_getElem? q1)] at q2
      cases q2
  · have m1 := told_bad l.tb (call_exc (np := 1) (consM_ok (hv S) (r := nilM) (xs := []) rfl) rfl r1)
    rcases c_due (j := 37) h r5 with ⟨i2, S2, d1, d2, d3, d4, d5⟩ | ⟨m, S2, d1, d2, d4, d5⟩
    · obtain ⟨⟨d, q1, q2⟩, _⟩ := r2
      rw [d3 d (List.mem_of_getElem? q1)] at q2
      cases q2
    · have e := r2.uniq d2
      subst e
      refine ⟨S2, fin m1 (call_eq (np := 1) (dd := []) (consM_ok (hv S1) (r := nilM) (xs := []) rfl) rfl d1) ?_, (l.fr r5 r4).fr d5 d4⟩
      exact alike_self 1 37 _ ⟨by simp, fun d hd => by
        simp only [List.mem_cons, List.not_mem_nil, or_false] at hd
        rcases hd with rfl | rfl <;> exact trivial⟩
end
end Hd
/-! k13: a text spoilt -/
namespace Hd
open PySem PySem.Spec PyProof.Rows L2 Pyx
def rwD (ws : List Str) : D := .lst (ws.map D.str)
/-- rows of words: how much -/
def wr (rows : List (List Str)) : Nat := (rows.map fun r => wt r + 1).sum
theorem wr_app {a b : List (List Str)} : wr (a ++ b) = wr a + wr b := by
  unfold wr
  rw [List.map_append, List.sum_append]
theorem wr_cons {a : List Str} {b : List (List Str)} : wr (a :: b) = wt a + 1 + wr b := by
  unfold wr
  rw [List.map_cons, List.sum_cons]
theorem wr_nil : wr [] = 0 := rfl
theorem wr_len {rows : List (List Str)} : rows.length ≤ wr rows := by
  induction rows with
  | nil => exact Nat.zero_le _
  | cons a r ih =>
    rw [wr_cons, List.length_cons]
    omega
theorem wr_mem {rows : List (List Str)} {r : List Str} (h : r ∈ rows) : wt r + 1 ≤ wr rows := by
  induction rows with
  | nil => cases h
  | cons a q ih =>
    rw [wr_cons]
    rcases List.mem_cons.mp h with h | h
    · rw [h]
      omega
    · have := ih h
      omega
theorem wr_split {rows : List (List Str)} {p : Nat} {r : List Str} (h : rows[p]? = some r) : wr rows = wr (rows.take p) + (wt r + 1) + wr (rows.drop (p + 1)) := by
  obtain ⟨hp, e⟩ := List.getElem?_eq_some_iff.mp h
  have h1 : rows = rows.take p ++ r :: rows.drop (p + 1) := by
    rw [← e, List.getElem_cons_drop, List.take_append_drop]
  have h2 := congrArg wr h1
  rw [wr_app, wr_cons] at h2
  omega
structure RO (n : Nat) (rows : List (List Str)) : Prop where
  ok : ∀ r ∈ rows, ∀ s ∈ r, okT s
  le : wr rows ≤ n
section
variable {S : Sto} {j : Nat}
theorem lc_pureH {e : Env'} {ds : List D} {h : Option (Option Id)} {own : List Nat} {g : GM} {tt : TM} {te : EM} {im : IM} (him : im e S = .ok (.fix ds) S) (p : D → Bool) (f : D → D)
    (hh : ∀ d ∈ ds, ∃ e1, g d (wipeE e own) = some e1 ∧ tt e1 S = .ok (p d) S ∧ (p d = true → te e1 S = .ok (f d) S)) (hl : ds.length ≤ 1000000) : lcM h own im g tt te e S = endL h ((ds.filter p).map f) S := by
  obtain ⟨acc, S', h1, h2, h3⟩ := lc_fixM (ds := ds) (h := h) (vs := own) (g := g) (tt := tt) (te := te) (e := e) (S1 := S) him (fun k S' acc => S' = S ∧ acc = ((ds.take k).filter p).map f) ⟨rfl, rfl⟩ (fun k S' acc d hd ⟨h1, h2⟩ => by
    subst h1
    obtain ⟨e1, g1, g2, g3⟩ := hh d (List.mem_of_getElem? hd)
    refine ⟨e1, p d, S', g1, g2, ?_⟩
    have ht : ds.take (k + 1) = ds.take k ++ [d] := by
      rw [List.take_succ, hd]
      rfl
    cases hp : p d with
    | true =>
      refine ⟨f d, S', g3 hp, ?_, rfl, ?_⟩
      · rw [h2]
        have hk := (List.getElem?_eq_some_iff.mp hd).1
        refine Nat.lt_of_le_of_lt (Nat.le_trans (by rw [List.length_map]; exact List.length_filter_le _ _) (by rw [List.length_take]; exact Nat.min_le_left _ _)) (by omega : k < 1000000)
      · rw [ht, List.filter_append, List.map_append, h2]
        simp [hp]
    | false =>
      refine ⟨rfl, ?_⟩
      rw [ht, List.filter_append, List.map_append, h2]
      simp [hp])
  subst h2
  rw [List.take_length] at h3
  rw [h1, h3]
theorem slM_cel {a : EM} {lo hi : OM} {e : Env'} {i : Id} {ds : List D} {p q : Option Int} (ha : a e S = .ok (.cell i) S) (hS : S.at_ i = some (.lst ds)) (hp : lo e S = .ok p S) (hq : hi e S = .ok q S) : sliceM a lo hi e S = .ok (.lst (Pyx.cutD ds p q)) S := by
  unfold sliceM
  rw [ha, v_ok, hp, v_ok, hq, v_ok]
  unfold slD
  rw [top1C hS]
  rfl
theorem adL {a b : List D} (h : a.length + b.length ≤ 1000000) : addD (.lst a) (.lst b) S = some (.lst (a ++ b)) := by
  show (if a.length + b.length ≤ sizeLine then some (D.lst (a ++ b)) else none) = _
  rw [if_pos (by rw [sizeL]; omega)]
theorem ixN_nat {n : Nat} {k : Int} (h0 : 0 ≤ k) (h1 : k < n) : ixN n k = some k.toNat := by
  obtain ⟨m, rfl⟩ := Int.eq_ofNat_of_zero_le h0
  unfold ixN
  rw [if_pos h0, Int.toNat_natCast]
  exact if_pos (by omega)
def odds : List Str := ["ask", "fill", "come", "day", "stop", "0", "1", "00", "07", "99999", "100000", "-1", "", "x", "A", "a1", "abcdefghi", "abcdefgh", "Ask", "1,2", "000"]
theorem odds_ok : ∀ s ∈ odds, okT s ∧ s.length ≤ 9 := fun s hs => by
  have h : (odds.all fun s => PySem.PyData.strOk s && decide (s.length ≤ 9)) = true := by kernel_rfl
  have h1 := List.all_eq_true.mp h s hs
  rw [Bool.and_eq_true] at h1
  exact ⟨okT_of h1.1, of_decide_eq_true h1.2⟩
variable {b c : Id} {S' : Sto} {e : Env'}
theorem Lw.ne (l : Lw b c S) {i : Id} (h : S.at_ i = none) : i ≠ b ∧ i ≠ c ∧ i ≠ tid 0 := by
  obtain ⟨h1, h2⟩ := l.dr.live
  exact ⟨fun e => h1 (by rw [← e]; exact h), fun e => h2 (by rw [← e]; exact h), fun e => by rw [e, l.tb] at h; cases h⟩
theorem Lw.set (l : Lw b c S) {i : Id} {k : Cell} (hn : i ≠ b ∧ i ≠ c ∧ i ≠ tid 0) (h : S.at_ i ≠ none) : Lw b c (S.set i k) :=
  ⟨⟨l.dr.ok.set h, l.dr.box.keep (Sto.set_ne (Ne.symm hn.1)) (Sto.set_ne (Ne.symm hn.2.1))⟩, by rw [Sto.set_ne (Ne.symm hn.2.2), l.tb], l.nb⟩
/-- the lines joined again -/
theorem join_rows {x : D} {rows : List (List Str)} {n : Nat} (hx : Holds S x (rows.map rwD)) (hv : varM 3 e S = .ok x S) (hw : ∀ d, varM 9 ((wipeE e [9]).set 9 (some d)) S = .ok d S) (ro : RO n rows) (hn : n ≤ 1000000) :
    ∃ t, bmM 0 joiG (cM (.str "\n")) (consM (lcM none ([9]) (seqI (varM 3)) (gNm 9) yesM (bmM 0 joiG (cM (.str " ")) (consM (varM 9) nilM))) nilM) e S = .ok (.str t) S ∧ okT t ∧ t.length ≤ n := by
  have hle := ro.le
  have hone : ∀ d ∈ rows.map rwD, ∃ e1, gNm 9 d (wipeE e [9]) = some e1 ∧ yesM e1 S = .ok true S ∧ (true = true → bmM 0 joiG (cM (.str " ")) (consM (varM 9) nilM) e1 S = .ok ((fun d => match d with | .lst ds => (match strsX ds with | some ys => D.str (Txt.join (sg 32) ys) | none => .non) | _ => .non) d) S) := fun d hd => by
    obtain ⟨r, hr, rfl⟩ := List.mem_map.mp hd
    refine ⟨_, rfl, rfl, fun _ => ?_⟩
    have := wr_mem hr
    refine bm_eq (x := .str " ") (S1 := S) (ds := [rwD r]) rfl rfl (consM_ok (x := rwD r) (hw _) (r := nilM) (xs := []) rfl) ?_
    rw [sp_eq]
    unfold rwD
    dsimp only
    rw [strsX_map]
    exact joi_ok (by decide) (ro.ok r hr) (by omega)
  have hlen : (rows.map rwD).length ≤ 1000000 := by
    rw [List.length_map]
    have := wr_len (rows := rows)
    omega
  have hmap : (rows.map rwD).map (fun d => match d with | .lst ds => (match strsX ds with | some ys => D.str (Txt.join (sg 32) ys) | none => .non) | _ => .non) = (rows.map (Txt.join (sg 32))).map D.str := by
    rw [List.map_map, List.map_map]
    refine List.map_congr_left fun r hr => ?_
    show (match strsX (r.map D.str) with | some ys => D.str (Txt.join (sg 32) ys) | none => .non) = _
    rw [strsX_map]
    rfl
  have h1 : lcM none ([9]) (seqI (varM 3)) (gNm 9) yesM (bmM 0 joiG (cM (.str " ")) (consM (varM 9) nilM)) e S = .ok (.lst ((rows.map (Txt.join (sg 32))).map D.str)) S := by
    rcases hx with hx | ⟨i, hx, hi⟩
    · subst hx
      have := lc_pure (own := [9]) (seqI_lst hv) (fun _ => true) _ hone hlen
      rw [List.filter_eq_self.mpr (fun _ _ => rfl), hmap] at this
      exact this
    · subst hx
      have := lc_pureC (own := [9]) (seqI_cel hv hi) hi (fun _ => true) _ hone hlen
      rw [List.filter_eq_self.mpr (fun _ _ => rfl), hmap] at this
      exact this
  have hok : ∀ p ∈ rows.map (Txt.join (sg 32)), okT p := fun p hp => by
    obtain ⟨r, hr, rfl⟩ := List.mem_map.mp hp
    exact join_ok (by decide) (ro.ok r hr)
  have hwt : ∀ rows : List (List Str), wt (rows.map (Txt.join (sg 32))) ≤ wr rows := fun rows => by
    induction rows with
    | nil => exact Nat.le_refl _
    | cons r q ih =>
      rw [List.map_cons, wt_cons, wr_cons]
      have := join_wt (c := 32) (ys := r)
      omega
  have hw2 := hwt rows
  refine ⟨Txt.join (sg 10) (rows.map (Txt.join (sg 32))), ?_, join_ok (by decide) hok, ?_⟩
  · rw [nl_eq]
    exact bm_eq (x := .str (sg 10)) (S1 := S) rfl rfl (consM_ok h1 (r := nilM) (xs := []) rfl) (joi_ok (by decide) hok (by omega))
  · have := join_wt (c := 10) (ys := rows.map (Txt.join (sg 32)))
    omega
end
end Hd
/-! k13: _law_spoilt -/
namespace Hd
open PySem PySem.Spec PyProof.Rows L2 Pyx
theorem wt_take {r : List Str} {k : Nat} : wt (r.take k) ≤ wt r := wt_sub (List.take_sublist k r)
theorem wt_drop {r : List Str} {k : Nat} : wt (r.drop k) ≤ wt r := wt_sub (List.drop_sublist k r)
theorem wr_cut : ∀ ls : List Str, wr (ls.map fun l => cutT l 32) = wt ls + ls.length
  | [] => rfl
  | l :: r => by
    rw [List.map_cons, wr_cons, wr_cut r, cut_wt (by decide), wt_cons, List.length_cons]
    omega
section
variable {rows : List (List Str)} {row : List Str} {p : Nat}
theorem ro_set {n : Nat} {row' : List Str} (ro : RO n rows) (h : rows[p]? = some row) (hw : wt row' ≤ 2 * wt row + 10) (ho : ∀ s ∈ row', okT s) : RO (2 * n + 12) (rows.set p row') := by
  obtain ⟨hp, e⟩ := List.getElem?_eq_some_iff.mp h
  have hs := wr_split h
  refine ⟨fun r hr => ?_, ?_⟩
  · rcases List.mem_or_eq_of_mem_set hr with q | q
    · exact ro.ok r q
    · rw [q]
      exact ho
  · rw [List.set_eq_take_append_cons_drop, if_pos hp, wr_app, wr_cons]
    have := ro.le
    omega
theorem ro_app {n : Nat} {mid : List (List Str)} (ro : RO n rows) (h : rows[p]? = some row) (hw : wr mid ≤ 2 * (wt row + 1) + 12) (ho : ∀ r ∈ mid, ∀ s ∈ r, okT s) : RO (2 * n + 12) (rows.take p ++ mid ++ rows.drop (p + 1)) := by
  have hs := wr_split h
  refine ⟨fun r hr => ?_, ?_⟩
  · rcases List.mem_append.mp hr with q | q
    · rcases List.mem_append.mp q with q | q
      · exact ro.ok r (List.mem_of_mem_take q)
      · exact ho r q
    · exact ro.ok r (List.mem_of_mem_drop q)
  · rw [wr_app, wr_app]
    have := ro.le
    omega
end
section
variable {S : Sto} {j : Nat} {e : Env'} {a k : EM}
theorem sl_to {row : List Str} {n : Int} (ha : a e S = .ok (rwD row) S) (hk : k e S = .ok (.int n) S) (h0 : 0 ≤ n) : sliceM a noPart (partM k) e S = .ok (rwD (row.take n.toNat)) S := by
  refine (slM_lst ha (p := none) rfl (partM_ok hk)).trans ?_
  rw [cut_to h0]
  unfold rwD
  rw [List.map_take]
theorem sl_from {row : List Str} {n : Int} (ha : a e S = .ok (rwD row) S) (hk : k e S = .ok (.int n) S) (h0 : 0 ≤ n) : sliceM a (partM k) noPart e S = .ok (rwD (row.drop n.toNat)) S := by
  refine (slM_lst ha (q := none) (partM_ok hk) rfl).trans ?_
  rw [cut_from h0]
  unfold rwD
  rw [List.map_drop]
theorem slc_to {i : Id} {rows : List (List Str)} {n : Int} (ha : a e S = .ok (.cell i) S) (hi : S.at_ i = some (.lst (rows.map rwD))) (hk : k e S = .ok (.int n) S) (h0 : 0 ≤ n) : sliceM a noPart (partM k) e S = .ok (.lst ((rows.take n.toNat).map rwD)) S := by
  refine (slM_cel ha hi (p := none) rfl (partM_ok hk)).trans ?_
  rw [cut_to h0, List.map_take]
theorem slc_from {i : Id} {rows : List (List Str)} {n : Int} (ha : a e S = .ok (.cell i) S) (hi : S.at_ i = some (.lst (rows.map rwD))) (hk : k e S = .ok (.int n) S) (h0 : 0 ≤ n) : sliceM a (partM k) noPart e S = .ok (.lst ((rows.drop n.toNat).map rwD)) S := by
  refine (slM_cel ha hi (q := none) (partM_ok hk) rfl).trans ?_
  rw [cut_from h0, List.map_drop]
theorem adR {b : EM} {x y : List Str} (ha : a e S = .ok (rwD x) S) (hb : b e S = .ok (rwD y) S) (h : x.length + y.length ≤ 1000000) : binM addD a b e S = .ok (rwD (x ++ y)) S := by
  refine binM_eq ha hb ((adL (by rw [List.length_map, List.length_map]; exact h)).trans ?_)
  unfold rwD
  rw [List.map_append]
theorem adW {b : EM} {S1 S2 : Sto} {x y : List (List Str)} (ha : a e S = .ok (.lst (x.map rwD)) S1) (hb : b e S1 = .ok (.lst (y.map rwD)) S2) (h : x.length + y.length ≤ 1000000) : binM addD a b e S = .ok (.lst ((x ++ y).map rwD)) S2 := by
  refine binM_eq ha hb ((adL (by rw [List.length_map, List.length_map]; exact h)).trans ?_)
  rw [List.map_append]
abbrev Es (b : Id) (t : Str) (y3 y4 y5 y6 y7 y8 y9 : Option D) : Env' := [some (.cell b), some (.str t), some (.lst (odds.map D.str)), y3, y4, y5, y6, y7, y8, y9]
variable {b c : Id}
theorem c_spoilt {t : Str} (ht : okT t) (hl : t.length ≤ 100000) (l : Lw b c S) : ∃ t' S', tl.mean (j + 2) F__law_spoilt [.cell b, .str t] S = .ok (.str t') S' ∧ okT t' ∧ t'.length ≤ 4 * t.length + 20 ∧ Lw b c S' := by
  rw [mn__law_spoilt]
  simp only [v_def]
  show ∃ t' S', outX (bd__law_spoilt (tl.mean (j + 1)) [some (.cell b), some (.str t), none, none, none, none, none, none, none, none] S) = _ ∧ _
  unfold bd__law_spoilt
  rw [asg_ok (d := .lst ((odds.take 16).map D.str)) (S1 := S) rfl rfl]
  rw [asg_ok (d := .lst (odds.map D.str)) (S1 := S) (g := gNm 2) (e' := Es b t none none none none none none none) (binM_eq (x := .lst ((odds.take 16).map D.str)) (y := .lst ((odds.drop 16).map D.str)) (S1 := S) (S2 := S) rfl rfl ((adL (by decide)).trans rfl)) rfl]
  -- the rows
  obtain ⟨rows, hrows⟩ : ∃ rows, rows = (cutT t 10).map fun l => cutT l 32 := ⟨_, rfl⟩
  have hW : wr rows ≤ 2 * (t.length + 1) := by
    rw [hrows, wr_cut, cut_wt (by decide)]
    have := cut_n (t := t) (c := 10) (by decide)
    omega
  have hro : RO (2 * (t.length + 1)) rows := ⟨fun r hr s hs => by
    rw [hrows] at hr
    obtain ⟨q, hq, rfl⟩ := List.mem_map.mp hr
    exact cut_ok (by decide) (cut_ok (by decide) ht q hq) s hs, hW⟩
  have hrl : rows.length ≤ wr rows := wr_len
  have hr0 : 0 < rows.length := by
    rw [hrows, List.length_map]
    exact List.length_pos_iff.mpr (cut_ne (by decide))
  have hrne : ∀ r ∈ rows, r ≠ [] := fun r hr => by
    rw [hrows] at hr
    obtain ⟨q, hq, rfl⟩ := List.mem_map.mp hr
    exact cut_ne (by decide)
  have a3 : lcM ((some none)) ([4]) (seqI (bmM 0 splG (varM 1) (consM (cM (.str "\n")) nilM))) (gNm 4) yesM (bmM 0 splG (varM 4) (consM (cM (.str " ")) nilM)) (Es b t none none none none none none none) S = .ok (.cell (.obj 0 S.nx)) (S.bump.set (.obj 0 S.nx) (.lst (rows.map rwD))) := by
    have s1 : bmM 0 splG (varM 1) (consM (cM (.str "\n")) nilM) (Es b t none none none none none none none) S = .ok (.lst ((cutT t 10).map D.str)) S := by
      rw [nl_eq]
      exact bm_eq (x := .str t) rfl rfl (consM_ok (x := .str (sg 10)) rfl rfl) (spl_ok (by decide) ht (by omega))
    have h1 := lc_pureH (h := some none) (own := [4]) (g := gNm 4) (tt := yesM) (te := bmM 0 splG (varM 4) (consM (cM (.str " ")) nilM)) (seqI_lst s1) (fun _ => true) (fun d => match d with | .str s => rwD (cutT s 32) | _ => .non) (fun d hd => by
      obtain ⟨s, hs, rfl⟩ := List.mem_map.mp hd
      refine ⟨_, rfl, rfl, fun _ => ?_⟩
      rw [sp_eq]
      have := cut_le (t := t) (c := 10) (by decide) s hs
      exact bm_eq (x := .str s) rfl rfl (consM_ok (x := .str (sg 32)) rfl rfl) (spl_ok (by decide) (cut_ok (by decide) ht s hs) (by omega))) (by
        rw [List.length_map]
        have := cut_n (t := t) (c := 10) (by decide)
        omega)
    rw [List.filter_eq_self.mpr (fun _ _ => rfl), List.map_map] at h1
    refine h1.trans ?_
    rw [show List.map ((fun d => match d with | .str s => rwD (cutT s 32) | _ => .non) ∘ D.str) (cutT t 10) = rows.map rwD by rw [hrows, List.map_map]; rfl]
    exact alloc_eq l.dr.ok
  rw [asg_ok a3 rfl]
  have hi0 : S.at_ (.obj 0 S.nx) = none := l.dr.ok 0 S.nx (Nat.le_refl _)
  have hne := l.ne hi0
  have l1 := l.fr (alloc_k l.dr.ok (c := 0) (l := .lst (rows.map rwD))) (alloc_fr l.dr.ok)
  have g1 : (S.bump.set (.obj 0 S.nx) (.lst (rows.map rwD))).at_ (.obj 0 S.nx) = some (.lst (rows.map rwD)) := Sto.set_same
  generalize S.bump.set (.obj 0 S.nx) (.lst (rows.map rwD)) = S1 at l1 g1 ⊢
  generalize Id.obj 0 S.nx = i at hne g1 ⊢
  show ∃ t' S', outX (seqM _ _ (Es b t (some (.cell i)) none none none none none none) S1) = _ ∧ _
  have hin : i ∉ [b, c] := by simp [hne.1, hne.2.1]
  -- place, deed
  obtain ⟨r5, S2, d1, d2, d3, d4⟩ := tk (j := j) (e := Es b t (some (.cell i)) none none none none none none) (a1 := varM 0) (a2 := calM lenF (consM (varM 3) nilM)) (m := (rows.length : Nat)) (S := S1) rfl (cal_eq (consM_ok (x := .cell i) (S1 := S1) rfl (r := nilM) (xs := []) rfl) (by rw [lenC g1, List.length_map])) l1.dr (by omega)
  have l2 := l1.draw d3 d4
  obtain ⟨r6, S3, f1, f2, f3, f4⟩ := tk (j := j) (e := Es b t (some (.cell i)) none none none none none none) (a1 := varM 0) (a2 := cM (.int 7)) (m := 7) (S := S2) rfl rfl l2.dr (by decide)
  have l3 := l2.draw f3 f4
  have g3 : S3.at_ i = some (.lst (rows.map rwD)) := f4.get (d4.get g1 hin) hin
  rw [asg_ok (tupM_ok (consM_ok d1 (consM_ok f1 rfl)) (by simp)) (show gTp 2 (gsCons (gNm 5) (gsCons (gNm 6) gsNil)) (.tup [.int r5, .int r6]) _ = some (Es b t (some (.cell i)) none (some (.int r5)) (some (.int r6)) none none none) from rfl)]
  obtain ⟨row, hrow⟩ : ∃ row, rows[r5.toNat]? = some row := ⟨_, List.getElem?_eq_getElem (by omega)⟩
  have hrm := List.mem_of_getElem? hrow
  have hwr := wr_mem hrm
  have hro1 := hro.ok row hrm
  have hrwl : row.length ≤ wt row := wt_len
  have a4 : subM (varM 3) (varM 5) (Es b t (some (.cell i)) none (some (.int r5)) (some (.int r6)) none none none) S3 = .ok (rwD row) S3 := subM_cel (S1 := S3) (k := r5) rfl rfl g3 (by
    have := atI_n (ds := rows.map rwD) (i := r5.toNat)
    rw [Int.toNat_of_nonneg d2.1] at this
    rw [this, List.getElem?_map, hrow]
    rfl)
  rw [asg_ok a4 (show gNm 4 _ _ = some (Es b t (some (.cell i)) (some (rwD row)) (some (.int r5)) (some (.int r6)) none none none) from rfl)]
  -- at, word
  obtain ⟨r7, S4, p1, p2, p3, p4⟩ := tk (j := j) (e := Es b t (some (.cell i)) (some (rwD row)) (some (.int r5)) (some (.int r6)) none none none) (a1 := varM 0) (a2 := binM addD (calM lenF (consM (varM 4) nilM)) (cM (.int 1))) (m := (row.length : Nat) + 1) (S := S3) rfl (binM_eq (cal_eq (consM_ok (x := rwD row) (S1 := S3) rfl (r := nilM) (xs := []) rfl) (show lenF [.lst (row.map D.str)] S3 = some (.int (row.length : Nat)) by rw [lenL, List.length_map])) (b := cM (.int 1)) (y := .int 1) rfl (addD_int (S := S3))) l3.dr (by omega)
  have l4 := l3.draw p3 p4
  obtain ⟨vw, S5, q1, q2, q3, q4⟩ := sel (j := j) (e := Es b t (some (.cell i)) (some (rwD row)) (some (.int r5)) (some (.int r6)) none none none) (a1 := varM 0) (la := varM 2) (ds := odds.map D.str) (S0 := S4) (S := S4) rfl rfl l4.dr (by decide) (a2 := cM (.int 21)) rfl
  have l5 := l4.draw q3 q4
  obtain ⟨word, hword, rfl⟩ := List.mem_map.mp q2
  have hwo := odds_ok word hword
  have g5 : S5.at_ i = some (.lst (rows.map rwD)) := q4.get (p4.get g3 hin) hin
  rw [asg_ok (tupM_ok (consM_ok p1 (consM_ok q1 rfl)) (by simp)) (show gTp 2 (gsCons (gNm 7) (gsCons (gNm 8) gsNil)) (.tup [.int r7, .str word]) _ = some (Es b t (some (.cell i)) (some (rwD row)) (some (.int r5)) (some (.int r6)) (some (.int r7)) (some (.str word)) none) from rfl)]
  -- the end
  have fin : ∀ (rows' : List (List Str)) (x : D) (S' : Sto), Holds S' x (rows'.map rwD) → RO (2 * (2 * (t.length + 1)) + 12) rows' → Lw b c S' → ∃ t' S'', outX (seqM (retM (bmM 0 joiG (cM (.str "\n")) (consM (lcM none ([9]) (seqI (varM 3)) (gNm 9) yesM (bmM 0 joiG (cM (.str " ")) (consM (varM 9) nilM))) nilM))) skipM (Es b t (some x) (some (rwD row)) (some (.int r5)) (some (.int r6)) (some (.int r7)) (some (.str word)) none) S') = .ok (.str t') S'' ∧ okT t' ∧ t'.length ≤ 4 * t.length + 20 ∧ Lw b c S'' := fun rows' x S' hx ro lw => by
    obtain ⟨t', h1, h2, h3⟩ := join_rows (e := Es b t (some x) (some (rwD row)) (some (.int r5)) (some (.int r6)) (some (.int r7)) (some (.str word)) none) hx rfl (fun d => rfl) ro (by omega)
    refine ⟨t', S', ?_, h2, by omega, lw⟩
    rw [ret_ok h1]
    rfl
  have put : ∀ (X : EM) (row' : List Str), X (Es b t (some (.cell i)) (some (rwD row)) (some (.int r5)) (some (.int r6)) (some (.int r7)) (some (.str word)) none) S5 = .ok (rwD row') S5 → seqM (putM (varM 3) (varM 5) X) skipM (Es b t (some (.cell i)) (some (rwD row)) (some (.int r5)) (some (.int r6)) (some (.int r7)) (some (.str word)) none) S5 = .nx (Es b t (some (.cell i)) (some (rwD row)) (some (.int r5)) (some (.int r6)) (some (.int r7)) (some (.str word)) none) (S5.set i (.lst ((rows.set r5.toNat row').map rwD))) := fun X row' hX => by
    rw [put_ok (x := .cell i) (y := .int r5) (S2 := S5) (S3 := S5) hX rfl rfl (setI_lst g5 (ixN_nat d2.1 (by rw [List.length_map]; exact d2.2)))]
    rw [List.map_set]
    rfl
  have fput : ∀ row' : List Str, wt row' ≤ 2 * wt row + 10 → (∀ s ∈ row', okT s) → ∃ t' S'', outX (seqM (retM (bmM 0 joiG (cM (.str "\n")) (consM (lcM none ([9]) (seqI (varM 3)) (gNm 9) yesM (bmM 0 joiG (cM (.str " ")) (consM (varM 9) nilM))) nilM))) skipM (Es b t (some (.cell i)) (some (rwD row)) (some (.int r5)) (some (.int r6)) (some (.int r7)) (some (.str word)) none) (S5.set i (.lst ((rows.set r5.toNat row').map rwD)))) = .ok (.str t') S'' ∧ okT t' ∧ t'.length ≤ 4 * t.length + 20 ∧ Lw b c S'' := fun row' h1 h2 =>
    fin (rows.set r5.toNat row') (.cell i) _ (.inr ⟨i, rfl, Sto.set_same⟩) (ro_set hro hrow h1 h2) (l5.set hne (by rw [g5]; exact fun z => by cases z))
  have htk : ∀ k : Nat, wt (row.take k) ≤ wt row := fun k => wt_take
  have hdr : ∀ k : Nat, wt (row.drop k) ≤ wt row := fun k => wt_drop
  have otk : ∀ k : Nat, ∀ s ∈ row.take k, okT s := fun k s hs => hro1 s (List.mem_of_mem_take hs)
  have odr : ∀ k : Nat, ∀ s ∈ row.drop k, okT s := fun k s hs => hro1 s (List.mem_of_mem_drop hs)
  have ltk : ∀ k : Nat, (row.take k).length ≤ 300000 := fun k => by rw [List.length_take]; omega
  have ldr : ∀ k : Nat, (row.drop k).length ≤ 300000 := fun k => by rw [List.length_drop]; omega
  have v4 : varM 4 (Es b t (some (.cell i)) (some (rwD row)) (some (.int r5)) (some (.int r6)) (some (.int r7)) (some (.str word)) none) S5 = .ok (rwD row) S5 := rfl
  have v5 : varM 5 (Es b t (some (.cell i)) (some (rwD row)) (some (.int r5)) (some (.int r6)) (some (.int r7)) (some (.str word)) none) S5 = .ok (.int r5) S5 := rfl
  have v6 : varM 6 (Es b t (some (.cell i)) (some (rwD row)) (some (.int r5)) (some (.int r6)) (some (.int r7)) (some (.str word)) none) S5 = .ok (.int r6) S5 := rfl
  have v7 : varM 7 (Es b t (some (.cell i)) (some (rwD row)) (some (.int r5)) (some (.int r6)) (some (.int r7)) (some (.str word)) none) S5 = .ok (.int r7) S5 := rfl
  have v3 : varM 3 (Es b t (some (.cell i)) (some (rwD row)) (some (.int r5)) (some (.int r6)) (some (.int r7)) (some (.str word)) none) S5 = .ok (.cell i) S5 := rfl
  have to7 := sl_to v4 v7 p2.1
  have c1 := tst_eq (binM_eq (g := ltD) v6 (b := cM (.int 3)) (y := .int 3) rfl (ltD_int (S := S5)))
  have c2 := tst_eq (binM_eq (g := eqD) v6 (b := cM (.int 3)) (y := .int 3) rfl (eqD_ii (S := S5)))
  have c3 := tst_eq (binM_eq (g := eqD) v6 (b := cM (.int 4)) (y := .int 4) rfl (eqD_ii (S := S5)))
  have c4 := tst_eq (binM_eq (g := eqD) v6 (b := cM (.int 5)) (y := .int 5) rfl (eqD_ii (S := S5)))
  by_cases h3 : r6 < 3
  · rw [decide_eq_true h3] at c1
    have hw1 : lstM (consM (varM 8) nilM) (Es b t (some (.cell i)) (some (rwD row)) (some (.int r5)) (some (.int r6)) (some (.int r7)) (some (.str word)) none) S5 = .ok (rwD [word]) S5 := rfl
    have fr := sl_from v4 (binM_eq v7 (binM_eq v6 (b := cM (.int 2)) (y := .int 2) rfl (fdivD_int (S := S5) (by decide))) (addD_int (S := S5))) (by have := Int.ediv_nonneg f2.1 (by decide : (0 : Int) ≤ 2); omega)
    have x1 := adR (adR to7 hw1 (by have := ltk r7.toNat; simp only [List.length_cons, List.length_nil]; omega)) fr (by
      have := ltk r7.toNat
      have := ldr (r7 + r6 / 2).toNat
      rw [List.length_append, List.length_cons, List.length_nil]
      omega)
    rw [if_yes c1 (put _ _ x1)]
    refine fput _ ?_ ?_
    · rw [wt_app, wt_app, wt_cons]
      have := htk r7.toNat
      have := hdr (r7 + r6 / 2).toNat
      have := hwo.2
      show _ + (_ + wt []) + _ ≤ _
      have : wt ([] : List Str) = 0 := rfl
      omega
    · intro s hs
      rcases List.mem_append.mp hs with hs | hs
      · rcases List.mem_append.mp hs with hs | hs
        · exact otk _ s hs
        · rw [List.mem_singleton.mp hs]
          exact hwo.1
      · exact odr _ s hs
  · rw [decide_eq_false h3] at c1
    by_cases h4 : r6 = 3
    · rw [decide_eq_true h4] at c2
      have fr := sl_from v4 (binM_eq v7 (b := cM (.int 1)) (y := .int 1) rfl (addD_int (S := S5))) (by omega)
      have x1 := adR to7 fr (by have := ltk r7.toNat; have := ldr (r7 + 1).toNat; omega)
      rw [if_no c1 ((if_yes (r := skipM) c2 (put _ _ x1)).trans rfl)]
      refine fput _ ?_ ?_
      · rw [wt_app]
        have := htk r7.toNat
        have := hdr (r7 + 1).toNat
        omega
      · intro s hs
        rcases List.mem_append.mp hs with hs | hs
        · exact otk _ s hs
        · exact odr _ s hs
    · rw [decide_eq_false h4] at c2
      by_cases h5 : r6 = 4
      · rw [decide_eq_true h5] at c3
        have mx : calM maxF (consM (cM (.int 0)) (consM (binM subD (varM 7) (cM (.int 1))) nilM)) (Es b t (some (.cell i)) (some (rwD row)) (some (.int r5)) (some (.int r6)) (some (.int r7)) (some (.str word)) none) S5 = .ok (.int (if r7 - 1 > 0 then r7 - 1 else 0)) S5 := cal_eq (consM_ok (x := .int 0) (S1 := S5) rfl (consM_ok (binM_eq v7 (b := cM (.int 1)) (y := .int 1) rfl (subD_int (S := S5))) rfl)) rfl
        have fr := sl_from v4 mx (by split <;> omega)
        have x1 := adR to7 fr (by have := ltk r7.toNat; have := ldr (if r7 - 1 > 0 then r7 - 1 else 0).toNat; omega)
        rw [if_no c1 ((if_no (r := skipM) c2 ((if_yes (r := skipM) c3 (put _ _ x1)).trans rfl)).trans rfl)]
        refine fput _ ?_ ?_
        · rw [wt_app]
          have := htk r7.toNat
          have := hdr (if r7 - 1 > 0 then r7 - 1 else 0).toNat
          omega
        · intro s hs
          rcases List.mem_append.mp hs with hs | hs
          · exact otk _ s hs
          · exact odr _ s hs
      · rw [decide_eq_false h5] at c3
        have rto := slc_to v3 g5 v5 d2.1
        have rfr := slc_from v3 g5 (binM_eq v5 (b := cM (.int 1)) (y := .int 1) rfl (addD_int (S := S5))) (by omega)
        have e51 : (r5 + 1).toNat = r5.toNat + 1 := by omega
        rw [e51] at rfr
        have lt1 : (rows.take r5.toNat).length ≤ 300000 := by rw [List.length_take]; omega
        have lt2 : (rows.drop (r5.toNat + 1)).length ≤ 300000 := by rw [List.length_drop]; omega
        by_cases h6 : r6 = 5
        · rw [decide_eq_true h6] at c4
          have fr := sl_from v4 v7 p2.1
          have mid : lstM (consM (sliceM (varM 4) noPart (partM (varM 7))) (consM (sliceM (varM 4) (partM (varM 7)) noPart) nilM)) (Es b t (some (.cell i)) (some (rwD row)) (some (.int r5)) (some (.int r6)) (some (.int r7)) (some (.str word)) none) S5 = .ok (.lst ([row.take r7.toNat, row.drop r7.toNat].map rwD)) S5 := lstM_ok (consM_ok to7 (consM_ok fr rfl)) (by simp)
          have x1 := adW (adW rto mid (by simp only [List.length_cons, List.length_nil]; omega)) rfr (by simp only [List.length_append, List.length_cons, List.length_nil]; omega)
          rw [if_no c1 ((if_no (r := skipM) c2 ((if_no (r := skipM) c3 ((if_yes (r := skipM) c4 ((asg_ok (g := gNm 3) (r := skipM) x1 rfl).trans rfl)).trans rfl)).trans rfl)).trans rfl)]
          refine fin _ _ S5 (.inl rfl) (ro_app hro hrow ?_ ?_) l5
          · rw [wr_cons, wr_cons, wr_nil]
            have := htk r7.toNat
            have := hdr r7.toNat
            omega
          · intro r hr
            simp only [List.mem_cons, List.not_mem_nil, or_false] at hr
            rcases hr with rfl | rfl
            · exact otk _
            · exact odr _
        · rw [decide_eq_false h6] at c4
          have c5 := tst_eq (binM_eq (g := gtD) (cal_eq (consM_ok v3 (r := nilM) (xs := []) rfl) (lenC g5)) (b := cM (.int 1)) (y := .int 1) rfl (gtD_int (S := S5)))
          have hone : lstM (consM (varM 4) nilM) (Es b t (some (.cell i)) (some (rwD row)) (some (.int r5)) (some (.int r6)) (some (.int r7)) (some (.str word)) none) S5 = .ok (.lst ([row].map rwD)) S5 := rfl
          by_cases h7 : (1 : Int) < (rows.map rwD).length
          · rw [decide_eq_true h7] at c5
            obtain ⟨r8, S6, u1, u2, u3, u4⟩ := tk (j := j) (e := Es b t (some (.cell i)) (some (rwD row)) (some (.int r5)) (some (.int r6)) (some (.int r7)) (some (.str word)) none) (a1 := varM 0) (a2 := cM (.int 3)) (m := 3) (S := S5) rfl rfl l5.dr (by decide)
            have l6 := l5.draw u3 u4
            have g6 : S6.at_ i = some (.lst (rows.map rwD)) := u4.get g5 hin
            have rep : repF (lstM (consM (varM 4) nilM)) (callM 2 ([]) (tl.mean (j + 1) F__law_take) (consM (varM 0) (consM (cM (.int 3)) nilM))) (Es b t (some (.cell i)) (some (rwD row)) (some (.int r5)) (some (.int r6)) (some (.int r7)) (some (.str word)) none) S5 = .ok (.lst ((List.replicate r8.toNat row).map rwD)) S6 := by
              unfold repF
              rw [hone, v_ok, u1, v_ok]
              dsimp only
              rw [if_pos ⟨u2.1, by omega, by show 1 < 1000; decide⟩, List.map_replicate]
              congr 2
              have : ∀ n : Nat, (List.replicate n ([row].map rwD)).flatten = List.replicate n (rwD row) := fun n => by
                induction n with
                | zero => rfl
                | succ n ih => rw [List.replicate_succ, List.flatten_cons, ih, List.replicate_succ]; rfl
              exact this _
            have rfr6 := slc_from (a := varM 3) (k := binM addD (varM 5) (cM (.int 1))) (e := Es b t (some (.cell i)) (some (rwD row)) (some (.int r5)) (some (.int r6)) (some (.int r7)) (some (.str word)) none) (S := S6) rfl g6 (binM_eq (x := .int r5) (S1 := S6) rfl (b := cM (.int 1)) (y := .int 1) rfl (addD_int (S := S6))) (by omega)
            rw [e51] at rfr6
            have x1 := adW (adW rto rep (by rw [List.length_replicate]; omega)) rfr6 (by rw [List.length_append, List.length_replicate]; omega)
            have x2 := ifM_yes (b := addTop (varM 3) (lstM (consM (varM 4) nilM))) c5 x1
            rw [if_no c1 ((if_no (r := skipM) c2 ((if_no (r := skipM) c3 ((if_no (r := skipM) c4 ((asg_ok (g := gNm 3) (r := skipM) x2 rfl).trans rfl)).trans rfl)).trans rfl)).trans rfl)]
            refine fin _ _ S6 (.inl rfl) (ro_app hro hrow ?_ ?_) l6
            · have hk : ∀ n : Nat, wr (List.replicate n row) = n * (wt row + 1) := fun n => by
                induction n with
                | zero => rw [Nat.zero_mul]; rfl
                | succ n ih => rw [List.replicate_succ, wr_cons, ih, Nat.succ_mul]; omega
              rw [hk]
              have : r8.toNat ≤ 2 := by omega
              have := Nat.mul_le_mul_right (wt row + 1) this
              omega
            · intro r hr
              rw [(List.mem_replicate.mp hr).2]
              exact hro1
          · rw [decide_eq_false h7] at c5
            have x1 : addTop (varM 3) (lstM (consM (varM 4) nilM)) (Es b t (some (.cell i)) (some (rwD row)) (some (.int r5)) (some (.int r6)) (some (.int r7)) (some (.str word)) none) S5 = .ok (.lst ((rows ++ [row]).map rwD)) S5 := by
              unfold addTop
              rw [v3, v_ok, hone, v_ok, top1C g5]
              show (if (rows.map rwD).length + ([row].map rwD).length ≤ 1000000 then Out.ok (D.lst (rows.map rwD ++ [row].map rwD)) S5 else .bad) = _
              rw [if_pos (by simp only [List.length_map, List.length_cons, List.length_nil]; omega), List.map_append]
            have x2 := ifM_no (a := binM addD (binM addD (sliceM (varM 3) noPart (partM (varM 5))) (repF (lstM (consM (varM 4) nilM)) (callM 2 ([]) (tl.mean (j + 1) F__law_take) (consM (varM 0) (consM (cM (.int 3)) nilM))))) (sliceM (varM 3) (partM (binM addD (varM 5) (cM (.int 1)))) noPart)) c5 x1
            rw [if_no c1 ((if_no (r := skipM) c2 ((if_no (r := skipM) c3 ((if_no (r := skipM) c4 ((asg_ok (g := gNm 3) (r := skipM) x2 rfl).trans rfl)).trans rfl)).trans rfl)).trans rfl)]
            refine fin (rows ++ [row]) _ S5 (.inl rfl) ⟨fun r hr => ?_, ?_⟩ l5
            · rcases List.mem_append.mp hr with hr | hr
              · exact hro.ok r hr
              · rw [List.mem_singleton.mp hr]
                exact hro1
            · rw [wr_app, wr_cons, wr_nil]
              omega
end
end Hd
/-! k13: the law holds -/
namespace Hd
open PySem PySem.Spec PyProof.Rows L2 Pyx
def somes : List Str := ["ask 0 x 20", "alone 1 abcdefgh 99999", "come 0", "lose 3", "twice 2", "beat 0", "cut 1", "join 1", "arm 0 3", "fall 0", "rise 0", "fill 0 1 2 3 4 5 6", "fill 2 99", "empty 0", "stop x", "day"]
theorem somes_ok : ∀ s ∈ somes, okT s ∧ s.length ≤ 22 := fun s hs => by
  have h : (somes.all fun s => PySem.PyData.strOk s && decide (s.length ≤ 22)) = true := by kernel_rfl
  have h1 := List.all_eq_true.mp h s hs
  rw [Bool.and_eq_true] at h1
  exact ⟨okT_of h1.1, of_decide_eq_true h1.2⟩
theorem wt_some : ∀ {ys : List Str}, (∀ y ∈ ys, y ∈ somes) → wt ys ≤ 23 * ys.length
  | [], _ => Nat.zero_le _
  | y :: r, h => by
    have h1 := (somes_ok y (h y List.mem_cons_self)).2
    have h2 := wt_some (ys := r) fun z hz => h z (List.mem_cons_of_mem _ hz)
    rw [wt_cons, List.length_cons]
    omega
def Bd : Nat → Nat
  | 0 => 200
  | k + 1 => 4 * Bd k + 20
theorem Bd_le : ∀ k, k ≤ 4 → Bd k ≤ 60000 := by decide
section
variable {b c : Id} {S : Sto}
abbrev El (n : List Int) (b : Id) (y3 y4 y5 y6 y7 y8 : Option D) : Env' := [some (.scr n), some (.cell b), some (.lst (somes.map D.str)), y3, y4, y5, y6, y7, y8]
theorem c_turn {n : List Int} {y3 y4 y5 y6 y7 y8 : Option D} (l : Lw b c S) : ∃ S' z4 z6 z7 z8, bd_law_body5 (tl.mean 39) (El n b y3 y4 y5 y6 y7 y8) S = .nx (El n b y3 z4 y5 z6 z7 z8) S' ∧ Lw b c S' := by
  -- the rows
  obtain ⟨r1, S1, a1, a2, a3, a4⟩ := tk (j := 38) (e := El n b y3 y4 y5 y6 y7 y8) (a1 := varM 1) (a2 := cM (.int 8)) (m := 8) (S := S) rfl rfl l.dr (by decide)
  have l1 := l.draw a3 a4
  have h1 : rng1I (consM (binM addD (cM (.int 1)) (callM 2 ([]) (tl.mean 39 F__law_take) (consM (varM 1) (consM (cM (.int 8)) nilM)))) nilM) (El n b y3 y4 y5 y6 y7 y8) S = .ok (.rng 0 1 (1 + r1).toNat) S1 := rng1_b (consM_ok (binM_eq (x := .int 1) (S1 := S) rfl a1 (addD_int (S := S1))) (r := nilM) (xs := []) rfl) ⟨by omega, by omega⟩
  obtain ⟨acc, S2, h2, l2, ys, hacc, hyl, hys⟩ := lc_rngM (h := none) (vs := [5]) (g := gNm 5) (tt := yesM) (te := subM (varM 2) (callM 2 ([]) (tl.mean 39 F__law_take) (consM (varM 1) (consM (cM (.int 16)) nilM)))) h1
    (fun k T acc => Lw b c T ∧ ∃ ys : List Str, acc = ys.map D.str ∧ ys.length = k ∧ ∀ y ∈ ys, y ∈ somes) ⟨l1, [], rfl, rfl, fun y hy => by cases hy⟩
    (fun k T acc hk ⟨lT, ys, hacc, hyl, hys⟩ => by
      refine ⟨El n b y3 y4 (some (.int (0 + (k : Nat) * 1))) y6 y7 y8, true, T, rfl, rfl, ?_⟩
      rw [if_pos rfl]
      obtain ⟨v, T', q1, q2, q3, q4⟩ := sel (j := 38) (e := El n b y3 y4 (some (.int (0 + (k : Nat) * 1))) y6 y7 y8) (a1 := varM 1) (la := varM 2) (ds := somes.map D.str) (S0 := T) (S := T) rfl rfl lT.dr (by decide) (a2 := cM (.int 16)) rfl
      obtain ⟨s, hs, rfl⟩ := List.mem_map.mp q2
      refine ⟨.str s, T', q1, by rw [hacc, List.length_map]; omega, lT.draw q3 q4, ys ++ [s], by rw [hacc, List.map_append]; rfl, by rw [List.length_append, hyl]; rfl, fun y hy => ?_⟩
      rcases List.mem_append.mp hy with hy | hy
      · exact hys y hy
      · rw [List.mem_singleton.mp hy]
        exact hs)
  subst hacc
  have h2 := h2.trans (rfl : endL none (ys.map D.str) S2 = .ok (.lst (ys.map D.str)) S2)
  have hw := wt_some hys
  have hn : ys.length ≤ 8 := by omega
  have hyo : ∀ p ∈ ys, okT p := fun p hp => (somes_ok p (hys p hp)).1
  -- the text
  have j1 : bmM 0 joiG (cM (.str "\n")) (consM (varM 4) nilM) (El n b y3 (some (.lst (ys.map D.str))) y5 y6 y7 y8) S2 = .ok (.str (Txt.join (sg 10) ys)) S2 := by
    rw [nl_eq]
    exact bm_eq (x := .str (sg 10)) (S1 := S2) rfl rfl (consM_ok (x := .lst (ys.map D.str)) (S1 := S2) rfl (r := nilM) (xs := []) rfl) (joi_ok (by decide) hyo (by omega))
  have j2 : lstM (consM (bmM 0 joiG (cM (.str "\n")) (consM (varM 4) nilM)) (consM (cM (.str "")) (consM (cM (.str " ")) (consM (cM (.str "\n")) nilM)))) (El n b y3 (some (.lst (ys.map D.str))) y5 y6 y7 y8) S2 = .ok (.lst ([Txt.join (sg 10) ys, "", " ", "\n"].map D.str)) S2 := lstM_ok (consM_ok j1 rfl) (by simp)
  obtain ⟨r2, S3, b1, b2, b3, b4⟩ := tk (j := 38) (e := El n b y3 (some (.lst (ys.map D.str))) y5 y6 y7 y8) (a1 := varM 1) (a2 := cM (.int 8)) (m := 8) (S := S2) rfl rfl l2.dr (by decide)
  have l3 := l2.draw b3 b4
  obtain ⟨r3, S4, c1, c2, c3, c4⟩ := tk (j := 38) (e := El n b y3 (some (.lst (ys.map D.str))) y5 y6 y7 y8) (a1 := varM 1) (a2 := cM (.int 4)) (m := 4) (S := S3) rfl rfl l3.dr (by decide)
  have l4 := l3.draw c3 c4
  have j3 := binM_eq (g := mulD) (binM_eq (g := fdivD) b1 (b := cM (.int 5)) (y := .int 5) rfl (fdivD_int (S := S3) (by decide))) c1 (mulD_int (S := S4) (i := r2 / 5) (j := r3) (mulOk_r (by omega)))
  have hq : 0 ≤ r2 / 5 * r3 ∧ r2 / 5 * r3 < 4 := by
    have q0 : r2 / 5 = 0 ∨ r2 / 5 = 1 := by omega
    rcases q0 with q0 | q0 <;> rw [q0] <;> omega
  obtain ⟨v, v1, v2⟩ := atI_lt (ds := [Txt.join (sg 10) ys, "", " ", "\n"].map D.str) (r := r2 / 5 * r3) hq.1 (by simpa using hq.2)
  have j4 := subM_lst j2 j3 v1
  obtain ⟨t0, ht0, rfl⟩ := List.mem_map.mp (List.mem_of_getElem? v2)
  have hsm : okT "" ∧ ("" : Str).length ≤ 200 ∧ okT " " ∧ (" " : Str).length ≤ 200 ∧ okT "\n" ∧ ("\n" : Str).length ≤ 200 := ⟨okT_of (by kernel_rfl), by decide +kernel, okT_of (by kernel_rfl), by decide +kernel, okT_of (by kernel_rfl), by decide +kernel⟩
  have ht : okT t0 ∧ t0.length ≤ 200 := by
    simp only [List.mem_cons, List.not_mem_nil, or_false] at ht0
    rcases ht0 with rfl | rfl | rfl | rfl
    · refine ⟨join_ok (by decide) hyo, ?_⟩
      have := join_wt (c := 10) (ys := ys)
      omega
    · exact ⟨hsm.1, hsm.2.1⟩
    · exact ⟨hsm.2.2.1, hsm.2.2.2.1⟩
    · exact ⟨hsm.2.2.2.2.1, hsm.2.2.2.2.2⟩
  -- spoilt
  obtain ⟨r4, S5, d1, d2, d3, d4⟩ := tk (j := 38) (e := El n b y3 (some (.lst (ys.map D.str))) y5 (some (.str t0)) y7 y8) (a1 := varM 1) (a2 := cM (.int 5)) (m := 5) (S := S4) rfl rfl l4.dr (by decide)
  have l5 := l4.draw d3 d4
  obtain ⟨e6, S6, k1, t6, z7, he6, ht6, hl6, l6⟩ := loop_rng (lo := 0) (c := 1) (n := r4.toNat) (g := gNm 7) (body := bd_law_body3 (tl.mean 39)) (e := El n b y3 (some (.lst (ys.map D.str))) y5 (some (.str t0)) y7 y8) (S := S5)
    (fun k e T => ∃ (t : Str) (z7 : Option D), e = El n b y3 (some (.lst (ys.map D.str))) y5 (some (.str t)) z7 y8 ∧ okT t ∧ t.length ≤ Bd k ∧ Lw b c T) ⟨t0, y7, rfl, ht.1, ht.2, l5⟩
    (fun k e T hk ⟨t, z7, he, ho, hl, lT⟩ => by
      subst he
      have hb := Bd_le k (by omega)
      obtain ⟨t', T', q1, q2, q3, q4⟩ := c_spoilt (j := 37) ho (by omega) lT
      refine ⟨El n b y3 (some (.lst (ys.map D.str))) y5 (some (.str t)) (some (.int (0 + (k : Nat) * 1))) y8, El n b y3 (some (.lst (ys.map D.str))) y5 (some (.str t')) (some (.int (0 + (k : Nat) * 1))) y8, T', rfl, .inl ?_, t', _, rfl, q2, ?_, q4⟩
      · unfold bd_law_body3
        rw [asg_ok (call_eq (np := 2) (dd := []) (consM_ok (x := .cell b) (S1 := T) rfl (consM_ok (x := .str t) (S1 := T) rfl rfl)) rfl q1) rfl]
        rfl
      · show t'.length ≤ 4 * Bd k + 20
        omega)
  subst he6
  have hT : TOk t6 := ⟨ht6, by have := Bd_le r4.toNat (by omega); omega⟩
  -- told
  obtain ⟨e7, S7, k2, z8, he7, l7⟩ := loop_rng (lo := 0) (c := 1) (n := 2) (g := gNm 8) (body := bd_law_body1 (tl.mean 39)) (e := El n b y3 (some (.lst (ys.map D.str))) y5 (some (.str t6)) z7 y8) (S := S6)
    (fun k e T => ∃ z8 : Option D, e = El n b y3 (some (.lst (ys.map D.str))) y5 (some (.str t6)) z7 z8 ∧ Lw b c T) ⟨y8, rfl, l6⟩
    (fun k e T hk ⟨z8, he, lT⟩ => by
      subst he
      obtain ⟨T', q1, q2⟩ := c_told (e := El n b y3 (some (.lst (ys.map D.str))) y5 (some (.str t6)) z7 (some (.int (0 + (k : Nat) * 1)))) hT lT (fun T => rfl)
      exact ⟨_, _, T', rfl, .inl q1, _, rfl, q2⟩)
  subst he7
  refine ⟨S7, some (.lst (ys.map D.str)), some (.str t6), z7, z8, ?_, l7⟩
  unfold bd_law_body5
  rw [asg_ok h2 (show gNm 4 _ _ = some (El n b y3 (some (.lst (ys.map D.str))) y5 y6 y7 y8) from rfl)]
  rw [asg_ok j4 (show gNm 6 _ _ = some (El n b y3 (some (.lst (ys.map D.str))) y5 (some (.str t0)) y7 y8) from rfl)]
  unfold bd_law_for4 bd_law_for2
  have rr : rng1I (consM (callM 2 ([]) (tl.mean 39 F__law_take) (consM (varM 1) (consM (cM (.int 5)) nilM))) nilM) (El n b y3 (some (.lst (ys.map D.str))) y5 (some (.str t0)) y7 y8) S4 = .ok (.rng 0 1 r4.toNat) S5 := rng1_b (consM_ok d1 (r := nilM) (xs := []) rfl) ⟨by omega, by omega⟩
  rw [for_ok rr k1]
  have r2' : rng1I (consM (cM (.int 2)) nilM) (El n b y3 (some (.lst (ys.map D.str))) y5 (some (.str t6)) z7 y8) S6 = .ok (.rng 0 1 2) S6 := rfl
  rw [for_ok r2' k2]
  rfl
end
theorem law_holds {S : Sto} {ns : List Int} (hS : S.Ok) (tb : S.at_ (tid 0) = some (.tbl 0)) (hl : ns.length < 1000000) : ∃ S', tl.mean 40 F_law [.scr ns] S = .ok (.bl true) S' := by
  obtain ⟨b, c, S1, b1, l1⟩ := Lw.begun hS tb hl
  obtain ⟨e2, S2, q2, y3, y4, y6, y7, y8, he2, l2⟩ := loop_rng (lo := 0) (c := 1) (n := 4) (g := gNm 3) (body := bd_law_body5 (tl.mean 39)) (e := El ns b none none none none none none) (S := S1)
    (fun k e T => ∃ y3 y4 y6 y7 y8 : Option D, e = El ns b y3 y4 none y6 y7 y8 ∧ Lw b c T) ⟨none, none, none, none, none, rfl, l1⟩
    (fun k e T hk ⟨y3, y4, y6, y7, y8, he, lT⟩ => by
      subst he
      obtain ⟨T', z4, z6, z7, z8, h1, h2⟩ := c_turn (n := ns) (y3 := some (.int (0 + (k : Nat) * 1))) (y4 := y4) (y5 := none) (y6 := y6) (y7 := y7) (y8 := y8) lT
      exact ⟨_, _, T', rfl, .inl h1, _, _, _, _, _, rfl, h2⟩)
  subst he2
  refine ⟨S2, ?_⟩
  rw [mn_law, v_def]
  show outX (bd_law (tl.mean 39) [some (.scr ns), none, none, none, none, none, none, none, none] S) = _
  unfold bd_law bd_law_for6
  have k1 : callM 1 ([]) (tl.mean 39 F__law_begun) (consM (varM 0) nilM) [some (.scr ns), none, none, none, none, none, none, none, none] S = .ok (.cell b) S1 := call_eq (consM_ok (x := .scr ns) rfl rfl) rfl b1
  rw [asg_ok k1 rfl]
  rw [asg_ok (d := .lst ((somes.take 8).map D.str)) (S1 := S1) rfl rfl]
  rw [asg_ok (d := .lst (somes.map D.str)) (S1 := S1) (g := gNm 2) (e' := El ns b none none none none none none) (binM_eq (x := .lst ((somes.take 8).map D.str)) (y := .lst ((somes.drop 8).map D.str)) (S1 := S1) (S2 := S1) rfl rfl ((adL (by decide)).trans rfl)) rfl]
  have r4 : rng1I (consM (cM (.int 4)) nilM) (El ns b none none none none none none) S1 = .ok (.rng 0 1 4) S1 := rfl
  rw [for_ok r4 q2, ret_ok (d := .bl true) (S1 := S2) rfl]
  rfl
end Hd
namespace Hd
open PySem PySem.Spec PyProof.Rows L2 Pyx LamX
/-- the store at the start: the table of the law, which makes lambdas -/
def stoU : Sto := { stoT 1 with nx := 1 }
theorem stoU_tb : stoU.at_ (tid 0) = some (.tbl 0) := stoT_tid (m := 1) (n := 0) (by decide)
theorem stoU_ok : stoU.Ok := fun c k hk => by
  have hk : 1 ≤ k := hk
  show (stoT 1).at_ (.obj c k) = none
  cases h : (stoT 1).at_ (.obj c k) with
  | none => rfl
  | some x =>
    obtain ⟨n, hn, e, _⟩ := stoT_some h
    cases e
    omega
theorem law_spU {C : Pyx.Ctx} {mu : List D → Sto → Out D} {H : Hp} {a : Addr} {ns : List Int} {S : Sto} (hH : ∀ n, n < 1 → H (C.tad n) = some (.tbl #[])) (hi : ∀ n k, n < 1 → k < 1 → C.tad n = C.tad k → n = k) (hS : SqL C.K H a (ns.map V.int)) (hm : mu [.scr ns] stoU = .ok (.bl true) S) :
    spM C 1 mu [.ref a] H (fun v _ => v = .bl true) fun _ _ _ => False := by
  have r := relT hH hi
  refine ⟨rfl, stoU, layT C 1, [.scr ns], ⟨r.cells, r.dom, r.inj, r.nos⟩, ⟨.ref a, [], rfl, ⟨a, rfl, ?_⟩, rfl⟩, ?_⟩
  · rcases hS with h | h
    · refine .inl ⟨h, fun i z => ?_, fun z => False.elim z⟩
      obtain ⟨n, hn, _, e⟩ := layT_some z
      have hT := hH n hn
      rw [← e] at hT
      rcases h with h | ⟨o, h⟩ <;> rw [hT] at h <;> cases h
    · exact .inr h
  · rw [hm]
    exact fun H' l' x r v hv => hv
theorem tad0 {K : PySem.W.Frag} : (tl.ctx K).tad 0 = (He.cT K ("law", none)).2 := rfl
theorem facts {w : World} {K : PySem.W.Frag} {h : Heap} {mg : PySem.Str → Option Value} {f : Addr} (X : K.In h) (G : h.Ns mainGlobals mg) (hfa : mg ("law" : PySem.Str) = some (.ref f)) (c : SaysP fa fn tps w h K) :
    LawAtS PySem.Challenge.rw_noteboxes_k13_texts_refused w K (CXe PySem.Challenge.rw_noteboxes_k13_texts_refused.prog) 160 63 "_law_script" mg f h := by
  obtain ⟨fd, F⟩ := c.d.def_ 13 rfl
  have eg : mg ("law" : PySem.Str) = some (.ref (He.ga K "law")) := He.glo_ok X G (c.d.facts (f := .glo "law") (List.mem_of_getElem? (i := 26) rfl))
  have e := hfa.symm.trans eg
  cases e
  refine ⟨fd, tDf.map (He.cT K), spM (tl.ctx K) 1 (tl.mean 40 F_law), fun p hp => ?_, fun p hp => ?_, fun p hp => ?_, fun s v => FunD.bindsA (ps := ["_law_script"]) F (fun _ _ _ _ _ _ us hl => match us, hl with | [_], _ => rfl) s [v] rfl, fun H a ns hl _ hH hS => ?_, fun base KB GB TB => ?_⟩
  · obtain ⟨q, hq, rfl⟩ := List.mem_map.mp hp
    exact c.empty q hq
  · obtain ⟨q, hq, rfl⟩ := List.mem_map.mp hp
    exact c.out q hq
  · obtain ⟨q, hq, rfl⟩ := List.mem_map.mp hp
    exact PySem.W.codeHd_of_K X (c.hd q hq)
  · obtain ⟨S, hS'⟩ := law_holds stoU_ok stoU_tb (ns := ns) (by omega)
    have h0 := hH (He.cT K ("law", none)) (List.mem_map.mpr ⟨_, List.mem_cons_self, rfl⟩)
    refine law_spU (fun n hn => ?_) (fun n k hn hk e => by omega) hS hS'
    match n, hn with
    | 0, _ => exact h0
    | n + 1, hn => omega
  · have tb : TbsOk K mg base tl := fun i hi d hd => by
      have hi : i ∈ ([13] : List Nat) := hi
      simp only [List.mem_cons, List.not_mem_nil, or_false] at hi
      subst hi
      cases hd
      exact TB (He.cT K ("law", none)) (List.mem_map.mpr ⟨_, List.mem_cons_self, rfl⟩)
    exact fn_cxe (keeps_all (t := tl) tlGood KB GB c.d binding kwBinding c.tp (tolds KB GB c.d c.ex) (oexs KB GB c.d c.ex) (kds KB GB c.d c.ex c.kd) tb 40 13 _ (["_law_script", "_law_box", "_law_some", "_law_turn", "_law_rows", "_law_k", "_law_text", "_law_change", "_law_again"], ["_law_script"]) fd rfl rfl F)
end Hd
open PySem PySem.W PySem.Calls PyProof.Rows
theorem PySem.Challenge.cw_noteboxes_k13_texts_refused_holds : PySem.Challenge.rw_noteboxes_k13_texts_refused.Holds := by
  w_on; o_law
  refine HandSHeadRun.head_any (r := OpenLaw.row PySem.Challenge.rw_noteboxes_k13_texts_refused) (q := view (OpenLaw.row PySem.Challenge.rw_noteboxes_k13_texts_refused).prog [41]) (H := Hd.hk) (ob := Hd.ob) (M := 20000) (loose := Hd.loose) (d := HandSHeadRun.topDef (OpenLaw.row PySem.Challenge.rw_noteboxes_k13_texts_refused).prog 41) (kwd := []) Hd.ob_eq
    (by kernel_rfl) (fun s => by kernel_rfl) Hd.run (by kernel_rfl) (by kernel_rfl) (by kernel_rfl) (by rfl) (by first | assumption | decide +kernel) (by decide +kernel) ⟨rfl, rfl, rfl, rfl, rfl, by decide +kernel⟩ ?hw ?hc
  case hw => w_witness2
  case hc =>
    refine LamX.walk_ofTsE (l := PySem.Challenge.rw_noteboxes_k13_texts_refused) (n := 63) (k := 160) (x := "_law_script") (CX := fun _ => Pyx.CXe PySem.Challenge.rw_noteboxes_k13_texts_refused.prog) rfl (by decide) (by kernel_rfl) ⟨rfl, by decide, by decide⟩ ?F (fun _ => Pyx.cxe_no)
    intro w mg fa h Y G hmg0
    obtain ⟨K, KX, c⟩ := Y
    have hmg : mg ("law" : PySem.Str) = some (.ref fa) := by
      have e : (HandSHeadRun.topDef (OpenLaw.row PySem.Challenge.rw_noteboxes_k13_texts_refused).prog 41).name = ("law" : PySem.Str) := by kernel_rfl
      rw [← e]
      exact hmg0
    exact ⟨K, KX, Hd.facts KX G hmg c⟩

