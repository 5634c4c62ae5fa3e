import PyProof.Rows.All
import Wide.All
import OpenK.AllK
import Wide.FinOn
import HandS.ForMost
import HandS.ForExc
import HandS.Defaults
import HandS.HeadHook1
import HandS.HeadHook2
import HandS.TupAny
import HandS.TupMul
import HandS.TupLen
import HandS.Style
import HandS.Wide
import HandS.IsInst
import HandS.Zip
import HandS.DictComp
import HandS.DictTup
import HandS.Text
import HandS.More
import KE.KTupSum
import HandS.CallSlots
import HandS.HeadWalk
import HandS.MakeKw
import HandS.MakeKwOnly
import KE.GoesMore
import KE.GoesEnum
import KE.SortData
import KE.KRevSl
import HandS.Head0
import HandS.Head1
import HandS.Head2
import HandS.HeadEnd
import HandS.HeadHook4
import KE.KStateDown
import Lean
import HandS.HeadHook3
import PySem.Challenge.RW_noteboxes_k05_fewest_and_ways
set_option Elab.async false
set_option linter.all false
set_option maxRecDepth 100000
set_option maxHeartbeats 0
/-! values, stores, and how they stand in the abstract heap -/
namespace Pyx
open PySem PySem.Spec PyProof.Rows L2
inductive Id where
  | obj (c k : Nat)
  | sub (p : Id) (f : Nat)
  deriving DecidableEq
inductive D where
  | non | bl (b : Bool) | int (i : Int) | str (s : Str)
  | tup (ds : List D) | lst (ds : List D) | cell (i : Id) | scr (ns : List Int) | ktup (ds : List D)
inductive Cell where
  | lst (ds : List D) | dK (kvs : List (Key × D)) | dT (kvs : List (List Key × D)) | ins (c : Nat) (fs : List (Nat × D)) | lkK (kvs : List (Key × D)) | lkT (kvs : List (List Key × D))
structure Sto where
  nx : Nat
  at_ : Id → Option Cell
def Sto.set (S : Sto) (i : Id) (c : Cell) : Sto := { S with at_ := fun j => if j = i then some c else S.at_ j }
def Sto.bump (S : Sto) : Sto := { S with nx := S.nx + 1 }
theorem Sto.set_same {S : Sto} {i : Id} {c : Cell} : (S.set i c).at_ i = some c := by simp [Sto.set]
theorem Sto.set_ne {S : Sto} {i j : Id} {c : Cell} (h : j ≠ i) : (S.set i c).at_ j = S.at_ j := by simp [Sto.set, h]
structure Exn where
  c : Nat
  fs : Option (List (Nat × D))
inductive Out (A : Type) where
  | ok (a : A) (S : Sto) | exc (x : Exn) (S : Sto) | bad
def Out.bind {A B : Type} (o : Out A) (f : A → Sto → Out B) : Out B := match o with
  | .ok a S => f a S
  | .exc x S => .exc x S
  | .bad => .bad
abbrev Env' : Type := List (Option D)
abbrev EM := Env' → Sto → Out D
abbrev AM := Env' → Sto → Out (List D)
abbrev TM := Env' → Sto → Out Bool
/-- what is fixed: the written part, the classes' addresses, the names of attributes -/
structure Ctx where
  K : PySem.W.Frag
  cad : Nat → Addr
  xad : Nat → Addr
  anm : Nat → Str
/-- where the cells stand; the lists that are under way in a comprehension, which nobody holds -/
structure Lay where
  f : Id → Option Addr
  no : Addr → Prop
  lk : Addr → Option (Obj × HO)
instance : CoeFun Lay (fun _ => Id → Option Addr) := ⟨Lay.f⟩
def KTup (K : PySem.W.Frag) (a : Addr) (xs : List V) : Prop := ∃ (o : Obj) (its : Array Value) (n : Nat), K.lookup a = some o ∧ o.cls = .type "tuple" ∧ o.data = .seq its n ∧ its.size ≤ sizeLine ∧ Vals xs its.toList
def KLst (K : PySem.W.Frag) (a : Addr) (xs : List V) : Prop := ∃ (o : Obj) (its : Array Value) (n : Nat), K.lookup a = some o ∧ o.cls = .type "list" ∧ o.dict = none ∧ o.data = .seq its n ∧ its.size ≤ sizeLine ∧ Vals xs its.toList
def TupAt (K : PySem.W.Frag) (H : Hp) (a : Addr) (xs : List V) : Prop := H a = some (.tup xs)
def LstAt (K : PySem.W.Frag) (l : Lay) (H : Hp) (a : Addr) (xs : List V) : Prop := H a = some (.lst xs) ∧ (∀ i, l i ≠ some a) ∧ ¬ l.no a
theorem TupAt.sq {K : PySem.W.Frag} {H : Hp} {a : Addr} {xs : List V} (h : TupAt K H a xs) : SqT K H a xs := .inl (.inl h)
theorem LstAt.sq {K : PySem.W.Frag} {l : Lay} {H : Hp} {a : Addr} {xs : List V} (h : LstAt K l H a xs) : SqL K H a xs := by
  exact .inl (.inl h.1)
def ScrAt (K : PySem.W.Frag) (l : Lay) (H : Hp) (a : Addr) (xs : List V) : Prop := (Rd H a (.lst xs) ∧ (∀ i, l i ≠ some a) ∧ ¬ l.no a) ∨ KLst K a xs
theorem ScrAt.sq {K : PySem.W.Frag} {l : Lay} {H : Hp} {a : Addr} {xs : List V} (h : ScrAt K l H a xs) : SqL K H a xs := by
  rcases h with h | h
  · exact .inl h.1
  · exact .inr h
mutual
def RD (K : PySem.W.Frag) (l : Lay) (H : Hp) : D → V → Prop
  | .non, v => v = .non
  | .bl b, v => v = .bl b
  | .int i, v => v = .int i
  | .str s, v => v = .str s ∧ PySem.PyData.strOk s = true
  | .tup ds, v => ∃ a vs, v = .ref a ∧ TupAt K H a vs ∧ RDs K l H ds vs
  | .lst ds, v => ∃ a vs, v = .ref a ∧ LstAt K l H a vs ∧ RDs K l H ds vs
  | .cell i, v => ∃ a, v = .ref a ∧ l i = some a
  | .scr ns, v => ∃ a, v = .ref a ∧ ScrAt K l H a (ns.map V.int)
  | .ktup ds, v => ∃ a vs, v = .ref a ∧ KTup K a vs ∧ RDs K l H ds vs
def RDs (K : PySem.W.Frag) (l : Lay) (H : Hp) : List D → List V → Prop
  | [], vs => vs = []
  | d :: ds, vs => ∃ v r, vs = v :: r ∧ RD K l H d v ∧ RDs K l H ds r
end
/-- what is kept, so that values stay what they are -/
structure ExtW (l : Lay) (H : Hp) (l' : Lay) (H' : Hp) : Prop where
  id : ∀ i a, l i = some a → l' i = some a
  keep : ∀ a o, H a = some o → (∀ i, l i ≠ some a) → H' a = some o
  tup : ∀ a vs, H a = some (.tup vs) → H' a = some (.tup vs)
  new : ∀ i a, l i = none → l' i = some a → H a = none
  no : ∀ a, l'.no a → l.no a ∨ H a = none
structure Ext (l : Lay) (H : Hp) (l' : Lay) (H' : Hp) : Prop extends ExtW l H l' H' where
  no1 : ∀ a, l.no a → l'.no a
  lk : l'.lk = l.lk
theorem ExtW.refl (l : Lay) (H : Hp) : ExtW l H l H where
  id := fun _ _ h => h
  keep := fun _ _ h _ => h
  tup := fun _ _ h => h
  new := fun i a h h' => by
    rw [h] at h'
    cases h'
  no := fun a h => .inl h
theorem Ext.refl (l : Lay) (H : Hp) : Ext l H l H := { ExtW.refl l H with no1 := fun a h => h, lk := rfl }
theorem ExtW.out {l l' : Lay} {H H' : Hp} (e : ExtW l H l' H') {a : Addr} {o : HO} (h : H a = some o) (n : ∀ i, l i ≠ some a) : ∀ i, l' i ≠ some a := fun i hi => by
  cases q : l i with
  | none =>
    have := e.new i a q hi
    rw [h] at this
    cases this
  | some b =>
    have := e.id i b q
    rw [hi] at this
    cases this
    exact n i q
theorem ExtW.free {l l' : Lay} {H H' : Hp} (e : ExtW l H l' H') {a : Addr} {o : HO} (h : H a = some o) (n : ¬ l.no a) : ¬ l'.no a := fun q => by
  rcases e.no a q with q | q
  · exact n q
  · rw [h] at q
    cases q
theorem ExtW.none {l l' : Lay} {H H' : Hp} (e : ExtW l H l' H') (hr : ∀ i b, l i = some b → ∃ o, H' b = some o) {a : Addr} (h : H' a = none) : H a = none := by
  cases q : H a with
  | none => rfl
  | some o =>
    by_cases hn : ∀ i, l i ≠ some a
    · rw [e.keep a o q hn] at h
      cases h
    · exfalso
      refine hn fun i hi => ?_
      obtain ⟨o', ho⟩ := hr i a hi
      rw [h] at ho
      cases ho
theorem ExtW.trans {l l1 l2 : Lay} {H H1 H2 : Hp} (e : ExtW l H l1 H1) (f : ExtW l1 H1 l2 H2) (hr : ∀ i b, l i = some b → ∃ o, H1 b = some o) : ExtW l H l2 H2 where
  id := fun i a h => f.id i a (e.id i a h)
  keep := fun a o h n => f.keep a o (e.keep a o h n) (e.out h n)
  tup := fun a vs h => f.tup a vs (e.tup a vs h)
  new := fun i a h h' => by
    cases q : l1 i with
    | some b =>
      have := f.id i b q
      rw [h'] at this
      cases this
      exact e.new i a h q
    | none => exact e.none hr (f.new i a q h')
  no := fun a h => by
    rcases f.no a h with h | h
    · exact e.no a h
    · exact .inr (e.none hr h)
theorem Ext.trans {l l1 l2 : Lay} {H H1 H2 : Hp} (e : Ext l H l1 H1) (f : Ext l1 H1 l2 H2) (hr : ∀ i b, l i = some b → ∃ o, H1 b = some o) : Ext l H l2 H2 :=
  { e.toExtW.trans f.toExtW hr with no1 := fun a h => f.no1 a (e.no1 a h), lk := f.lk.trans e.lk }
/-- what values lean on -/
structure Tr (l : Lay) (H : Hp) (l' : Lay) (H' : Hp) : Prop where
  id : ∀ i a, l i = some a → l' i = some a
  tup : ∀ a vs, H a = some (.tup vs) → H' a = some (.tup vs)
  lst : ∀ a o, H a = some o → (∀ i, l i ≠ some a) → ¬ l.no a → H' a = some o ∧ (∀ i, l' i ≠ some a) ∧ ¬ l'.no a
theorem ExtW.tr {l l' : Lay} {H H' : Hp} (e : ExtW l H l' H') : Tr l H l' H' := ⟨e.id, e.tup, fun a o h n f => ⟨e.keep a o h n, e.out h n, e.free h f⟩⟩
mutual
theorem RD.tr {K : PySem.W.Frag} {l l' : Lay} {H H' : Hp} (e : Tr l H l' H') : ∀ (d : D) (v : V), RD K l H d v → RD K l' H' d v
  | .non, _, h => h
  | .bl _, _, h => h
  | .int _, _, h => h
  | .str _, _, h => h
  | .tup ds, v, h => by
    obtain ⟨a, vs, rfl, ht, hs⟩ := h
    exact ⟨a, vs, rfl, e.tup _ _ ht, RDs.tr e ds vs hs⟩
  | .ktup ds, v, h => by
    obtain ⟨a, vs, rfl, ht, hs⟩ := h
    exact ⟨a, vs, rfl, ht, RDs.tr e ds vs hs⟩
  | .lst ds, v, h => by
    obtain ⟨a, vs, rfl, ht, hs⟩ := h
    exact ⟨a, vs, rfl, e.lst _ _ ht.1 ht.2.1 ht.2.2, RDs.tr e ds vs hs⟩
  | .cell i, v, h => by
    obtain ⟨a, rfl, hi⟩ := h
    exact ⟨a, rfl, e.id i a hi⟩
  | .scr ns, v, h => by
    obtain ⟨a, rfl, hs⟩ := h
    refine ⟨a, rfl, ?_⟩
    rcases hs with ⟨hs | ⟨o, hs⟩, n⟩ | hs
    · have q := e.lst _ _ hs n.1 n.2
      exact .inl ⟨.inl q.1, q.2⟩
    · have q := e.lst _ _ hs n.1 n.2
      exact .inl ⟨.inr ⟨o, q.1⟩, q.2⟩
    · exact .inr hs
theorem RDs.tr {K : PySem.W.Frag} {l l' : Lay} {H H' : Hp} (e : Tr l H l' H') : ∀ (ds : List D) (vs : List V), RDs K l H ds vs → RDs K l' H' ds vs
  | [], _, h => h
  | d :: ds, vs, h => by
    obtain ⟨v, r, rfl, h1, h2⟩ := h
    exact ⟨v, r, rfl, RD.tr e d v h1, RDs.tr e ds r h2⟩
end
theorem RD.monoW {K : PySem.W.Frag} {l l' : Lay} {H H' : Hp} (e : ExtW l H l' H') (d : D) (v : V) (h : RD K l H d v) : RD K l' H' d v := RD.tr e.tr d v h
theorem RDs.monoW {K : PySem.W.Frag} {l l' : Lay} {H H' : Hp} (e : ExtW l H l' H') (d : List D) (v : List V) (h : RDs K l H d v) : RDs K l' H' d v := RDs.tr e.tr d v h
theorem RD.mono {K : PySem.W.Frag} {l l' : Lay} {H H' : Hp} (e : Ext l H l' H') (d : D) (v : V) (h : RD K l H d v) : RD K l' H' d v := RD.monoW e.toExtW d v h
theorem RDs.mono {K : PySem.W.Frag} {l l' : Lay} {H H' : Hp} (e : Ext l H l' H') (d : List D) (v : List V) (h : RDs K l H d v) : RDs K l' H' d v := RDs.monoW e.toExtW d v h
section
variable {K : PySem.W.Frag} {l : Lay} {H : Hp}
theorem RDs.length : ∀ {ds : List D} {vs : List V}, RDs K l H ds vs → vs.length = ds.length
  | [], _, h => by
    cases h
    rfl
  | d :: ds, vs, h => by
    obtain ⟨v, r, rfl, _, h2⟩ := h
    simp [RDs.length h2]
theorem RDs.get : ∀ {ds : List D} {vs : List V} {i : Nat} {d : D}, RDs K l H ds vs → ds[i]? = some d → ∃ v, vs[i]? = some v ∧ RD K l H d v
  | [], _, _, _, _, e => by simp at e
  | d :: ds, vs, 0, x, h, e => by
    obtain ⟨v, r, rfl, h1, h2⟩ := h
    simp at e
    subst e
    exact ⟨v, rfl, h1⟩
  | d :: ds, vs, i + 1, x, h, e => by
    obtain ⟨v, r, rfl, h1, h2⟩ := h
    obtain ⟨u, hu, hr⟩ := RDs.get (i := i) h2 (by simpa using e)
    exact ⟨u, by simpa using hu, hr⟩
theorem RDs.append : ∀ {ds es : List D} {vs ws : List V}, RDs K l H ds vs → RDs K l H es ws → RDs K l H (ds ++ es) (vs ++ ws)
  | [], _, _, _, h, h' => by
    cases h
    exact h'
  | d :: ds, es, vs, ws, h, h' => by
    obtain ⟨v, r, rfl, h1, h2⟩ := h
    exact ⟨v, r ++ ws, rfl, h1, RDs.append h2 h'⟩
theorem RDs.take : ∀ {ds : List D} {vs : List V} (n : Nat), RDs K l H ds vs → RDs K l H (ds.take n) (vs.take n)
  | _, _, 0, _ => rfl
  | [], _, n + 1, h => by
    cases h
    rfl
  | d :: ds, vs, n + 1, h => by
    obtain ⟨v, r, rfl, h1, h2⟩ := h
    exact ⟨v, r.take n, rfl, h1, RDs.take n h2⟩
theorem RDs.drop : ∀ {ds : List D} {vs : List V} (n : Nat), RDs K l H ds vs → RDs K l H (ds.drop n) (vs.drop n)
  | _, _, 0, h => h
  | [], _, n + 1, h => by
    cases h
    rfl
  | d :: ds, vs, n + 1, h => by
    obtain ⟨v, r, rfl, h1, h2⟩ := h
    exact RDs.drop n h2
theorem RDs.set : ∀ {ds : List D} {vs : List V} (n : Nat) {d : D} {v : V}, RDs K l H ds vs → RD K l H d v → RDs K l H (ds.set n d) (vs.set n v)
  | [], _, n, _, _, h, _ => by
    cases h
    rfl
  | d :: ds, vs, 0, x, y, h, h' => by
    obtain ⟨v, r, rfl, h1, h2⟩ := h
    exact ⟨y, r, rfl, h', h2⟩
  | d :: ds, vs, n + 1, x, y, h, h' => by
    obtain ⟨v, r, rfl, h1, h2⟩ := h
    exact ⟨v, r.set n y, rfl, h1, RDs.set n h2 h'⟩
theorem RDs.erase : ∀ {ds : List D} {vs : List V} (n : Nat), RDs K l H ds vs → RDs K l H (ds.eraseIdx n) (vs.eraseIdx n)
  | [], _, n, h => by
    cases h
    rfl
  | d :: ds, vs, 0, h => by
    obtain ⟨v, r, rfl, h1, h2⟩ := h
    exact h2
  | d :: ds, vs, n + 1, h => by
    obtain ⟨v, r, rfl, h1, h2⟩ := h
    exact ⟨v, r.eraseIdx n, rfl, h1, RDs.erase n h2⟩
theorem RDs.reverse : ∀ {ds : List D} {vs : List V}, RDs K l H ds vs → RDs K l H ds.reverse vs.reverse
  | [], _, h => by
    cases h
    rfl
  | d :: ds, vs, h => by
    obtain ⟨v, r, rfl, h1, h2⟩ := h
    rw [List.reverse_cons, List.reverse_cons]
    exact RDs.append (RDs.reverse h2) ⟨v, [], rfl, h1, rfl⟩
theorem RDs.ints : ∀ (ns : List Int), RDs K l H (ns.map D.int) (ns.map V.int)
  | [] => rfl
  | n :: r => ⟨.int n, r.map V.int, rfl, rfl, RDs.ints r⟩
end
/-! ### the store in the heap -/
abbrev RKV {A : Type} (K : PySem.W.Frag) (l : Lay) (H : Hp) : List (A × D) → List (A × V) → Prop := Paired fun p q => p.1 = q.1 ∧ RD K l H p.2 q.2
abbrev RF (C : Ctx) (l : Lay) (H : Hp) : List (Nat × D) → List (Str × V) → Prop := Paired fun p q => C.anm p.1 = q.1 ∧ RD C.K l H p.2 q.2
def CellOk (C : Ctx) (l : Lay) (H : Hp) (a : Addr) : Cell → Prop
  | .lst ds => ∃ vs, H a = some (.lst vs) ∧ RDs C.K l H ds vs
  | .dK kvs => ∃ ws, H a = some (.dK ws) ∧ RKV C.K l H kvs ws
  | .dT kvs => ∃ ws, H a = some (.dT ws) ∧ RKV C.K l H kvs ws
  | .ins c fs => ∃ dx ws, H a = some (.ins (C.cad c) dx ws) ∧ RF C l H fs ws
  | .lkK kvs => ∃ o ws, l.lk a = some (o, .dK ws) ∧ H a = some (.frz o (.dK ws)) ∧ RKV C.K l H kvs ws
  | .lkT kvs => ∃ o ws, l.lk a = some (o, .dT ws) ∧ H a = some (.frz o (.dT ws)) ∧ RKV C.K l H kvs ws
structure Rel (C : Ctx) (l : Lay) (S : Sto) (H : Hp) : Prop where
  cells : ∀ i c, S.at_ i = some c → ∃ a, l i = some a ∧ CellOk C l H a c
  dom : ∀ i, S.at_ i = none → l i = none
  inj : ∀ i j a, l i = some a → l j = some a → i = j
  nos : ∀ a, l.no a → (∃ o, H a = some o ∧ ∀ vs, o ≠ .tup vs) ∧ ∀ i, l i ≠ some a
theorem CellOk.some {C : Ctx} {l : Lay} {H : Hp} {a : Addr} {c : Cell} (h : CellOk C l H a c) : ∃ o, H a = some o ∧ ∀ vs, o ≠ .tup vs := by
  cases c with
  | lst ds => obtain ⟨vs, h, _⟩ := h; exact ⟨_, h, fun _ => by intro e; cases e⟩
  | dK ds => obtain ⟨vs, h, _⟩ := h; exact ⟨_, h, fun _ => by intro e; cases e⟩
  | dT ds => obtain ⟨vs, h, _⟩ := h; exact ⟨_, h, fun _ => by intro e; cases e⟩
  | ins c fs => obtain ⟨dx, vs, h, _⟩ := h; exact ⟨_, h, fun _ => by intro e; cases e⟩
  | lkK ds => obtain ⟨o, ws, _, h, _⟩ := h; exact ⟨_, h, fun _ => by intro e; cases e⟩
  | lkT ds => obtain ⟨o, ws, _, h, _⟩ := h; exact ⟨_, h, fun _ => by intro e; cases e⟩
theorem Rel.at' {C : Ctx} {l : Lay} {S : Sto} {H : Hp} (r : Rel C l S H) {i : Id} {a : Addr} (h : l i = some a) : ∃ c, S.at_ i = some c ∧ CellOk C l H a c := by
  cases q : S.at_ i with
  | none =>
    rw [r.dom i q] at h
    cases h
  | some c =>
    obtain ⟨b, hb, hc⟩ := r.cells i c q
    rw [h] at hb
    cases hb
    exact ⟨c, rfl, hc⟩
theorem Rel.there {C : Ctx} {l : Lay} {S : Sto} {H : Hp} (r : Rel C l S H) {i : Id} {a : Addr} (h : l i = some a) : ∃ o, H a = some o := by
  obtain ⟨c, _, hc⟩ := r.at' h
  obtain ⟨o, ho, _⟩ := hc.some
  exact ⟨o, ho⟩
theorem Rel.notup {C : Ctx} {l : Lay} {S : Sto} {H : Hp} (r : Rel C l S H) {a : Addr} {vs : List V} (h : H a = some (.tup vs)) : ∀ i, l i ≠ some a := fun i hi => by
  obtain ⟨c, _, hc⟩ := r.at' hi
  obtain ⟨o, ho, n⟩ := hc.some
  rw [h] at ho
  cases ho
  exact n vs rfl
theorem Ext.thru {C : Ctx} {l l1 l2 : Lay} {S1 : Sto} {H H1 H2 : Hp} (e : Ext l H l1 H1) (f : Ext l1 H1 l2 H2) (r : Rel C l1 S1 H1) : Ext l H l2 H2 :=
  e.trans f fun i b hi => r.there (e.id i b hi)
theorem RKV.tr {A : Type} {K : PySem.W.Frag} {l l' : Lay} {H H' : Hp} (e : Tr l H l' H') {xs : List (A × D)} {ys : List (A × V)} (h : RKV K l H xs ys) : RKV K l' H' xs ys :=
  L2.Paired.mapP h fun p q z => ⟨z.1, RD.tr e _ _ z.2⟩
theorem RF.tr {C : Ctx} {l l' : Lay} {H H' : Hp} (e : Tr l H l' H') {xs : List (Nat × D)} {ys : List (Str × V)} (h : RF C l H xs ys) : RF C l' H' xs ys :=
  L2.Paired.mapP h fun p q z => ⟨z.1, RD.tr e _ _ z.2⟩
/-- the cell as it stood, in a heap that keeps its address -/
theorem CellOk.tr {C : Ctx} {l l' : Lay} {H H' : Hp} (e : Tr l H l' H') {a : Addr} {c : Cell} (h : CellOk C l H a c) (k : H' a = H a) (k2 : l'.lk a = l.lk a) : CellOk C l' H' a c := by
  cases c with
  | lst ds => obtain ⟨vs, h, r⟩ := h; exact ⟨vs, by rw [k]; exact h, RDs.tr e _ _ r⟩
  | dK ds => obtain ⟨vs, h, r⟩ := h; exact ⟨vs, by rw [k]; exact h, RKV.tr e r⟩
  | dT ds => obtain ⟨vs, h, r⟩ := h; exact ⟨vs, by rw [k]; exact h, RKV.tr e r⟩
  | ins c fs => obtain ⟨dx, vs, h, r⟩ := h; exact ⟨dx, vs, by rw [k]; exact h, RF.tr e r⟩
  | lkK ds => obtain ⟨o, ws, q, h, r⟩ := h; exact ⟨o, ws, by rw [k2]; exact q, by rw [k]; exact h, RKV.tr e r⟩
  | lkT ds => obtain ⟨o, ws, q, h, r⟩ := h; exact ⟨o, ws, by rw [k2]; exact q, by rw [k]; exact h, RKV.tr e r⟩
theorem RKV.monoW {A : Type} {K : PySem.W.Frag} {l l' : Lay} {H H' : Hp} (e : ExtW l H l' H') {xs : List (A × D)} {ys : List (A × V)} (h : RKV K l H xs ys) : RKV K l' H' xs ys := RKV.tr e.tr h
theorem RF.monoW {C : Ctx} {l l' : Lay} {H H' : Hp} (e : ExtW l H l' H') {xs : List (Nat × D)} {ys : List (Str × V)} (h : RF C l H xs ys) : RF C l' H' xs ys := RF.tr e.tr h
theorem CellOk.monoW {C : Ctx} {l l' : Lay} {H H' : Hp} (e : ExtW l H l' H') {a : Addr} {c : Cell} (h : CellOk C l H a c) (k : H' a = H a) (k2 : l'.lk a = l.lk a) : CellOk C l' H' a c := CellOk.tr e.tr h k k2
theorem RKV.mono {A : Type} {K : PySem.W.Frag} {l l' : Lay} {H H' : Hp} (e : Ext l H l' H') {xs : List (A × D)} {ys : List (A × V)} (h : RKV K l H xs ys) : RKV K l' H' xs ys := RKV.monoW e.toExtW h
theorem RF.mono {C : Ctx} {l l' : Lay} {H H' : Hp} (e : Ext l H l' H') {xs : List (Nat × D)} {ys : List (Str × V)} (h : RF C l H xs ys) : RF C l' H' xs ys := RF.monoW e.toExtW h
theorem CellOk.mono {C : Ctx} {l l' : Lay} {H H' : Hp} (e : Ext l H l' H') {a : Addr} {c : Cell} (h : CellOk C l H a c) (k : H' a = H a) (k2 : l'.lk a = l.lk a) : CellOk C l' H' a c := CellOk.monoW e.toExtW h k k2
/-- a new object that is no cell -/
theorem ext_new {l : Lay} {H : Hp} {p : Addr} {o : HO} (hp : H p = none) : Ext l H l (upd H p o) where
  id := fun _ _ h => h
  keep := fun a u h _ => by rw [upd_ne (ne_of_none h hp)]; exact h
  tup := fun a u h => by rw [upd_ne (ne_of_none h hp)]; exact h
  new := fun i a h h' => by rw [h] at h'; cases h'
  no := fun a h => .inl h
  no1 := fun a h => h
  lk := rfl
theorem rel_new {C : Ctx} {l : Lay} {S : Sto} {H : Hp} {p : Addr} {o : HO} (r : Rel C l S H) (hp : H p = none) : Rel C l S (upd H p o) where
  cells := fun i c h => by
    obtain ⟨a, ha, hc⟩ := r.cells i c h
    obtain ⟨o', ho, _⟩ := hc.some
    exact ⟨a, ha, hc.mono (ext_new hp) (upd_ne (ne_of_none ho hp)) rfl⟩
  dom := r.dom
  inj := r.inj
  nos := fun a h => by
    obtain ⟨⟨vs, hv, hz⟩, hn⟩ := r.nos a h
    exact ⟨⟨vs, by rw [upd_ne (ne_of_none hv hp)]; exact hv, hz⟩, hn⟩
theorem Rel.free {C : Ctx} {l : Lay} {S : Sto} {H : Hp} (r : Rel C l S H) {p : Addr} (hp : H p = none) : ¬ l.no p := fun h => by
  obtain ⟨⟨vs, hv, _⟩, _⟩ := r.nos p h
  rw [hp] at hv
  cases hv
theorem Rel.fresh {C : Ctx} {l : Lay} {S : Sto} {H : Hp} (r : Rel C l S H) {p : Addr} (hp : H p = none) : ∀ i, l i ≠ some p := fun i hi => by
  obtain ⟨o, ho⟩ := r.there hi
  rw [hp] at ho
  cases ho
/-- a heap grown by untracked things only -/
theorem rel_keep {C : Ctx} {l : Lay} {S : Sto} {H H' : Hp} (r : Rel C l S H) (e : Ext l H l H') (k : ∀ i a, l i = some a → H' a = H a) (k2 : ∀ a, l.no a → H' a = H a) : Rel C l S H' where
  cells := fun i c h => by
    obtain ⟨a, ha, hc⟩ := r.cells i c h
    exact ⟨a, ha, hc.mono e (k i a ha) rfl⟩
  dom := r.dom
  inj := r.inj
  nos := fun a h => by
    rw [k2 a h]
    exact r.nos a h
/-- a cell is written -/
theorem ext_set {C : Ctx} {l : Lay} {S : Sto} {H : Hp} {i : Id} {a : Addr} {o : HO} (r : Rel C l S H) (hi : l i = some a) : Ext l H l (upd H a o) where
  id := fun _ _ h => h
  keep := fun b u h n => by rw [upd_ne (fun e => n i (by rw [e]; exact hi))]; exact h
  tup := fun b u h => by rw [upd_ne (fun e => r.notup h i (by rw [e]; exact hi))]; exact h
  new := fun i a h h' => by rw [h] at h'; cases h'
  no := fun a h => .inl h
  no1 := fun a h => h
  lk := rfl
theorem rel_set {C : Ctx} {l : Lay} {S : Sto} {H : Hp} {i : Id} {a : Addr} {o : HO} {c : Cell} (r : Rel C l S H) (hi : l i = some a) (hc : CellOk C l (upd H a o) a c) : Rel C l (S.set i c) (upd H a o) where
  cells := fun j c' h => by
    by_cases hj : j = i
    · subst hj
      rw [Sto.set_same] at h
      cases h
      exact ⟨a, hi, hc⟩
    · rw [Sto.set_ne hj] at h
      obtain ⟨b, hb, hc'⟩ := r.cells j c' h
      refine ⟨b, hb, hc'.mono (ext_set r hi) (upd_ne fun e => hj (r.inj j i a (by rw [← e]; exact hb) hi)) rfl⟩
  dom := fun j h => by
    by_cases hj : j = i
    · subst hj
      rw [Sto.set_same] at h
      cases h
    · rw [Sto.set_ne hj] at h
      exact r.dom j h
  inj := r.inj
  nos := fun b h => by
    obtain ⟨⟨vs, hv, hz⟩, hn⟩ := r.nos b h
    exact ⟨⟨vs, by rw [upd_ne (fun e => hn i (by rw [e]; exact hi))]; exact hv, hz⟩, hn⟩
/-- a new cell -/
def Lay.add (l : Lay) (i : Id) (p : Addr) : Lay := ⟨fun j => if j = i then some p else l j, l.no, l.lk⟩
theorem Lay.add_same {l : Lay} {i : Id} {p : Addr} : l.add i p i = some p := by simp [Lay.add]
theorem Lay.add_ne {l : Lay} {i j : Id} {p : Addr} (h : j ≠ i) : l.add i p j = l j := by simp [Lay.add, h]
theorem ext_add {C : Ctx} {l : Lay} {S : Sto} {H : Hp} {i : Id} {p : Addr} {o : HO} (r : Rel C l S H) (hn : S.at_ i = none) (hp : H p = none) : Ext l H (l.add i p) (upd H p o) where
  id := fun j b h => by
    by_cases hj : j = i
    · subst hj
      rw [r.dom j hn] at h
      cases h
    · rw [Lay.add_ne hj]; exact h
  keep := fun b u h n => by rw [upd_ne (ne_of_none h hp)]; exact h
  tup := fun b u h => by rw [upd_ne (ne_of_none h hp)]; exact h
  new := fun j b h h' => by
    by_cases hj : j = i
    · subst hj
      rw [Lay.add_same] at h'
      cases h'
      exact hp
    · rw [Lay.add_ne hj, h] at h'
      cases h'
  no := fun a h => .inl h
  no1 := fun a h => h
  lk := rfl
theorem rel_add {C : Ctx} {l : Lay} {S : Sto} {H : Hp} {i : Id} {p : Addr} {o : HO} {c : Cell} (r : Rel C l S H) (hn : S.at_ i = none) (hp : H p = none) (hc : CellOk C (l.add i p) (upd H p o) p c) : Rel C (l.add i p) (S.set i c) (upd H p o) where
  cells := fun j c' h => by
    by_cases hj : j = i
    · subst hj
      rw [Sto.set_same] at h
      cases h
      exact ⟨p, Lay.add_same, hc⟩
    · rw [Sto.set_ne hj] at h
      obtain ⟨b, hb, hc'⟩ := r.cells j c' h
      obtain ⟨o', ho, _⟩ := hc'.some
      exact ⟨b, by rw [Lay.add_ne hj]; exact hb, hc'.mono (ext_add r hn hp) (upd_ne (ne_of_none ho hp)) rfl⟩
  dom := fun j h => by
    by_cases hj : j = i
    · subst hj
      rw [Sto.set_same] at h
      cases h
    · rw [Sto.set_ne hj] at h
      rw [Lay.add_ne hj]
      exact r.dom j h
  inj := fun j k b h h' => by
    by_cases hj : j = i
    · subst hj
      rw [Lay.add_same] at h
      cases h
      by_cases hk : k = j
      · exact hk.symm
      · rw [Lay.add_ne hk] at h'
        exact (r.fresh hp k h').elim
    · rw [Lay.add_ne hj] at h
      by_cases hk : k = i
      · subst hk
        rw [Lay.add_same] at h'
        cases h'
        exact (r.fresh hp j h).elim
      · rw [Lay.add_ne hk] at h'
        exact r.inj j k b h h'
  nos := fun b h => by
    obtain ⟨⟨vs, hv, hz⟩, hn⟩ := r.nos b h
    refine ⟨⟨vs, by rw [upd_ne (ne_of_none hv hp)]; exact hv, hz⟩, fun j hj => ?_⟩
    by_cases e : j = i
    · subst e
      rw [Lay.add_same] at hj
      cases hj
      rw [hp] at hv
      cases hv
    · rw [Lay.add_ne e] at hj
      exact hn j hj
/-! ### slots -/
def EnvR (K : PySem.W.Frag) (l : Lay) (H : Hp) (e : Env') (s : L2.St) : Prop := e.length = s.length ∧ ∀ (i : Nat) (d : D), e[i]? = some (some d) → ∃ v, s[i]? = some (some v) ∧ RD K l H d v
theorem EnvR.mono {K : PySem.W.Frag} {l l' : Lay} {H H' : Hp} {e : Env'} {s : L2.St} (x : Ext l H l' H') (h : EnvR K l H e s) : EnvR K l' H' e s :=
  ⟨h.1, fun i d hi => by
    obtain ⟨v, hv, r⟩ := h.2 i d hi
    exact ⟨v, hv, RD.mono x d v r⟩⟩
theorem EnvR.monoW {K : PySem.W.Frag} {l l' : Lay} {H H' : Hp} {e : Env'} {s : L2.St} (h : EnvR K l H e s) (x : ExtW l H l' H') : EnvR K l' H' e s :=
  ⟨h.1, fun i d hi => by
    obtain ⟨v, hv, r⟩ := h.2 i d hi
    exact ⟨v, hv, RD.monoW x d v r⟩⟩
theorem EnvR.set {K : PySem.W.Frag} {l : Lay} {H : Hp} {e : Env'} {s : L2.St} {i : Nat} {d : D} {v : V} (h : EnvR K l H e s) (r : RD K l H d v) : EnvR K l H (e.set i (some d)) (s.set i (some v)) := by
  refine ⟨by simp [h.1], fun j x hj => ?_⟩
  by_cases hij : i = j
  · subst hij
    by_cases hl : i < e.length
    · rw [List.getElem?_set_self hl] at hj
      cases hj
      exact ⟨v, List.getElem?_set_self (by rw [← h.1]; exact hl), r⟩
    · rw [List.getElem?_eq_none (by simpa using hl)] at hj
      cases hj
  · rw [List.getElem?_set_ne hij] at hj
    obtain ⟨u, hu, q⟩ := h.2 j x hj
    exact ⟨u, by rw [List.getElem?_set_ne hij]; exact hu, q⟩
theorem EnvR.clear {K : PySem.W.Frag} {l : Lay} {H : Hp} {e : Env'} {s : L2.St} {i : Nat} {o : Option V} (h : EnvR K l H e s) : EnvR K l H (e.set i none) (s.set i o) := by
  refine ⟨by simp [h.1], fun j x hj => ?_⟩
  by_cases hij : i = j
  · subst hij
    by_cases hl : i < e.length
    · rw [List.getElem?_set_self hl] at hj
      cases hj
    · rw [List.getElem?_eq_none (by simpa using hl)] at hj
      cases hj
  · rw [List.getElem?_set_ne hij] at hj
    obtain ⟨u, hu, q⟩ := h.2 j x hj
    exact ⟨u, by rw [List.getElem?_set_ne hij]; exact hu, q⟩
/-! ### exceptions, ends -/
def RX (C : Ctx) (l : Lay) (H : Hp) (x : Exn) (cls : Value) (d : Option Addr) : Prop := cls = .ref (C.xad x.c) ∧ match x.fs with
  | none => d = none
  | some fs => ∃ dd ws, d = some dd ∧ H dd = some (.xd ws) ∧ RF C l H fs ws
section
variable (C : Ctx) (W : WX)
/-- how an outcome is met -/
def Post {A : Type} (RA : Lay → Hp → A → Prop) (s : L2.St) (l : Lay) (H : Hp) : Out A → Prop
  | .ok a S => ∀ H' l', Ext l H l' H' → Rel C l' S H' → RA l' H' a
  | .exc x S => ∀ H' l' cls d, Ext l H l' H' → Rel C l' S H' → RX C l' H' x cls d → W cls d s H'
  | .bad => False
def QE (Q : VK) : Lay → Hp → D → Prop := fun l H d => ∀ v, RD C.K l H d v → Q v H
def QA (Q : List V → Hp → Prop) : Lay → Hp → List D → Prop := fun l H ds => ∀ vs, RDs C.K l H ds vs → Q vs H
def QT (Q : Bool → Hp → Prop) : Lay → Hp → Bool → Prop := fun _ H b => Q b H
def T (m : EM) : TE := fun s H Q => ∃ e S l, EnvR C.K l H e s ∧ Rel C l S H ∧ Post C W (QE C Q) s l H (m e S)
def TA' (m : AM) : TA := fun s H Q => ∃ e S l, EnvR C.K l H e s ∧ Rel C l S H ∧ Post C W (QA C Q) s l H (m e S)
def TT' (m : TM) : TT := fun s H Q => ∃ e S l, EnvR C.K l H e s ∧ Rel C l S H ∧ Post C W (QT Q) s l H (m e S)
end
section
variable {C : Ctx} {W : WX} {A : Type} {s : L2.St} {l l' : Lay} {H H' : Hp} {RA : Lay → Hp → A → Prop}
theorem Post.mono {S' : Sto} {o : Out A} (h : Post C W RA s l H o) (x : Ext l H l' H') (r : Rel C l' S' H') : Post C W RA s l' H' o := by
  cases o with
  | ok a S => exact fun H2 l2 x2 r2 => h H2 l2 (x.thru x2 r) r2
  | exc e S => exact fun H2 l2 c d x2 r2 => h H2 l2 c d (x.thru x2 r) r2
  | bad => exact h
theorem Post.imp {RB : Lay → Hp → A → Prop} {o : Out A} (h : Post C W RA s l H o) (k : ∀ H' l' a S, Ext l H l' H' → Rel C l' S H' → RA l' H' a → RB l' H' a) : Post C W RB s l H o := by
  cases o with
  | ok a S => exact fun H2 l2 x2 r2 => k _ _ _ _ x2 r2 (h H2 l2 x2 r2)
  | exc e S => exact h
  | bad => exact h
/-- a part's outcome, then the rest -/
theorem Post.bind {B : Type} {RB : Lay → Hp → B → Prop} {o : Out A} {f : A → Sto → Out B} (h : Post C W RB s l H (o.bind f))
    (k : ∀ H' l' a S, Ext l H l' H' → Rel C l' S H' → Post C W RB s l' H' (f a S) → RA l' H' a) : Post C W RA s l H o := by
  cases o with
  | ok a S => exact fun H2 l2 x2 r2 => k _ _ _ _ x2 r2 (Post.mono h x2 r2)
  | exc e S => exact h
  | bad => exact h
theorem Post.pure {a : A} {S : Sto} (r : Rel C l S H) (h : Post C W RA s l H (.ok a S)) : RA l H a := h H l (Ext.refl l H) r
end
end Pyx
/-! operators by values -/
namespace Pyx
open PySem PySem.Spec PyProof.Rows L2
theorem PEmono {X : Cx} {e : Expr} {t t' : TE} (h : PE X e t) (k : ∀ s H Q, t' s H Q → t s H Q) : PE X e t' := ⟨fun pins s σ H Q I q => h.run pins s σ H Q I (k σ H Q q)⟩
theorem PTmono {X : Cx} {e : Expr} {t t' : TT} (h : PT X e t) (k : ∀ s H Q, t' s H Q → t s H Q) : PT X e t' := ⟨fun pins s σ H Q I q => h.run pins s σ H Q I (k σ H Q q)⟩
theorem PAmono {X : Cx} {e : List Expr} {t t' : TA} (h : PA X e t) (k : ∀ s H Q, t' s H Q → t s H Q) : PA X e t' := ⟨fun pos pins s σ H Q I q => h.run pos pins s σ H Q I (k σ H Q q)⟩
theorem PSmono {X : Cx} {e : Stmt} {t t' : TS} (h : PS X e t) (k : ∀ D s H, t' D s H → t D s H) : PS X e t' := ⟨fun pins s σ H D I q => h.run pins s σ H D I (k D σ H q)⟩
theorem PSsmono {X : Cx} {e : List Stmt} {t t' : TS} (h : PSs X e t) (k : ∀ D s H, t' D s H → t D s H) : PSs X e t' := ⟨fun pins s σ H D I q => h.run pins s σ H D I (k D σ H q)⟩
theorem OpRmono {X : Cx} {f : Value → Value → Sem Value} {r r' : R2} (h : OpR X f r) (k : ∀ x y H Q, r' x y H Q → r x y H Q) : OpR X f r' := fun pins s σ H x y v u Q I rx ry q => h pins s σ H x y v u Q I rx ry (k x y H Q q)
/-- what a value operation hands on -/
def VPost (C : Ctx) (S : Sto) (l : Lay) (H : Hp) (d : D) (Q : VK) : Prop := ∀ H' l', Ext l H l' H' → Rel C l' S H' → ∀ v, RD C.K l' H' d v → Q v H'
def rB (C : Ctx) (g : D → D → Sto → Option D) : R2 := fun x y H Q => ∃ S l a b d, Rel C l S H ∧ RD C.K l H a x ∧ RD C.K l H b y ∧ g a b S = some d ∧ VPost C S l H d Q
section
variable {C : Ctx} {S : Sto} {l : Lay} {H : Hp} {d : D} {Q : VK}
theorem VPost.now (h : VPost C S l H d Q) (r : Rel C l S H) {v : V} (q : RD C.K l H d v) : Q v H := h H l (Ext.refl l H) r v q
/-- a new tuple -/
theorem VPost.tup {ds : List D} {vs : List V} {p : Addr} (h : VPost C S l H (.tup ds) Q) (r : Rel C l S H) (hs : RDs C.K l H ds vs) (hp : H p = none) : Q (.ref p) (upd H p (.tup vs)) :=
  h _ l (ext_new hp) (rel_new r hp) _ ⟨p, vs, rfl, upd_same, RDs.mono (ext_new hp) _ _ hs⟩
/-- a new list that is never written -/
theorem VPost.lst {ds : List D} {vs : List V} {p : Addr} (h : VPost C S l H (.lst ds) Q) (r : Rel C l S H) (hs : RDs C.K l H ds vs) (hp : H p = none) : Q (.ref p) (upd H p (.lst vs)) :=
  h _ l (ext_new hp) (rel_new r hp) _ ⟨p, vs, rfl, ⟨upd_same, r.fresh hp, r.free hp⟩, RDs.mono (ext_new hp) _ _ hs⟩
end
/-! ### + - * // % -/
def addD : D → D → Sto → Option D
  | .int i, .int j, _ => some (.int (i + j))
  | .str i, .str j, _ => if i.length + j.length ≤ sizeLine ∧ PySem.PyData.strOk (i ++ j) = true then some (.str (i ++ j)) else none
  | .tup a, .tup b, _ => if a.length + b.length ≤ sizeLine then some (.tup (a ++ b)) else none
  | .lst a, .lst b, _ => if a.length + b.length ≤ sizeLine then some (.lst (a ++ b)) else none
  | _, _, _ => none
def subD : D → D → Sto → Option D
  | .int i, .int j, _ => some (.int (i - j))
  | _, _, _ => none
/-- a product: small, or wide -/
def mulOk (i j : Int) : Prop := (-(2 ^ 64) < i ∧ i < 2 ^ 64) ∨ (-(2 ^ 64) < j ∧ j < 2 ^ 64)
instance (i j : Int) : Decidable (mulOk i j) := by unfold mulOk; infer_instance
def mulD : D → D → Sto → Option D
  | .int i, .int j, _ => if mulOk i j then some (.int (i * j)) else none
  | _, _, _ => none
def fdivD : D → D → Sto → Option D
  | .int i, .int j, _ => if 0 < j ∧ j < 1073741824 then some (.int (i / j)) else none
  | _, _, _ => none
def modD : D → D → Sto → Option D
  | .int i, .int j, _ => if 0 < j then some (.int (i % j)) else none
  | _, _, _ => none
theorem RD.tupE {K : PySem.W.Frag} {l : Lay} {H : Hp} {ds : List D} {v : V} (h : RD K l H (.tup ds) v) : ∃ a vs, v = .ref a ∧ TupAt K H a vs ∧ RDs K l H ds vs := h
theorem RD.lstE {K : PySem.W.Frag} {l : Lay} {H : Hp} {ds : List D} {v : V} (h : RD K l H (.lst ds) v) : ∃ a vs, v = .ref a ∧ LstAt K l H a vs ∧ RDs K l H ds vs := h
section
variable {X : Cx} {C : Ctx} (hK : C.K = X.K)
include hK
theorem vo_add : OpR X (binaryOp .Add) (rB C addD) := by
  intro pins s σ H x y v u Q I rx ry h
  obtain ⟨S, l, a, b, d, hr, ha, hb, hg, hp⟩ := h
  cases a <;> cases b <;> simp only [addD] at hg <;> try cases hg
  · cases ha; cases hb
    exact op_add pins s σ H _ _ v u Q I rx ry ⟨_, _, rfl, rfl, hp.now hr rfl⟩
  · split at hg
    · rename_i hl
      cases hg; cases ha.1; cases hb.1
      exact op_add_str pins s σ H _ _ v u Q I rx ry ⟨_, _, rfl, rfl, hl.1, hp.now hr ⟨rfl, hl.2⟩⟩
    · cases hg
  · split at hg
    · rename_i xs ys hl
      cases hg
      obtain ⟨p, vs, rfl, tp, hv⟩ := ha
      obtain ⟨q, ws, rfl, tq, hw⟩ := hb
      refine op_catA pins s σ H _ _ v u Q I rx ry ⟨p, q, vs, ws, rfl, rfl, hK ▸ tp.sq, hK ▸ tq.sq, by rw [hv.length, hw.length]; exact hl, fun e => ?_, fun e e' => ?_, fun e e' n hn => ?_⟩
      · refine hp.now hr ⟨q, vs ++ ws, rfl, by rw [e]; exact tq, RDs.append hv hw⟩
      · refine hp.now hr ⟨p, vs ++ ws, rfl, by rw [e', List.append_nil]; exact tp, RDs.append hv hw⟩
      · exact hp.tup hr (RDs.append hv hw) hn
    · cases hg
  · split at hg
    · rename_i xs ys hl
      cases hg
      obtain ⟨p, vs, rfl, tp, hv⟩ := ha
      obtain ⟨q, ws, rfl, tq, hw⟩ := hb
      exact op_cat pins s σ H _ _ v u Q I rx ry ⟨p, q, vs, ws, rfl, rfl, tp.1, tq.1, by rw [hv.length, hw.length]; exact hl, fun n hn => hp.lst hr (RDs.append hv hw) hn⟩
    · cases hg
theorem vo_sub : OpR X (binaryOp .Sub) (rB C subD) := by
  intro pins s σ H x y v u Q I rx ry h
  obtain ⟨S, l, a, b, d, hr, ha, hb, hg, hp⟩ := h
  cases a <;> cases b <;> simp only [subD] at hg <;> try cases hg
  cases ha; cases hb
  exact op_sub pins s σ H _ _ v u Q I rx ry ⟨_, _, rfl, rfl, hp.now hr rfl⟩
theorem vo_mul : OpR X (binaryOp .Mult) (rB C mulD) := by
  intro pins s σ H x y v u Q I rx ry h
  obtain ⟨S, l, a, b, d, hr, ha, hb, hg, hp⟩ := h
  cases a <;> cases b <;> simp only [mulD] at hg <;> try cases hg
  split at hg
  · rename_i hc
    cases hg; cases ha; cases hb
    exact op_mul pins s σ H _ _ v u Q I rx ry ⟨_, _, rfl, rfl, hc, hp.now hr rfl⟩
  · cases hg
theorem vo_fdiv : OpR X (binaryOp .FloorDiv) (rB C fdivD) := by
  intro pins s σ H x y v u Q I rx ry h
  obtain ⟨S, l, a, b, d, hr, ha, hb, hg, hp⟩ := h
  cases a <;> cases b <;> simp only [fdivD] at hg <;> try cases hg
  split at hg
  · rename_i hc
    cases hg; cases ha; cases hb
    exact op_fdiv pins s σ H _ _ v u Q I rx ry ⟨_, _, rfl, rfl, hc, hp.now hr rfl⟩
  · cases hg
theorem vo_mod : OpR X (binaryOp .Mod) (rB C modD) := by
  intro pins s σ H x y v u Q I rx ry h
  obtain ⟨S, l, a, b, d, hr, ha, hb, hg, hp⟩ := h
  cases a <;> cases b <;> simp only [modD] at hg <;> try cases hg
  split at hg
  · rename_i hc
    cases hg; cases ha; cases hb
    exact op_mod pins s σ H _ _ v u Q I rx ry ⟨_, _, rfl, rfl, hc, hp.now hr rfl⟩
  · cases hg
end
/-! ### comparisons of ints -/
def cmpI (p : Int → Int → Bool) : D → D → Sto → Option D
  | .int i, .int j, _ => some (.bl (p i j))
  | _, _, _ => none
section
variable {X : Cx} {C : Ctx}
theorem vo_cmpI {f : Value → Value → Sem Value} {p : Int → Int → Bool} (h0 : OpR X f (rI0 fun i j => .bl (p i j))) : OpR X f (rB C (cmpI p)) := by
  intro pins s σ H x y v u Q I rx ry h
  obtain ⟨S, l, a, b, d, hr, ha, hb, hg, hp⟩ := h
  cases a <;> cases b <;> simp only [cmpI] at hg <;> try cases hg
  cases ha; cases hb
  exact h0 pins s σ H _ _ v u Q I rx ry ⟨_, _, rfl, rfl, hp.now hr rfl⟩
theorem vo_lt : OpR X (compareOp .Lt) (rB C (cmpI fun i j => decide (i < j))) := vo_cmpI op_lt
theorem vo_le : OpR X (compareOp .LtE) (rB C (cmpI fun i j => decide (i ≤ j))) := vo_cmpI op_le
theorem vo_gt : OpR X (compareOp .Gt) (rB C (cmpI fun i j => decide (j < i))) := vo_cmpI op_gt
theorem vo_ge : OpR X (compareOp .GtE) (rB C (cmpI fun i j => decide (j ≤ i))) := vo_cmpI op_ge
end
/-! ### == as data -/
mutual
def noCell : D → Bool
  | .cell _ => false
  | .tup ds => noCells ds
  | .lst ds => noCells ds
  | .ktup ds => noCells ds
  | _ => true
def noCells : List D → Bool
  | [] => true
  | d :: r => noCell d && noCells r
end
mutual
def py : D → PyData
  | .non => .none
  | .bl b => .bool b
  | .int i => .int i
  | .str s => .str s
  | .tup ds => .tuple (pys ds)
  | .lst ds => .list (pys ds)
  | .cell _ => .none
  | .scr ns => .list (ns.map PyData.int)
  | .ktup ds => .tuple (pys ds)
def pys : List D → List PyData
  | [] => []
  | d :: r => py d :: pys r
end
theorem canLay_ints : ∀ ns : List Int, PyData.canLayAll0 (ns.map PyData.int) = true
  | [] => rfl
  | n :: r => by
    show (PyData.canLay0 (.int n) && PyData.canLayAll0 (r.map PyData.int)) = true
    rw [canLay_ints r]
    rfl
theorem dp_ints {K : PySem.W.Frag} {H : Hp} : ∀ ns : List Int, DpAll K H (ns.map V.int) (ns.map PyData.int)
  | [] => .nil
  | n :: r => .cons (.int n) (dp_ints r)
mutual
theorem RD.dp {K : PySem.W.Frag} {l : Lay} {H : Hp} : ∀ (d : D) (v : V), RD K l H d v → noCell d = true → Dp K H v (py d) ∧ (py d).canLay0 = true
  | .non, v, h, _ => by
    cases h
    exact ⟨.non, rfl⟩
  | .bl b, v, h, _ => by
    cases h
    exact ⟨.bl b, rfl⟩
  | .int i, v, h, _ => by
    cases h
    exact ⟨.int i, rfl⟩
  | .str s, v, h, _ => by
    obtain ⟨rfl, hs⟩ := h
    exact ⟨.str s, hs⟩
  | .tup ds, v, h, hn => by
    obtain ⟨a, vs, rfl, ht, hs⟩ := h
    obtain ⟨h1, h2⟩ := RDs.dp ds vs hs hn
    exact ⟨.tup ht.sq h1, h2⟩
  | .lst ds, v, h, hn => by
    obtain ⟨a, vs, rfl, ht, hs⟩ := h
    obtain ⟨h1, h2⟩ := RDs.dp ds vs hs hn
    exact ⟨.lst ht.sq h1, h2⟩
  | .ktup ds, v, h, hn => by
    obtain ⟨a, vs, rfl, ht, hs⟩ := h
    obtain ⟨h1, h2⟩ := RDs.dp ds vs hs hn
    exact ⟨.tup (.inr ht) h1, h2⟩
  | .cell i, v, h, hn => by cases hn
  | .scr ns, v, h, _ => by
    obtain ⟨a, rfl, hs⟩ := h
    exact ⟨.lst hs.sq (dp_ints ns), canLay_ints ns⟩
theorem RDs.dp {K : PySem.W.Frag} {l : Lay} {H : Hp} : ∀ (ds : List D) (vs : List V), RDs K l H ds vs → noCells ds = true → DpAll K H vs (pys ds) ∧ PyData.canLayAll0 (pys ds) = true
  | [], vs, h, _ => by
    cases h
    exact ⟨.nil, rfl⟩
  | d :: r, vs, h, hn => by
    obtain ⟨v, ws, rfl, h1, h2⟩ := h
    have hn' : (noCell d && noCells r) = true := hn
    obtain ⟨n1, n2⟩ := Bool.and_eq_true_iff.mp hn'
    obtain ⟨p1, p2⟩ := RD.dp d v h1 n1
    obtain ⟨q1, q2⟩ := RDs.dp r ws h2 n2
    refine ⟨.cons p1 q1, ?_⟩
    show (PyData.canLay0 (py d) && PyData.canLayAll0 (pys r)) = true
    rw [p2, q2]
    rfl
end
/-- a list of the store, looked up once -/
def top1 (S : Sto) : D → D
  | .cell i => match S.at_ i with
    | some (.lst ds) => .lst ds
    | _ => .cell i
  | d => d
def eqRaw (neg : Bool) (a b : D) : Option D :=
  if noCell a && noCell b && decide (min (py a).depth (py b).depth ≤ 64) then some (.bl (neg != PyData.eqv (py a) (py b))) else match a, b with
    | .lst xs, .lst ys => if xs.length ≠ ys.length then some (.bl neg) else none
    | _, _ => none
def eqD (a b : D) (S : Sto) : Option D := eqRaw false (top1 S a) (top1 S b)
def neD (a b : D) (S : Sto) : Option D := eqRaw true (top1 S a) (top1 S b)
/-- read as data, at the top a list of the store -/
inductive RD1 (K : PySem.W.Frag) (l : Lay) (H : Hp) : D → V → Prop
  | of {d : D} {v : V} (h : RD K l H d v) : RD1 K l H d v
  | cel {ds : List D} {a : Addr} {vs : List V} (h : H a = some (.lst vs)) (q : RDs K l H ds vs) : RD1 K l H (.lst ds) (.ref a)
theorem RD1.top {C : Ctx} {l : Lay} {S : Sto} {H : Hp} (r : Rel C l S H) {d : D} {v : V} (h : RD C.K l H d v) : RD1 C.K l H (top1 S d) v := by
  cases d with
  | cell i =>
    cases q : S.at_ i with
    | none =>
      rw [show top1 S (.cell i) = .cell i by simp only [top1, q]]
      exact .of h
    | some c =>
      cases c with
      | lst ds =>
        obtain ⟨a, rfl, ha⟩ := h
        obtain ⟨b, hb, vs, hv, hs⟩ := r.cells i _ q
        rw [ha] at hb
        cases hb
        rw [show top1 S (.cell i) = .lst ds by simp only [top1, q]]
        exact .cel hv hs
      | _ =>
        rw [show top1 S (.cell i) = .cell i by simp only [top1, q]]
        exact .of h
  | _ => exact .of h
theorem RD1.dp {K : PySem.W.Frag} {l : Lay} {H : Hp} {d : D} {v : V} (h : RD1 K l H d v) (n : noCell d = true) : Dp K H v (py d) ∧ (py d).canLay0 = true := by
  cases h with
  | of h => exact RD.dp d v h n
  | cel h q =>
    obtain ⟨h1, h2⟩ := RDs.dp _ _ q n
    exact ⟨.lst (.inl (.inl h)) h1, h2⟩
theorem RD1.list {K : PySem.W.Frag} {l : Lay} {H : Hp} {ds : List D} {v : V} (h : RD1 K l H (.lst ds) v) : ∃ a vs, v = .ref a ∧ H a = some (.lst vs) ∧ vs.length = ds.length := by
  cases h with
  | of h =>
    obtain ⟨a, vs, rfl, ht, hs⟩ := h
    exact ⟨a, vs, rfl, ht.1, hs.length⟩
  | cel h q => exact ⟨_, _, rfl, h, q.length⟩
section
variable {X : Cx} {C : Ctx} (hK : C.K = X.K) (hu : X.A.units + 64 < cLine)
include hK hu
theorem vo_eqn (neg : Bool) : OpR X (compareOp (if neg then .NotEq else .Eq)) (rB C (fun a b S => eqRaw neg (top1 S a) (top1 S b))) := by
  intro pins s σ H x y v u Q I rx ry h
  obtain ⟨S, l, a, b, d, hr, ha, hb, hg, hp⟩ := h
  have a1 := RD1.top hr ha
  have b1 := RD1.top hr hb
  revert hg
  show eqRaw neg (top1 S a) (top1 S b) = some d → _
  generalize top1 S a = a' at a1
  generalize top1 S b = b' at b1
  intro hg
  unfold eqRaw at hg
  split at hg
  · rename_i hc
    simp only [Bool.and_eq_true, decide_eq_true_eq] at hc
    obtain ⟨⟨n1, n2⟩, hm⟩ := hc
    cases hg
    obtain ⟨p1, p2⟩ := a1.dp n1
    obtain ⟨q1, q2⟩ := b1.dp n2
    rw [hK] at p1 q1
    obtain ⟨as, r1⟩ := Dp.reads I _ x v p1 rx
    obtain ⟨bs, r2⟩ := Dp.reads I _ y u q1 ry
    have hmm : X.A.units + min (py a').depth (py b').depth < cLine := by omega
    cases neg with
    | false =>
      refine SeqAt.compareEq_reads r1 r2 p2 q2 hmm ⟨.bl _, H, I, rfl, ?_⟩
      have := hp.now hr (v := .bl (PyData.eqv (py a') (py b'))) (by show V.bl _ = V.bl _; cases PyData.eqv (py a') (py b') <;> rfl)
      exact this
    | true =>
      refine SeqAt.compareNe_reads r1 r2 p2 q2 hmm ⟨.bl _, H, I, rfl, ?_⟩
      have := hp.now hr (v := .bl (!PyData.eqv (py a') (py b'))) (by show V.bl _ = V.bl _; cases PyData.eqv (py a') (py b') <;> rfl)
      exact this
  · split at hg
    · split at hg
      · rename_i xs ys hl
        cases hg
        obtain ⟨p, vs, rfl, tp, lp⟩ := a1.list
        obtain ⟨q, ws, rfl, tq, lq⟩ := b1.list
        cases rx
        cases ry
        obtain ⟨is1, e1, pl1, _⟩ := I.list (.inl (.inl tp))
        obtain ⟨is2, e2, pl2, _⟩ := I.list (.inl (.inl tq))
        have hz : (is1.toArray.size != is2.toArray.size) = true := by
          have := e1.length
          have := e2.length
          simp only [List.size_toArray, bne_iff_ne, ne_eq]
          omega
        have hq := hp.now hr (v := .bl neg) rfl
        cases neg with
        | false => exact SeqAt.eq_list_lengthsAt pl1.isList pl2.isList hz (by omega) ⟨.bl _, H, I, rfl, hq⟩
        | true => exact SeqAt.RcNeAt.lists_lengths pl1.isList pl2.isList hz (by omega) _ _ _ _ ⟨.bl _, H, I, rfl, hq⟩
      · cases hg
    · cases hg
theorem vo_eq : OpR X (compareOp .Eq) (rB C eqD) := vo_eqn hK hu false
theorem vo_ne : OpR X (compareOp .NotEq) (rB C neD) := vo_eqn hK hu true
end
/-! ### is None -/
def isND (a b : D) (_ : Sto) : Option D := match a, b with
  | .non, .non => some (.bl true)
  | _, .non => some (.bl false)
  | .bl x, .bl y => some (.bl (x == y))
  | _, _ => none
def notND (a b : D) (_ : Sto) : Option D := match a, b with
  | .non, .non => some (.bl false)
  | _, .non => some (.bl true)
  | .bl x, .bl y => some (.bl (x != y))
  | _, _ => none
theorem RD.nonI {K : PySem.W.Frag} {l : Lay} {H : Hp} {d : D} (h : RD K l H d .non) : d = .non := by
  cases d with
  | non => rfl
  | bl b => cases h
  | int b => cases h
  | str b => cases h.1
  | tup ds => obtain ⟨_, _, e, _⟩ := h; cases e
  | lst ds => obtain ⟨_, _, e, _⟩ := h; cases e
  | cell i => obtain ⟨_, e, _⟩ := h; cases e
  | scr i => obtain ⟨_, e, _⟩ := h; cases e
  | ktup ds => obtain ⟨_, _, e, _⟩ := h; cases e
theorem isND_non {a : D} {S : Sto} : isND a .non S = some (.bl (match a with | .non => true | _ => false)) := by cases a <;> rfl
theorem notND_non {a : D} {S : Sto} : notND a .non S = some (.bl (match a with | .non => false | _ => true)) := by cases a <;> rfl
section
variable {X : Cx} {C : Ctx}
theorem vo_is : OpR X (compareOp .Is) (rB C isND) := by
  intro pins s σ H x y v u Q I rx ry h
  obtain ⟨S, l, a, b, d, hr, ha, hb, hg, hp⟩ := h
  cases b with
  | non =>
    cases hb
    rw [isND_non] at hg
    cases hg
    refine op_isN pins s σ H x _ v u Q I rx ry ⟨rfl, hp.now hr ?_⟩
    show V.bl _ = V.bl _
    congr 1
    cases a with
    | non => cases ha; rfl
    | _ =>
      refine decide_eq_false fun e => ?_
      subst e
      have := RD.nonI ha
      cases this
  | bl k =>
    cases a <;> simp only [isND] at hg <;> try cases hg
    cases ha; cases hb
    refine op_isBl pins s σ H _ _ v u Q I rx ry ⟨_, _, rfl, rfl, ?_⟩
    have := hp.now hr rfl
    rename_i q
    cases q <;> cases k <;> exact this
  | _ => cases a <;> simp only [isND] at hg <;> cases hg
theorem vo_isnot : OpR X (compareOp .IsNot) (rB C notND) := by
  intro pins s σ H x y v u Q I rx ry h
  obtain ⟨S, l, a, b, d, hr, ha, hb, hg, hp⟩ := h
  cases b with
  | non =>
    cases hb
    rw [notND_non] at hg
    cases hg
    refine op_notN pins s σ H x _ v u Q I rx ry ⟨rfl, hp.now hr ?_⟩
    show V.bl _ = V.bl _
    congr 1
    cases a with
    | non => cases ha; rfl
    | _ =>
      have : decide (x = V.non) = false := decide_eq_false fun e => by
        subst e
        have := RD.nonI ha
        cases this
      rw [this]
      rfl
  | bl k =>
    cases a <;> simp only [notND] at hg <;> try cases hg
    cases ha; cases hb
    refine op_notBl pins s σ H _ _ v u Q I rx ry ⟨_, _, rfl, rfl, ?_⟩
    have := hp.now hr rfl
    rename_i q
    cases q <;> cases k <;> exact this
  | _ => cases a <;> simp only [notND] at hg <;> cases hg
end
end Pyx
/-! places, dicts, builtins by values -/
namespace Pyx
open PySem PySem.Spec PyProof.Rows L2
/-! ### places -/
def ixD (a b : D) (S : Sto) : Option D := match top1 S a, b with
  | .tup ds, .int i => atI ds i
  | .lst ds, .int i => atI ds i
  | .ktup ds, .int i => atI ds i
  | .str s, .int i => if s.length ≤ sizeLine ∧ PySem.PyData.strOk s = true then (atI s.cps.toList i).map (fun c => .str ⟨#[c]⟩) else none
  | _, _ => none
theorem RDs.atI {K : PySem.W.Frag} {l : Lay} {H : Hp} {ds : List D} {vs : List V} {i : Int} {d : D} (h : RDs K l H ds vs) (e : atI ds i = some d) : ∃ v, L2.atI vs i = some v ∧ RD K l H d v := by
  unfold L2.atI at e ⊢
  rw [h.length]
  cases q : ixN ds.length i with
  | none =>
    rw [q] at e
    cases e
  | some j =>
    rw [q] at e
    exact h.get (i := j) e
theorem strOk_one {s : Str} {i : Int} {c : Nat} (h : PySem.PyData.strOk s = true) (e : atI s.cps.toList i = some c) : PySem.PyData.strOk ⟨#[c]⟩ = true := by
  unfold atI at e
  cases q : ixN s.cps.toList.length i with
  | none =>
    rw [q] at e
    cases e
  | some j =>
    rw [q] at e
    have hm : c ∈ s.cps.toList := List.mem_of_getElem? e
    unfold PySem.PyData.strOk at h ⊢
    rw [← Array.all_toList] at h ⊢
    have := List.all_eq_true.mp h c hm
    simp only [List.all_cons, List.all_nil, Bool.and_true]
    exact this
section
variable {X : Cx} {C : Ctx} (hK : C.K = X.K)
include hK
theorem RD1.sq {l : Lay} {H : Hp} {ds : List D} {v : V} (h : RD1 C.K l H (.lst ds) v) : ∃ a vs, v = .ref a ∧ SqL C.K H a vs ∧ RDs C.K l H ds vs := by
  cases h with
  | of h =>
    obtain ⟨a, vs, rfl, ht, hs⟩ := h
    exact ⟨a, vs, rfl, ht.sq, hs⟩
  | cel h q => exact ⟨_, _, rfl, .inl (.inl h), q⟩
theorem vo_ix : IxR X (rB C ixD) := by
  intro value slice pins s σ H x y v u Q I rx ry h hs
  obtain ⟨S, l, a, b, d, hr, ha, hb, hg, hp⟩ := h
  have a1 := RD1.top hr ha
  unfold ixD at hg
  generalize top1 S a = a' at a1 hg
  cases a' <;> cases b <;> simp only at hg <;> try cases hg
  · split at hg
    · rename_i z i hz
      cases hb
      cases a1 with
      | of a1 =>
        obtain ⟨rfl, _⟩ := a1
        cases q : atI z.cps.toList i with
        | none =>
          rw [q] at hg
          cases hg
        | some c =>
          rw [q] at hg
          cases hg
          exact ix_str value slice pins s σ H _ _ v u Q I rx ry ⟨_, _, c, rfl, rfl, hz.1, q, hp.now hr ⟨rfl, strOk_one hz.2 q⟩⟩ hs
    · cases hg
  · cases hb
    cases a1 with
    | of a1 =>
      obtain ⟨p, vs, rfl, tp, hv⟩ := a1
      obtain ⟨w, hw, hd⟩ := hv.atI hg
      exact ix_tup value slice pins s σ H _ _ v u Q I rx ry ⟨p, vs, _, w, rfl, rfl, hK ▸ tp.sq, hw, hp.now hr hd⟩ hs
  · cases hb
    obtain ⟨p, vs, rfl, tp, hv⟩ := RD1.sq hK a1
    obtain ⟨w, hw, hd⟩ := hv.atI hg
    exact ix_list value slice pins s σ H _ _ v u Q I rx ry ⟨p, vs, _, w, rfl, rfl, hK ▸ tp, hw, hp.now hr hd⟩ hs
  · cases hb
    cases a1 with
    | of a1 =>
      obtain ⟨p, vs, rfl, tp, hv⟩ := a1
      obtain ⟨w, hw, hd⟩ := hv.atI hg
      exact ix_tup value slice pins s σ H _ _ v u Q I rx ry ⟨p, vs, _, w, rfl, rfl, .inr (hK ▸ tp), hw, hp.now hr hd⟩ hs
end
/-! ### slices -/
def cutD {A : Type} (xs : List A) (lo hi : Option Int) : List A := (xs.drop (HT.sIx xs.length 0 lo)).take (HT.sIx xs.length xs.length hi - HT.sIx xs.length 0 lo)
def slD (a : D) (lo hi : Option Int) (S : Sto) : Option D := match top1 S a with
  | .tup ds => some (.tup (cutD ds lo hi))
  | .lst ds => some (.lst (cutD ds lo hi))
  | _ => none
theorem RDs.cut {K : PySem.W.Frag} {l : Lay} {H : Hp} {ds : List D} {vs : List V} (lo hi : Option Int) (h : RDs K l H ds vs) : RDs K l H (cutD ds lo hi) (cutV vs lo hi) := by
  unfold cutD cutV
  rw [h.length]
  exact RDs.take _ (RDs.drop _ h)
def rSlD (C : Ctx) : V → Option Int → Option Int → Hp → VK → Prop := fun x lo hi H Q => ∃ S l a d, Rel C l S H ∧ RD C.K l H a x ∧ slD a lo hi S = some d ∧ VPost C S l H d Q
theorem SlRmono {X : Cx} {r r' : V → Option Int → Option Int → Hp → VK → Prop} (h : SlR X r) (k : ∀ x lo hi H Q, r' x lo hi H Q → r x lo hi H Q) : SlR X r' := by
  intro pins s σ H x v vl vu lo hi sl Q I r a b c q
  exact h pins s σ H x v vl vu lo hi sl Q I r a b c (k _ _ _ _ _ q)
theorem vo_sl {X : Cx} {C : Ctx} (hK : C.K = X.K) : SlR X (rSlD C) := by
  refine SlRmono (SlR.or (sl_tupA (X := X)) (sl_list (X := X))) fun x lo hi H Q h => ?_
  obtain ⟨S, l, a, d, hr, ha, hg, hp⟩ := h
  have a1 := RD1.top hr ha
  unfold slD at hg
  generalize top1 S a = a' at a1 hg
  cases a' <;> simp only at hg <;> try cases hg
  · left
    cases a1 with
    | of a1 =>
      obtain ⟨p, vs, rfl, tp, hv⟩ := a1
      refine ⟨p, vs, rfl, hK ▸ tp.sq, fun e => ?_, fun _ n hn => hp.tup hr (hv.cut lo hi) hn⟩
      have e2 : cutV vs lo hi = vs := by
        unfold cutV
        rw [e.1, e.2, List.drop_zero, Nat.sub_zero, List.take_length]
      have h3 := hv.cut lo hi
      rw [e2] at h3
      exact hp.now hr ⟨p, vs, rfl, tp, h3⟩
  · right
    obtain ⟨p, vs, rfl, tp, hv⟩ := RD1.sq hK a1
    exact ⟨p, vs, rfl, hK ▸ tp, fun n hn => hp.lst hr (hv.cut lo hi) hn⟩
/-! ### dicts -/
def keyD : D → Option Key
  | .int i => some (.inl i)
  | .str s => some (.inr s)
  | _ => none
def keysD : List D → Option (List Key)
  | [] => some []
  | d :: r => (keyD d).bind fun k => (keysD r).map (k :: ·)
def keyT : D → Option (List Key)
  | .tup ds => keysD ds
  | _ => none
def valD {A : Type} [DecidableEq A] (kvs : List (A × D)) (k : A) : Option D := (kvs.find? fun kv => decide (kv.1 = k)).map (·.2)
def putD {A : Type} [DecidableEq A] (kvs : List (A × D)) (k : A) (d : D) : List (A × D) :=
  if (kvs.any fun kv => decide (kv.1 = k)) = true then kvs.map (fun kv => if kv.1 = k then (kv.1, d) else kv) else kvs ++ [(k, d)]
def dropD {A : Type} [DecidableEq A] (kvs : List (A × D)) (k : A) : List (A × D) := kvs.filter fun kv => decide (kv.1 ≠ k)
section
variable {K : PySem.W.Frag} {l : Lay} {H : Hp}
theorem RD.key {d : D} {v : V} {k : Key} (h : RD K l H d v) (e : keyD d = some k) : v = kV k := by
  cases d <;> simp only [keyD] at e <;> cases e
  · exact h
  · exact h.1
theorem RDs.keys : ∀ {ds : List D} {vs : List V} {ks : List Key}, RDs K l H ds vs → keysD ds = some ks → vs = ks.map kV
  | [], vs, ks, h, e => by
    cases h
    cases e
    rfl
  | d :: r, vs, ks, h, e => by
    obtain ⟨v, ws, rfl, h1, h2⟩ := h
    unfold keysD at e
    obtain ⟨k, hk, e⟩ := Option.bind_eq_some_iff.mp e
    obtain ⟨ks', hks, rfl⟩ := Option.map_eq_some_iff.mp e
    rw [RD.key h1 hk, RDs.keys h2 hks]
    rfl
def RO (K : PySem.W.Frag) (l : Lay) (H : Hp) : Option D → Option V → Prop
  | none, o => o = none
  | some d, o => ∃ v, o = some v ∧ RD K l H d v
variable {A : Type} [DecidableEq A]
theorem RKV.val : ∀ {kvs : List (A × D)} {ws : List (A × V)} (k : A), RKV K l H kvs ws → RO K l H (valD kvs k) (valV ws k)
  | _, _, k, .nil => rfl
  | p :: r, q :: t, k, .cons h hr => by
    have ih := RKV.val k hr
    unfold valD valV at ih ⊢
    rw [List.find?_cons, List.find?_cons, ← h.1]
    cases e : decide (p.1 = k) with
    | true => exact ⟨q.2, rfl, h.2⟩
    | false => exact ih
theorem RKV.any {k : A} : ∀ {kvs : List (A × D)} {ws : List (A × V)}, RKV K l H kvs ws → (kvs.any fun kv => decide (kv.1 = k)) = ws.any fun kv => decide (kv.1 = k)
  | _, _, .nil => rfl
  | p :: r, q :: t, .cons h hr => by
    rw [List.any_cons, List.any_cons, RKV.any hr, h.1]
theorem RKV.mapput {k : A} {d : D} {v : V} (hd : RD K l H d v) : ∀ {kvs : List (A × D)} {ws : List (A × V)}, RKV K l H kvs ws → RKV K l H (kvs.map fun kv => if kv.1 = k then (kv.1, d) else kv) (ws.map fun kv => if kv.1 = k then (kv.1, v) else kv)
  | _, _, .nil => .nil
  | p :: r, q :: t, .cons h hr => by
    refine .cons ?_ (RKV.mapput hd hr)
    dsimp only
    rw [h.1]
    split
    · exact ⟨rfl, hd⟩
    · exact h
theorem RKV.append : ∀ {kvs es : List (A × D)} {ws us : List (A × V)}, RKV K l H kvs ws → RKV K l H es us → RKV K l H (kvs ++ es) (ws ++ us)
  | _, _, _, _, .nil, h => h
  | _, _, _, _, .cons h hr, h' => .cons h (RKV.append hr h')
theorem RKV.put {kvs : List (A × D)} {ws : List (A × V)} {k : A} {d : D} {v : V} (h : RKV K l H kvs ws) (hd : RD K l H d v) : RKV K l H (putD kvs k d) (putK ws k v) := by
  unfold putD putK
  rw [RKV.any h]
  split
  · exact RKV.mapput hd h
  · exact RKV.append h (.cons ⟨rfl, hd⟩ .nil)
theorem RKV.drop {k : A} : ∀ {kvs : List (A × D)} {ws : List (A × V)}, RKV K l H kvs ws → RKV K l H (dropD kvs k) (dropK ws k)
  | _, _, .nil => .nil
  | p :: r, q :: t, .cons h hr => by
    have ih := RKV.drop (k := k) hr
    unfold dropD dropK at ih ⊢
    rw [List.filter_cons, List.filter_cons, h.1]
    split
    · exact .cons h ih
    · exact ih
theorem RKV.len : ∀ {kvs : List (A × D)} {ws : List (A × V)}, RKV K l H kvs ws → ws.length = kvs.length
  | _, _, .nil => rfl
  | _, _, .cons h hr => by
    simp [RKV.len hr]
end
/-- what a dict holds at a key -/
def dget (a b : D) (S : Sto) : Option (Option D) := match a with
  | .cell i => match S.at_ i with
    | some (.dK kvs) => (keyD b).map (valD kvs)
    | some (.dT kvs) => (keyT b).map (valD kvs)
    | some (.lkK kvs) => (keyD b).map (valD kvs)
    | some (.lkT kvs) => (keyT b).map (valD kvs)
    | _ => none
  | _ => none
theorem dget_ok {C : Ctx} {S : Sto} {l : Lay} {H : Hp} {a b : D} {x y : V} {o : Option D} (r : Rel C l S H) (ha : RD C.K l H a x) (hb : RD C.K l H b y) (e : dget a b S = some o) :
    ∃ p ov, x = .ref p ∧ DGet H p y ov ∧ RO C.K l H o ov := by
  cases a <;> simp only [dget] at e <;> try cases e
  rename_i i
  obtain ⟨p, rfl, hp⟩ := ha
  split at e
  · rename_i kvs hS
    obtain ⟨k, hk, rfl⟩ := Option.map_eq_some_iff.mp e
    obtain ⟨p', hp', ws, hw, hkv⟩ := r.cells i _ hS
    rw [hp] at hp'
    cases hp'
    have hv := RKV.val k hkv
    refine ⟨p, valV ws k, rfl, .inl ⟨ws, k, .inl hw, RD.key hb hk, rfl⟩, hv⟩
  · rename_i kvs hS
    obtain ⟨k, hk, rfl⟩ := Option.map_eq_some_iff.mp e
    obtain ⟨p', hp', ws, hw, hkv⟩ := r.cells i _ hS
    rw [hp] at hp'
    cases hp'
    have hv := RKV.val k hkv
    cases b <;> simp only [keyT] at hk <;> try cases hk
    obtain ⟨q0, us, rfl, tq, hus⟩ := hb
    have ek := RDs.keys hus hk
    subst ek
    refine ⟨p, valV ws k, rfl, .inr ⟨ws, k, q0, .inl hw, rfl, tq, rfl⟩, hv⟩
  · rename_i kvs hS
    obtain ⟨k, hk, rfl⟩ := Option.map_eq_some_iff.mp e
    obtain ⟨p', hp', o0, ws, _, hw, hkv⟩ := r.cells i _ hS
    rw [hp] at hp'
    cases hp'
    have hv := RKV.val k hkv
    refine ⟨p, valV ws k, rfl, .inl ⟨ws, k, .inr ⟨o0, hw⟩, RD.key hb hk, rfl⟩, hv⟩
  · rename_i kvs hS
    obtain ⟨k, hk, rfl⟩ := Option.map_eq_some_iff.mp e
    obtain ⟨p', hp', o0, ws, _, hw, hkv⟩ := r.cells i _ hS
    rw [hp] at hp'
    cases hp'
    have hv := RKV.val k hkv
    cases b <;> simp only [keyT] at hk <;> try cases hk
    obtain ⟨q0, us, rfl, tq, hus⟩ := hb
    have ek := RDs.keys hus hk
    subst ek
    refine ⟨p, valV ws k, rfl, .inr ⟨ws, k, q0, .inr ⟨o0, hw⟩, rfl, tq, rfl⟩, hv⟩
  · cases e
/-- a dict with one more entry -/
def dput (a b d : D) (S : Sto) : Option Sto := match a with
  | .cell i => match S.at_ i with
    | some (.dK kvs) => if kvs.length < sizeLine then (keyD b).map fun k => S.set i (.dK (putD kvs k d)) else none
    | some (.dT kvs) => if kvs.length < sizeLine then (keyT b).map fun k => S.set i (.dT (putD kvs k d)) else none
    | _ => none
  | _ => none
theorem dput_ok {C : Ctx} {S S' : Sto} {l : Lay} {H : Hp} {a b d : D} {x y v : V} (r : Rel C l S H) (ha : RD C.K l H a x) (hb : RD C.K l H b y) (hd : RD C.K l H d v) (e : dput a b d S = some S') :
    ∃ p H', x = .ref p ∧ DPut H p y v H' ∧ Ext l H l H' ∧ Rel C l S' H' := by
  cases a <;> simp only [dput] at e <;> try cases e
  rename_i i
  obtain ⟨p, rfl, hp⟩ := ha
  split at e
  · rename_i kvs hS
    split at e
    · rename_i hl
      obtain ⟨k, hk, rfl⟩ := Option.map_eq_some_iff.mp e
      obtain ⟨p', hp', ws, hw, hkv⟩ := r.cells i _ hS
      rw [hp] at hp'
      cases hp'
      have x1 := ext_set (o := .dK (putK ws k v)) r hp
      exact ⟨p, _, rfl, .inl ⟨ws, k, hw, RD.key hb hk, by rw [hkv.len]; exact hl, rfl⟩, x1, rel_set r hp ⟨_, upd_same, RKV.mono x1 (hkv.put hd)⟩⟩
    · cases e
  · rename_i kvs hS
    split at e
    · rename_i hl
      obtain ⟨k, hk, rfl⟩ := Option.map_eq_some_iff.mp e
      obtain ⟨p', hp', ws, hw, hkv⟩ := r.cells i _ hS
      rw [hp] at hp'
      cases hp'
      cases b <;> simp only [keyT] at hk <;> try cases hk
      obtain ⟨q0, us, rfl, tq, hus⟩ := hb
      have ek := RDs.keys hus hk
      subst ek
      have x1 := ext_set (o := .dT (putK ws k v)) r hp
      exact ⟨p, _, rfl, .inr ⟨ws, k, q0, hw, rfl, tq, by rw [hkv.len]; exact hl, rfl⟩, x1, rel_set r hp ⟨_, upd_same, RKV.mono x1 (hkv.put hd)⟩⟩
    · cases e
  · cases e
/-! ### in -/
def flatD : D → Bool
  | .non => true
  | .bl _ => true
  | .int _ => true
  | .str _ => true
  | _ => false
def inSeq (a : D) (ds : List D) : Bool := ds.any fun y => PyData.eqv (py y) (py a)
def inD (neg : Bool) (a b : D) (S : Sto) : Option D := match dget b a S with
  | some o => some (.bl (neg != o.isSome))
  | none => match top1 S b with
    | .lst ds => if flatD a && ds.all flatD then some (.bl (neg != inSeq a ds)) else none
    | .tup ds => if flatD a && ds.all flatD then some (.bl (neg != inSeq a ds)) else none
    | .ktup ds => if flatD a && ds.all flatD then some (.bl (neg != inSeq a ds)) else none
    | .str s => match a with
      | .str c => if c.cps.size = 1 then some (.bl (neg != decide (c.cps.toList.getD 0 0 ∈ s.cps.toList))) else none
      | _ => none
    | _ => none
theorem flat_rd {K : PySem.W.Frag} {l : Lay} {H : Hp} {d : D} {v : V} (h : RD K l H d v) (f : flatD d = true) : flatV v = true := by
  cases d <;> simp only [flatD] at f <;> try cases f
  · cases h; rfl
  · cases h; rfl
  · cases h; rfl
  · cases h.1; rfl
theorem eq_rd {K : PySem.W.Frag} {l : Lay} {H : Hp} {d e : D} {v w : V} (h : RD K l H d v) (h' : RD K l H e w) (f : flatD d = true) (f' : flatD e = true) : eqV v w = PyData.eqv (py d) (py e) := by
  cases d <;> simp only [flatD] at f <;> (try cases f) <;> cases e <;> simp only [flatD] at f' <;> (try cases f') <;> simp only [RD] at h h' <;> (try subst h) <;> (try subst h') <;>
    (try obtain ⟨rfl, _⟩ := h) <;> (try obtain ⟨rfl, _⟩ := h') <;> simp [eqV, py, PyData.eqv]
theorem in_rd {K : PySem.W.Frag} {l : Lay} {H : Hp} {d : D} {v : V} (h : RD K l H d v) (f : flatD d = true) : ∀ {ds : List D} {vs : List V}, RDs K l H ds vs → ds.all flatD = true → vs.all flatV = true ∧ inV v vs = inSeq d ds
  | [], vs, hs, _ => by
    cases hs
    exact ⟨rfl, rfl⟩
  | e :: r, vs, hs, fs => by
    obtain ⟨w, ws, rfl, h1, h2⟩ := hs
    rw [List.all_cons] at fs
    obtain ⟨f1, f2⟩ := Bool.and_eq_true_iff.mp fs
    obtain ⟨i1, i2⟩ := in_rd h f h2 f2
    refine ⟨by rw [List.all_cons, flat_rd h1 f1, i1]; rfl, ?_⟩
    unfold inV inSeq at i2 ⊢
    rw [List.any_cons, List.any_cons, i2, eq_rd h1 h f1 f]
section
variable {X : Cx} {C : Ctx} (hK : C.K = X.K) (hu : X.A.units + 1 < cLine)
include hK hu
theorem neg_if (neg b : Bool) : (if neg then !b else b) = (neg != b) := by cases neg <;> cases b <;> rfl
theorem vo_in (neg : Bool) : OpR X (compareOp (if neg then .NotIn else .In)) (rB C (inD neg)) := by
  intro pins s σ H x y v u Q I rx ry h
  obtain ⟨S, l, a, b, d, hr, ha, hb, hg, hp⟩ := h
  unfold inD at hg
  split at hg
  · rename_i o ho
    cases hg
    obtain ⟨p, ov, rfl, dg, hov⟩ := dget_ok hr hb ha ho
    cases ry
    have eo : ov.isSome = o.isSome := by
      cases o with
      | none =>
        have e : ov = none := hov
        rw [e]
        rfl
      | some d =>
        obtain ⟨w, e, _⟩ := hov
        rw [e]
        rfl
    cases neg with
    | false =>
      refine d_in hu I dg rx fun s' I' => ⟨.bl (false != o.isSome), H, I', ?_, hp.now hr rfl⟩
      rw [eo]
      cases o.isSome <;> rfl
    | true =>
      refine d_notIn hu I dg rx fun s' I' => ⟨.bl (true != o.isSome), H, I', ?_, hp.now hr rfl⟩
      rw [eo]
      cases o.isSome <;> rfl
  · rename_i ho
    have b1 := RD1.top hr hb
    generalize top1 S b = b' at b1 hg
    have fin : ∀ (ds : List D) (vs : List V) (p : Addr), y = .ref p → (SqL X.K H p vs ∨ SqT X.K H p vs) → RDs C.K l H ds vs → (if (flatD a && ds.all flatD) = true then some (D.bl (neg != inSeq a ds)) else none) = some d → wpAny (model X.prog X.w) X.A (compareOp (if neg then .NotIn else .In) v u) (EP X pins σ Q) X.xe s := by
      intro ds vs p e hS hR hh
      subst e
      split at hh
      · rename_i hf
        obtain ⟨f1, f2⟩ := Bool.and_eq_true_iff.mp hf
        obtain ⟨i1, i2⟩ := in_rd ha f1 hR f2
        cases hh
        cases neg with
        | false => exact op_in_seq pins s σ H _ _ v u Q I rx ry ⟨p, vs, rfl, hS, flat_rd ha f1, i1, hp.now hr (by rw [i2]; cases inSeq a ds <;> rfl)⟩
        | true => exact op_notIn_seq pins s σ H _ _ v u Q I rx ry ⟨p, vs, rfl, hS, flat_rd ha f1, i1, hp.now hr (by rw [i2]; cases inSeq a ds <;> rfl)⟩
      · cases hh
    cases b' <;> simp only at hg <;> try cases hg
    · split at hg
      · split at hg
        · rename_i z c hc
          cases hg
          cases b1 with
          | of b1 =>
            obtain ⟨rfl, _⟩ := b1
            obtain ⟨rfl, _⟩ := ha
            obtain ⟨ch, hch⟩ : ∃ ch, c = ⟨#[ch]⟩ := by
              obtain ⟨⟨cl⟩⟩ := c
              have hl : cl.length = 1 := hc
              match cl, hl with
              | [ch], _ => exact ⟨ch, rfl⟩
            subst hch
            cases neg with
            | false => exact op_in_sign pins s σ H _ _ v u Q I rx ry ⟨ch, _, rfl, rfl, hp.now hr (by show V.bl _ = V.bl _; congr 1; simp)⟩
            | true => exact op_notIn_sign pins s σ H _ _ v u Q I rx ry ⟨ch, _, rfl, rfl, hp.now hr (by show V.bl _ = V.bl _; congr 1; simp)⟩
        · cases hg
      · cases hg
    · cases b1 with
      | of b1 =>
        obtain ⟨p, vs, rfl, tp, hv⟩ := b1
        exact fin _ vs p rfl (.inr (hK ▸ tp.sq)) hv hg
    · obtain ⟨p, vs, rfl, tp, hv⟩ := RD1.sq hK b1
      exact fin _ vs p rfl (.inl (hK ▸ tp)) hv hg
    · cases b1 with
      | of b1 =>
        obtain ⟨p, vs, rfl, tp, hv⟩ := b1
        exact fin _ vs p rfl (.inr (.inr (hK ▸ tp))) hv hg
end
end Pyx
/-! expressions -/
namespace Pyx
open PySem PySem.Spec PyProof.Rows L2
section
variable {C : Ctx} {W : WX} {s : L2.St} {l : Lay} {H : Hp} {e : Env'} {S : Sto}
theorem Tmono {m : EM} {G G' : VK} (h : T C W m s H G) (k : ∀ v H1, G v H1 → G' v H1) : T C W m s H G' := by
  obtain ⟨e, S, l, he, hr, hp⟩ := h
  exact ⟨e, S, l, he, hr, hp.imp fun H' l' a S' _ _ q v hv => k v H' (q v hv)⟩
theorem TTmono {m : TM} {G G' : Bool → Hp → Prop} (h : TT' C W m s H G) (k : ∀ v H1, G v H1 → G' v H1) : TT' C W m s H G' := by
  obtain ⟨e, S, l, he, hr, hp⟩ := h
  exact ⟨e, S, l, he, hr, hp.imp fun H' l' a S' _ _ q => k a H' q⟩
theorem TAmono {m : AM} {G G' : List V → Hp → Prop} (h : TA' C W m s H G) (k : ∀ v H1, G v H1 → G' v H1) : TA' C W m s H G' := by
  obtain ⟨e, S, l, he, hr, hp⟩ := h
  exact ⟨e, S, l, he, hr, hp.imp fun H' l' a S' _ _ q v hv => k v H' (q v hv)⟩
/-- where a part stands, and what is left to be met -/
structure Stt (C : Ctx) (W : WX) (e : Env') (s : L2.St) (l : Lay) (S : Sto) (H : Hp) : Prop where
  env : EnvR C.K l H e s
  rel : Rel C l S H
theorem T_run {B : Type} {RA : Lay → Hp → B → Prop} {m : EM} {f : D → Sto → Out B} (he : EnvR C.K l H e s) (hr : Rel C l S H) (hp : Post C W RA s l H ((m e S).bind f)) :
    T C W m s H fun v H1 => ∃ l1 d S1, EnvR C.K l1 H1 e s ∧ Rel C l1 S1 H1 ∧ Ext l H l1 H1 ∧ RD C.K l1 H1 d v ∧ Post C W RA s l1 H1 (f d S1) :=
  ⟨e, S, l, he, hr, Post.bind hp fun H1 l1 d S1 x r p v hv => ⟨l1, d, S1, he.mono x, r, x, hv, p⟩⟩
theorem TT_run {B : Type} {RA : Lay → Hp → B → Prop} {m : TM} {f : Bool → Sto → Out B} (he : EnvR C.K l H e s) (hr : Rel C l S H) (hp : Post C W RA s l H ((m e S).bind f)) :
    TT' C W m s H fun b H1 => ∃ l1 S1, EnvR C.K l1 H1 e s ∧ Rel C l1 S1 H1 ∧ Ext l H l1 H1 ∧ Post C W RA s l1 H1 (f b S1) :=
  ⟨e, S, l, he, hr, Post.bind hp fun H1 l1 d S1 x r p => ⟨l1, S1, he.mono x, r, x, p⟩⟩
theorem TA_run {B : Type} {RA : Lay → Hp → B → Prop} {m : AM} {f : List D → Sto → Out B} (he : EnvR C.K l H e s) (hr : Rel C l S H) (hp : Post C W RA s l H ((m e S).bind f)) :
    TA' C W m s H fun vs H1 => ∃ l1 ds S1, EnvR C.K l1 H1 e s ∧ Rel C l1 S1 H1 ∧ Ext l H l1 H1 ∧ RDs C.K l1 H1 ds vs ∧ Post C W RA s l1 H1 (f ds S1) :=
  ⟨e, S, l, he, hr, Post.bind hp fun H1 l1 d S1 x r p v hv => ⟨l1, d, S1, he.mono x, r, x, hv, p⟩⟩
end
/-- an option as an outcome -/
def ofO {A : Type} (o : Option A) (S : Sto) : Out A := match o with
  | some a => .ok a S
  | none => .bad
theorem post_ofO {A : Type} {C : Ctx} {W : WX} {RA : Lay → Hp → A → Prop} {s : L2.St} {l : Lay} {H : Hp} {S : Sto} {o : Option A} (h : Post C W RA s l H (ofO o S)) : ∃ a, o = some a ∧ ∀ H' l', Ext l H l' H' → Rel C l' S H' → RA l' H' a := by
  cases o with
  | none => exact h.elim
  | some a => exact ⟨a, rfl, h⟩
theorem VPost.of {C : Ctx} {S : Sto} {l : Lay} {H : Hp} {d : D} {Q : VK} (h : ∀ H' l', Ext l H l' H' → Rel C l' S H' → QE C Q l' H' d) : VPost C S l H d Q := fun H' l' x r v hv => h H' l' x r v hv
/-! ### the meanings -/
def varM (i : Nat) : EM := fun e S => match e[i]? with
  | some (some d) => .ok d S
  | _ => .bad
def cM (d : D) : EM := fun _ S => .ok d S
def badE : EM := fun _ _ => .bad
def binM (g : D → D → Sto → Option D) (a b : EM) : EM := fun e S => (a e S).bind fun x S1 => (b e S1).bind fun y S2 => ofO (g x y S2) S2
def chainM (g g' : D → D → Sto → Option D) (a b c : EM) : EM := fun e S => (a e S).bind fun x S1 => (b e S1).bind fun y S2 => (ofO (g x y S2) S2).bind fun z S3 => match z with
  | .bl true => (c e S3).bind fun u S4 => ofO (g' y u S4) S4
  | .bl false => .ok (.bl false) S3
  | _ => .bad
def boolOf : D → Option Bool
  | .bl b => some b
  | _ => none
def tstM (a : EM) : TM := fun e S => (a e S).bind fun x S1 => ofO (boolOf x) S1
def notM (t : TM) : TM := fun e S => (t e S).bind fun b S1 => .ok (!b) S1
def andM (t u : TM) : TM := fun e S => (t e S).bind fun b S1 => if b = true then u e S1 else .ok false S1
def orM (t u : TM) : TM := fun e S => (t e S).bind fun b S1 => if b = true then .ok true S1 else u e S1
def blM (t : TM) : EM := fun e S => (t e S).bind fun b S1 => .ok (.bl b) S1
def ifM (t : TM) (a b : EM) : EM := fun e S => (t e S).bind fun c S1 => if c = true then a e S1 else b e S1
def nilM : AM := fun _ S => .ok [] S
def consM (a : EM) (r : AM) : AM := fun e S => (a e S).bind fun x S1 => (r e S1).bind fun xs S2 => .ok (x :: xs) S2
def tupM (t : AM) : EM := fun e S => (t e S).bind fun xs S1 => if xs.length ≤ 1000 then .ok (.tup xs) S1 else .bad
def lstM (t : AM) : EM := fun e S => (t e S).bind fun xs S1 => if xs.length ≤ 1000 then .ok (.lst xs) S1 else .bad
/-- a new cell under an address: that of an attribute, if it is free; else the next one -/
def newId (h : Option Id) (S : Sto) : Id := match h with
  | some i => match S.at_ i with
    | none => i
    | some _ => .obj 0 S.nx
  | none => .obj 0 S.nx
def alloc (h : Option Id) (c : Cell) (S : Sto) : Out D := match S.at_ (newId h S) with
  | some _ => .bad
  | none => .ok (.cell (newId h S)) (S.bump.set (newId h S) c)
def subM (a b : EM) : EM := fun e S => (a e S).bind fun x S1 => (b e S1).bind fun y S2 => match dget x y S2 with
  | some o => ofO o S2
  | none => ofO (ixD x y S2) S2
/-- a part of a slice -/
abbrev OM := Env' → Sto → Out (Option Int)
def noPart : OM := fun _ S => .ok none S
def partM (a : EM) : OM := fun e S => (a e S).bind fun x S1 => match x with
  | .int i => .ok (some i) S1
  | _ => .bad
def sliceM (a : EM) (lo hi : OM) : EM := fun e S => (a e S).bind fun x S1 => (lo e S1).bind fun p S2 => (hi e S2).bind fun q S3 => ofO (slD x p q S3) S3
def fldD (f : Nat) (x : D) (S : Sto) : Option D := match x with
  | .cell i => match S.at_ i with
    | some (.ins _ fs) => fs.lookup f
    | _ => none
  | _ => none
def fldM (f : Nat) (a : EM) : EM := fun e S => (a e S).bind fun x S1 => ofO (fldD f x S1) S1
def revM (a : EM) : EM := fun e S => (a e S).bind fun x S1 => match top1 S1 x with
  | .lst ds => .ok (.lst ds.reverse) S1
  | _ => .bad
section
variable {X : Cx} {C : Ctx} {W : WX} (hK : C.K = X.K)
theorem sd_var {i : Nat} {x : Str} {pos : Pos} (hN : X.N[i]? = some x) (hv : Vis X.env.scope x) (hd : (x == ("__debug__" : Str)) = false) (hcd : (x == ("__classdict__" : Str)) = false) : PE X (.Name x pos) (T C W (varM i)) := by
  refine PEmono (pe_var hN hv hd hcd) fun s H Q h => ?_
  obtain ⟨e, S, l, he, hr, hp⟩ := h
  unfold varM at hp
  split at hp
  · rename_i d hd
    obtain ⟨v, hv, rd⟩ := he.2 i d hd
    exact ⟨v, hv, Post.pure hr hp v rd⟩
  · exact hp.elim
theorem sd_val {v : V} {d : D} {ex : Expr} (h : PE X ex (tC v)) (rd : ∀ l H, RD C.K l H d v) : PE X ex (T C W (cM d)) := by
  refine PEmono h fun s H Q h => ?_
  obtain ⟨e, S, l, he, hr, hp⟩ := h
  exact Post.pure hr hp v (rd l H)
theorem sd_bin {op : Operator} {g : D → D → Sto → Option D} {a b : Expr} {ma mb : EM} {pos : Pos} (ho : OpR X (binaryOp op) (rB C g)) (ha : PE X a (T C W ma)) (hb : PE X b (T C W mb)) : PE X (.BinOp a op b pos) (T C W (binM g ma mb)) := by
  refine PEmono (pe_op ho ha hb) fun s H Q h => ?_
  obtain ⟨e, S, l, he, hr, hp⟩ := h
  refine Tmono (T_run he hr hp) fun v H1 ⟨l1, d1, S1, he1, hr1, x1, hd1, hp1⟩ => Tmono (T_run he1 hr1 hp1) fun w H2 ⟨l2, d2, S2, he2, hr2, x2, hd2, hp2⟩ => ?_
  obtain ⟨d, hg, hp2⟩ := post_ofO hp2
  exact ⟨S2, l2, d1, d2, d, hr2, RD.mono x2 _ _ hd1, hd2, hg, VPost.of hp2⟩
theorem sd_cmp {op : CmpOp} {g : D → D → Sto → Option D} {a b : Expr} {ma mb : EM} {pos : Pos} (ho : OpR X (compareOp op) (rB C g)) (ha : PE X a (T C W ma)) (hb : PE X b (T C W mb)) (hm : behindInMarks op b = false) : PE X (.Compare a [op] [b] pos) (T C W (binM g ma mb)) := by
  refine PEmono (pe_cmpR ho ha hb hm) fun s H Q h => ?_
  obtain ⟨e, S, l, he, hr, hp⟩ := h
  refine Tmono (T_run he hr hp) fun v H1 ⟨l1, d1, S1, he1, hr1, x1, hd1, hp1⟩ => Tmono (T_run he1 hr1 hp1) fun w H2 ⟨l2, d2, S2, he2, hr2, x2, hd2, hp2⟩ => ?_
  obtain ⟨d, hg, hp2⟩ := post_ofO hp2
  exact ⟨S2, l2, d1, d2, d, hr2, RD.mono x2 _ _ hd1, hd2, hg, VPost.of hp2⟩
theorem boolOf_rd {K : PySem.W.Frag} {l : Lay} {H : Hp} {d : D} {v : V} {b : Bool} (h : RD K l H d v) (e : boolOf d = some b) : v = .bl b := by
  cases d <;> simp only [boolOf] at e <;> cases e
  exact h
theorem sdt_cmp {op : CmpOp} {g : D → D → Sto → Option D} {a b : Expr} {ma mb : EM} {pos : Pos} (ho : OpR X (compareOp op) (rB C g)) (ha : PE X a (T C W ma)) (hb : PE X b (T C W mb)) (hm : behindInMarks op b = false) : PT X (.Compare a [op] [b] pos) (TT' C W (tstM (binM g ma mb))) := by
  refine PTmono (pt_cmpR ho ha hb hm) fun s H Q h => ?_
  obtain ⟨e, S, l, he, hr, hp⟩ := h
  unfold tstM binM at hp
  have assoc : ∀ {A B D' : Type} (o : Out A) (f : A → Sto → Out B) (g : B → Sto → Out D'), (o.bind f).bind g = o.bind fun a S => (f a S).bind g := fun o f g => by cases o <;> rfl
  rw [assoc] at hp
  refine Tmono (T_run he hr hp) fun v H1 ⟨l1, d1, S1, he1, hr1, x1, hd1, hp1⟩ => ?_
  rw [assoc] at hp1
  refine Tmono (T_run he1 hr1 hp1) fun w H2 ⟨l2, d2, S2, he2, hr2, x2, hd2, hp2⟩ => ?_
  cases hg : g d1 d2 S2 with
  | none =>
    rw [hg] at hp2
    exact hp2.elim
  | some d =>
    rw [hg] at hp2
    obtain ⟨b, hb, hp3⟩ := post_ofO (show Post C W (QT Q) s l2 H2 (ofO (boolOf d) S2) from hp2)
    exact ⟨S2, l2, d1, d2, d, hr2, RD.mono x2 _ _ hd1, hd2, hg, fun H' l' x r v hv => ⟨b, boolOf_rd hv hb, hp3 H' l' x r⟩⟩
theorem out_assoc {A B D' : Type} (o : Out A) (f : A → Sto → Out B) (g : B → Sto → Out D') : (o.bind f).bind g = o.bind fun a S => (f a S).bind g := by cases o <;> rfl
theorem sd_chain {op op' : CmpOp} {g g' : D → D → Sto → Option D} {a b c : Expr} {ma mb mc : EM} {pos : Pos} (ho : OpR X (compareOp op) (rB C g)) (ho' : OpR X (compareOp op') (rB C g')) (ha : PE X a (T C W ma)) (hb : PE X b (T C W mb)) (hc : PE X c (T C W mc))
    (hm : lastMarks [op, op'] [b, c] = false) : PE X (.Compare a [op, op'] [b, c] pos) (T C W (chainM g g' ma mb mc)) := by
  refine PEmono (pe_chain ho ho' ha hb hc hm) fun s H Q h => ?_
  obtain ⟨e, S, l, he, hr, hp⟩ := h
  refine Tmono (T_run he hr hp) fun v H1 ⟨l1, d1, S1, he1, hr1, x1, hd1, hp1⟩ => Tmono (T_run he1 hr1 hp1) fun w H2 ⟨l2, d2, S2, he2, hr2, x2, hd2, hp2⟩ => ?_
  cases hg : g d1 d2 S2 with
  | none =>
    rw [hg] at hp2
    exact hp2.elim
  | some d =>
    rw [hg] at hp2
    refine ⟨S2, l2, d1, d2, d, hr2, RD.mono x2 _ _ hd1, hd2, hg, fun H3 l3 x3 hr3 z hz => ?_⟩
    have hp3 := Post.mono hp2 x3 hr3
    cases d with
    | bl k =>
      cases hz
      refine ⟨k, rfl, ?_⟩
      cases k with
      | true =>
        rw [if_pos rfl]
        refine Tmono (T_run (he2.mono x3) hr3 (show Post C W (QE C Q) s l3 H3 ((mc e S2).bind _) from hp3)) fun u H4 ⟨l4, d4, S4, he4, hr4, x4, hd4, hp4⟩ => ?_
        obtain ⟨d, hg', hp4⟩ := post_ofO hp4
        exact ⟨S4, l4, d2, d4, d, hr4, RD.mono x4 _ _ (RD.mono x3 _ _ hd2), hd4, hg', VPost.of hp4⟩
      | false =>
        rw [if_neg Bool.false_ne_true]
        exact Post.pure hr3 (show Post C W (QE C Q) s l3 H3 (.ok (.bl false) S2) from hp3) _ rfl
    | _ => exact hp3.elim
/-- a value that is a bool, as a test -/
theorem sdt_val {ex : Expr} {m : EM} (h : PE X ex (T C W m)) (he : ∀ whole, isTrue ex X.env whole = (do let v ← whole; standAt ex.pos; holding [v] (truthy v))) : PT X ex (TT' C W (tstM m)) := by
  refine PTmono (pt_val h he) fun s H Q h => ?_
  obtain ⟨e, S, l, he, hr, hp⟩ := h
  refine Tmono (T_run he hr hp) fun v H1 ⟨l1, d1, S1, he1, hr1, x1, hd1, hp1⟩ => ?_
  obtain ⟨b, hb, hp1⟩ := post_ofO hp1
  exact ⟨b, boolOf_rd hd1 hb, hp1 H1 l1 (Ext.refl _ _) hr1⟩
theorem sdt_not {ex : Expr} {pos : Pos} {m : TM} (h : PT X ex (TT' C W m)) : PT X (.UnaryOp .Not ex pos) (TT' C W (notM m)) := by
  refine PTmono (pt_not h) fun s H Q h => ?_
  obtain ⟨e, S, l, he, hr, hp⟩ := h
  exact TTmono (TT_run he hr hp) fun b H1 ⟨l1, S1, he1, hr1, x1, hp1⟩ => Post.pure hr1 hp1
theorem sdw_one {ex : Expr} {pos : Pos} {op : BoolOp} {m : TM} (h : PT X ex (TT' C W m)) : PW X (.BoolOp op [ex] pos) (TT' C W m) := by
  cases op with
  | And => exact pw_and1 h
  | Or => exact pw_or1 h
theorem sdw_and {a b : Expr} {rest : List Expr} {pos : Pos} {ma mb : TM} (ha : PT X a (TT' C W ma)) (hb : PW X (.BoolOp .And (b :: rest) pos) (TT' C W mb)) : PW X (.BoolOp .And (a :: b :: rest) pos) (TT' C W (andM ma mb)) := by
  have h0 := pw_and ha hb
  refine ⟨fun whole pins s σ H Q I h => h0.run whole pins s σ H Q I ?_⟩
  obtain ⟨e, S, l, he, hr, hp⟩ := h
  refine TTmono (TT_run he hr hp) fun c H1 ⟨l1, S1, he1, hr1, x1, hp1⟩ => ?_
  cases c with
  | true => exact iteT ⟨e, S1, l1, he1, hr1, hp1⟩
  | false => exact iteF (Post.pure hr1 (show Post C W (QT Q) σ l1 H1 (.ok false S1) from hp1))
theorem sdw_or {a b : Expr} {rest : List Expr} {pos : Pos} {ma mb : TM} (ha : PT X a (TT' C W ma)) (hb : PW X (.BoolOp .Or (b :: rest) pos) (TT' C W mb)) : PW X (.BoolOp .Or (a :: b :: rest) pos) (TT' C W (orM ma mb)) := by
  have h0 := pw_or ha hb
  refine ⟨fun whole pins s σ H Q I h => h0.run whole pins s σ H Q I ?_⟩
  obtain ⟨e, S, l, he, hr, hp⟩ := h
  refine TTmono (TT_run he hr hp) fun c H1 ⟨l1, S1, he1, hr1, x1, hp1⟩ => ?_
  cases c with
  | true => exact iteT (Post.pure hr1 (show Post C W (QT Q) σ l1 H1 (.ok true S1) from hp1))
  | false => exact iteF ⟨e, S1, l1, he1, hr1, hp1⟩
/-- and, or, not as values of bools -/
def andV (a b : EM) : EM := fun e S => (a e S).bind fun x S1 => match x with
  | .bl true => b e S1
  | .bl false => .ok (.bl false) S1
  | _ => .bad
def orV (a b : EM) : EM := fun e S => (a e S).bind fun x S1 => match x with
  | .bl true => .ok (.bl true) S1
  | .bl false => b e S1
  | _ => .bad
def notV (a : EM) : EM := fun e S => (a e S).bind fun x S1 => match x with
  | .bl b => .ok (.bl (!b)) S1
  | _ => .bad
theorem sd_andV {a b : Expr} {rest : List Expr} {pos : Pos} {ma mb : EM} (ha : PE X a (T C W ma)) (hb : PE X (.BoolOp .And (b :: rest) pos) (T C W mb)) : PE X (.BoolOp .And (a :: b :: rest) pos) (T C W (andV ma mb)) := by
  refine PEmono (pe_and ha hb) fun s H Q h => ?_
  obtain ⟨e, S, l, he, hr, hp⟩ := h
  refine Tmono (T_run he hr hp) fun c H1 ⟨l1, d1, S1, he1, hr1, x1, hd1, hp1⟩ => ?_
  cases d1 with
  | bl k =>
    cases hd1
    refine ⟨k, rfl, ?_⟩
    cases k with
    | true => exact iteT ⟨e, S1, l1, he1, hr1, hp1⟩
    | false => exact iteF (Post.pure hr1 (show Post C W (QE C Q) s l1 H1 (.ok (.bl false) S1) from hp1) _ rfl)
  | _ => exact hp1.elim
theorem sd_orV {a b : Expr} {rest : List Expr} {pos : Pos} {ma mb : EM} (ha : PE X a (T C W ma)) (hb : PE X (.BoolOp .Or (b :: rest) pos) (T C W mb)) : PE X (.BoolOp .Or (a :: b :: rest) pos) (T C W (orV ma mb)) := by
  refine PEmono (pe_or ha hb) fun s H Q h => ?_
  obtain ⟨e, S, l, he, hr, hp⟩ := h
  refine Tmono (T_run he hr hp) fun c H1 ⟨l1, d1, S1, he1, hr1, x1, hd1, hp1⟩ => ?_
  cases d1 with
  | bl k =>
    cases hd1
    refine ⟨k, rfl, ?_⟩
    cases k with
    | true => exact iteT (Post.pure hr1 (show Post C W (QE C Q) s l1 H1 (.ok (.bl true) S1) from hp1) _ rfl)
    | false => exact iteF ⟨e, S1, l1, he1, hr1, hp1⟩
  | _ => exact hp1.elim
theorem sd_notV {a : Expr} {pos : Pos} {ma : EM} (ha : PE X a (T C W ma)) : PE X (.UnaryOp .Not a pos) (T C W (notV ma)) := by
  refine PEmono (pe_not ha) fun s H Q h => ?_
  obtain ⟨e, S, l, he, hr, hp⟩ := h
  refine Tmono (T_run he hr hp) fun c H1 ⟨l1, d1, S1, he1, hr1, x1, hd1, hp1⟩ => ?_
  cases d1 with
  | bl k =>
    cases hd1
    exact ⟨k, rfl, Post.pure hr1 (show Post C W (QE C Q) s l1 H1 (.ok (.bl (!k)) S1) from hp1) _ rfl⟩
  | _ => exact hp1.elim
theorem sd_if {c a b : Expr} {pos : Pos} {mc : TM} {ma mb : EM} (hc : PT X c (TT' C W mc)) (ha : PE X a (T C W ma)) (hb : PE X b (T C W mb)) : PE X (.IfExp c a b pos) (T C W (ifM mc ma mb)) := by
  refine PEmono (pe_ifExp hc ha hb) fun s H Q h => ?_
  obtain ⟨e, S, l, he, hr, hp⟩ := h
  refine TTmono (TT_run he hr hp) fun c H1 ⟨l1, S1, he1, hr1, x1, hp1⟩ => ?_
  cases c with
  | true => exact iteT ⟨e, S1, l1, he1, hr1, hp1⟩
  | false => exact iteF ⟨e, S1, l1, he1, hr1, hp1⟩
theorem sda_nil : PA X [] (TA' C W nilM) := by
  refine PAmono pa_nil fun s H Q h => ?_
  obtain ⟨e, S, l, he, hr, hp⟩ := h
  exact Post.pure hr hp _ rfl
theorem sda_cons {a : Expr} {es : List Expr} {ma : EM} {mr : AM} (ha : PE X a (T C W ma)) (hr : PA X es (TA' C W mr)) (hs : starEach (a :: es) X.env = (false, eval a X.env) :: starEach es X.env) : PA X (a :: es) (TA' C W (consM ma mr)) := by
  refine PAmono (pa_cons ha hr hs) fun s H Q h => ?_
  obtain ⟨e, S, l, he, hr, hp⟩ := h
  refine Tmono (T_run he hr hp) fun v H1 ⟨l1, d1, S1, he1, hr1, x1, hd1, hp1⟩ => TAmono (TA_run he1 hr1 hp1) fun vs H2 ⟨l2, d2, S2, he2, hr2, x2, hd2, hp2⟩ => ?_
  exact Post.pure hr2 hp2 _ ⟨v, vs, rfl, RD.mono x2 _ _ hd1, hd2⟩
theorem line1000 {n : Nat} (h : n ≤ 1000) : n ≤ sizeLine := Nat.le_trans h (by decide)
theorem sd_tup {es : List Expr} {k : Nat} {pos : Pos} {m : AM} (h : PA X es (TA' C W m)) : PE X (.Tuple es k pos) (T C W (tupM m)) := by
  refine PEmono (pe_tup h) fun s H Q h => ?_
  obtain ⟨e, S, l, he, hr, hp⟩ := h
  refine TAmono (TA_run he hr hp) fun vs H1 ⟨l1, ds, S1, he1, hr1, x1, hd1, hp1⟩ => ?_
  split at hp1
  · rename_i hl
    exact ⟨by rw [hd1.length]; exact line1000 hl, fun p hp => (VPost.of hp1).tup hr1 hd1 hp⟩
  · exact hp1.elim
theorem sd_lst {es : List Expr} {pos : Pos} {m : AM} (h : PA X es (TA' C W m)) : PE X (.List es pos) (T C W (lstM m)) := by
  refine PEmono (pe_lst h) fun s H Q h => ?_
  obtain ⟨e, S, l, he, hr, hp⟩ := h
  refine TAmono (TA_run he hr hp) fun vs H1 ⟨l1, ds, S1, he1, hr1, x1, hd1, hp1⟩ => ?_
  split at hp1
  · rename_i hl
    exact ⟨by rw [hd1.length]; exact line1000 hl, fun p hp => (VPost.of hp1).lst hr1 hd1 hp⟩
  · exact hp1.elim
/-- a new cell's place -/
theorem alloc_ok {h : Option Id} {c : Cell} {S : Sto} {Q : VK} {s : L2.St} {l : Lay} {H : Hp} {p : Addr} {o : HO} (hp : Post C W (QE C Q) s l H (alloc h c S)) (hr : Rel C l S H) (hn : H p = none)
    (hc : ∀ l', Ext l H l' (upd H p o) → CellOk C l' (upd H p o) p c) : Q (.ref p) (upd H p o) := by
  unfold alloc at hp
  split at hp
  · exact hp.elim
  · rename_i hz
    have x := ext_add (i := newId h S) (o := o) hr hz hn
    have r := rel_add (i := newId h S) (o := o) (c := c) hr hz hn (hc _ x)
    exact hp _ _ x ⟨r.cells, r.dom, r.inj, r.nos⟩ _ ⟨p, rfl, Lay.add_same⟩
def lstC (h : Option Id) (t : AM) : EM := fun e S => (t e S).bind fun xs S1 => if xs.length ≤ 1000 then alloc h (.lst xs) S1 else .bad
theorem sd_lstC {es : List Expr} {pos : Pos} {m : AM} {i : Option Id} (h : PA X es (TA' C W m)) : PE X (.List es pos) (T C W (lstC i m)) := by
  refine PEmono (pe_lst h) fun s H Q h => ?_
  obtain ⟨e, S, l, he, hr, hp⟩ := h
  refine TAmono (TA_run he hr hp) fun vs H1 ⟨l1, ds, S1, he1, hr1, x1, hd1, hp1⟩ => ?_
  split at hp1
  · rename_i hl
    exact ⟨by rw [hd1.length]; exact line1000 hl, fun p hp => alloc_ok hp1 hr1 hp fun l' x => ⟨vs, upd_same, RDs.mono x _ _ hd1⟩⟩
  · exact hp1.elim
def dctK (h : Option Id) : EM := fun _ S => alloc h (.dK []) S
def dctT (h : Option Id) : EM := fun _ S => alloc h (.dT []) S
theorem sd_dctK {pos : Pos} {i : Option Id} : PE X (.Dict [] [] pos) (T C W (dctK i)) := by
  refine PEmono pe_dnewK fun s H Q h => ?_
  obtain ⟨e, S, l, he, hr, hp⟩ := h
  exact fun p hn => alloc_ok hp hr hn fun l' x => ⟨[], upd_same, .nil⟩
theorem sd_dctT {pos : Pos} {i : Option Id} : PE X (.Dict [] [] pos) (T C W (dctT i)) := by
  refine PEmono pe_dnewT fun s H Q h => ?_
  obtain ⟨e, S, l, he, hr, hp⟩ := h
  exact fun p hn => alloc_ok hp hr hn fun l' x => ⟨[], upd_same, .nil⟩
include hK
theorem sd_sub {a b : Expr} {pos : Pos} {ma mb : EM} (hu : X.A.units + 1 < cLine) (ha : PE X a (T C W ma)) (hb : PE X b (T C W mb)) (hs : PlainIx b) (hs' : NoSl b) : PE X (.Subscript a b pos) (T C W (subM ma mb)) := by
  have h1 := pe_ix (pos := pos) (vo_ix hK) ha hb hs
  have h2 := pe_dget (pos := pos) hu ha hb hs'
  refine ⟨fun pins s0 s H Q I h => ?_⟩
  obtain ⟨e, S, l, he, hr, hp⟩ := h
  by_cases hc : ∃ x S1 y S2 o, ma e S = .ok x S1 ∧ mb e S1 = .ok y S2 ∧ dget x y S2 = some o
  · obtain ⟨x, S1, y, S2, o, e1, e2, e3⟩ := hc
    refine h2.run pins s0 s H Q I ?_
    refine ⟨e, S, l, he, hr, ?_⟩
    rw [e1]
    intro H1 l1 x1 r1 v hv
    refine ⟨e, S1, l1, he.mono x1, r1, ?_⟩
    rw [e2]
    intro H2 l2 x2 r2 w hw
    obtain ⟨p, ov, rfl, dg, hov⟩ := dget_ok r2 (RD.mono x2 _ _ hv) hw e3
    unfold subM at hp
    rw [e1] at hp
    have hp' : Post C W (QE C Q) s l H ((mb e S1).bind fun y S2 => match dget x y S2 with
      | some o => ofO o S2
      | none => ofO (ixD x y S2) S2) := hp
    rw [e2] at hp'
    have hp2 : Post C W (QE C Q) s l H (match dget x y S2 with
      | some o => ofO o S2
      | none => ofO (ixD x y S2) S2) := hp'
    rw [e3] at hp2
    obtain ⟨d, rfl, hp3⟩ := post_ofO hp2
    obtain ⟨v', rfl, hd⟩ := hov
    exact ⟨p, v', rfl, dg, hp3 H2 l2 (x1.thru x2 r1) r2 _ hd⟩
  · refine h1.run pins s0 s H Q I ?_
    have hp' : Post C W (QE C Q) s l H (binM ixD ma mb e S) := by
      unfold subM at hp
      unfold binM
      cases e1 : ma e S with
      | bad => rw [e1] at hp; exact hp
      | exc x S1 => rw [e1] at hp; exact hp
      | ok x S1 =>
        rw [e1] at hp
        have hp2 : Post C W (QE C Q) s l H ((mb e S1).bind fun y S2 => match dget x y S2 with
          | some o => ofO o S2
          | none => ofO (ixD x y S2) S2) := hp
        show Post C W (QE C Q) s l H ((mb e S1).bind fun y S2 => ofO (ixD x y S2) S2)
        cases e2 : mb e S1 with
        | bad => rw [e2] at hp2; exact hp2
        | exc x S1 => rw [e2] at hp2; exact hp2
        | ok y S2 =>
          rw [e2] at hp2
          have hp3 : Post C W (QE C Q) s l H (match dget x y S2 with
            | some o => ofO o S2
            | none => ofO (ixD x y S2) S2) := hp2
          show Post C W (QE C Q) s l H (ofO (ixD x y S2) S2)
          cases e3 : dget x y S2 with
          | some o => exact (hc ⟨x, S1, y, S2, o, e1, e2, e3⟩).elim
          | none => rw [e3] at hp3; exact hp3
    refine Tmono (T_run he hr hp') fun v H1 ⟨l1, d1, S1, he1, hr1, x1, hd1, hp1⟩ => Tmono (T_run he1 hr1 hp1) fun w H2 ⟨l2, d2, S2, he2, hr2, x2, hd2, hp2⟩ => ?_
    obtain ⟨d, hg, hp2⟩ := post_ofO hp2
    exact ⟨S2, l2, d1, d2, d, hr2, RD.mono x2 _ _ hd1, hd2, hg, VPost.of hp2⟩
omit hK
/-- slices -/
def TO' (C : Ctx) (W : WX) (m : OM) : TO := fun s H Q => ∃ e S l, EnvR C.K l H e s ∧ Rel C l S H ∧ Post C W (fun _ H o => Q o H) s l H (m e S)
theorem TOmono {m : OM} {s : L2.St} {H : Hp} {G G' : Option Int → Hp → Prop} (h : TO' C W m s H G) (k : ∀ v H1, G v H1 → G' v H1) : TO' C W m s H G' := by
  obtain ⟨e, S, l, he, hr, hp⟩ := h
  exact ⟨e, S, l, he, hr, hp.imp fun H' l' a S' _ _ q => k a H' q⟩
theorem TO_run {B : Type} {s : L2.St} {l : Lay} {H : Hp} {e : Env'} {S : Sto} {RA : Lay → Hp → B → Prop} {m : OM} {f : Option Int → Sto → Out B} (he : EnvR C.K l H e s) (hr : Rel C l S H) (hp : Post C W RA s l H ((m e S).bind f)) :
    TO' C W m s H fun b H1 => ∃ l1 S1, EnvR C.K l1 H1 e s ∧ Rel C l1 S1 H1 ∧ Ext l H l1 H1 ∧ Post C W RA s l1 H1 (f b S1) :=
  ⟨e, S, l, he, hr, Post.bind hp fun H1 l1 d S1 x r p => ⟨l1, S1, he.mono x, r, x, p⟩⟩
theorem POmono {ex : Option Expr} {t t' : TO} (h : PO X ex t) (k : ∀ s H Q, t' s H Q → t s H Q) : PO X ex t' := ⟨fun pins s σ H Q I q => h.run pins s σ H Q I (k σ H Q q)⟩
theorem sdo_none : PO X none (TO' C W noPart) := by
  refine POmono po_none fun s H Q h => ?_
  obtain ⟨e, S, l, he, hr, hp⟩ := h
  exact Post.pure hr hp
theorem sdo_some {a : Expr} {ma : EM} (ha : PE X a (T C W ma)) : PO X (some a) (TO' C W (partM ma)) := by
  refine POmono (po_some ha) fun s H Q h => ?_
  obtain ⟨e, S, l, he, hr, hp⟩ := h
  refine Tmono (T_run he hr hp) fun v H1 ⟨l1, d1, S1, he1, hr1, x1, hd1, hp1⟩ => ?_
  cases d1 with
  | int i =>
    cases hd1
    exact ⟨i, rfl, Post.pure hr1 hp1⟩
  | _ => exact hp1.elim
theorem sd_slice {a : Expr} {lo hi : Option Expr} {p2 pos : Pos} {ma : EM} {ml mh : OM} (hK : C.K = X.K) (ha : PE X a (T C W ma)) (hl : PO X lo (TO' C W ml)) (hh : PO X hi (TO' C W mh)) : PE X (.Subscript a (.Slice lo hi none p2) pos) (T C W (sliceM ma ml mh)) := by
  refine PEmono (pe_slice (vo_sl hK) ha hl hh) fun s H Q h => ?_
  obtain ⟨e, S, l, he, hr, hp⟩ := h
  refine Tmono (T_run he hr hp) fun v H1 ⟨l1, d1, S1, he1, hr1, x1, hd1, hp1⟩ => TOmono (TO_run he1 hr1 hp1) fun p H2 ⟨l2, S2, he2, hr2, x2, hp2⟩ => TOmono (TO_run he2 hr2 hp2) fun q H3 ⟨l3, S3, he3, hr3, x3, hp3⟩ => ?_
  obtain ⟨d, hg, hp3⟩ := post_ofO hp3
  exact ⟨S3, l3, d1, d, hr3, RD.mono x3 _ _ (RD.mono x2 _ _ hd1), hg, VPost.of hp3⟩
end
end Pyx
/-! built-in functions by values -/
namespace Pyx
open PySem PySem.Spec PyProof.Rows L2
def rC (C : Ctx) (g : List D → Sto → Option D) : List V → Hp → VK → Prop := fun vs H Q => ∃ S l ds d, Rel C l S H ∧ RDs C.K l H ds vs ∧ g ds S = some d ∧ VPost C S l H d Q
theorem RDs.one {K : PySem.W.Frag} {l : Lay} {H : Hp} {d : D} {vs : List V} (h : RDs K l H [d] vs) : ∃ v, vs = [v] ∧ RD K l H d v := by
  obtain ⟨v, r, rfl, h1, h2⟩ := h
  cases h2
  exact ⟨v, rfl, h1⟩
theorem RDs.two {K : PySem.W.Frag} {l : Lay} {H : Hp} {d e : D} {vs : List V} (h : RDs K l H [d, e] vs) : ∃ v w, vs = [v, w] ∧ RD K l H d v ∧ RD K l H e w := by
  obtain ⟨v, r, rfl, h1, h2⟩ := h
  obtain ⟨w, rfl, h3⟩ := RDs.one h2
  exact ⟨v, w, rfl, h1, h3⟩
/-- things of a list, a tuple, as they stand -/
def itemsD (S : Sto) (d : D) : Option (List D) := match top1 S d with
  | .lst ds => some ds
  | .tup ds => some ds
  | .ktup ds => some ds
  | .scr ns => some (ns.map D.int)
  | _ => none
theorem items_ok {C : Ctx} {S : Sto} {l : Lay} {H : Hp} {d : D} {v : V} {ds : List D} (r : Rel C l S H) (h : RD C.K l H d v) (e : itemsD S d = some ds) : ∃ a vs, v = .ref a ∧ (SqL C.K H a vs ∨ SqT C.K H a vs) ∧ RDs C.K l H ds vs := by
  have h1 := RD1.top r h
  unfold itemsD at e
  generalize top1 S d = d' at h1 e
  cases d' <;> simp only at e <;> cases e
  · cases h1 with
    | of h1 =>
      obtain ⟨a, vs, rfl, t, q⟩ := h1
      exact ⟨a, vs, rfl, .inr t.sq, q⟩
  · cases h1 with
    | of h1 =>
      obtain ⟨a, vs, rfl, t, q⟩ := h1
      exact ⟨a, vs, rfl, .inl t.sq, q⟩
    | cel t q => exact ⟨_, _, rfl, .inl (.inl (.inl t)), q⟩
  · cases h1 with
    | of h1 =>
      obtain ⟨a, rfl, t⟩ := h1
      exact ⟨a, _, rfl, .inl t.sq, RDs.ints _⟩
  · cases h1 with
    | of h1 =>
      obtain ⟨a, vs, rfl, t, q⟩ := h1
      exact ⟨a, vs, rfl, .inr (.inr t), q⟩
/-- the items of a list that is one -/
def listD (S : Sto) (d : D) : Option (List D) := match top1 S d with
  | .lst ds => some ds
  | .scr ns => some (ns.map D.int)
  | _ => none
theorem list_ok {C : Ctx} {S : Sto} {l : Lay} {H : Hp} {d : D} {v : V} {ds : List D} (r : Rel C l S H) (h : RD C.K l H d v) (e : listD S d = some ds) : ∃ a vs, v = .ref a ∧ SqL C.K H a vs ∧ RDs C.K l H ds vs := by
  have h1 := RD1.top r h
  unfold listD at e
  generalize top1 S d = d' at h1 e
  cases d' <;> simp only at e <;> cases e
  · cases h1 with
    | of h1 =>
      obtain ⟨a, vs, rfl, t, q⟩ := h1
      exact ⟨a, vs, rfl, t.sq, q⟩
    | cel t q => exact ⟨_, _, rfl, .inl (.inl t), q⟩
  · cases h1 with
    | of h1 =>
      obtain ⟨a, rfl, t⟩ := h1
      exact ⟨a, _, rfl, t.sq, RDs.ints _⟩
def tupD (d : D) : Option (List D) := match d with
  | .tup ds => some ds
  | .ktup ds => some ds
  | _ => none
theorem tup_ok {C : Ctx} {l : Lay} {H : Hp} {d : D} {v : V} {ds : List D} (h : RD C.K l H d v) (e : tupD d = some ds) : ∃ a vs, v = .ref a ∧ SqT C.K H a vs ∧ RDs C.K l H ds vs := by
  cases d <;> simp only [tupD] at e <;> cases e
  · obtain ⟨a, vs, rfl, t, q⟩ := h
    exact ⟨a, vs, rfl, t.sq, q⟩
  · obtain ⟨a, vs, rfl, t, q⟩ := h
    exact ⟨a, vs, rfl, .inr t, q⟩
def intsD : List D → Option (List Int)
  | [] => some []
  | .int i :: r => (intsD r).map (i :: ·)
  | _ => none
theorem ints_ok {K : PySem.W.Frag} {l : Lay} {H : Hp} : ∀ {ds : List D} {vs : List V} {ns : List Int}, RDs K l H ds vs → intsD ds = some ns → vs = ns.map V.int
  | [], vs, ns, h, e => by
    cases h
    cases e
    rfl
  | d :: r, vs, ns, h, e => by
    obtain ⟨v, ws, rfl, h1, h2⟩ := h
    cases d <;> simp only [intsD] at e <;> try cases e
    obtain ⟨ns', e', rfl⟩ := Option.map_eq_some_iff.mp e
    cases h1
    rw [ints_ok h2 e']
    rfl
def boolsD : List D → Option (List Bool)
  | [] => some []
  | .bl i :: r => (boolsD r).map (i :: ·)
  | _ => none
theorem bools_ok {K : PySem.W.Frag} {l : Lay} {H : Hp} : ∀ {ds : List D} {vs : List V} {ns : List Bool}, RDs K l H ds vs → boolsD ds = some ns → vs = ns.map V.bl
  | [], vs, ns, h, e => by
    cases h
    cases e
    rfl
  | d :: r, vs, ns, h, e => by
    obtain ⟨v, ws, rfl, h1, h2⟩ := h
    cases d <;> simp only [boolsD] at e <;> try cases e
    obtain ⟨ns', e', rfl⟩ := Option.map_eq_some_iff.mp e
    cases h1
    rw [bools_ok h2 e']
    rfl
/-! ### what they tell -/
def lenF : List D → Sto → Option D
  | [.str s], _ => if s.length ≤ sizeLine then some (.int s.length) else none
  | [d], S => (itemsD S d).map fun ds => .int ds.length
  | _, _ => none
def sumF : List D → Sto → Option D
  | [d], S => (itemsD S d).bind fun ds => (intsD ds).map fun ns => .int ns.sum
  | _, _ => none
def allF : List D → Sto → Option D
  | [d], S => (listD S d).bind fun ds => (boolsD ds).map fun ns => .bl (ns.all id)
  | _, _ => none
def minF : List D → Sto → Option D
  | [.int i, .int j], _ => some (.int (if j < i then j else i))
  | _, _ => none
def maxL : Int → List Int → Int
  | m, [] => m
  | m, x :: r => maxL (if m < x then x else m) r
def maxF : List D → Sto → Option D
  | [.int i, .int j], _ => some (.int (if j > i then j else i))
  | [d], S => (listD S d).bind fun ds => (intsD ds).bind fun ns => match ns with
    | [] => none
    | m :: r => some (.int (maxL m r))
  | _, _ => none
def intF : List D → Sto → Option D
  | [.int i], _ => some (.int i)
  | [.bl b], _ => some (.int (if b then 1 else 0))
  | [.str s], _ => if s.length ≤ 640 then (PySem.intText? s).map D.int else none
  | _, _ => none
def listF : List D → Sto → Option D
  | [d], S => (itemsD S d).map D.lst
  | _, _ => none
def tupF : List D → Sto → Option D
  | [d], S => match tupD d with
    | some ds => some (match d with | .ktup _ => .ktup ds | _ => .tup ds)
    | none => (listD S d).map D.tup
  | _, _ => none
/-- the name of a value's class, of the built-in ones -/
def tyName (S : Sto) : D → Option String
  | .non => some "NoneType"
  | .bl _ => some "bool"
  | .int _ => some "int"
  | .str _ => some "str"
  | .tup _ => some "tuple"
  | .ktup _ => some "tuple"
  | .lst _ => some "list"
  | .scr _ => none
  | .cell i => match S.at_ i with
    | some (.lst _) => some "list"
    | some (.dK _) => some "dict"
    | some (.dT _) => some "dict"
    | _ => none
def isiF (T : String) (d : D) (S : Sto) : Option D := (tyName S d).bind fun t => (kitB t T).map D.bl
theorem maxL_spec : ∀ (r : List Int) (m : Int), maxL m r ∈ m :: r ∧ ∀ y ∈ m :: r, y ≤ maxL m r
  | [], m => ⟨by simp [maxL], by simp [maxL]⟩
  | x :: r, m => by
    obtain ⟨h1, h2⟩ := maxL_spec r (if m < x then x else m)
    unfold maxL
    refine ⟨?_, fun y hy => ?_⟩
    · rcases List.mem_cons.mp h1 with h | h
      · rw [h]
        split <;> simp
      · exact List.mem_cons_of_mem _ (List.mem_cons_of_mem _ h)
    · have h0 := h2 (if m < x then x else m) (by simp)
      rcases List.mem_cons.mp hy with rfl | hy
      · refine Int.le_trans ?_ h0
        split <;> omega
      · rcases List.mem_cons.mp hy with rfl | hy
        · refine Int.le_trans ?_ h0
          split <;> omega
        · exact h2 y (List.mem_cons_of_mem _ hy)
section
variable {X : Cx} {C : Ctx} (hK : C.K = X.K)
include hK
theorem cl_len : CallR X (.builtin "len") (rC C lenF) := by
  intro pins s σ H xs us Q I rs h
  obtain ⟨S, l, ds, d, hr, hd, hg, hp⟩ := h
  unfold lenF at hg
  split at hg
  · obtain ⟨v, rfl, hv⟩ := hd.one
    split at hg
    · rename_i hl
      cases hg
      obtain ⟨rfl, _⟩ := hv
      exact call_len_str pins s σ H _ us Q I rs ⟨_, rfl, hl, hp.now hr rfl⟩
    · cases hg
  · obtain ⟨v, rfl, hv⟩ := hd.one
    obtain ⟨es, he, rfl⟩ := Option.map_eq_some_iff.mp hg
    obtain ⟨a, vs, rfl, hq, hes⟩ := items_ok hr hv he
    rw [hK] at hq
    exact call_len_seq pins s σ H _ us Q I rs ⟨a, vs, rfl, hq, hp.now hr (by rw [hes.length]; rfl)⟩
  · cases hg
omit hK in
theorem sum_rawT {prog : Program} {w : World} {A : Around} {E : Value → Shared → Prop} {s : Shared} {l : Addr} {its : List Value} {ns : List Int} {Q : Value → Shared → Prop} (hh : A.handled = none) (hl : s.heap.IsTuple l its.toArray) (hi : IntsAre its ns)
    (h : ∀ h' tk t', (∀ b o, s.heap.get? b = some o → h'.get? b = some o) → Q (.int ns.sum t') { s with heap := h', toks := tk }) : wpAny (model prog w) A (call (.builtin "sum") [.ref l]) Q E s := by
  obtain ⟨xs, e⟩ := hi.allInts.items
  have hn : numsOf (intItems xs).toList = ns := by
    rw [← e]
    exact hi.numsOf
  rw [nums_intItems] at hn
  rw [e] at hl
  refine PySem.W.ktm_sumG hh hl fun h' tk t' hk => ?_
  have := h h' tk t' hk
  rw [preSum_eq, List.take_of_length_le (by simp), hn]
  exact this
theorem cl_sum (hc : X.calm = true) : CallR X (.builtin "sum") (rC C sumF) := by
  intro pins s σ H xs us Q I rs h
  obtain ⟨S, l, ds, d, hr, hd, hg, hp⟩ := h
  unfold sumF at hg
  split at hg
  · rename_i x
    obtain ⟨v, rfl, hv⟩ := hd.one
    obtain ⟨es, he, hg⟩ := Option.bind_eq_some_iff.mp hg
    obtain ⟨ns, hn, rfl⟩ := Option.map_eq_some_iff.mp hg
    obtain ⟨a, vs, rfl, hq, hes⟩ := items_ok hr hv he
    have e := ints_ok hes hn
    subst e
    rcases hq with hq | hq
    · exact cr_sum hc pins s σ H _ us Q I rs ⟨a, ns, rfl, hK ▸ hq, hp.now hr rfl⟩
    · obtain ⟨its, rv, tp, _⟩ := I.tuple (hK ▸ hq)
      have tp' : s.heap.IsTuple a its.toArray := tp
      rw [Vals.ref1 rs]
      exact sum_rawT (I.ok.hd hc) tp' rv.ints fun h' tk t' hk => ⟨.int _, H, I.kept hk, ⟨_, rfl⟩, hp.now hr rfl⟩
  · cases hg
theorem cl_all (hc : X.calm = true) : CallR X (.builtin "all") (rC C allF) := by
  intro pins s σ H xs us Q I rs h
  obtain ⟨S, l, ds, d, hr, hd, hg, hp⟩ := h
  unfold allF at hg
  split at hg
  · rename_i x
    obtain ⟨v, rfl, hv⟩ := hd.one
    obtain ⟨es, he, hg⟩ := Option.bind_eq_some_iff.mp hg
    obtain ⟨ns, hn, rfl⟩ := Option.map_eq_some_iff.mp hg
    obtain ⟨a, vs, rfl, hq, hes⟩ := list_ok hr hv he
    have e := bools_ok hes hn
    subst e
    exact cr_all hc pins s σ H _ us Q I rs ⟨a, ns, rfl, hK ▸ hq, hp.now hr rfl⟩
  · cases hg
theorem cl_list : CallR X (.type "list") (rC C listF) := by
  intro pins s σ H xs us Q I rs h
  obtain ⟨S, l, ds, d, hr, hd, hg, hp⟩ := h
  unfold listF at hg
  split at hg
  · rename_i x
    obtain ⟨v, rfl, hv⟩ := hd.one
    obtain ⟨es, he, rfl⟩ := Option.map_eq_some_iff.mp hg
    obtain ⟨a, vs, rfl, hq, hes⟩ := items_ok hr hv he
    rw [hK] at hq
    exact call_list_of pins s σ H _ us Q I rs ⟨a, vs, rfl, hq, fun p hn => hp.lst hr hes hn⟩
  · cases hg
theorem cl_tuple : CallR X (.type "tuple") (rC C tupF) := by
  intro pins s σ H xs us Q I rs h
  obtain ⟨S, l, ds, d, hr, hd, hg, hp⟩ := h
  unfold tupF at hg
  split at hg
  · rename_i x
    obtain ⟨v, rfl, hv⟩ := hd.one
    split at hg
    · rename_i es he
      obtain ⟨a, vs, rfl, hq, hes⟩ := tup_ok hv he
      refine call_tuple_of pins s σ H _ us Q I rs ⟨a, vs, rfl, .inr ⟨hK ▸ hq, ?_⟩⟩
      cases hg
      cases x <;> simp only [tupD] at he <;> cases he
      · exact hp.now hr hv
      · exact hp.now hr hv
    · obtain ⟨es, he, rfl⟩ := Option.map_eq_some_iff.mp hg
      obtain ⟨a, vs, rfl, hq, hes⟩ := list_ok hr hv he
      exact call_tuple_of pins s σ H _ us Q I rs ⟨a, vs, rfl, .inl ⟨hK ▸ hq, fun p hn => hp.tup hr hes hn⟩⟩
  · cases hg
omit hK
theorem cl_min (hc : X.calm = true) : CallR X (.builtin "min") (rC C minF) := by
  intro pins s σ H xs us Q I rs h
  obtain ⟨S, l, ds, d, hr, hd, hg, hp⟩ := h
  unfold minF at hg
  split at hg
  · cases hg
    obtain ⟨v, w, rfl, h1, h2⟩ := hd.two
    cases h1
    cases h2
    exact call_min2 hc pins s σ H _ us Q I rs ⟨_, _, rfl, hp.now hr rfl⟩
  · cases hg
theorem cl_int : CallR X (.type "int") (rC C intF) := by
  intro pins s σ H xs us Q I rs h
  obtain ⟨S, l, ds, d, hr, hd, hg, hp⟩ := h
  unfold intF at hg
  split at hg
  · cases hg
    obtain ⟨v, rfl, h1⟩ := hd.one
    cases h1
    exact call_int1 pins s σ H _ us Q I rs (.inl ⟨_, rfl, hp.now hr rfl⟩)
  · cases hg
    obtain ⟨v, rfl, h1⟩ := hd.one
    cases h1
    exact call_int1 pins s σ H _ us Q I rs (.inr ⟨_, rfl, hp.now hr rfl⟩)
  · split at hg
    · rename_i hl
      obtain ⟨n, hn, rfl⟩ := Option.map_eq_some_iff.mp hg
      obtain ⟨v, rfl, rfl, h1⟩ := hd.one
      exact call_int_str pins s σ H _ us Q I rs ⟨_, n, rfl, hn, hl, hp.now hr rfl⟩
    · cases hg
  · cases hg
include hK
theorem cl_max (hc : X.calm = true) : CallR X (.builtin "max") (rC C maxF) := by
  intro pins s σ H xs us Q I rs h
  obtain ⟨S, l, ds, d, hr, hd, hg, hp⟩ := h
  unfold maxF at hg
  split at hg
  · cases hg
    obtain ⟨v, w, rfl, h1, h2⟩ := hd.two
    cases h1
    cases h2
    exact call_max2 hc pins s σ H _ us Q I rs ⟨_, _, rfl, hp.now hr rfl⟩
  · obtain ⟨v, rfl, hv⟩ := hd.one
    obtain ⟨es, he, hg'⟩ := Option.bind_eq_some_iff.mp hg
    obtain ⟨ns, hn, hg'⟩ := Option.bind_eq_some_iff.mp hg'
    obtain ⟨a, vs, rfl, hq, hes⟩ := list_ok hr hv he
    have e := ints_ok hes hn
    subst e
    cases ns with
    | nil => cases hg'
    | cons m r =>
      cases hg'
      refine cr_max hc pins s σ H _ us Q I rs ⟨a, m :: r, rfl, hK ▸ hq, Nat.succ_pos _, fun z hz hz2 => ?_⟩
      obtain ⟨s1, s2⟩ := maxL_spec r m
      have e : z = maxL m r := Int.le_antisymm (s2 z hz) (hz2 _ s1)
      rw [e]
      exact hp.now hr rfl
  · cases hg
theorem ty_ok {S : Sto} {l : Lay} {H : Hp} {d : D} {v : V} {t : String} (hr : Rel C l S H) (h : RD C.K l H d v) (e : tyName S d = some t) : TyX X.K H v (.type t) := by
  cases d <;> simp only [tyName] at e <;> (try cases e)
  · cases h; exact .base .non
  · cases h; exact .base (.bl _)
  · cases h; exact .base (.int _)
  · cases h.1; exact .base (.str _)
  · obtain ⟨a, vs, rfl, q, _⟩ := h
    exact .base (.tup q)
  · obtain ⟨a, vs, rfl, q, _⟩ := h
    exact .base (.lst q.1)
  · rename_i i
    obtain ⟨a, rfl, hi⟩ := h
    split at e
    · rename_i ds hS
      cases e
      obtain ⟨b, hb, vs, hv, _⟩ := hr.cells i _ hS
      rw [hi] at hb
      cases hb
      exact .base (.lst hv)
    · rename_i ds hS
      cases e
      obtain ⟨b, hb, vs, hv, _⟩ := hr.cells i _ hS
      rw [hi] at hb
      cases hb
      exact .base (.dK hv)
    · rename_i ds hS
      cases e
      obtain ⟨b, hb, vs, hv, _⟩ := hr.cells i _ hS
      rw [hi] at hb
      cases hb
      exact .base (.dT hv)
    · cases e
  · obtain ⟨a, vs, rfl, q, _⟩ := h
    obtain ⟨o, its, n, h1, h2, _⟩ := q
    rw [hK] at h1
    exact .kTuple h1 h2
omit hK
def isiM (T : String) (a : EM) : EM := fun e S => (a e S).bind fun x S1 => ofO (isiF T x S1) S1
/-- the built-in functions that are called by values -/
def calM (g : List D → Sto → Option D) (t : AM) : EM := fun e S => (t e S).bind fun ds S1 => ofO (g ds S1) S1
variable {W : WX} {x : Str} {p pos : Pos} {ex : Expr} {es : List Expr} {id ty : String}
theorem post_cal {g : List D → Sto → Option D} {m : AM} {s : L2.St} {H : Hp} {Q : VK} (h : T C W (calM g m) s H Q) : TA' C W m s H fun vs H1 => rC C g vs H1 Q := by
  obtain ⟨e, S, l, he, hr, hp⟩ := h
  refine TAmono (TA_run he hr hp) fun vs H1 ⟨l1, ds, S1, he1, hr1, x1, hd1, hp1⟩ => ?_
  obtain ⟨d, hg, hp1⟩ := post_ofO hp1
  exact ⟨S1, l1, ds, d, hr1, hd1, hg, VPost.of hp1⟩
theorem sd_calB {g : List D → Sto → Option D} {m : AM} (hc : CallR X (.builtin id) (rC C g)) (hg : Gl X x) (hm : X.mg x = none) (hv : bootBuiltins x = some (.builtin id)) (ha : PA X (ex :: es) (TA' C W m)) (hn : x ≠ "__name__") (hdb : (x == ("__debug__" : Str)) = false)
    (he : starEach (ex :: es) X.env = (false, eval ex X.env) :: starEach es X.env) (hpl : (backTo pos (starEach es X.env)).any (·.1) = false) : PE X (.Call (.Name x p) (ex :: es) [] pos) (T C W (calM g m)) :=
  PEmono (pe_callB hc hg hm hv ha hn hdb he hpl) fun s H Q h => post_cal h
theorem sd_calT {g : List D → Sto → Option D} {m : AM} (hc : CallR X (.type ty) (rC C g)) (hg : Gl X x) (hm : X.mg x = none) (hv : bootBuiltins x = some (.type ty)) (ha : PA X (ex :: es) (TA' C W m)) (hn : x ≠ "__name__") (hdb : (x == ("__debug__" : Str)) = false)
    (he : starEach (ex :: es) X.env = (false, eval ex X.env) :: starEach es X.env) (hpl : (backTo pos (starEach es X.env)).any (·.1) = false) : PE X (.Call (.Name x p) (ex :: es) [] pos) (T C W (calM g m)) :=
  PEmono (pe_callTy hc hg hm hv ha hn hdb he hpl) fun s H Q h => post_cal h
/-- a list made for a cell -/
def listC (i : Option Id) (a : EM) : EM := fun e S => (a e S).bind fun x S1 => match itemsD S1 x with
  | some ds => alloc i (.lst ds) S1
  | none => .bad
end
end Pyx
/-! forms of the text; attributes, calls -/
namespace Pyx
open PySem PySem.Spec PyProof.Rows L2
/-! ### forms -/
def noStar : Expr → Bool
  | .Starred _ _ => false
  | _ => true
theorem star_eq {e : Expr} {es : List Expr} {env : Env} (h : noStar e = true) : starEach (e :: es) env = (false, eval e env) :: starEach es env := by
  cases e with
  | Starred a b => cases h
  | _ => rfl
theorem star_any {env : Env} {pos : Pos} : ∀ {es : List Expr}, es.all noStar = true → (backTo pos (starEach es env)).any (·.1) = false
  | [], _ => rfl
  | e :: r, h => by
    rw [List.all_cons] at h
    obtain ⟨h1, h2⟩ := Bool.and_eq_true_iff.mp h
    rw [star_eq h1]
    show (false || (backTo pos (starEach r env)).any (·.1)) = false
    rw [star_any h2]
    rfl
theorem star_all {env : Env} {pos : Pos} : ∀ {es : List Expr}, es.all noStar = true → (backTo pos (starEach es env)).all (fun x => !x.1) = true
  | [], _ => rfl
  | e :: r, h => by
    rw [List.all_cons] at h
    obtain ⟨h1, h2⟩ := Bool.and_eq_true_iff.mp h
    rw [star_eq h1]
    show (true && (backTo pos (starEach r env)).all (fun x => !x.1)) = true
    rw [star_all h2]
    rfl
def noSuper : Expr → Bool
  | .Call _ [] [] _ => false
  | _ => true
theorem base_eq {o : Expr} {m : Str} {env : Env} (h : noSuper o = true) : attributeBase o m env (eval o env) = eval o env := by
  unfold attributeBase
  split
  · cases h
  · rfl
def plainTest : Expr → Bool
  | .UnaryOp .Not _ _ => false
  | .BoolOp _ _ _ => false
  | .IfExp _ _ _ _ => false
  | .Compare _ _ _ _ => false
  | _ => true
theorem test_eq {e : Expr} {env : Env} (h : plainTest e = true) (whole : Sem Value) : isTrue e env whole = (do let v ← whole; standAt e.pos; holding [v] (truthy v)) := by
  cases e <;> first | rfl | cases h | (rename_i op a b; cases op <;> first | rfl | cases h)
def noComp : Expr → Bool
  | .ListComp _ _ _ _ => false
  | .SetComp _ _ _ _ => false
  | .DictComp _ _ _ _ _ => false
  | _ => true
theorem swap_eq {e : Expr} {t : Option Expr} {n : Nat} {env : Env} (h : noComp e = true) : swapsWith e t n env = pure false := by
  cases e <;> first | rfl | cases h
def noSlice : Expr → Bool
  | .Slice _ _ _ _ => false
  | _ => true
theorem ix_eq {e : Expr} (h : noSlice e = true) (o i : Value) : subscripted e false o i = operate [o, i] (getItem o i) := by
  cases e <;> first | rfl | cases h
def noSet : Expr → Bool
  | .Set _ _ _ => false
  | _ => true
theorem fold_eq {e : Expr} {env : Env} {x : Value} (h : noSet e = true) : foldedSetIterable e env x = pure x := by
  cases e <;> first | rfl | cases h
/-- a method's call on one line -/
theorem meth_eq {o : Expr} {m : Str} {apos pos : Pos} {es : List Expr} {env : Env} (hb : noSuper o = true) (he : es.all noStar = true) (hn : es.length < 30) (hl : (apos.endLine == pos.line) = true) :
    eval (.Call (.Attribute o m apos) es [] pos) env = (do
      let ov ← eval o env
      standAt apos.atName
      let (f, first) ← holding [ov] (getMethod ov m (plainOf o env))
      callWith pos f first (backTo pos (starEach es env)) (backToKw pos (keywordEach [] env))) := by
  have hf : methodCallForm (es.length + ([] : List Keyword).length) (backTo pos (starEach es env)) (backToKw pos (keywordEach [] env)) = true := by
    unfold methodCallForm
    rw [star_all he]
    show (true && true && decide (es.length + 0 + 0 < 30)) = true
    rw [decide_eq_true (by omega : es.length + 0 + 0 < 30)]
    rfl
  have e0 : eval (.Call (.Attribute o m apos) es [] pos) env = (do
      let ov ← attributeBase o m env (eval o env)
      standAt apos.atName
      methodCall o m apos pos env ov (es.length + ([] : List Keyword).length) (backTo pos (starEach es env)) (backToKw pos (keywordEach [] env))) := by
    rfl
  rw [e0, base_eq hb]
  congr 1
  funext ov
  congr 1
  funext _
  exact mcall_line hf hl
/-! ### tables -/
abbrev Fn : Type := Nat → List D → Sto → Out D
structure Tb where
  pl : Nat → Nat → Bool
  mt : Nat → Nat → Option Nat
  df : Nat → Nat → Option (List D)
/-- a def's promise by its meaning -/
def spM (C : Ctx) (n : Nat) (mu : List D → Sto → Out D) : Sp := fun vs H Q E => vs.length = n ∧ ∃ S l ds, Rel C l S H ∧ RDs C.K l H ds vs ∧ Post C (fun cls d _ H => E cls d H) (QE C Q) [] l H (mu ds S)
structure FnIs (X : Cx) (C : Ctx) (tb : Tb) (G : Fn) (k : Nat) (f : Nat) (np : Nat) (a : Addr) : Prop where
  ok : ∃ fd ps, ps.length = np ∧ FnOk X.prog X.w X.K X.mg X.base (L2.CX X.prog X.w) k a fd ps (spM C np (G f)) ∧ ∀ n dd, tb.df f n = some dd → n + dd.length = np ∧ ∃ ds dvs, Binds X.K fd ps ds ∧ Vals dvs ds ∧ ∀ l H, RDs C.K l H dd dvs
/-! ### attributes -/
structure AOk (C : Ctx) (tb : Tb) : Prop where
  inj : ∀ f g, C.anm f = C.anm g → f = g
  pl : ∀ c f, tb.pl c f = true → Cls C.K (C.cad c) ∧ NoAttr C.K (C.cad c) (C.anm f)
theorem RF.get {C : Ctx} {l : Lay} {H : Hp} {f : Nat} (inj : ∀ f g, C.anm f = C.anm g → f = g) : ∀ {fs : List (Nat × D)} {ws : List (Str × V)}, RF C l H fs ws → RO C.K l H (fs.lookup f) (ws.lookup (C.anm f))
  | _, _, .nil => rfl
  | (g, d) :: r, (n, v) :: t, .cons h hr => by
    have ih := RF.get (f := f) inj hr
    obtain ⟨h1, h2⟩ := h
    have h1' : C.anm g = n := h1
    subst h1'
    by_cases e : f = g
    · subst e
      rw [List.lookup_cons, List.lookup_cons, beq_self_eq_true, beq_self_eq_true]
      exact ⟨v, rfl, h2⟩
    · have e1 : (f == g) = false := beq_eq_false_iff_ne.mpr e
      have e2 : (C.anm f == C.anm g) = false := beq_eq_false_iff_ne.mpr fun q => e (inj _ _ q)
      rw [List.lookup_cons, List.lookup_cons, e1, e2]
      exact ih
def putA (f : Nat) (d : D) : List (Nat × D) → List (Nat × D)
  | [] => [(f, d)]
  | (g, x) :: r => if g = f then (g, d) :: r else (g, x) :: putA f d r
theorem RF.put {C : Ctx} {l : Lay} {H : Hp} {f : Nat} {d : D} {v : V} (inj : ∀ f g, C.anm f = C.anm g → f = g) (hd : RD C.K l H d v) : ∀ {fs : List (Nat × D)} {ws : List (Str × V)}, RF C l H fs ws → RF C l H (putA f d fs) (putF (C.anm f) v ws)
  | _, _, .nil => .cons ⟨rfl, hd⟩ .nil
  | (g, x) :: r, (n, y) :: t, .cons h hr => by
    obtain ⟨h1, h2⟩ := h
    have h1' : C.anm g = n := h1
    subst h1'
    by_cases e : g = f
    · subst e
      show RF C l H (if g = g then _ else _) (if C.anm g = C.anm g then _ else _)
      rw [if_pos rfl, if_pos rfl]
      exact .cons ⟨rfl, hd⟩ hr
    · show RF C l H (if g = f then _ else _) (if C.anm g = C.anm f then _ else _)
      rw [if_neg e, if_neg fun q => e (inj _ _ q)]
      exact .cons ⟨rfl, h2⟩ (RF.put inj hd hr)
theorem RF.len {C : Ctx} {l : Lay} {H : Hp} : ∀ {fs : List (Nat × D)} {ws : List (Str × V)}, RF C l H fs ws → ws.length = fs.length
  | _, _, .nil => rfl
  | _, _, .cons h hr => by
    simp [RF.len hr]
def getA (tb : Tb) (f : Nat) (x : D) (S : Sto) : Option D := match x with
  | .cell i => match S.at_ i with
    | some (.ins c fs) => if tb.pl c f = true then fs.lookup f else none
    | _ => none
  | _ => none
def attM (tb : Tb) (f : Nat) (a : EM) : EM := fun e S => (a e S).bind fun x S1 => ofO (getA tb f x S1) S1
def clsOf (x : D) (S : Sto) : Option Nat := match x with
  | .cell i => match S.at_ i with
    | some (.ins c _) => some c
    | _ => none
  | _ => none
theorem getA_ok {C : Ctx} {tb : Tb} {S : Sto} {l : Lay} {H : Hp} {f : Nat} {x d : D} {v : V} (ok : AOk C tb) (hr : Rel C l S H) (hx : RD C.K l H x v) (e : getA tb f x S = some d) :
    ∃ a c dx ws w, v = .ref a ∧ H a = some (.ins (C.cad c) dx ws) ∧ Cls C.K (C.cad c) ∧ NoAttr C.K (C.cad c) (C.anm f) ∧ ws.lookup (C.anm f) = some w ∧ RD C.K l H d w ∧ clsOf x S = some c := by
  unfold getA at e
  split at e
  · rename_i i
    obtain ⟨a, rfl, hi⟩ := hx
    split at e
    · rename_i c fs hS
      split at e
      · rename_i hpl
        obtain ⟨b, hb, dx, ws, hw, hf⟩ := hr.cells i _ hS
        rw [hi] at hb
        cases hb
        have h := RF.get (f := f) ok.inj hf
        rw [e] at h
        obtain ⟨w, hw2, hd⟩ := h
        obtain ⟨c1, c2⟩ := ok.pl c f hpl
        exact ⟨a, c, dx, ws, w, rfl, hw, c1, c2, hw2, hd, by simp only [clsOf, hS]⟩
      · cases e
    · cases e
  · cases e
section
variable {X : Cx} {C : Ctx} {W : WX} {tb : Tb} (hK : C.K = X.K) (ok : AOk C tb)
include hK ok
theorem sd_att {a : Expr} {f : Nat} {x : Str} {pos : Pos} {ma : EM} (hx : C.anm f = x) (ha : PE X a (T C W ma)) (hb : noSuper a = true) : PE X (.Attribute a x pos) (T C W (attM tb f ma)) := by
  subst hx
  refine PEmono (pe_fld ha (base_eq hb)) fun s H Q h => ?_
  obtain ⟨e, S, l, he, hr, hp⟩ := h
  refine Tmono (T_run he hr hp) fun v H1 ⟨l1, d1, S1, he1, hr1, x1, hd1, hp1⟩ => ?_
  obtain ⟨d, hg, hp1⟩ := post_ofO hp1
  obtain ⟨a, c, dx, ws, w, rfl, h1, h2, h3, h4, h5, _⟩ := getA_ok ok hr1 hd1 hg
  rw [hK] at h2 h3
  exact ⟨a, _, dx, ws, w, rfl, h1, h2, h3, h4, VPost.now (VPost.of hp1) hr1 h5⟩
end
/-! ### calls -/
def callM (np : Nat) (dd : List D) (g : List D → Sto → Out D) (t : AM) : EM := fun e S => (t e S).bind fun ds S1 => if (ds ++ dd).length = np then g (ds ++ dd) S1 else .bad
def methM (tb : Tb) (np : Nat → Nat) (G : Fn) (m n : Nat) (a : EM) (t : AM) : EM := fun e S => (a e S).bind fun x S1 => match x with
  | .cell i => match S1.at_ i with
    | some (.ins c fs) => match tb.mt c m, fs.lookup m with
      | some f, none => match tb.df f n with
        | some dd => (t e S1).bind fun ds S2 => if (x :: (ds ++ dd)).length = np f then G f (x :: (ds ++ dd)) S2 else .bad
        | none => .bad
      | _, _ => .bad
    | _ => .bad
  | _ => .bad
section
variable {X : Cx} {C : Ctx} {W : WX} {tb : Tb} {G : Fn} {k : Nat} (hK : C.K = X.K) (tk : Takes X W) (hr : Room k X.A)
theorem post_wish {mu : Out D} {s : L2.St} {l : Lay} {H : Hp} {Q : VK} (h : Post C W (QE C Q) s l H mu) : Post C (fun cls d _ H => WE W s cls d H) (QE C Q) [] l H mu := by
  cases mu with
  | ok a S => exact h
  | exc x S => exact h
  | bad => exact h
include tk hr
theorem sd_call {f np : Nat} {a : Addr} {x : Str} {p pos : Pos} {ex : Expr} {es : List Expr} {dd : List D} {m : AM} (F : FnIs X C tb G k f np a) (hg : Gl X x) (hm : X.mg x = some (.ref a)) (hk : PySem.W.keepIn X.K (.ref a) = true)
    (hd : tb.df f (ex :: es).length = some dd) (ha : PA X (ex :: es) (TA' C W m)) (hdb : (x == ("__debug__" : Str)) = false) (hs : (ex :: es).all noStar = true) : PE X (.Call (.Name x p) (ex :: es) [] pos) (T C W (callM np dd (G f) m)) := by
  obtain ⟨fd, ps, hl, F0, hb⟩ := F.ok
  obtain ⟨hn, ds, dvs, b1, b2, b3⟩ := hb _ _ hd
  have h1 : noStar ex = true := by
    rw [List.all_cons] at hs
    exact (Bool.and_eq_true_iff.mp hs).1
  have h2 : es.all noStar = true := by
    rw [List.all_cons] at hs
    exact (Bool.and_eq_true_iff.mp hs).2
  refine PEmono (pe_callSD F0 hr hg hm hk b1 b2 (fun s => passAt tk s) ha hdb (star_eq h1) (star_any h2)) fun s H Q h => ?_
  obtain ⟨e, S, l, he, hr, hp⟩ := h
  refine TAmono (TA_run he hr hp) fun vs H1 ⟨l1, es1, S1, he1, hr1, x1, hd1, hp1⟩ => ?_
  split at hp1
  · rename_i hl2
    have hap := RDs.append hd1 (b3 l1 H1)
    exact ⟨by rw [hap.length, hl2], S1, l1, es1 ++ dd, hr1, hap, post_wish hp1⟩
  · exact hp1.elim
theorem sd_call0 {f np : Nat} {a : Addr} {x : Str} {p pos : Pos} {dd : List D} (F : FnIs X C tb G k f np a) (hg : Gl X x) (hm : X.mg x = some (.ref a)) (hk : PySem.W.keepIn X.K (.ref a) = true)
    (hd : tb.df f 0 = some dd) (hdb : (x == ("__debug__" : Str)) = false) (hW : ∃ E : XK, W = fun cls d _ H => E cls d H) : PE X (.Call (.Name x p) [] [] pos) (T C W (callM np dd (G f) nilM)) := by
  obtain ⟨fd, ps, hl, F0, hb⟩ := F.ok
  obtain ⟨hn, ds, dvs, b1, b2, b3⟩ := hb _ _ hd
  obtain ⟨E, rfl⟩ := hW
  refine PEmono (pe_call0 F0 hr hg hm hk b1 b2 (passes_call tk fun _ _ _ _ h => h) hdb) fun s H Q h => ?_
  obtain ⟨e, S, l, he, hr, hp⟩ := h
  have hp' : Post C _ (QE C Q) s l H (if ([] ++ dd).length = np then G f ([] ++ dd) S else .bad) := hp
  split at hp'
  · rename_i hl2
    have hap := b3 l H
    refine ⟨?_, S, l, dd, hr, hap, post_wish hp'⟩
    show ([] ++ dvs).length = np
    rw [List.nil_append, hap.length]
    exact hl2
  · exact hp'.elim
end
section
variable {X : Cx} {C : Ctx} {W : WX} {tb : Tb} {G : Fn} {k : Nat} {np : Nat → Nat}
/-- what is known of the methods -/
structure MOk (X : Cx) (C : Ctx) (tb : Tb) (np : Nat → Nat) (G : Fn) (k : Nat) : Prop where
  mt : ∀ c m f, tb.mt c m = some f → Cls C.K (C.cad c) ∧ ∃ a, Meth C.K (C.cad c) (C.anm m) a ∧ FnIs X C tb G k f (np f) a
theorem sd_meth {o : Expr} {m : Nat} {x : Str} {apos pos : Pos} {es : List Expr} {mo : EM} {ma : AM} (hK : C.K = X.K) (ok : AOk C tb) (M : MOk X C tb np G k) (tk : Takes X W) (hr : Room k X.A) (hx : C.anm m = x) (ho : PE X o (T C W mo)) (ha : PA X es (TA' C W ma))
    (hb : noSuper o = true) (hs : es.all noStar = true) (hn : es.length < 30) (hl : (apos.endLine == pos.line) = true) (h00 : es = [] → ma = nilM) : PE X (.Call (.Attribute o x apos) es [] pos) (T C W (methM tb np G m (es.length + 1) mo ma)) := by
  subst hx
  refine ⟨fun pins s0 s H Q I h => ?_⟩
  obtain ⟨e, S, l, he, hrl, hp⟩ := h
  have h0 := ho.run pins s0 s H _ I (T_run he hrl hp)
  refine PySem.W.methodCall_KW (pl := plainOf o X.env) (thn h0 ?_) (meth_eq hb hs hn hl)
  rintro u s1 ⟨v, H1, I1, rv, l1, d1, S1, he1, hr1, x1, hd1, hp1⟩
  cases d1 with
  | cell i =>
    have hp2 : Post C W (QE C Q) s l1 H1 (match S1.at_ i with
      | some (.ins c fs) => match tb.mt c m, fs.lookup m with
        | some f, none => match tb.df f (es.length + 1) with
          | some dd => (ma e S1).bind fun ds S2 => if (D.cell i :: (ds ++ dd)).length = np f then G f (D.cell i :: (ds ++ dd)) S2 else .bad
          | none => .bad
        | _, _ => .bad
      | _ => .bad) := hp1
    split at hp2
    · rename_i c fs hS
      split at hp2
      · rename_i f hmt hlk
        split at hp2
        · rename_i dd hdd
          obtain ⟨a, rfl, hi⟩ := hd1
          cases rv
          obtain ⟨b, hbb, dx, ws, hw, hf⟩ := hr1.cells i _ hS
          rw [hi] at hbb
          cases hbb
          obtain ⟨c1, fa, hM, F⟩ := M.mt c m f hmt
          have hnone := RF.get (f := m) ok.inj hf
          rw [hlk] at hnone
          have hnone' : ws.lookup (C.anm m) = none := hnone
          rw [hK] at c1 hM
          refine getmeth_ok I1 hw c1 hM hnone' ?_
          obtain ⟨fd, ps, hpl, F0, hbd⟩ := F.ok
          obtain ⟨hnn, ds, dvs, b1, b2, b3⟩ := hbd _ _ hdd
          have fin : ∀ (us : List Value) (s2 : Shared), AP X pins s (fun vs H2 => ∃ l2 ds S2, EnvR C.K l2 H2 e s ∧ Rel C l2 S2 H2 ∧ Ext l1 H1 l2 H2 ∧ RDs C.K l2 H2 ds vs ∧ Post C W (QE C Q) s l2 H2 (if (D.cell i :: (ds ++ dd)).length = np f then G f (D.cell i :: (ds ++ dd)) S2 else .bad)) us s2 →
              X.K.In s2.heap ∧ wpAny (model X.prog X.w) X.A (call (.ref fa) ([.ref a] ++ us)) (EP X pins s Q) X.xe s2 := by
            rintro us s2 ⟨vs, H2, I2, rvs, l2, ds2, S2, he2, hr2, x2, hd2, hp3⟩
            refine ⟨I2.kIn, ?_⟩
            split at hp3
            · rename_i hlen
              have hcell : RD C.K l2 H2 (.cell i) (.ref a) := ⟨a, rfl, x2.id i a hi⟩
              have hap : RDs C.K l2 H2 (.cell i :: (ds2 ++ dd)) (.ref a :: (vs ++ dvs)) := ⟨_, _, rfl, hcell, RDs.append hd2 (b3 l2 H2)⟩
              refine run_fnSD (us := .ref a :: us) (vs := .ref a :: vs) (E := fun s => WE W s) F0 hr b1 b2 (passAt tk s) I2 (.cons rfl rvs) ⟨?_, S2, l2, _, hr2, hap, post_wish hp3⟩
              have := hap.length
              rw [hlen] at this
              exact this
            · exact hp3.elim
          cases es with
          | nil =>
            cases h00 rfl
            have h4 := fin [] s1 ⟨[], H1, I1, .nil, l1, [], S1, he1, hr1, Ext.refl _ _, rfl, hp2⟩
            exact PySem.W.callWith_K0 I1.kIn hM.kp h4.2
          | cons ex er =>
            have q1 : noStar ex = true := by
              rw [List.all_cons] at hs
              exact (Bool.and_eq_true_iff.mp hs).1
            have q2 : er.all noStar = true := by
              rw [List.all_cons] at hs
              exact (Bool.and_eq_true_iff.mp hs).2
            exact PySem.W.callWith_K (first := [.ref a]) (h₀ := X.base) I.ok.mod.kin hM.kp (thn (ha.run pos pins s1 s H1 _ I1 (TA_run he1 hr1 hp2)) fin) (star_eq q1) (star_any q2)
        · exact hp2.elim
      · exact hp2.elim
    · exact hp2.elim
  | _ => exact hp1.elim
end
end Pyx
/-! instances made; methods of built-in types -/
namespace Pyx
open PySem PySem.Spec PyProof.Rows L2
/-- a new instance, then its __init__ -/
def mkM (np : Nat) (c : Nat) (dd : List D) (g : List D → Sto → Out D) (t : AM) : EM := fun e S => (t e S).bind fun ds S1 => match S1.at_ (.obj c S1.nx) with
  | some _ => .bad
  | none => if (D.cell (.obj c S1.nx) :: (ds ++ dd)).length = np then (g (.cell (.obj c S1.nx) :: (ds ++ dd)) (S1.bump.set (.obj c S1.nx) (.ins c []))).bind fun r S2 => match r with
      | .non => .ok (.cell (.obj c S1.nx)) S2
      | _ => .bad
    else .bad
section
variable {X : Cx} {C : Ctx} {tb : Tb} {G : Fn} {k : Nat} {E : XK}
theorem passW {A : Type} {W W' : WX} {RA : Lay → Hp → A → Prop} {s s' : L2.St} {l : Lay} {H : Hp} {o : Out A} (h : Post C W RA s l H o) (k : ∀ cls d H, W cls d s H → W' cls d s' H) : Post C W' RA s' l H o := by
  cases o with
  | ok a S => exact h
  | exc x S => exact fun H' l' cls d x r q => k _ _ _ (h H' l' cls d x r q)
  | bad => exact h
/-- what is to be shown of a new instance's __init__ -/
theorem make_ok {c np : Nat} {dd ds : List D} {S1 : Sto} {l1 : Lay} {H1 : Hp} {vs : List V} {s : L2.St} {Q : VK} {g : List D → Sto → Out D} (hr1 : Rel C l1 S1 H1) (hd1 : RDs C.K l1 H1 (ds ++ dd) vs)
    (hp1 : Post C (fun cls d _ H => E cls d H) (QE C Q) s l1 H1 (match S1.at_ (.obj c S1.nx) with
      | some _ => .bad
      | none => if (D.cell (.obj c S1.nx) :: (ds ++ dd)).length = np then (g (.cell (.obj c S1.nx) :: (ds ++ dd)) (S1.bump.set (.obj c S1.nx) (.ins c []))).bind fun r S2 => match r with
          | .non => .ok (.cell (.obj c S1.nx)) S2
          | _ => .bad
        else .bad)) (x dx : Addr) (hx : H1 x = none) (hdx : H1 dx = none) (ne : dx ≠ x) :
    spM C np g (.ref x :: vs) (upd (upd H1 dx (.own x)) x (.ins (C.cad c) dx [])) (fun v H2 => v = .non ∧ Q (.ref x) H2) E := by
  split at hp1
  · exact hp1.elim
  · rename_i hS
    split at hp1
    · rename_i hlen
      have x1 := ext_new (l := l1) (o := .own x) hdx
      have r1 := rel_new (o := .own x) hr1 hdx
      have hx' : (upd H1 dx (.own x)) x = none := by
        rw [upd_ne (Ne.symm ne)]
        exact hx
      have x2 := ext_add (i := .obj c S1.nx) (o := .ins (C.cad c) dx []) r1 hS hx'
      have r2 := rel_add (i := .obj c S1.nx) (o := .ins (C.cad c) dx []) (c := .ins c []) r1 hS hx' ⟨dx, [], upd_same, .nil⟩
      have x3 := x1.thru x2 r1
      have hcell : RD C.K (l1.add (.obj c S1.nx) x) (upd (upd H1 dx (.own x)) x (.ins (C.cad c) dx [])) (.cell (.obj c S1.nx)) (.ref x) := ⟨x, rfl, Lay.add_same⟩
      have hds : RDs C.K (l1.add (.obj c S1.nx) x) (upd (upd H1 dx (.own x)) x (.ins (C.cad c) dx [])) (.cell (.obj c S1.nx) :: (ds ++ dd)) (.ref x :: vs) := ⟨_, _, rfl, hcell, RDs.mono x3 _ _ hd1⟩
      refine ⟨by rw [hds.length]; exact hlen, S1.bump.set (.obj c S1.nx) (.ins c []), _, _, ⟨r2.cells, r2.dom, r2.inj, r2.nos⟩, hds, ?_⟩
      have hp2 := Post.mono hp1 x3 (S' := S1.bump.set (.obj c S1.nx) (.ins c [])) ⟨r2.cells, r2.dom, r2.inj, r2.nos⟩
      refine passW (s := s) (Post.bind hp2 fun H' l' r S2 xx rr pp v hv => ?_) fun _ _ _ h => h
      cases r with
      | non =>
        cases hv
        exact ⟨rfl, Post.pure rr pp _ ⟨x, rfl, xx.id _ _ Lay.add_same⟩⟩
      | _ => exact pp.elim
    · exact hp1.elim
theorem sd_mk {c f np : Nat} {a Ca : Addr} {x : Str} {p pos : Pos} {ex : Expr} {es : List Expr} {dd : List D} {m : AM} (hK : C.K = X.K) (tk : Takes X (fun cls d _ H => E cls d H)) (hr : Room (k + 1) X.A) (hC : C.cad c = Ca) (M : Mk X.K Ca a) (F : FnIs X C tb G k f np a)
    (hg : Gl X x) (hm : X.mg x = some (.ref Ca)) (hd : tb.df f ((ex :: es).length + 1) = some dd) (ha : PA X (ex :: es) (TA' C (fun cls d _ H => E cls d H) m)) (hdb : (x == ("__debug__" : Str)) = false) (hs : (ex :: es).all noStar = true) :
    PE X (.Call (.Name x p) (ex :: es) [] pos) (T C (fun cls d _ H => E cls d H) (mkM np c dd (G f) m)) := by
  subst hC
  obtain ⟨fd, ps, hl, F0, hb⟩ := F.ok
  obtain ⟨hn, ds, dvs, b1, b2, b3⟩ := hb _ _ hd
  have h1 : noStar ex = true := by
    rw [List.all_cons] at hs
    exact (Bool.and_eq_true_iff.mp hs).1
  have h2 : es.all noStar = true := by
    rw [List.all_cons] at hs
    exact (Bool.and_eq_true_iff.mp hs).2
  refine PEmono (pe_make (E := E) M F0 hr hg hm b1 b2 (passes_call tk fun _ _ _ _ h => h) ha hdb (star_eq h1) (star_any h2)) fun s H Q h => ?_
  obtain ⟨e, S, l, he, hrl, hp⟩ := h
  refine TAmono (TA_run he hrl hp) fun vs H1 ⟨l1, es1, S1, he1, hr1, x1, hd1, hp1⟩ => ?_
  exact make_ok hr1 (RDs.append hd1 (b3 l1 H1)) hp1
/-- C(e, .., k = v, ..): gD puts positional values and keywords' values in the parameters' order -/
def mkKM (np c : Nat) (n m : Nat) (gD : List D → List D → List D) (g : List D → Sto → Out D) (t tk : AM) : EM := fun e S => (t e S).bind fun ds S1 => (tk e S1).bind fun es S2 => if ds.length = n ∧ es.length = m then match S2.at_ (.obj c S2.nx) with
  | some _ => .bad
  | none => if (D.cell (.obj c S2.nx) :: (gD ds es ++ [])).length = np then (g (.cell (.obj c S2.nx) :: (gD ds es ++ [])) (S2.bump.set (.obj c S2.nx) (.ins c []))).bind fun r S2' => match r with
      | .non => .ok (.cell (.obj c S2.nx)) S2'
      | _ => .bad
    else .bad else .bad
theorem PKmono {kws : List Keyword} {t t' : TA} (h : PK X kws t) (k : ∀ s H Q, t' s H Q → t s H Q) : PK X kws t' := ⟨fun pos pins s σ H Q I q => h.run pos pins s σ H Q I (k σ H Q q)⟩
theorem sdk_nil {W : WX} : PK X [] (TA' C W nilM) := by
  refine PKmono pk_nil fun s H Q h => ?_
  obtain ⟨e, S, l, he, hr, hp⟩ := h
  exact Post.pure hr hp _ rfl
theorem sdk_cons {W : WX} {a : Expr} {nm : Option Str} {kpos : Pos} {kws : List Keyword} {ma : EM} {mr : AM} (ha : PE X a (T C W ma)) (hr : PK X kws (TA' C W mr)) : PK X (⟨nm, a, kpos⟩ :: kws) (TA' C W (consM ma mr)) := by
  refine PKmono (pk_cons ha hr) fun s H Q h => ?_
  obtain ⟨e, S, l, he, hr, hp⟩ := h
  refine Tmono (T_run he hr hp) fun v H1 ⟨l1, d1, S1, he1, hr1, x1, hd1, hp1⟩ => TAmono (TA_run he1 hr1 hp1) fun vs H2 ⟨l2, d2, S2, he2, hr2, x2, hd2, hp2⟩ => ?_
  exact Post.pure hr2 hp2 _ ⟨v, vs, rfl, RD.mono x2 _ _ hd1, hd2⟩
/-- how a call by keywords of a def binds, on all three levels; self ahead -/
structure KwIs (X : Cx) (C : Ctx) (fd : FuncData) (ps ks : List Str) (n : Nat) (gD : List D → List D → List D) : Prop where
  ex : ∃ (g : List Value → List Value → List Value) (gV : List V → List V → List V), KBn X.K fd ps (n + 1) ks g gV ∧ ∀ (l : Lay) (H : Hp) (v : V) (vs zs : List V) (ds es : List D), RDs C.K l H ds vs → RDs C.K l H es zs → ds.length = n → es.length = ks.length → ∃ r, gV (v :: vs) zs = v :: r ∧ RDs C.K l H (gD ds es) r
theorem sd_mkK {c f np n : Nat} {a Ca : Addr} {x : Str} {p pos : Pos} {ex : Expr} {es : List Expr} {kws : List Keyword} {ks : List Str} {gD : List D → List D → List D} {m mk : AM} (hK : C.K = X.K) (tk : Takes X (fun cls d _ H => E cls d H)) (hr : Room (k + 1) X.A) (hC : C.cad c = Ca) (M : Mk X.K Ca a)
    (F : ∃ fd ps, ps.length = np ∧ FnOk X.prog X.w X.K X.mg X.base (L2.CX X.prog X.w) k a fd ps (spM C np (G f)) ∧ KwIs X C fd ps ks n gD)
    (hg : Gl X x) (hm : X.mg x = some (.ref Ca)) (ha : PA X (ex :: es) (TA' C (fun cls d _ H => E cls d H) m)) (hkw : PK X kws (TA' C (fun cls d _ H => E cls d H) mk)) (hall : (backToKw pos (keywordEach kws X.env)).all (·.1.isSome) = true) (hks : (backToKw pos (keywordEach kws X.env)).filterMap (·.1) = ks)
    (hdb : (x == ("__debug__" : Str)) = false) (hs : (ex :: es).all noStar = true) (hpl : ((backTo pos (starEach (ex :: es) X.env)).any (·.1) || (backToKw pos (keywordEach kws X.env)).any (·.1.isNone)) = false) :
    PE X (.Call (.Name x p) (ex :: es) kws pos) (T C (fun cls d _ H => E cls d H) (mkKM np c n ks.length gD (G f) m mk)) := by
  subst hC
  obtain ⟨fd, ps, hl, F0, KW⟩ := F
  obtain ⟨g, gV, hkb, hgv⟩ := KW.ex
  have h1 : noStar ex = true := by
    rw [List.all_cons] at hs
    exact (Bool.and_eq_true_iff.mp hs).1
  refine PEmono (pe_makeN (E := E) M F0 hr hg hm hkb (passes_call tk fun _ _ _ _ h => h) ha hkw hall hks hdb (star_eq h1) hpl) fun s H Q h => ?_
  obtain ⟨e, S, l, he, hrl, hp⟩ := h
  refine TAmono (TA_run he hrl hp) fun vs H1 ⟨l1, es1, S1, he1, hr1, x1, hd1, hp1⟩ => TAmono (TA_run he1 hr1 hp1) fun zs H2 ⟨l2, es2, S2, he2, hr2, x2, hd2, hp2⟩ => ?_
  split at hp2
  · rename_i hlen
    have hd1' := RDs.mono x2 _ _ hd1
    refine ⟨by rw [hd1.length]; exact hlen.1, by rw [hd2.length]; exact hlen.2, fun x dx hx hdx ne => ?_⟩
    obtain ⟨r, er, hrr⟩ := hgv l2 H2 (.ref x) vs zs es1 es2 hd1' hd2 hlen.1 hlen.2
    rw [er]
    exact make_ok hr2 (by rw [List.append_nil]; exact hrr) hp2 x dx hx hdx ne
  · exact hp2.elim
end
/-! ### methods of built-in types -/
def rM (C : Ctx) (g : D → List D → Sto → Option (D × Sto)) : V → List V → Hp → VK → Prop := fun x vs H Q => ∃ S l a ds d S', Rel C l S H ∧ RD C.K l H a x ∧ RDs C.K l H ds vs ∧ g a ds S = some (d, S') ∧ ∀ H' l', Ext l H l' H' → Rel C l' S' H' → ∀ v, RD C.K l' H' d v → Q v H'
/-- whether a value is of the built-in type, for its methods -/
def tyIs (t : Nat) (x : D) (S : Sto) : Bool := match t, x with
  | 0, .str _ => true
  | 1, .lst _ => true
  | 1, .cell i => match S.at_ i with
    | some (.lst _) => true
    | _ => false
  | 2, .cell i => match S.at_ i with
    | some (.dK _) => true
    | some (.dT _) => true
    | _ => false
  | _, _ => false
def tyS : Nat → String
  | 0 => "str"
  | 1 => "list"
  | _ => "dict"
theorem tyIs_ok {C : Ctx} {S : Sto} {l : Lay} {H : Hp} {t : Nat} {x : D} {v : V} (hr : Rel C l S H) (hx : RD C.K l H x v) (h : tyIs t x S = true) : tyV C.K (tyS t) v H := by
  unfold tyIs at h
  split at h
  · obtain ⟨rfl, _⟩ := hx
    rfl
  · obtain ⟨a, vs, rfl, q, _⟩ := hx
    exact .inl ⟨rfl, vs, q.sq⟩
  · obtain ⟨a, rfl, hi⟩ := hx
    split at h
    · rename_i ds hS
      obtain ⟨b, hb, vs, hv, _⟩ := hr.cells _ _ hS
      rw [hi] at hb
      cases hb
      exact .inl ⟨rfl, vs, .inl (.inl hv)⟩
    · cases h
  · obtain ⟨a, rfl, hi⟩ := hx
    split at h
    · rename_i ds hS
      obtain ⟨b, hb, vs, hv, _⟩ := hr.cells _ _ hS
      rw [hi] at hb
      cases hb
      exact .inr (.inr (.inl ⟨rfl, .inl ⟨vs, hv⟩⟩))
    · rename_i ds hS
      obtain ⟨b, hb, vs, hv, _⟩ := hr.cells _ _ hS
      rw [hi] at hb
      cases hb
      exact .inr (.inr (.inl ⟨rfl, .inr ⟨vs, hv⟩⟩))
    · cases h
  · cases h
def bmM (t : Nat) (g : D → List D → Sto → Option (D × Sto)) (a : EM) (ta : AM) : EM := fun e S => (a e S).bind fun x S1 => if tyIs t x S1 = true then (ta e S1).bind fun ds S2 => match g x ds S2 with
    | some (d, S') => .ok d S'
    | none => .bad
  else .bad
section
variable {X : Cx} {C : Ctx} {W : WX} (hK : C.K = X.K)
include hK
theorem sd_bm {o ex : Expr} {es : List Expr} {name : Str} {id : String} {apos pos : Pos} {t : Nat} {g : D → List D → Sto → Option (D × Sto)} {mo : EM} {ma : AM} (pa : PlainAttrs (tyS t)) (slot : Slot (tyS t) name id) (hty : typeOf (.builtin id) = pure (.type "method_descriptor"))
    (hm : MtR X id (rM C g)) (ho : PE X o (T C W mo)) (ha : PA X (ex :: es) (TA' C W ma)) (hb : noSuper o = true) (hs : (ex :: es).all noStar = true) (hn : (ex :: es).length < 29) (hl : (apos.endLine == pos.line) = true) :
    PE X (.Call (.Attribute o name apos) (ex :: es) [] pos) (T C W (bmM t g mo ma)) := by
  have h1 : noStar ex = true := by
    rw [List.all_cons] at hs
    exact (Bool.and_eq_true_iff.mp hs).1
  have h2 : es.all noStar = true := by
    rw [List.all_cons] at hs
    exact (Bool.and_eq_true_iff.mp hs).2
  refine PEmono (pe_bm pa slot hty hm ho ha (base_eq hb) ?_ hl (star_eq h1) (star_any h2)) fun s H Q h => ?_
  · rw [star_all hs]
    show (true && true && decide ((ex :: es).length + 0 + 0 < 30)) = true
    rw [decide_eq_true (by omega : (ex :: es).length + 0 + 0 < 30)]
    rfl
  · obtain ⟨e, S, l, he, hr, hp⟩ := h
    refine Tmono (T_run he hr hp) fun v H1 ⟨l1, d1, S1, he1, hr1, x1, hd1, hp1⟩ => ?_
    split at hp1
    · rename_i hty2
      refine ⟨hK ▸ tyIs_ok hr1 hd1 hty2, TAmono (TA_run he1 hr1 hp1) fun vs H2 ⟨l2, ds, S2, he2, hr2, x2, hd2, hp2⟩ => ?_⟩
      split at hp2
      · rename_i d S' hg
        exact ⟨S2, l2, d1, ds, d, S', hr2, RD.mono x2 _ _ hd1, hd2, hg, fun H' l' x r v hv => hp2 H' l' x r v hv⟩
      · exact hp2.elim
    · exact hp1.elim
theorem sd_bm0 {o : Expr} {name : Str} {id : String} {apos pos : Pos} {t : Nat} {g : D → List D → Sto → Option (D × Sto)} {mo : EM} (pa : PlainAttrs (tyS t)) (slot : Slot (tyS t) name id) (hty : typeOf (.builtin id) = pure (.type "method_descriptor"))
    (hm : MtR X id (rM C g)) (ho : PE X o (T C W mo)) (hb : noSuper o = true) (hl : (apos.endLine == pos.line) = true) :
    PE X (.Call (.Attribute o name apos) [] [] pos) (T C W (bmM t g mo nilM)) := by
  refine PEmono (pe_bm0 pa slot hty hm ho (base_eq hb) hl) fun s H Q h => ?_
  obtain ⟨e, S, l, he, hr, hp⟩ := h
  refine Tmono (T_run he hr hp) fun v H1 ⟨l1, d1, S1, he1, hr1, x1, hd1, hp1⟩ => ?_
  split at hp1
  · rename_i hty2
    refine ⟨hK ▸ tyIs_ok hr1 hd1 hty2, ?_⟩
    have hp2 : Post C W (QE C Q) s l1 H1 (match g d1 [] S1 with
      | some (d, S') => .ok d S'
      | none => .bad) := hp1
    split at hp2
    · rename_i d S' hg
      exact ⟨S1, l1, d1, [], d, S', hr1, hd1, rfl, hg, fun H' l' x r v hv => hp2 H' l' x r v hv⟩
    · exact hp2.elim
  · exact hp1.elim
end
/-! the lists' and dicts' own -/
def appG : D → List D → Sto → Option (D × Sto)
  | .cell i, [d], S => match S.at_ i with
    | some (.lst ds) => if ds.length < 1000000 then some (.non, S.set i (.lst (ds ++ [d]))) else none
    | _ => none
  | _, _, _ => none
def popG : D → List D → Sto → Option (D × Sto)
  | .cell i, [.int j], S => match S.at_ i with
    | some (.lst ds) => if ds.length < 1000000 then match ixN ds.length j with
        | some k => (ds[k]?).map fun d => (d, S.set i (.lst (ds.eraseIdx k)))
        | none => none
      else none
    | _ => none
  | _, _, _ => none
def insG : D → List D → Sto → Option (D × Sto)
  | .cell i, [.int j, d], S => match S.at_ i with
    | some (.lst ds) => if ds.length < 1000000 ∧ 0 ≤ j ∧ j < 1000000 then some (.non, S.set i (.lst (ds.take j.toNat ++ [d] ++ ds.drop j.toNat))) else none
    | _ => none
  | _, _, _ => none
def extG : D → List D → Sto → Option (D × Sto)
  | .cell i, [.lst es], S => match S.at_ i with
    | some (.lst ds) => if ds.length + es.length < 1000000 then some (.non, S.set i (.lst (ds ++ es))) else none
    | _ => none
  | _, _, _ => none
/-- pop of a dict: the key there, or the value handed in besides -/
def dpopG : D → List D → Sto → Option (D × Sto)
  | .cell i, [k, x], S => match S.at_ i with
    | some (.dT kvs) => (keyT k).map fun k => match valD kvs k with
      | some d => (d, S.set i (.dT (dropD kvs k)))
      | none => (x, S)
    | _ => none
  | _, _, _ => none
theorem line_small {n : Nat} (h : n < 1000000) : n < sizeLine := Nat.lt_of_lt_of_le h (by decide)
section
variable {X : Cx} {C : Ctx}
theorem mg_app : MtR X "list.append" (rM C appG) := by
  intro pins s σ H x xs v us Q I rx rs h
  obtain ⟨S, l, a, ds, d, S', hr, ha, hd, hg, hp⟩ := h
  unfold appG at hg
  split at hg
  · rename_i i d0
    obtain ⟨w, rfl, hw⟩ := hd.one
    split at hg
    · rename_i es hS
      split at hg
      · rename_i hl
        cases hg
        obtain ⟨p, rfl, hi⟩ := ha
        obtain ⟨q, hq, ws, hv, hs⟩ := hr.cells i _ hS
        rw [hi] at hq
        cases hq
        have x1 := ext_set (o := .lst (ws ++ [w])) hr hi
        exact mt_append pins s σ H _ _ v us Q I rx rs ⟨p, ws, w, rfl, rfl, hv, by rw [hs.length]; exact line_small hl, hp _ l x1 (rel_set hr hi ⟨_, upd_same, RDs.mono x1 _ _ (RDs.append hs ⟨w, [], rfl, hw, rfl⟩)⟩) _ rfl⟩
      · cases hg
    · cases hg
  · cases hg
theorem mg_pop : MtR X "list.pop" (rM C popG) := by
  intro pins s σ H x xs v us Q I rx rs h
  obtain ⟨S, l, a, ds, d, S', hr, ha, hd, hg, hp⟩ := h
  unfold popG at hg
  split at hg
  · rename_i i j
    obtain ⟨w, rfl, hw⟩ := hd.one
    cases hw
    split at hg
    · rename_i es hS
      split at hg
      · rename_i hl
        split at hg
        · rename_i k hk
          obtain ⟨d', hd', e⟩ := Option.map_eq_some_iff.mp hg
          cases e
          obtain ⟨p, rfl, hi⟩ := ha
          obtain ⟨q, hq, ws, hv, hs⟩ := hr.cells i _ hS
          rw [hi] at hq
          cases hq
          obtain ⟨w, hw, hwd⟩ := hs.get hd'
          rw [← hs.length] at hk
          obtain ⟨s1, s2, s3, s4⟩ := ixN_seq hk
          have hlen := hs.length
          have x1 := ext_set (o := .lst (ws.eraseIdx k)) hr hi
          exact mt_popAt pins s σ H _ _ v us Q I rx rs ⟨p, ws, j, k, w, rfl, rfl, hv, by omega, by omega, s1, hw, hp _ l x1 (rel_set hr hi ⟨_, upd_same, RDs.mono x1 _ _ (RDs.erase k hs)⟩) _ (RD.mono x1 _ _ hwd)⟩
        · cases hg
      · cases hg
    · cases hg
  · cases hg
theorem mg_ins : MtR X "list.insert" (rM C insG) := by
  intro pins s σ H x xs v us Q I rx rs h
  obtain ⟨S, l, a, ds, d, S', hr, ha, hd, hg, hp⟩ := h
  unfold insG at hg
  split at hg
  · rename_i i j d0
    obtain ⟨w1, w2, rfl, hw1, hw⟩ := hd.two
    cases hw1
    split at hg
    · rename_i es hS
      split at hg
      · rename_i hl
        cases hg
        obtain ⟨p, rfl, hi⟩ := ha
        obtain ⟨q, hq, ws, hv, hs⟩ := hr.cells i _ hS
        rw [hi] at hq
        cases hq
        have x1 := ext_set (o := .lst (ws.take j.toNat ++ [w2] ++ ws.drop j.toNat)) hr hi
        exact mt_insert pins s σ H _ _ v us Q I rx rs ⟨p, ws, j, w2, rfl, rfl, hv, by rw [hs.length]; exact line_small hl.1, hl.2.1, by omega, hp _ l x1 (rel_set hr hi ⟨_, upd_same, RDs.mono x1 _ _ (RDs.append (RDs.append (RDs.take _ hs) ⟨w2, [], rfl, hw, rfl⟩) (RDs.drop _ hs))⟩) _ rfl⟩
      · cases hg
    · cases hg
  · cases hg
theorem mg_ext : MtR X "list.extend" (rM C extG) := by
  intro pins s σ H x xs v us Q I rx rs h
  obtain ⟨S, l, a, ds, d, S', hr, ha, hd, hg, hp⟩ := h
  unfold extG at hg
  split at hg
  · rename_i i es0
    obtain ⟨w, rfl, hw⟩ := hd.one
    split at hg
    · rename_i es hS
      split at hg
      · rename_i hl
        cases hg
        obtain ⟨p, rfl, hi⟩ := ha
        obtain ⟨b, zs, rfl, hb, hz⟩ := hw
        obtain ⟨q, hq, ws, hv, hs⟩ := hr.cells i _ hS
        rw [hi] at hq
        cases hq
        have x1 := ext_set (o := .lst (ws ++ zs)) hr hi
        exact mt_extend pins s σ H _ _ v us Q I rx rs ⟨p, b, ws, zs, rfl, rfl, hv, hb.1, by rw [hs.length, hz.length]; exact Nat.le_of_lt (line_small hl), hp _ l x1 (rel_set hr hi ⟨_, upd_same, RDs.mono x1 _ _ (RDs.append hs hz)⟩) _ rfl⟩
      · cases hg
    · cases hg
  · cases hg
theorem mg_dpop (hu : X.A.units + 1 < cLine) : MtR X "dict.pop" (rM C dpopG) := by
  intro pins s σ H x xs v us Q I rx rs h
  obtain ⟨S, l, a, ds, d, S', hr, ha, hd, hg, hp⟩ := h
  unfold dpopG at hg
  split at hg
  · rename_i i k0 x0
    obtain ⟨w1, w2, rfl, hw1, hw⟩ := hd.two
    split at hg
    · rename_i kvs hS
      obtain ⟨k, hk, e⟩ := Option.map_eq_some_iff.mp hg
      obtain ⟨p, rfl, hi⟩ := ha
      obtain ⟨q, hq, ws, hv, hkv⟩ := hr.cells i _ hS
      rw [hi] at hq
      cases hq
      cases k0 <;> simp only [keyT] at hk <;> try cases hk
      obtain ⟨q0, zs, rfl, tq, hus⟩ := hw1
      have ek := RDs.keys hus hk
      subst ek
      have hval := RKV.val k hkv
      refine DX.mt_popT hu pins s σ H _ _ v us Q I rx rs ⟨p, ws, k, q0, w2, rfl, rfl, hv, tq, fun v' hv' => ?_, fun hv' => ?_⟩
      · cases hvd : valD kvs k with
        | none =>
          rw [hvd] at hval
          rw [show valV ws k = none from hval] at hv'
          cases hv'
        | some d1 =>
          rw [hvd] at hval e
          cases e
          obtain ⟨w', hw', hd'⟩ := hval
          rw [hw'] at hv'
          cases hv'
          have x1 := ext_set (o := .dT (dropK ws k)) hr hi
          exact hp _ l x1 (rel_set hr hi ⟨_, upd_same, RKV.mono x1 (RKV.drop hkv)⟩) _ (RD.mono x1 _ _ hd')
      · cases hvd : valD kvs k with
        | some d1 =>
          rw [hvd] at hval
          obtain ⟨w', hw', _⟩ := hval
          rw [hw'] at hv'
          cases hv'
        | none =>
          rw [hvd] at e
          cases e
          exact hp H l (Ext.refl _ _) hr _ hw
    · cases hg
  · cases hg
end
end Pyx
/-! statements, targets, loops -/
namespace Pyx
open PySem PySem.Spec PyProof.Rows L2
/-! ### slots changed -/
def Chg (is : List Nat) (s s' : L2.St) : Prop := s'.length = s.length ∧ ∀ j, j ∉ is → s'[j]? = s[j]?
theorem Chg.refl (is : List Nat) (s : L2.St) : Chg is s s := ⟨rfl, fun _ _ => rfl⟩
theorem Chg.trans {is js : List Nat} {s s1 s2 : L2.St} (a : Chg is s s1) (b : Chg js s1 s2) : Chg (is ++ js) s s2 := ⟨b.1.trans a.1, fun j hj => by
  rw [b.2 j fun h => hj (List.mem_append_right _ h), a.2 j fun h => hj (List.mem_append_left _ h)]⟩
theorem Chg.set {s : L2.St} {i : Nat} {o : Option V} : Chg [i] s (s.set i o) := ⟨by simp, fun j hj => by
  rw [List.getElem?_set_ne fun e => hj (by simp [e])]⟩
def wipeE (e : Env') : List Nat → Env'
  | [] => e
  | v :: vs => (wipeE e vs).set v none
theorem wipeE_env {K : PySem.W.Frag} {l : Lay} {H : Hp} {e : Env'} {s : L2.St} (h : EnvR K l H e s) : ∀ vs, EnvR K l H (wipeE e vs) (wipe s vs)
  | [] => h
  | v :: vs => (wipeE_env h vs).clear
theorem wipe_in {s : L2.St} {i : Nat} : ∀ {vs : List Nat}, i ∈ vs → (wipe s vs)[i]? = if i < s.length then some none else none
  | v :: vs, h => by
    show ((wipe s vs).set v none)[i]? = _
    by_cases e : v = i
    · subst e
      by_cases hl : v < s.length
      · rw [if_pos hl, List.getElem?_set_self (by rw [wipe_length]; exact hl)]
      · rw [if_neg hl, List.getElem?_eq_none (by rw [List.length_set, wipe_length]; omega)]
    · rw [List.getElem?_set_ne e]
      rcases List.mem_cons.mp h with h | h
      · exact (e h.symm).elim
      · exact wipe_in h
theorem wipe_chg {vs is : List Nat} {s s2 : L2.St} (h : Chg is (wipe s vs) s2) (hi : ∀ j, j ∈ is → j ∈ vs) : wipe s2 vs = wipe s vs := by
  have hl : s2.length = s.length := h.1.trans (wipe_length _ _)
  refine List.ext_getElem? fun j => ?_
  by_cases hj : j ∈ vs
  · rw [wipe_in hj, wipe_in hj, hl]
  · rw [wipe_out hj, h.2 j fun q => hj (hi j q)]
/-! ### targets -/
abbrev GM := D → Env' → Option Env'
abbrev GMs := List D → Env' → Option Env'
def gNm (i : Nat) : GM := fun d e => some (e.set i (some d))
def gsNil : GMs := fun ds e => match ds with
  | [] => some e
  | _ => none
def gsCons (g : GM) (r : GMs) : GMs := fun ds e => match ds with
  | d :: ds => (g d e).bind fun e' => r ds e'
  | [] => none
def gTp (n : Nat) (g : GMs) : GM := fun d e => match d with
  | .tup ds => if ds.length = n then g ds e else none
  | _ => none
def G' (C : Ctx) (is : List Nat) (m : GM) : TG := fun v s H Q => ∃ e S l d e', EnvR C.K l H e s ∧ Rel C l S H ∧ RD C.K l H d v ∧ m d e = some e' ∧ ∀ s', EnvR C.K l H e' s' → Chg is s s' → Q s' H
def Gs' (C : Ctx) (is : List Nat) (m : GMs) : TGs := fun vs s H Q => ∃ e S l ds e', EnvR C.K l H e s ∧ Rel C l S H ∧ RDs C.K l H ds vs ∧ m ds e = some e' ∧ ∀ s', EnvR C.K l H e' s' → Chg is s s' → Q s' H
section
variable {X : Cx} {C : Ctx}
theorem PGmono {tg : Expr} {t t' : TG} (h : PG X tg t) (k : ∀ v s H Q, t' v s H Q → t v s H Q) : PG X tg t' := ⟨fun pins s σ H v u Q I r q => h.run pins s σ H v u Q I r (k v σ H Q q)⟩
theorem PGsmono {tg : List Expr} {t t' : TGs} (h : PGs X tg t) (k : ∀ v s H Q, t' v s H Q → t v s H Q) : PGs X tg t' := ⟨fun pins s σ H v u Q I r q => h.run pins s σ H v u Q I r (k v σ H Q q)⟩
theorem sg_name {i : Nat} {x : Str} {pos : Pos} (hN : X.N.Nodup) (hi : X.N[i]? = some x) (hx : Loc X.env.scope x) (hf : X.fn x = true ∨ X.env.scope.names.lookup x = some .local) : PG X (.Name x pos) (G' C [i] (gNm i)) := by
  refine PGmono (pg_name hN hi hx hf) fun v s H Q h => ?_
  obtain ⟨e, S, l, d, e', he, hr, hd, hm, hq⟩ := h
  cases hm
  exact hq _ (he.set hd) Chg.set
theorem sgs_nil {is : List Nat} : PGs X [] (Gs' C is gsNil) := by
  refine PGsmono pgs_nil fun vs s H Q h => ?_
  obtain ⟨e, S, l, ds, e', he, hr, hd, hm, hq⟩ := h
  cases ds with
  | nil =>
    cases hm
    cases hd
    exact ⟨rfl, hq _ he (Chg.refl _ _)⟩
  | cons a r => cases hm
theorem gCons_mono {t t1 : TG} {u u1 : TGs} (k1 : ∀ v s H Q, t v s H Q → t1 v s H Q) (k2 : ∀ v s H Q, u v s H Q → u1 v s H Q) : True := trivial
theorem noStarA {e : Expr} {es : List Expr} {env : Env} (h : noStar e = true) : (assignEach (e :: es) env).map (·.2) = assign e env :: (assignEach es env).map (·.2) := by
  cases e with
  | Starred a b => cases h
  | _ => rfl
theorem assign_len {env : Env} : ∀ es : List Expr, (assignEach es env).length = es.length
  | [] => rfl
  | e :: r => by
    cases e <;> (show (assignEach r env).length + 1 = r.length + 1; rw [assign_len r])
theorem assign_nostar {env : Env} : ∀ {es : List Expr}, es.all noStar = true → (assignEach es env).findIdx? (·.1) = none
  | [], _ => rfl
  | e :: r, h => by
    rw [List.all_cons] at h
    obtain ⟨h1, h2⟩ := Bool.and_eq_true_iff.mp h
    have ih := assign_nostar (env := env) h2
    cases e with
    | Starred a b => cases h1
    | _ =>
      show List.findIdx? (·.1) ((false, _) :: assignEach r env) = none
      rw [List.findIdx?_cons, ih]
      rfl
theorem sgs_cons {e : Expr} {es : List Expr} {is js : List Nat} {g : GM} {r : GMs} (h1 : PG X e (G' C is g)) (h2 : PGs X es (Gs' C js r)) (hs : noStar e = true) : PGs X (e :: es) (Gs' C (is ++ js) (gsCons g r)) := by
  refine PGsmono (pgs_cons h1 h2 (noStarA hs)) fun vs s H Q h => ?_
  obtain ⟨e, S, l, ds, e', he, hr, hd, hm, hq⟩ := h
  cases ds with
  | nil => cases hm
  | cons d ds =>
    obtain ⟨v, ws, rfl, hv, hw⟩ := hd
    obtain ⟨e1, hm1, hm2⟩ := Option.bind_eq_some_iff.mp hm
    refine ⟨v, ws, rfl, e, S, l, d, e1, he, hr, hv, hm1, fun s1 he1 c1 => ?_⟩
    exact ⟨e1, S, l, ds, e', he1, hr, hw, hm2, fun s2 he2 c2 => hq s2 he2 (c1.trans c2)⟩
theorem sg_tup {es : List Expr} {k : Nat} {pos : Pos} {is : List Nat} {g : GMs} (hK : C.K = X.K) (hc : X.calm = true) (h : PGs X es (Gs' C is g)) (hs : es.all noStar = true) : PG X (.Tuple es k pos) (G' C is (gTp es.length g)) := by
  refine PGmono (pg_tup hc h (assign_len es) (assign_nostar hs)) fun v s H Q h => ?_
  obtain ⟨e, S, l, d, e', he, hr, hd, hm, hq⟩ := h
  cases d with
  | tup ds =>
    obtain ⟨a, vs, rfl, ht, hv⟩ := hd
    have hm' : (if ds.length = es.length then g ds e else none) = some e' := hm
    split at hm'
    · rename_i hl
      exact ⟨a, vs, rfl, hK ▸ ht.sq, by rw [hv.length]; exact hl, e, S, l, ds, e', he, hr, hv, hm', hq⟩
    · cases hm'
  | _ => cases hm
end
/-! ### statements -/
inductive SO where
  | nx (e : Env') (S : Sto) | rt (d : D) (S : Sto) | bk (e : Env') (S : Sto) | ct (e : Env') (S : Sto) | exc (x : Exn) (e : Env') (S : Sto) | bad
abbrev SM := Env' → Sto → SO
def liftS {A : Type} (o : Out A) (e : Env') (f : A → Sto → SO) : SO := match o with
  | .ok a S => f a S
  | .exc x S => .exc x e S
  | .bad => .bad
section
variable (C : Ctx) (W : WX) (D' : Ends)
def PostS (l : Lay) (H : Hp) : SO → Prop
  | .nx e S => ∀ s' H' l', Ext l H l' H' → Rel C l' S H' → EnvR C.K l' H' e s' → D'.nx s' H'
  | .rt d S => ∀ H' l', Ext l H l' H' → Rel C l' S H' → ∀ v, RD C.K l' H' d v → D'.rt v H'
  | .bk e S => ∀ s' H' l', Ext l H l' H' → Rel C l' S H' → EnvR C.K l' H' e s' → D'.bk s' H'
  | .ct e S => ∀ s' H' l', Ext l H l' H' → Rel C l' S H' → EnvR C.K l' H' e s' → D'.ct s' H'
  | .exc x e S => ∀ s' H' l' cls d, Ext l H l' H' → Rel C l' S H' → EnvR C.K l' H' e s' → RX C l' H' x cls d → W cls d s' H'
  | .bad => False
end
def TS' (C : Ctx) (W : WX) (m : SM) : TS := fun D' s H => ∃ e S l, EnvR C.K l H e s ∧ Rel C l S H ∧ PostS C W D' l H (m e S)
section
variable {C : Ctx} {W : WX} {D' : Ends} {l l' : Lay} {H H' : Hp} {s : L2.St} {e : Env'} {S : Sto}
theorem PostS.mono {S' : Sto} {o : SO} (h : PostS C W D' l H o) (x : Ext l H l' H') (r : Rel C l' S' H') : PostS C W D' l' H' o := by
  cases o with
  | nx e S => exact fun s2 H2 l2 x2 r2 => h s2 H2 l2 (x.thru x2 r) r2
  | rt d S => exact fun H2 l2 x2 r2 => h H2 l2 (x.thru x2 r) r2
  | bk e S => exact fun s2 H2 l2 x2 r2 => h s2 H2 l2 (x.thru x2 r) r2
  | ct e S => exact fun s2 H2 l2 x2 r2 => h s2 H2 l2 (x.thru x2 r) r2
  | exc x0 e S => exact fun s2 H2 l2 c d x2 r2 => h s2 H2 l2 c d (x.thru x2 r) r2
  | bad => exact h
theorem S_run {m : EM} {f : D → Sto → SO} (he : EnvR C.K l H e s) (hr : Rel C l S H) (hp : PostS C W D' l H (liftS (m e S) e f)) :
    T C W m s H fun v H1 => ∃ l1 d S1, EnvR C.K l1 H1 e s ∧ Rel C l1 S1 H1 ∧ Ext l H l1 H1 ∧ RD C.K l1 H1 d v ∧ PostS C W D' l1 H1 (f d S1) := by
  refine ⟨e, S, l, he, hr, ?_⟩
  cases q : m e S with
  | ok d S1 =>
    rw [q] at hp
    exact fun H1 l1 x r v hv => ⟨l1, d, S1, he.mono x, r, x, hv, PostS.mono (show PostS C W D' l H (f d S1) from hp) x r⟩
  | exc x S1 =>
    rw [q] at hp
    exact fun H1 l1 cls d x r q => hp s H1 l1 cls d x r (he.mono x) q
  | bad =>
    rw [q] at hp
    exact hp
theorem ST_run {m : TM} {f : Bool → Sto → SO} (he : EnvR C.K l H e s) (hr : Rel C l S H) (hp : PostS C W D' l H (liftS (m e S) e f)) :
    TT' C W m s H fun b H1 => ∃ l1 S1, EnvR C.K l1 H1 e s ∧ Rel C l1 S1 H1 ∧ Ext l H l1 H1 ∧ PostS C W D' l1 H1 (f b S1) := by
  refine ⟨e, S, l, he, hr, ?_⟩
  cases q : m e S with
  | ok d S1 =>
    rw [q] at hp
    exact fun H1 l1 x r => ⟨l1, S1, he.mono x, r, x, PostS.mono (show PostS C W D' l H (f d S1) from hp) x r⟩
  | exc x S1 =>
    rw [q] at hp
    exact fun H1 l1 cls d x r q => hp s H1 l1 cls d x r (he.mono x) q
  | bad =>
    rw [q] at hp
    exact hp
theorem SA_run {m : AM} {f : List D → Sto → SO} (he : EnvR C.K l H e s) (hr : Rel C l S H) (hp : PostS C W D' l H (liftS (m e S) e f)) :
    TA' C W m s H fun vs H1 => ∃ l1 ds S1, EnvR C.K l1 H1 e s ∧ Rel C l1 S1 H1 ∧ Ext l H l1 H1 ∧ RDs C.K l1 H1 ds vs ∧ PostS C W D' l1 H1 (f ds S1) := by
  refine ⟨e, S, l, he, hr, ?_⟩
  cases q : m e S with
  | ok d S1 =>
    rw [q] at hp
    exact fun H1 l1 x r vs hv => ⟨l1, d, S1, he.mono x, r, x, hv, PostS.mono (show PostS C W D' l H (f d S1) from hp) x r⟩
  | exc x S1 =>
    rw [q] at hp
    exact fun H1 l1 cls d x r q => hp s H1 l1 cls d x r (he.mono x) q
  | bad =>
    rw [q] at hp
    exact hp
theorem PostS.now {S : Sto} {e : Env'} (r : Rel C l S H) (he : EnvR C.K l H e s) (h : PostS C W D' l H (.nx e S)) : D'.nx s H := h s H l (Ext.refl l H) r he
theorem PostS.ret {S : Sto} {d : D} {v : V} (r : Rel C l S H) (h : PostS C W D' l H (.rt d S)) (hd : RD C.K l H d v) : D'.rt v H := h H l (Ext.refl l H) r v hd
end
def skipM : SM := fun e S => .nx e S
def breakM : SM := fun e S => .bk e S
def contM : SM := fun e S => .ct e S
def seqM (a b : SM) : SM := fun e S => match a e S with
  | .nx e' S' => b e' S'
  | o => o
def exprM (a : EM) : SM := fun e S => liftS (a e S) e fun _ S1 => .nx e S1
def retM (a : EM) : SM := fun e S => liftS (a e S) e fun d S1 => .rt d S1
def ifS (c : TM) (a b : SM) : SM := fun e S => liftS (c e S) e fun k S1 => if k = true then a e S1 else b e S1
def asgM (g : GM) (a : EM) : SM := fun e S => liftS (a e S) e fun d S1 => match g d e with
  | some e' => .nx e' S1
  | none => .bad
def setAt (tb : Tb) (f : Nat) (x d : D) (S : Sto) : Option Sto := match x with
  | .cell i => match S.at_ i with
    | some (.ins c fs) => if tb.pl c f = true ∧ fs.length < 900 then some (S.set i (.ins c (putA f d fs))) else none
    | _ => none
  | _ => none
def ofS (o : Option Sto) (e : Env') : SO := match o with
  | some S => .nx e S
  | none => .bad
/-- o.f = e -/
def satM (tb : Tb) (f : Nat) (o a : EM) : SM := fun e S => liftS (a e S) e fun d S1 => liftS (o e S1) e fun x S2 => ofS (setAt tb f x d S2) e
/-- o.f op= e -/
def augM (tb : Tb) (f : Nat) (g : D → D → Sto → Option D) (o a : EM) : SM := fun e S => liftS (o e S) e fun x S1 => match getA tb f x S1 with
  | some y => liftS (a e S1) e fun d S2 => match g y d S2 with
    | some z => if clsOf x S2 = clsOf x S1 then ofS (setAt tb f x z S2) e else .bad
    | none => .bad
  | none => .bad
section
variable {X : Cx} {C : Ctx} {W : WX}
theorem ss_skip {pos : Pos} : PS X (.Pass pos) (TS' C W skipM) := by
  refine PSmono ps_pass fun D' s H h => ?_
  obtain ⟨e, S, l, he, hr, hp⟩ := h
  exact PostS.now hr he hp
theorem ss_break {pos : Pos} : PS X (.Break pos) (TS' C W breakM) := by
  refine PSmono ps_break fun D' s H h => ?_
  obtain ⟨e, S, l, he, hr, hp⟩ := h
  exact hp s H l (Ext.refl l H) hr he
theorem ss_cont {pos : Pos} : PS X (.Continue pos) (TS' C W contM) := by
  refine PSmono ps_continue fun D' s H h => ?_
  obtain ⟨e, S, l, he, hr, hp⟩ := h
  exact hp s H l (Ext.refl l H) hr he
theorem sss_nil : PSs X [] (TS' C W skipM) := by
  refine PSsmono pss_nil fun D' s H h => ?_
  obtain ⟨e, S, l, he, hr, hp⟩ := h
  exact PostS.now hr he hp
theorem sss_cons {st : Stmt} {rest : List Stmt} {a b : SM} (h1 : PS X st (TS' C W a)) (h2 : PSs X rest (TS' C W b)) : PSs X (st :: rest) (TS' C W (seqM a b)) := by
  refine PSsmono (pss_cons h1 h2) fun D' s H h => ?_
  obtain ⟨e, S, l, he, hr, hp⟩ := h
  refine ⟨e, S, l, he, hr, ?_⟩
  unfold seqM at hp
  cases q : a e S with
  | nx e' S' =>
    rw [q] at hp
    exact fun s' H' l' x r he' => ⟨e', S', l', he', r, PostS.mono hp x r⟩
  | rt d S' =>
    rw [q] at hp
    exact hp
  | bk e' S' =>
    rw [q] at hp
    exact hp
  | ct e' S' =>
    rw [q] at hp
    exact hp
  | exc x e' S' =>
    rw [q] at hp
    exact hp
  | bad =>
    rw [q] at hp
    exact hp
theorem ss_expr {ex : Expr} {pos : Pos} {m : EM} (h : PE X ex (T C W m)) (hc : noComp ex = true) : PS X (.Expr ex pos) (TS' C W (exprM m)) := by
  refine PSmono (ps_expr h (swap_eq hc)) fun D' s H h => ?_
  obtain ⟨e, S, l, he, hr, hp⟩ := h
  exact Tmono (S_run he hr hp) fun v H1 ⟨l1, d1, S1, he1, hr1, x1, hd1, hp1⟩ => PostS.now hr1 he1 hp1
theorem ss_ret {ex : Expr} {pos : Pos} {m : EM} (h : PE X ex (T C W m)) : PS X (.Return (some ex) pos) (TS' C W (retM m)) := by
  refine PSmono (ps_ret h) fun D' s H h => ?_
  obtain ⟨e, S, l, he, hr, hp⟩ := h
  exact Tmono (S_run he hr hp) fun v H1 ⟨l1, d1, S1, he1, hr1, x1, hd1, hp1⟩ => PostS.ret hr1 hp1 hd1
theorem ss_retN {pos : Pos} : PS X (.Return none pos) (TS' C W (retM (cM .non))) := by
  refine PSmono ps_retN fun D' s H h => ?_
  obtain ⟨e, S, l, he, hr, hp⟩ := h
  exact PostS.ret hr hp rfl
theorem ss_if {c : Expr} {a b : List Stmt} {pos : Pos} {mc : TM} {ma mb : SM} (hc : PT X c (TT' C W mc)) (ha : PSs X a (TS' C W ma)) (hb : PSs X b (TS' C W mb)) : PS X (.If c a b pos) (TS' C W (ifS mc ma mb)) := by
  refine PSmono (ps_if hc ha hb) fun D' s H h => ?_
  obtain ⟨e, S, l, he, hr, hp⟩ := h
  refine TTmono (ST_run he hr hp) fun k H1 ⟨l1, S1, he1, hr1, x1, hp1⟩ => ?_
  cases k with
  | true => exact iteT ⟨e, S1, l1, he1, hr1, hp1⟩
  | false => exact iteF ⟨e, S1, l1, he1, hr1, hp1⟩
theorem ss_asg {tg ex : Expr} {pos : Pos} {is : List Nat} {g : GM} {m : EM} (h : PE X ex (T C W m)) (hg : PG X tg (G' C is g)) (hc : noComp ex = true) (hs : noStar tg = true) (hw : swappedStores [tg] ex X.env = pure none) : PS X (.Assign [tg] ex pos) (TS' C W (asgM g m)) := by
  refine PSmono (ps_asg h hg (swap_eq hc) hw (noStarA hs)) fun D' s H h => ?_
  obtain ⟨e, S, l, he, hr, hp⟩ := h
  refine Tmono (S_run he hr hp) fun v H1 ⟨l1, d1, S1, he1, hr1, x1, hd1, hp1⟩ => ?_
  cases q : g d1 e with
  | none =>
    rw [q] at hp1
    exact hp1.elim
  | some e' =>
    rw [q] at hp1
    exact ⟨e, S1, l1, d1, e', he1, hr1, hd1, q, fun s' he' _ => PostS.now hr1 he' hp1⟩
theorem ss_set {i : Nat} {x : Str} {ex : Expr} {pos pos' : Pos} {m : EM} (hN : X.N.Nodup) (hi : X.N[i]? = some x) (hx : Loc X.env.scope x) (hf : X.fn x = true ∨ X.env.scope.names.lookup x = some .local) (h : PE X ex (T C W m)) (hs : swapsWith ex (some (.Name x pos')) pos.line X.env = pure false) :
    PS X (.Assign [.Name x pos'] ex pos) (TS' C W (asgM (gNm i) m)) := by
  refine PSmono (ps_set hN hi hx h hs hf) fun D' s H h => ?_
  obtain ⟨e, S, l, he, hr, hp⟩ := h
  exact Tmono (S_run he hr hp) fun v H1 ⟨l1, d1, S1, he1, hr1, x1, hd1, hp1⟩ => PostS.now hr1 (he1.set hd1) hp1
theorem setAt_ok {tb : Tb} (ok : AOk C tb) {f : Nat} {x d : D} {S S' : Sto} {l : Lay} {H : Hp} {v w : V} (hr : Rel C l S H) (hx : RD C.K l H x v) (hd : RD C.K l H d w) (e : setAt tb f x d S = some S') :
    ∃ a c dx ws, v = .ref a ∧ clsOf x S = some c ∧ H a = some (.ins (C.cad c) dx ws) ∧ Cls C.K (C.cad c) ∧ NoAttr C.K (C.cad c) (C.anm f) ∧ ws.length < 1000 ∧ Ext l H l (upd H a (.ins (C.cad c) dx (putF (C.anm f) w ws))) ∧ Rel C l S' (upd H a (.ins (C.cad c) dx (putF (C.anm f) w ws))) := by
  unfold setAt at e
  split at e
  · rename_i i
    obtain ⟨a, rfl, hi⟩ := hx
    split at e
    · rename_i c fs hS
      split at e
      · rename_i hpl
        cases e
        obtain ⟨b, hb, dx, ws, hw, hf⟩ := hr.cells i _ hS
        rw [hi] at hb
        cases hb
        obtain ⟨c1, c2⟩ := ok.pl c f hpl.1
        have x1 := ext_set (o := .ins (C.cad c) dx (putF (C.anm f) w ws)) hr hi
        exact ⟨a, c, dx, ws, rfl, by simp only [clsOf, hS], hw, c1, c2, by rw [hf.len]; omega, x1, rel_set hr hi ⟨dx, _, upd_same, RF.mono x1 (RF.put ok.inj hd hf)⟩⟩
      · cases e
    · cases e
  · cases e
theorem ss_sat {tb : Tb} {f : Nat} {x : Str} {o ex : Expr} {pos pos' : Pos} {mo m : EM} (hK : C.K = X.K) (ok : AOk C tb) (hx : C.anm f = x) (ho : PE X o (T C W mo)) (h : PE X ex (T C W m)) (hs : swapsWith ex (some (.Attribute o x pos')) pos.line X.env = pure false) :
    PS X (.Assign [.Attribute o x pos'] ex pos) (TS' C W (satM tb f mo m)) := by
  subst hx
  refine PSmono (ps_fld ho h hs) fun D' s H h => ?_
  obtain ⟨e, S, l, he, hr, hp⟩ := h
  refine Tmono (S_run he hr hp) fun v H1 ⟨l1, d1, S1, he1, hr1, x1, hd1, hp1⟩ => Tmono (S_run he1 hr1 hp1) fun w H2 ⟨l2, d2, S2, he2, hr2, x2, hd2, hp2⟩ => ?_
  cases q : setAt tb f d2 d1 S2 with
  | none =>
    rw [q] at hp2
    exact hp2.elim
  | some S' =>
    rw [q] at hp2
    obtain ⟨a, c, dx, ws, rfl, _, h1, h2, h3, h4, h5, h6⟩ := setAt_ok ok hr2 hd2 (RD.mono x2 _ _ hd1) q
    rw [hK] at h2 h3
    exact ⟨a, _, dx, ws, rfl, h1, h2, h3, h4, hp2 s _ l2 h5 h6 (he2.mono h5)⟩
def InS (X : Cx) (C : Ctx) (op : Operator) (g : D → D → Sto → Option D) : Prop := InOp X op (rB C g)
theorem ss_aug {tb : Tb} {f : Nat} {x : Str} {o ex : Expr} {op : Operator} {g : D → D → Sto → Option D} {pos tpos : Pos} {mo m : EM} (hK : C.K = X.K) (ok : AOk C tb) (hx : C.anm f = x) (ho : PE X o (T C W mo)) (h : PE X ex (T C W m)) (hop : InOp X op (rB C g)) :
    PS X (.AugAssign (.Attribute o x tpos) op ex pos) (TS' C W (augM tb f g mo m)) := by
  subst hx
  refine PSmono (ps_fldaug ho h hop) fun D' s H h => ?_
  obtain ⟨e, S, l, he, hr, hp⟩ := h
  refine Tmono (S_run he hr hp) fun v H1 ⟨l1, d1, S1, he1, hr1, x1, hd1, hp1⟩ => ?_
  split at hp1
  · rename_i y q
    obtain ⟨a, c, dx, ws, w, rfl, h1, h2, h3, h4, h5, h6⟩ := getA_ok ok hr1 hd1 q
    rw [hK] at h2 h3
    refine ⟨a, _, dx, ws, w, rfl, h1, h2, h3, h4, Tmono (S_run he1 hr1 hp1) fun u H2 ⟨l2, d2, S2, he2, hr2, x2, hd2, hp2⟩ => ?_⟩
    split at hp2
    · rename_i z qg
      refine ⟨S2, l2, y, d2, z, hr2, RD.mono x2 _ _ h5, hd2, qg, fun H3 l3 x3 hr3 zv hz => ?_⟩
      have hp3 := PostS.mono hp2 x3 hr3
      split at hp3
      · rename_i hcl
        cases qs : setAt tb f d1 z S2 with
        | none =>
          rw [qs] at hp3
          exact hp3.elim
        | some S' =>
          rw [qs] at hp3
          obtain ⟨a', c', dx', ws', e', g0, g1, g2, g3, g4, g5, g6⟩ := setAt_ok ok hr3 (RD.mono x3 _ _ (RD.mono x2 _ _ hd1)) hz qs
          cases e'
          rw [h6, g0] at hcl
          cases hcl
          exact ⟨dx', ws', g1, g4, hp3 s _ l3 g5 g6 ((he2.mono x3).mono g5)⟩
      · exact hp3.elim
    · exact hp2.elim
  · exact hp1.elim
end
end Pyx
/-! what is walked; for, while; list comprehensions -/
namespace Pyx
open PySem PySem.Spec PyProof.Rows L2
inductive Src where
  | fix (ds : List D) | rng (lo c : Int) (n : Nat) | cel (i : Id) | cen (i : Id)
def Src.get (S : Sto) (k : Nat) : Src → Option (Option D)
  | .fix ds => some ds[k]?
  | .rng lo c n => some (if k < n then some (.int (lo + (k : Nat) * c)) else none)
  | .cel i => match S.at_ i with
    | some (.lst ds) => some ds[k]?
    | _ => none
  | .cen i => match S.at_ i with
    | some (.lst ds) => some (ds[k]?.map fun d => .tup [.int (k : Nat), d])
    | _ => none
def Src.fuel (S : Sto) : Src → Nat
  | .fix ds => ds.length + 1
  | .rng _ _ n => n + 1
  | .cel i => match S.at_ i with
    | some (.lst ds) => ds.length + 1
    | _ => 0
  | .cen i => match S.at_ i with
    | some (.lst ds) => ds.length + 1
    | _ => 0
abbrev IM := Env' → Sto → Out Src
/-- the iterator J walks what src tells, from here on -/
def Yld (C : Ctx) (J : It) (src : Src) (l0 : Lay) (H0 : Hp) : Prop := ∀ S l H k, ExtW l0 H0 l H → Rel C l S H →
  match src.get S k with
  | none => True
  | some none => J.stop k H
  | some (some d) => J.go k H ∧ ∀ x H', J.yld k H x H' → Ext l H l H' ∧ Rel C l S H' ∧ RD C.K l H' d x
def TI' (C : Ctx) (W : WX) (m : IM) : TI := fun s H R => ∃ e S l, EnvR C.K l H e s ∧ Rel C l S H ∧ Post C W (fun l' H' src => ∀ J, Yld C J src l' H' → R J H') s l H (m e S)
/-! ### for -/
def loopM (src : Src) (g : GM) (body : SM) : Nat → Nat → SM
  | 0, _ => fun _ _ => .bad
  | f + 1, k => fun e S => match src.get S k with
    | none => .bad
    | some none => .nx e S
    | some (some d) => match g d e with
      | none => .bad
      | some e1 => match body e1 S with
        | .nx e' S' => loopM src g body f (k + 1) e' S'
        | .ct e' S' => loopM src g body f (k + 1) e' S'
        | .bk e' S' => .nx e' S'
        | o => o
def forM (im : IM) (g : GM) (body : SM) : SM := fun e S => liftS (im e S) e fun src S1 => loopM src g body (src.fuel S1) 0 e S1
section
variable {X : Cx} {C : Ctx} {W : WX}
theorem ss_for {tg iter : Expr} {body : List Stmt} {pos : Pos} {im : IM} {is : List Nat} {g : GM} {mb : SM} (hp : PassesOwn (model X.prog X.w) X.A X.env X.xe) (hc : X.calm = true) (hi : PI X tg iter (TI' C W im)) (hg : PG X tg (G' C is g)) (hb : PSs X body (TS' C W mb)) (hs : noSet iter = true) :
    PS X (.For tg iter body [] pos) (TS' C W (forM im g mb)) := by
  refine PSmono (ps_for hp hc hi hg hb fun x => fold_eq hs) fun D' s H h => ?_
  obtain ⟨e, S, l, he, hr, hP⟩ := h
  refine ⟨e, S, l, he, hr, ?_⟩
  unfold forM at hP
  cases q : im e S with
  | bad =>
    rw [q] at hP
    exact hP
  | exc x S1 =>
    rw [q] at hP
    exact fun H1 l1 cls d x r q => hP s H1 l1 cls d x r (he.mono x) q
  | ok src S1 =>
    rw [q] at hP
    have hP' : PostS C W D' l H (loopM src g mb (src.fuel S1) 0 e S1) := hP
    intro H1 l1 x1 r1 J hY
    refine ⟨fun k m s2 H2 => ∃ e2 S2 l2, Ext l1 H1 l2 H2 ∧ EnvR C.K l2 H2 e2 s2 ∧ Rel C l2 S2 H2 ∧ PostS C W D' l2 H2 (loopM src g mb m k e2 S2), ⟨src.fuel S1, e, S1, l1, Ext.refl _ _, he.mono x1, r1, PostS.mono hP' x1 r1⟩, ?_⟩
    rintro k m s2 H2 ⟨e2, S2, l2, x2, he2, r2, hp2⟩
    cases m with
    | zero => exact hp2.elim
    | succ m =>
      have hy := hY S2 l2 H2 k x2.toExtW r2
      unfold loopM at hp2
      split at hp2
      · exact hp2.elim
      · rename_i hget
        rw [hget] at hy
        exact .inl ⟨hy, PostS.now r2 he2 hp2⟩
      · rename_i d hget
        rw [hget] at hy
        refine .inr ⟨hy.1, fun s' H' => ∃ m', m' < m + 1 ∧ ∃ e2 S2 l2, Ext l1 H1 l2 H' ∧ EnvR C.K l2 H' e2 s' ∧ Rel C l2 S2 H' ∧ PostS C W D' l2 H' (loopM src g mb m' (k + 1) e2 S2), fun s' H' hn => hn, fun v H3 hv => ?_⟩
        obtain ⟨x3, r3, hd⟩ := hy.2 v H3 hv
        split at hp2
        · exact hp2.elim
        · rename_i e1 hge
          refine ⟨e2, S2, l2, d, e1, he2.mono x3, r3, hd, hge, fun s4 he4 _ => ⟨e1, S2, l2, he4, r3, ?_⟩⟩
          have hp3 := PostS.mono hp2 x3 r3
          have x13 := x2.thru x3 r2
          split at hp3
          · rename_i e' S' hb'
            rw [hb']
            exact fun s5 H5 l5 x5 r5 he5 => ⟨m, Nat.lt_succ_self m, e', S', l5, x13.thru x5 r3, he5, r5, PostS.mono hp3 x5 r5⟩
          · rename_i e' S' hb'
            rw [hb']
            exact fun s5 H5 l5 x5 r5 he5 => ⟨m, Nat.lt_succ_self m, e', S', l5, x13.thru x5 r3, he5, r5, PostS.mono hp3 x5 r5⟩
          · rename_i e' S' hb'
            rw [hb']
            exact hp3
          · rename_i o h1 h2 h3
            cases hb' : mb e1 S2 with
            | nx e' S' => exact (h1 _ _ hb').elim
            | ct e' S' => exact (h2 _ _ hb').elim
            | bk e' S' => exact (h3 _ _ hb').elim
            | rt d S' =>
              rw [hb'] at hp3
              exact hp3
            | exc x e' S' =>
              rw [hb'] at hp3
              exact hp3
            | bad =>
              rw [hb'] at hp3
              exact hp3.elim
end
/-! ### while -/
def whM (c : TM) (body : SM) : Nat → SM
  | 0 => fun _ _ => .bad
  | f + 1 => fun e S => liftS (c e S) e fun b S1 => if b = true then match body e S1 with
      | .nx e' S' => whM c body f e' S'
      | .ct e' S' => whM c body f e' S'
      | .bk e' S' => .nx e' S'
      | o => o
    else .nx e S1
def whileFuel : Nat := 100000
def whileM (c : TM) (body : SM) : SM := whM c body whileFuel
section
variable {X : Cx} {C : Ctx} {W : WX}
theorem ss_while {c : Expr} {body : List Stmt} {pos : Pos} {mc : TM} {mb : SM} (hp : PassesOwn (model X.prog X.w) X.A X.env X.xe) (hc : PT X c (TT' C W mc)) (hb : PSs X body (TS' C W mb)) : PS X (.While c body [] pos) (TS' C W (whileM mc mb)) := by
  refine PSmono (ps_while hp hc hb) fun D' s H h => ?_
  obtain ⟨e, S, l, he, hr, hP⟩ := h
  refine ⟨fun m s2 H2 => ∃ e2 S2 l2, EnvR C.K l2 H2 e2 s2 ∧ Rel C l2 S2 H2 ∧ PostS C W D' l2 H2 (whM mc mb m e2 S2), ⟨whileFuel, e, S, l, he, hr, hP⟩, ?_⟩
  rintro m s2 H2 ⟨e2, S2, l2, he2, r2, hp2⟩
  cases m with
  | zero => exact hp2.elim
  | succ m =>
    refine TTmono (ST_run he2 r2 hp2) fun b H3 ⟨l3, S3, he3, r3, x3, hp3⟩ => ?_
    cases b with
    | false => exact iteF (PostS.now r3 he3 hp3)
    | true =>
      refine iteT ⟨fun s' H' => ∃ m', m' < m + 1 ∧ ∃ e2 S2 l2, EnvR C.K l2 H' e2 s' ∧ Rel C l2 S2 H' ∧ PostS C W D' l2 H' (whM mc mb m' e2 S2), fun s' H' hn => hn, ⟨e2, S3, l3, he3, r3, ?_⟩⟩
      have hp4 : PostS C W D' l3 H3 (match mb e2 S3 with
        | .nx e' S' => whM mc mb m e' S'
        | .ct e' S' => whM mc mb m e' S'
        | .bk e' S' => .nx e' S'
        | o => o) := hp3
      split at hp4
      · rename_i e' S' hb'
        rw [hb']
        exact fun s5 H5 l5 x5 r5 he5 => ⟨m, Nat.lt_succ_self m, e', S', l5, he5, r5, PostS.mono hp4 x5 r5⟩
      · rename_i e' S' hb'
        rw [hb']
        exact fun s5 H5 l5 x5 r5 he5 => ⟨m, Nat.lt_succ_self m, e', S', l5, he5, r5, PostS.mono hp4 x5 r5⟩
      · rename_i e' S' hb'
        rw [hb']
        exact hp4
      · rename_i o h1 h2 h3
        cases hb' : mb e2 S3 with
        | nx e' S' => exact (h1 _ _ hb').elim
        | ct e' S' => exact (h2 _ _ hb').elim
        | bk e' S' => exact (h3 _ _ hb').elim
        | rt d S' =>
          rw [hb'] at hp4
          exact hp4
        | exc x e' S' =>
          rw [hb'] at hp4
          exact hp4
        | bad =>
          rw [hb'] at hp4
          exact hp4.elim
end
/-! ### what is walked -/
def srcOf (x : D) (S : Sto) : Option Src := match x with
  | .lst ds => some (.fix ds)
  | .tup ds => some (.fix ds)
  | .ktup ds => some (.fix ds)
  | .scr ns => some (.fix (ns.map D.int))
  | .str z => some (.fix (z.cps.toList.map fun c => .str ⟨#[c]⟩))
  | .cell i => match S.at_ i with
    | some (.lst _) => some (.cel i)
    | _ => none
  | _ => none
def seqI (a : EM) : IM := fun e S => (a e S).bind fun x S1 => ofO (srcOf x S1) S1
section
variable {C : Ctx}
/-- a list that stands -/
theorem yld_lst {l : Lay} {H : Hp} {ds : List D} {a : Addr} (h : ∀ l' H', ExtW l H l' H' → ∃ vs, SqL C.K H' a vs ∧ RDs C.K l' H' ds vs) : Yld C (Itl C.K a) (.fix ds) l H := by
  intro S' l' H' k x r
  obtain ⟨vs, h1, h2⟩ := h l' H' x
  show match some ds[k]? with | none => True | some none => (Itl C.K a).stop k H' | some (some d) => _
  cases q : ds[k]? with
  | none => exact ⟨vs, h1, by rw [h2.length]; exact List.getElem?_eq_none_iff.mp q⟩
  | some d =>
    obtain ⟨v, hv, hd⟩ := h2.get q
    refine ⟨⟨vs, v, h1, hv⟩, fun w H2 hw => ?_⟩
    obtain ⟨rfl, hw2⟩ := hw
    have e : w = v := Option.some.inj ((hw2 vs h1).symm.trans hv)
    subst e
    exact ⟨Ext.refl _ _, r, hd⟩
theorem yld_tup {l : Lay} {H : Hp} {ds : List D} {a : Addr} (h : ∀ l' H', ExtW l H l' H' → ∃ vs, SqT C.K H' a vs ∧ RDs C.K l' H' ds vs) : Yld C (Itt C.K a) (.fix ds) l H := by
  intro S' l' H' k x r
  obtain ⟨vs, h1, h2⟩ := h l' H' x
  show match some ds[k]? with | none => True | some none => (Itt C.K a).stop k H' | some (some d) => _
  cases q : ds[k]? with
  | none => exact ⟨vs, h1, by rw [h2.length]; exact List.getElem?_eq_none_iff.mp q⟩
  | some d =>
    obtain ⟨v, hv, hd⟩ := h2.get q
    refine ⟨⟨vs, v, h1, hv⟩, fun w H2 hw => ?_⟩
    obtain ⟨rfl, hw2⟩ := hw
    have e : w = v := Option.some.inj ((hw2 vs h1).symm.trans hv)
    subst e
    exact ⟨Ext.refl _ _, r, hd⟩
theorem yld_str {l : Lay} {H : Hp} {z : Str} (hz : PySem.PyData.strOk z = true) : Yld C (Its z) (.fix (z.cps.toList.map fun c => D.str ⟨#[c]⟩)) l H := by
  intro S' l' H' k x r
  show match some (z.cps.toList.map fun c => D.str ⟨#[c]⟩)[k]? with | none => True | some none => (Its z).stop k H' | some (some d) => _
  rw [List.getElem?_map]
  cases q : z.cps.toList[k]? with
  | none =>
    have := List.getElem?_eq_none_iff.mp q
    show z.cps.size ≤ k
    simpa using this
  | some c =>
    obtain ⟨hk, hc⟩ := List.getElem?_eq_some_iff.mp q
    refine ⟨by show k < z.cps.size; simpa using hk, fun w H2 hw => ?_⟩
    obtain ⟨rfl, c', hc', rfl⟩ := hw
    have e : c' = c := by
      rw [← Array.getElem?_toList] at hc'
      exact Option.some.inj (hc'.symm.trans q)
    subst e
    refine ⟨Ext.refl _ _, r, rfl, ?_⟩
    have hm : c' ∈ z.cps.toList := List.mem_of_getElem? q
    unfold PySem.PyData.strOk at hz ⊢
    rw [← Array.all_toList] at hz ⊢
    have := List.all_eq_true.mp hz c' hm
    simp only [List.all_cons, List.all_nil, Bool.and_true]
    exact this
theorem yld_cel {l : Lay} {H : Hp} {i : Id} {a : Addr} (hi : l i = some a) : Yld C (Itl C.K a) (.cel i) l H := by
  intro S' l' H' k x r
  show match (match S'.at_ i with | some (.lst ds) => some ds[k]? | _ => none) with | none => True | some none => (Itl C.K a).stop k H' | some (some d) => _
  cases hS : S'.at_ i with
  | none => exact True.intro
  | some c =>
    cases c with
    | lst ds =>
      obtain ⟨b, hb, vs, hv, hs⟩ := r.cells i _ hS
      rw [x.id i a hi] at hb
      cases hb
      show match some ds[k]? with | none => True | some none => (Itl C.K a).stop k H' | some (some d) => _
      cases q : ds[k]? with
      | none => exact ⟨vs, .inl (.inl hv), by rw [hs.length]; exact List.getElem?_eq_none_iff.mp q⟩
      | some d =>
        obtain ⟨v, hv2, hd⟩ := hs.get q
        refine ⟨⟨vs, v, .inl (.inl hv), hv2⟩, fun w H2 hw => ?_⟩
        obtain ⟨rfl, hw2⟩ := hw
        have e : w = v := Option.some.inj ((hw2 vs (.inl (.inl hv))).symm.trans hv2)
        subst e
        exact ⟨Ext.refl _ _, r, hd⟩
    | _ => exact True.intro
theorem yld_rng {l : Lay} {H : Hp} {lo : Int} {n : Nat} : Yld C (Itr lo n) (.rng lo 1 n) l H := by
  intro S' l' H' k x r
  show match some (if k < n then some (D.int (lo + (k : Nat) * 1)) else none) with | none => True | some none => (Itr lo n).stop k H' | some (some d) => _
  by_cases h : k < n
  · rw [if_pos h]
    refine ⟨h, fun w H2 hw => ?_⟩
    obtain ⟨rfl, rfl⟩ := hw
    exact ⟨Ext.refl _ _, r, by rw [Int.mul_one]; rfl⟩
  · rw [if_neg h]
    exact Nat.le_of_not_lt h
theorem yld_rngC {l : Lay} {H : Hp} {lo c : Int} {n : Nat} : Yld C (Itc lo c n) (.rng lo c n) l H := by
  intro S' l' H' k x r
  show match some (if k < n then some (D.int (lo + (k : Nat) * c)) else none) with | none => True | some none => (Itc lo c n).stop k H' | some (some d) => _
  by_cases h : k < n
  · rw [if_pos h]
    refine ⟨h, fun w H2 hw => ?_⟩
    obtain ⟨rfl, rfl⟩ := hw
    exact ⟨Ext.refl _ _, r, rfl⟩
  · rw [if_neg h]
    exact Nat.le_of_not_lt h
/-- a list, a tuple that is known at a place stays -/
theorem stays_lst {l : Lay} {H : Hp} {ds : List D} {a : Addr} {vs : List V} (h : LstAt C.K l H a vs) (q : RDs C.K l H ds vs) : ∀ l' H', ExtW l H l' H' → ∃ vs, SqL C.K H' a vs ∧ RDs C.K l' H' ds vs :=
  fun l' H' x => ⟨vs, .inl (.inl (x.keep _ _ h.1 h.2.1)), RDs.monoW x _ _ q⟩
theorem stays_tup {l : Lay} {H : Hp} {ds : List D} {a : Addr} {vs : List V} (h : TupAt C.K H a vs) (q : RDs C.K l H ds vs) : ∀ l' H', ExtW l H l' H' → ∃ vs, SqT C.K H' a vs ∧ RDs C.K l' H' ds vs :=
  fun l' H' x => ⟨vs, .inl (.inl (x.tup _ _ h)), RDs.monoW x _ _ q⟩
end
section
variable {X : Cx} {C : Ctx} {W : WX}
theorem PImono {tg ex : Expr} {t t' : TI} (h : PI X tg ex t) (k : ∀ s H R, t' s H R → t s H R) : PI X tg ex t' := ⟨fun pins s σ H R I q => h.run pins s σ H R I (k σ H R q)⟩
theorem T_runE {B : Type} {RA : Lay → Hp → B → Prop} {m : EM} {f : D → Sto → Out B} {s : L2.St} {l : Lay} {H : Hp} {e : Env'} {S : Sto} (he : EnvR C.K l H e s) (hr : Rel C l S H) (hp : Post C W RA s l H ((m e S).bind f)) :
    T C W m s H fun v H1 => ∃ l1 d S1, m e S = .ok d S1 ∧ EnvR C.K l1 H1 e s ∧ Rel C l1 S1 H1 ∧ Ext l H l1 H1 ∧ RD C.K l1 H1 d v ∧ Post C W RA s l1 H1 (f d S1) := by
  refine ⟨e, S, l, he, hr, ?_⟩
  cases q : m e S with
  | ok d S1 =>
    rw [q] at hp
    exact fun H1 l1 x r v hv => ⟨l1, d, S1, rfl, he.mono x, r, x, hv, Post.mono (show Post C W RA s l H (f d S1) from hp) x r⟩
  | exc x S1 =>
    rw [q] at hp
    exact hp
  | bad =>
    rw [q] at hp
    exact hp
/-- a list, a tuple, a text, as it stands -/
theorem sp_seq {tg ex : Expr} {m : EM} (hK : C.K = X.K) (h : PE X ex (T C W m)) : PI X tg ex (TI' C W (seqI m)) := by
  refine ⟨fun pins s0 s H R I q => ?_⟩
  obtain ⟨e, S, l, he, hr, hp⟩ := q
  have h0 := T_runE (RA := fun l' H' src => ∀ J, Yld C J src l' H' → R J H') he hr hp
  by_cases hc : ∃ z S1, m e S = .ok (.str z) S1
  · refine (pi_str h).run pins s0 s H R I (Tmono h0 fun v H1 ⟨l1, d1, S1, he0, he1, hr1, x1, hd1, hp1⟩ => ?_)
    obtain ⟨z, S2, e2⟩ := hc
    rw [he0] at e2
    cases e2
    obtain ⟨rfl, hz⟩ := hd1
    exact ⟨z, rfl, Post.pure hr1 hp1 _ (yld_str hz)⟩
  · by_cases hc2 : ∃ ds S1, m e S = .ok (.tup ds) S1 ∨ m e S = .ok (.ktup ds) S1
    · refine (pi_tup h).run pins s0 s H R I (Tmono h0 fun v H1 ⟨l1, d1, S1, he0, he1, hr1, x1, hd1, hp1⟩ => ?_)
      obtain ⟨ds, S2, e2⟩ := hc2
      rw [he0] at e2
      rcases e2 with e2 | e2
      · cases e2
        obtain ⟨a, vs, rfl, ht, hv⟩ := hd1
        exact ⟨a, rfl, ⟨vs, hK ▸ ht.sq⟩, hK ▸ Post.pure hr1 hp1 _ (yld_tup (stays_tup ht hv))⟩
      · cases e2
        obtain ⟨a, vs, rfl, ht, hv⟩ := hd1
        exact ⟨a, rfl, ⟨vs, .inr (hK ▸ ht)⟩, hK ▸ Post.pure hr1 hp1 _ (yld_tup fun l' H' x => ⟨vs, .inr ht, RDs.monoW x _ _ hv⟩)⟩
    · refine (pi_list h).run pins s0 s H R I (Tmono h0 fun v H1 ⟨l1, d1, S1, he0, he1, hr1, x1, hd1, hp1⟩ => ?_)
      cases d1 with
      | str z => exact (hc ⟨z, S1, he0⟩).elim
      | tup ds => exact (hc2 ⟨ds, S1, .inl he0⟩).elim
      | ktup ds => exact (hc2 ⟨ds, S1, .inr he0⟩).elim
      | lst ds =>
        obtain ⟨a, vs, rfl, ht, hv⟩ := hd1
        exact ⟨a, rfl, ⟨vs, hK ▸ ht.sq⟩, hK ▸ Post.pure hr1 hp1 _ (yld_lst (stays_lst ht hv))⟩
      | scr ns =>
        obtain ⟨a, rfl, ht⟩ := hd1
        refine ⟨a, rfl, ⟨_, hK ▸ ht.sq⟩, hK ▸ Post.pure hr1 hp1 _ (yld_lst fun l' H' x => ⟨_, ?_, RDs.ints ns⟩)⟩
        have h2 : RD C.K l' H' (.scr ns) (.ref a) := RD.monoW x _ _ ⟨a, rfl, ht⟩
        obtain ⟨a', e', hs⟩ := h2
        cases e'
        exact hs.sq
      | cell i =>
        cases hS : S1.at_ i with
        | none =>
          rw [show srcOf (.cell i) S1 = none by simp only [srcOf, hS]] at hp1
          exact hp1.elim
        | some c =>
          cases c with
          | lst ds =>
            rw [show srcOf (.cell i) S1 = some (.cel i) by simp only [srcOf, hS]] at hp1
            obtain ⟨a, rfl, hi⟩ := hd1
            obtain ⟨b, hb, vs, hv, _⟩ := hr1.cells i _ hS
            rw [hi] at hb
            cases hb
            exact ⟨a, rfl, ⟨vs, .inl (.inl hv)⟩, hK ▸ Post.pure hr1 hp1 _ (yld_cel hi)⟩
          | _ =>
            rw [show srcOf (.cell i) S1 = none by simp only [srcOf, hS]] at hp1
            exact hp1.elim
      | _ => exact hp1.elim
/-- range(n), range(a, b), range(a, b, -1) -/
def rng1I (t : AM) : IM := fun e S => (t e S).bind fun ds S1 => match ds with
  | [.int n] => if n < 1000000 ∧ -1000000 < n then .ok (.rng 0 1 n.toNat) S1 else .bad
  | _ => .bad
def rng2I (t : AM) : IM := fun e S => (t e S).bind fun ds S1 => match ds with
  | [.int a, .int b] => if (a < 1000000 ∧ -1000000 < a) ∧ (b < 1000000 ∧ -1000000 < b) then .ok (.rng a 1 (b - a).toNat) S1 else .bad
  | _ => .bad
def rng3I (t : AM) : IM := fun e S => (t e S).bind fun ds S1 => match ds with
  | [.int a, .int b, .int c] => if c = -1 ∧ (a < 1000000 ∧ -1000000 < a) ∧ (b < 1000000 ∧ -1000000 < b) then .ok (.rng a (-1) (a - b).toNat) S1 else .bad
  | _ => .bad
theorem RDs.three {K : PySem.W.Frag} {l : Lay} {H : Hp} {d e f : D} {vs : List V} (h : RDs K l H [d, e, f] vs) : ∃ v w u, vs = [v, w, u] ∧ RD K l H d v ∧ RD K l H e w ∧ RD K l H f u := by
  obtain ⟨v, r, rfl, h1, h2⟩ := h
  obtain ⟨w, u, rfl, h3, h4⟩ := RDs.two h2
  exact ⟨v, w, u, rfl, h1, h3, h4⟩
theorem sp_range1 {tg a : Expr} {p pos : Pos} {m : AM} (hg : Gl X "range") (hm : X.mg "range" = none) (ha : PA X [a] (TA' C W m)) (h1 : noStar a = true) : PI X tg (.Call (.Name "range" p) [a] [] pos) (TI' C W (rng1I m)) := by
  refine PImono (pi_range1 hg hm ha (star_eq h1)) fun s H R q => ?_
  obtain ⟨e, S, l, he, hr, hp⟩ := q
  refine TAmono (TA_run (RA := fun l' H' src => ∀ J, Yld C J src l' H' → R J H') he hr hp) fun vs H1 ⟨l1, ds, S1, he1, hr1, x1, hd1, hp1⟩ => ?_
  split at hp1
  · rename_i n
    obtain ⟨v, rfl, hv⟩ := hd1.one
    cases hv
    split at hp1
    · exact ⟨n, rfl, by omega, by omega, Post.pure hr1 hp1 _ yld_rng⟩
    · exact hp1.elim
  · exact hp1.elim
theorem sp_range2 {tg a b : Expr} {p pos : Pos} {m : AM} (hg : Gl X "range") (hm : X.mg "range" = none) (ha : PA X [a, b] (TA' C W m)) (h1 : noStar a = true) (h2 : noStar b = true) : PI X tg (.Call (.Name "range" p) [a, b] [] pos) (TI' C W (rng2I m)) := by
  refine PImono (pi_range2 hg hm ha (by rw [star_eq h1, star_eq h2]; rfl) (star_eq h2)) fun s H R q => ?_
  obtain ⟨e, S, l, he, hr, hp⟩ := q
  refine TAmono (TA_run (RA := fun l' H' src => ∀ J, Yld C J src l' H' → R J H') he hr hp) fun vs H1 ⟨l1, ds, S1, he1, hr1, x1, hd1, hp1⟩ => ?_
  split at hp1
  · rename_i a b
    obtain ⟨v, w, rfl, hv, hw⟩ := hd1.two
    cases hv
    cases hw
    split at hp1
    · exact ⟨a, b, rfl, by omega, Post.pure hr1 hp1 _ yld_rng⟩
    · exact hp1.elim
  · exact hp1.elim
theorem sp_range3 {tg a b c : Expr} {p pos : Pos} {m : AM} (hg : Gl X "range") (hm : X.mg "range" = none) (ha : PA X [a, b, c] (TA' C W m)) (h : [a, b, c].all noStar = true) : PI X tg (.Call (.Name "range" p) [a, b, c] [] pos) (TI' C W (rng3I m)) := by
  have h1 : noStar a = true := List.all_eq_true.mp h a (by simp)
  have h2 : [b, c].all noStar = true := by
    rw [List.all_cons] at h
    exact (Bool.and_eq_true_iff.mp h).2
  refine PImono (pi_range3 hg hm ha (star_eq h1) (star_any h2)) fun s H R q => ?_
  obtain ⟨e, S, l, he, hr, hp⟩ := q
  refine TAmono (TA_run (RA := fun l' H' src => ∀ J, Yld C J src l' H' → R J H') he hr hp) fun vs H1 ⟨l1, ds, S1, he1, hr1, x1, hd1, hp1⟩ => ?_
  split at hp1
  · rename_i a b c
    obtain ⟨v, w, u, rfl, hv, hw, hu⟩ := hd1.three
    cases hv
    cases hw
    cases hu
    split at hp1
    · rename_i hh
      obtain ⟨rfl, ha, hb⟩ := hh
      exact ⟨a, b, -1, _, rfl, RgC.neg (by omega) (by omega) (by omega) (by omega), Post.pure hr1 hp1 _ yld_rngC⟩
    · exact hp1.elim
  · exact hp1.elim
/-- zip of two lists, of two tuples -/
def pairD (x y : D) : D := .tup [x, y]
def zipS (x y : D) (S : Sto) : Option Src := match x, y with
  | .lst a, .lst b => some (.fix (List.zipWith pairD a b))
  | .tup a, .tup b => some (.fix (List.zipWith pairD a b))
  | _, _ => none
def zipI (t : AM) : IM := fun e S => (t e S).bind fun ds S1 => match ds with
  | [x, y] => ofO (zipS x y S1) S1
  | _ => .bad
theorem yld_pair {l : Lay} {H : Hp} {xs ys : List D} {J : It} (h : ∀ l' H', ExtW l H l' H' → ∃ vs ws, RDs C.K l' H' xs vs ∧ RDs C.K l' H' ys ws ∧ (∀ k, vs.length ≤ k ∨ ws.length ≤ k → J.stop k H') ∧ (∀ k v w, vs[k]? = some v → ws[k]? = some w → J.go k H' ∧ ∀ x H2, J.yld k H' x H2 → ∃ T, x = .ref T ∧ H' T = none ∧ H2 = upd H' T (.tup [v, w]))) :
    Yld C J (.fix (List.zipWith pairD xs ys)) l H := by
  intro S' l' H' k x r
  obtain ⟨vs, ws, h1, h2, h3, h4⟩ := h l' H' x
  show match some (List.zipWith pairD xs ys)[k]? with | none => True | some none => J.stop k H' | some (some d) => _
  cases q1 : xs[k]? with
  | none =>
    rw [show (List.zipWith pairD xs ys)[k]? = none by
      rw [List.getElem?_eq_none_iff, List.length_zipWith]
      have := List.getElem?_eq_none_iff.mp q1
      omega]
    exact h3 k (.inl (by rw [h1.length]; exact List.getElem?_eq_none_iff.mp q1))
  | some d =>
    cases q2 : ys[k]? with
    | none =>
      rw [show (List.zipWith pairD xs ys)[k]? = none by
        rw [List.getElem?_eq_none_iff, List.length_zipWith]
        have := List.getElem?_eq_none_iff.mp q2
        omega]
      exact h3 k (.inr (by rw [h2.length]; exact List.getElem?_eq_none_iff.mp q2))
    | some f =>
      rw [show (List.zipWith pairD xs ys)[k]? = some (pairD d f) by
        rw [List.getElem?_zipWith, q1, q2]]
      obtain ⟨v, hv, hd⟩ := h1.get q1
      obtain ⟨w, hw, hf⟩ := h2.get q2
      obtain ⟨g1, g2⟩ := h4 k v w hv hw
      refine ⟨g1, fun z H2 hz => ?_⟩
      obtain ⟨T, rfl, hT, rfl⟩ := g2 z H2 hz
      have x1 := ext_new (l := l') (o := .tup [v, w]) hT
      exact ⟨x1, rel_new r hT, T, [v, w], rfl, upd_same, ⟨v, [w], rfl, RD.mono x1 _ _ hd, w, [], rfl, RD.mono x1 _ _ hf, rfl⟩⟩
theorem sp_zip {a b : Expr} {p pos tpos : Pos} {elts : List Expr} {kk : Nat} {m : AM} (hK : C.K = X.K) (hg : Gl X "zip") (hm : X.mg "zip" = none) (ha : PA X [a, b] (TA' C W m)) (h1 : noStar a = true) (h2 : noStar b = true) :
    PI X (.Tuple elts kk tpos) (.Call (.Name "zip" p) [a, b] [] pos) (TI' C W (zipI m)) := by
  have hb : [b].all noStar = true := by
    rw [List.all_cons, h2]
    rfl
  refine PImono (RZ.pi_zipA hg hm ha (star_eq h1) (star_any hb)) fun s H R q => ?_
  obtain ⟨e, S, l, he, hr, hp⟩ := q
  refine TAmono (TA_run (RA := fun l' H' src => ∀ J, Yld C J src l' H' → R J H') he hr hp) fun vs H1 ⟨l1, ds, S1, he1, hr1, x1, hd1, hp1⟩ => ?_
  split at hp1
  · rename_i x y
    obtain ⟨v, w, rfl, hv, hw⟩ := hd1.two
    obtain ⟨src, hs, hp1⟩ := post_ofO hp1
    have hp2 := hp1 H1 l1 (Ext.refl _ _) hr1
    unfold zipS at hs
    split at hs
    · cases hs
      obtain ⟨p, xs, rfl, tp, hx⟩ := hv
      obtain ⟨q, ys, rfl, tq, hy⟩ := hw
      refine ⟨p, q, xs, ys, rfl, .inl ⟨hK ▸ tp.sq, hK ▸ tq.sq, hp2 _ (yld_pair fun l' H' x => ⟨xs, ys, RDs.monoW x _ _ hx, RDs.monoW x _ _ hy, fun k hk => ?_, fun k v w hv hw => ⟨?_, ?_⟩⟩)⟩⟩
      · exact ⟨xs, ys, .inl (.inl (x.keep _ _ tp.1 tp.2.1)), .inl (.inl (x.keep _ _ tq.1 tq.2.1)), hk⟩
      · exact ⟨xs, ys, v, w, .inl (.inl (x.keep _ _ tp.1 tp.2.1)), .inl (.inl (x.keep _ _ tq.1 tq.2.1)), hv, hw⟩
      · rintro z H2 ⟨T, u1, u2, e1, e2, e3, f1, f2⟩
        have g1 := f1 xs (.inl (.inl (x.keep _ _ tp.1 tp.2.1)))
        have g2 := f2 ys (.inl (.inl (x.keep _ _ tq.1 tq.2.1)))
        rw [hv] at g1
        rw [hw] at g2
        cases g1
        cases g2
        exact ⟨T, e1, e2, e3⟩
    · cases hs
      obtain ⟨p, xs, rfl, tp, hx⟩ := hv
      obtain ⟨q, ys, rfl, tq, hy⟩ := hw
      refine ⟨p, q, xs, ys, rfl, .inr ⟨hK ▸ tp.sq, hK ▸ tq.sq, hp2 _ (yld_pair fun l' H' x => ⟨xs, ys, RDs.monoW x _ _ hx, RDs.monoW x _ _ hy, fun k hk => ?_, fun k v w hv hw => ⟨?_, ?_⟩⟩)⟩⟩
      · exact ⟨xs, ys, .inl (.inl (x.tup _ _ tp)), .inl (.inl (x.tup _ _ tq)), hk⟩
      · exact ⟨xs, ys, v, w, .inl (.inl (x.tup _ _ tp)), .inl (.inl (x.tup _ _ tq)), hv, hw⟩
      · rintro z H2 ⟨T, u1, u2, e1, e2, e3, f1, f2⟩
        have g1 := f1 xs (.inl (.inl (x.tup _ _ tp)))
        have g2 := f2 ys (.inl (.inl (x.tup _ _ tq)))
        rw [hv] at g1
        rw [hw] at g2
        cases g1
        cases g2
        exact ⟨T, e1, e2, e3⟩
    · cases hs
  · exact hp1.elim
/-- enumerate of a list -/
def enum0 (ds : List D) : List D := ds.mapIdx fun k d => .tup [.int (k : Nat), d]
def enumS (x : D) (S : Sto) : Option Src := match x with
  | .lst ds => some (.fix (enum0 ds))
  | .cell i => match S.at_ i with
    | some (.lst _) => some (.cen i)
    | _ => none
  | _ => none
def enumI (t : AM) : IM := fun e S => (t e S).bind fun ds S1 => match ds with
  | [x] => ofO (enumS x S1) S1
  | _ => .bad
theorem sp_enum {a : Expr} {p pos tpos : Pos} {elts : List Expr} {kk : Nat} {m : AM} (hK : C.K = X.K) (hg : Gl X "enumerate") (hm : X.mg "enumerate" = none) (ha : PA X [a] (TA' C W m)) (h1 : noStar a = true) :
    PI X (.Tuple elts kk tpos) (.Call (.Name "enumerate" p) [a] [] pos) (TI' C W (enumI m)) := by
  refine PImono (pi_enum hg hm ha (star_eq h1)) fun s H R q => ?_
  obtain ⟨e, S, l, he, hr, hp⟩ := q
  refine TAmono (TA_run (RA := fun l' H' src => ∀ J, Yld C J src l' H' → R J H') he hr hp) fun vs H1 ⟨l1, ds, S1, he1, hr1, x1, hd1, hp1⟩ => ?_
  split at hp1
  · rename_i x
    obtain ⟨v, rfl, hv⟩ := hd1.one
    obtain ⟨src, hs, hp1⟩ := post_ofO hp1
    have hp2 := hp1 H1 l1 (Ext.refl _ _) hr1
    unfold enumS at hs
    split at hs
    · rename_i es
      cases hs
      obtain ⟨p, xs, rfl, tp, hx⟩ := hv
      refine ⟨p, xs, rfl, hK ▸ tp.sq, hK ▸ hp2 _ fun S' l' H' k x r => ?_⟩
      have sq : SqL C.K H' p xs := .inl (.inl (x.keep _ _ tp.1 tp.2.1))
      have hx' := RDs.monoW x _ _ hx
      show match some (enum0 es)[k]? with | none => True | some none => (Ite C.K p).stop k H' | some (some d) => _
      unfold enum0
      rw [List.getElem?_mapIdx]
      cases q1 : es[k]? with
      | none => exact ⟨xs, sq, by rw [hx'.length]; exact List.getElem?_eq_none_iff.mp q1⟩
      | some d =>
        obtain ⟨w, hw, hd⟩ := hx'.get q1
        refine ⟨⟨xs, w, sq, hw⟩, ?_⟩
        rintro z H2 ⟨T, u, rfl, hT, rfl, f1⟩
        have e1 : u = w := Option.some.inj ((f1 xs sq).symm.trans hw)
        subst e1
        have x2 := ext_new (l := l') (o := .tup [.int (k : Nat), u]) hT
        exact ⟨x2, rel_new r hT, T, _, rfl, upd_same, ⟨_, _, rfl, rfl, _, _, rfl, RD.mono x2 _ _ hd, rfl⟩⟩
    · rename_i i
      split at hs
      · rename_i es hS
        cases hs
        obtain ⟨p, rfl, hi⟩ := hv
        obtain ⟨b, hb, xs, hxs, _⟩ := hr1.cells i _ hS
        rw [hi] at hb
        cases hb
        refine ⟨p, xs, rfl, .inl (.inl hxs), hK ▸ hp2 _ fun S' l' H' k x r => ?_⟩
        show match (match S'.at_ i with | some (.lst ds) => some (ds[k]?.map fun d => D.tup [.int (k : Nat), d]) | _ => none) with | none => True | some none => (Ite C.K p).stop k H' | some (some d) => _
        cases hS' : S'.at_ i with
        | none => exact True.intro
        | some c =>
          cases c with
          | lst fs =>
            obtain ⟨b, hb, ys, hv, hs⟩ := r.cells i _ hS'
            rw [x.id i p hi] at hb
            cases hb
            have sq : SqL C.K H' p ys := .inl (.inl hv)
            show match some (fs[k]?.map fun d => D.tup [.int (k : Nat), d]) with | none => True | some none => (Ite C.K p).stop k H' | some (some d) => _
            cases q1 : fs[k]? with
            | none => exact ⟨ys, sq, by rw [hs.length]; exact List.getElem?_eq_none_iff.mp q1⟩
            | some d =>
              obtain ⟨w, hw, hd⟩ := hs.get q1
              refine ⟨⟨ys, w, sq, hw⟩, ?_⟩
              rintro z H2 ⟨T, u, rfl, hT, rfl, f1⟩
              have e1 : u = w := Option.some.inj ((f1 ys sq).symm.trans hw)
              subst e1
              have x2 := ext_new (l := l') (o := .tup [.int (k : Nat), u]) hT
              exact ⟨x2, rel_new r hT, T, _, rfl, upd_same, ⟨_, _, rfl, rfl, _, _, rfl, RD.mono x2 _ _ hd, rfl⟩⟩
          | _ => exact True.intro
      · cases hs
    · cases hs
  · exact hp1.elim
end
end Pyx
/-! list comprehensions -/
namespace Pyx
open PySem PySem.Spec PyProof.Rows L2
def noX {A : Type} (o : Out A) : Out A := match o with
  | .exc _ _ => .bad
  | o => o
def W0 : WX := fun _ _ _ _ => False
def lcLoop (src : Src) (g : GM) (tt : TM) (te : EM) : Nat → Nat → Env' → Sto → List D → Out (List D)
  | 0, _ => fun _ _ _ => .bad
  | f + 1, k => fun e S acc => match src.get S k with
    | none => .bad
    | some none => .ok acc S
    | some (some d) => match g d e with
      | none => .bad
      | some e1 => (noX (tt e1 S)).bind fun b S1 => if b = true then (noX (te e1 S1)).bind fun y S2 => if acc.length < 1000000 then lcLoop src g tt te f (k + 1) e S2 (acc ++ [y]) else .bad
        else lcLoop src g tt te f (k + 1) e S1 acc
def yesM : TM := fun _ S => .ok true S
/-- what becomes of the list: it is never written, or a cell -/
def endL (h : Option (Option Id)) (ds : List D) (S : Sto) : Out D := match h with
  | none => .ok (.lst ds) S
  | some i => alloc i (.lst ds) S
def lcM (h : Option (Option Id)) (vs : List Nat) (im : IM) (g : GM) (tt : TM) (te : EM) : EM := fun e S => (im e S).bind fun src S1 => (lcLoop src g tt te (src.fuel S1) 0 (wipeE e vs) S1 []).bind fun ds S2 => endL h ds S2
theorem post_noX {A B : Type} {C : Ctx} {W : WX} {RA : Lay → Hp → B → Prop} {s : L2.St} {l : Lay} {H : Hp} {o : Out A} {f : A → Sto → Out B} (h : Post C W RA s l H ((noX o).bind f)) : ∃ a S, o = .ok a S ∧ Post C W RA s l H (f a S) := by
  cases o with
  | ok a S => exact ⟨a, S, rfl, h⟩
  | exc x S => exact h.elim
  | bad => exact h.elim
/-! the list under way, at Dl: nobody holds it; it grows -/
theorem tr_grow {l : Lay} {H : Hp} {Dl : Addr} {o o' : HO} (hD : H Dl = some o) (ht : ∀ vs, o ≠ .tup vs) (hn : l.no Dl) : Tr l H l (upd H Dl o') where
  id := fun _ _ h => h
  tup := fun a vs h => by
    rw [upd_ne (ne_of h hD fun e => ht vs e.symm)]
    exact h
  lst := fun a o h n f => by
    rw [upd_ne fun e => f (by rw [e]; exact hn)]
    exact ⟨h, n, f⟩
theorem Rel.grow {C : Ctx} {l : Lay} {S : Sto} {H : Hp} {Dl : Addr} {o o' : HO} (r : Rel C l S H) (hD : H Dl = some o) (ht : ∀ vs, o ≠ .tup vs) (ht' : ∀ vs, o' ≠ .tup vs) (hn : l.no Dl) : Rel C l S (upd H Dl o') where
  cells := fun i c h => by
    obtain ⟨a, ha, hc⟩ := r.cells i c h
    exact ⟨a, ha, hc.tr (tr_grow hD ht hn) (upd_ne fun e => (r.nos Dl hn).2 i (by rw [← e]; exact ha)) rfl⟩
  dom := r.dom
  inj := r.inj
  nos := fun a h => by
    refine ⟨?_, (r.nos a h).2⟩
    by_cases e : a = Dl
    · subst e
      exact ⟨o', upd_same, ht'⟩
    · obtain ⟨⟨u, hv, hz⟩, _⟩ := r.nos a h
      exact ⟨u, by rw [upd_ne e]; exact hv, hz⟩
/-- a base where Dl is free does not see it -/
theorem ExtW.under {l l' : Lay} {H H' : Hp} {Dl : Addr} {o : HO} (x : ExtW l H l' H') (h : H Dl = Option.none) : ExtW l H l' (upd H' Dl o) where
  id := x.id
  keep := fun a u h1 h2 => by
    rw [upd_ne (ne_of_none h1 h)]
    exact x.keep a u h1 h2
  tup := fun a u h1 => by
    rw [upd_ne (ne_of_none h1 h)]
    exact x.tup a u h1
  new := x.new
  no := x.no
/-- one more list under way -/
def Lay.forb (l : Lay) (p : Addr) : Lay := ⟨l.f, fun a => l.no a ∨ a = p, l.lk⟩
/-- .. and no more -/
def Lay.unf (l : Lay) (n : Addr → Prop) : Lay := ⟨l.f, n, l.lk⟩
theorem ext_forb {l : Lay} {H : Hp} {p : Addr} {o : HO} (hp : H p = none) : Ext l H (l.forb p) (upd H p o) where
  id := fun _ _ h => h
  keep := fun a u h _ => by
    rw [upd_ne (ne_of_none h hp)]
    exact h
  tup := fun a u h => by
    rw [upd_ne (ne_of_none h hp)]
    exact h
  new := fun i a h h' => by
    have h'' : l i = some a := h'
    rw [h] at h''
    cases h''
  no := fun a h => by
    rcases h with h | rfl
    · exact .inl h
    · exact .inr hp
  no1 := fun a h => .inl h
  lk := rfl
theorem rel_forb {C : Ctx} {l : Lay} {S : Sto} {H : Hp} {p : Addr} {o : HO} (r : Rel C l S H) (hp : H p = none) (ht : ∀ vs, o ≠ .tup vs) : Rel C (l.forb p) S (upd H p o) where
  cells := fun i c h => by
    obtain ⟨a, ha, hc⟩ := r.cells i c h
    obtain ⟨o', ho, _⟩ := hc.some
    exact ⟨a, ha, hc.mono (ext_forb hp) (upd_ne (ne_of_none ho hp)) rfl⟩
  dom := r.dom
  inj := r.inj
  nos := fun a h => by
    rcases h with h | rfl
    · obtain ⟨⟨vs, hv, hz⟩, hn⟩ := r.nos a h
      exact ⟨⟨vs, by rw [upd_ne (ne_of_none hv hp)]; exact hv, hz⟩, hn⟩
    · exact ⟨⟨o, upd_same, ht⟩, r.fresh hp⟩
/-- the list is done: it is a value, as any other -/
theorem unf_w {l : Lay} {H : Hp} {n : Addr → Prop} (h : ∀ a, n a → l.no a) : ExtW l H (l.unf n) H where
  id := fun _ _ h => h
  keep := fun _ _ h _ => h
  tup := fun _ _ h => h
  new := fun i a h h' => by
    have h'' : l i = some a := h'
    rw [h] at h''
    cases h''
  no := fun a q => .inl (h a q)
theorem rel_unf {C : Ctx} {l : Lay} {S : Sto} {H : Hp} {n : Addr → Prop} (r : Rel C l S H) (h : ∀ a, n a → l.no a) : Rel C (l.unf n) S H where
  cells := fun i c q => by
    obtain ⟨a, ha, hc⟩ := r.cells i c q
    exact ⟨a, ha, hc.monoW (unf_w h) rfl rfl⟩
  dom := r.dom
  inj := r.inj
  nos := fun a q => r.nos a (h a q)
/-- back at the base: all of l but what is under way -/
theorem ext_back {l1 l : Lay} {H1 H : Hp} (x : ExtW l1 H1 l H) (hl : l.lk = l1.lk) : Ext l1 H1 (l.unf l1.no) H where
  id := x.id
  keep := x.keep
  tup := x.tup
  new := x.new
  no := fun a h => .inl h
  no1 := fun a h => h
  lk := hl
/-- the list that was under way becomes a cell -/
theorem tr_adopt {l : Lay} {H : Hp} {p : Addr} {i : Id} {n : Addr → Prop} (hp : l.no p) (hn : ∀ a, n a → l.no a) (hi : l i = none) (hf : ¬ n p) : Tr l H ((l.unf n).add i p) H where
  id := fun j b hj => by
    by_cases e : j = i
    · subst e
      rw [hi] at hj
      cases hj
    · rw [Lay.add_ne e]
      exact hj
  tup := fun _ _ h => h
  lst := fun a o h c f => by
    refine ⟨h, fun j hj => ?_, fun q => f (hn a q)⟩
    by_cases e : j = i
    · subst e
      rw [Lay.add_same] at hj
      cases hj
      exact f hp
    · rw [Lay.add_ne e] at hj
      exact c j hj
section
variable {X : Cx} {C : Ctx} {W : WX}
theorem Tof {m : EM} {s : L2.St} {l : Lay} {H : Hp} {e : Env'} {S S1 : Sto} {d : D} {Q : VK} (he : EnvR C.K l H e s) (hr : Rel C l S H) (hm : m e S = .ok d S1) (k : ∀ v H' l', Ext l H l' H' → Rel C l' S1 H' → RD C.K l' H' d v → Q v H') : T C W m s H Q :=
  ⟨e, S, l, he, hr, by
    rw [hm]
    exact fun H' l' x r v hv => k v H' l' x r hv⟩
theorem TTof {m : TM} {s : L2.St} {l : Lay} {H : Hp} {e : Env'} {S S1 : Sto} {b : Bool} {Q : Bool → Hp → Prop} (he : EnvR C.K l H e s) (hr : Rel C l S H) (hm : m e S = .ok b S1) (k : ∀ H' l', Ext l H l' H' → Rel C l' S1 H' → Q b H') : TT' C W m s H Q :=
  ⟨e, S, l, he, hr, by
    rw [hm]
    exact fun H' l' x r => k H' l' x r⟩
/-- the comprehension's own reading is met -/
theorem lc_ok {vs : List Nat} {im : IM} {is : List Nat} {g : GM} {tt : TM} {te : EM} {h : Option (Option Id)} (his : ∀ j, j ∈ is → j ∈ vs) (s : L2.St) (H : Hp) (Q : VK) (q : T C W (lcM h vs im g tt te) s H Q) : tLc (TI' C W im) (G' C is g) (TT' C W0 tt) (T C W0 te) vs s H Q := by
  obtain ⟨e, S, l, he, hr, hp⟩ := q
  refine ⟨e, S, l, he, hr, ?_⟩
  refine Post.bind hp fun H1 l1 src S1 x1 r1 p1 J hY Dl hD => ?_
  have hew : EnvR C.K l1 H1 (wipeE e vs) (wipe s vs) := wipeE_env (he.mono x1) vs
  have x2 := ext_forb (l := l1) (o := .lst []) hD
  have r2 := rel_forb (o := .lst []) r1 hD (fun _ e => by cases e)
  refine ⟨fun k m H2 => ∃ S2 l2 acc ws, ExtW l1 H1 l2 H2 ∧ l2.lk = l1.lk ∧ (∀ a, l1.no a → l2.no a) ∧ l2.no Dl ∧ Rel C l2 S2 H2 ∧ H2 Dl = some (.lst ws) ∧ RDs C.K l2 H2 acc ws ∧
    Post C W (QE C Q) s l1 H1 ((lcLoop src g tt te m k (wipeE e vs) S2 acc).bind fun ds S2 => endL h ds S2),
    ⟨src.fuel S1, S1, l1.forb Dl, [], [], x2.toExtW, rfl, fun a h => .inl h, .inr rfl, r2, upd_same, rfl, p1⟩, ?_⟩
  rintro k m H2 ⟨S2, l2, acc, ws, x3, hlk, hno, hnD, r3, hw, hacc, p3⟩
  cases m with
  | zero => exact p3.elim
  | succ m =>
    have hy := hY S2 l2 H2 k x3 r3
    unfold lcLoop at p3
    split at p3
    · exact p3.elim
    · rename_i hget
      rw [hget] at hy
      refine .inl ⟨hy, ?_⟩
      have hx := ext_back x3 hlk
      have hr' := rel_unf (n := l1.no) r3 hno
      have hds := RDs.monoW (unf_w (n := l1.no) (H := H2) hno) _ _ hacc
      have hDn : ∀ i, l2 i ≠ some Dl := (r3.nos Dl hnD).2
      have p3' : Post C W (QE C Q) s l1 H1 (endL h acc S2) := p3
      cases h with
      | none => exact p3' H2 _ hx hr' _ ⟨Dl, ws, rfl, ⟨hw, hDn, r1.free hD⟩, hds⟩
      | some i =>
        have p4 : Post C W (QE C Q) s l1 H1 (alloc i (.lst acc) S2) := p3'
        unfold alloc at p4
        split at p4
        · exact p4.elim
        · rename_i hz
          have hdom : l2 (newId i S2) = none := r3.dom _ hz
          have t5 := tr_adopt (H := H2) (i := newId i S2) (n := l1.no) hnD hno hdom (r1.free hD)
          have e5 : Ext l1 H1 ((l2.unf l1.no).add (newId i S2) Dl) H2 := {
            id := fun j b hj => t5.id j b (x3.id j b hj)
            keep := x3.keep
            tup := x3.tup
            new := fun j b h1 h2 => by
              by_cases e : j = newId i S2
              · subst e
                rw [Lay.add_same] at h2
                cases h2
                exact hD
              · rw [Lay.add_ne e] at h2
                exact x3.new j b h1 h2
            no := fun a h => .inl h
            no1 := fun a h => h
            lk := hlk }
          refine p4 H2 _ e5 ?_ _ ⟨Dl, rfl, Lay.add_same⟩
          exact {
            cells := fun j c hj => by
              by_cases e : j = newId i S2
              · subst e
                rw [Sto.set_same] at hj
                cases hj
                exact ⟨Dl, Lay.add_same, ws, hw, RDs.tr t5 _ _ hacc⟩
              · rw [Sto.set_ne e] at hj
                obtain ⟨a, ha, hc⟩ := r3.cells j c hj
                exact ⟨a, t5.id j a ha, hc.tr t5 rfl rfl⟩
            dom := fun j hj => by
              by_cases e : j = newId i S2
              · subst e
                rw [Sto.set_same] at hj
                cases hj
              · rw [Sto.set_ne e] at hj
                rw [Lay.add_ne e]
                exact r3.dom j hj
            inj := fun j k a h1 h2 => by
              by_cases e : j = newId i S2
              · subst e
                rw [Lay.add_same] at h1
                cases h1
                by_cases e2 : k = newId i S2
                · exact e2.symm
                · rw [Lay.add_ne e2] at h2
                  exact (hDn k h2).elim
              · rw [Lay.add_ne e] at h1
                by_cases e2 : k = newId i S2
                · subst e2
                  rw [Lay.add_same] at h2
                  cases h2
                  exact (hDn j h1).elim
                · rw [Lay.add_ne e2] at h2
                  exact r3.inj j k a h1 h2
            nos := fun a ha => by
              obtain ⟨hv, hn⟩ := r3.nos a (hno a ha)
              refine ⟨hv, fun j hj => ?_⟩
              by_cases e : j = newId i S2
              · subst e
                rw [Lay.add_same] at hj
                cases hj
                exact r1.free hD ha
              · rw [Lay.add_ne e] at hj
                exact hn j hj }
    · rename_i d hget
      rw [hget] at hy
      refine .inr ⟨hy.1, fun H' => ∃ m', m' < m + 1 ∧ ∃ S2 l2 acc ws, ExtW l1 H1 l2 H' ∧ l2.lk = l1.lk ∧ (∀ a, l1.no a → l2.no a) ∧ l2.no Dl ∧ Rel C l2 S2 H' ∧ H' Dl = some (.lst ws) ∧ RDs C.K l2 H' acc ws ∧
        Post C W (QE C Q) s l1 H1 ((lcLoop src g tt te m' (k + 1) (wipeE e vs) S2 acc).bind fun ds S2 => endL h ds S2), fun H' hn => hn, fun v H3 hv => ?_⟩
      obtain ⟨x4, r4, hd⟩ := hy.2 v H3 hv
      split at p3
      · exact p3.elim
      · rename_i e1 hge
        have hthr : ∀ i b, l1 i = some b → ∃ o, H2 b = some o := fun i b hi => r3.there (x3.id i b hi)
        have x14 := x3.trans x4.toExtW hthr
        refine ⟨wipeE e vs, S2, l2, d, e1, EnvR.mono x4 (hew.monoW x3), r4, hd, hge, fun s4 he4 hch => ⟨wipe_chg hch his, ?_⟩⟩
        rw [out_assoc] at p3
        obtain ⟨b, S3, hb, p4⟩ := post_noX p3
        refine TTof he4 r4 hb fun H5 l5 x5 r5 => ?_
        have hthr5 : ∀ i b, l1 i = some b → ∃ o, H3 b = some o := fun i b hi => r4.there (x14.id i b hi)
        have x15 := x14.trans x5.toExtW hthr5
        cases b with
        | false =>
          refine iteF ⟨m, Nat.lt_succ_self m, S3, l5, acc, ws, x15, (x5.lk.trans (x4.lk.trans hlk)), fun a ha => x5.no1 a (x4.no1 a (hno a ha)), x5.no1 _ (x4.no1 _ hnD), r5, ?_, RDs.mono x5 _ _ (RDs.mono x4 _ _ hacc), p4⟩
          have hn2 : ∀ i, l2 i ≠ some Dl := (r3.nos Dl hnD).2
          exact x5.keep _ _ (x4.keep _ _ hw hn2) (x4.out hw hn2)
        | true =>
          refine iteT ?_
          have p5 : Post C W (QE C Q) s l1 H1 (((noX (te e1 S3)).bind fun y S2 => if acc.length < 1000000 then lcLoop src g tt te m (k + 1) (wipeE e vs) S2 (acc ++ [y]) else .bad).bind fun ds S2 => endL h ds S2) := p4
          rw [out_assoc] at p5
          obtain ⟨y, S4, hy4, p6⟩ := post_noX p5
          refine Tof (he4.mono x5) r5 hy4 fun w H6 l6 x6 r6 hw6 => ?_
          have hn2 : ∀ i, l2 i ≠ some Dl := (r3.nos Dl hnD).2
          have hw4 := x4.keep _ _ hw hn2
          have hn4 := x4.out hw hn2
          have hw5 := x5.keep _ _ hw4 hn4
          have hn5 := x5.out hw4 hn4
          have hw6' := x6.keep _ _ hw5 hn5
          have hnf := x6.no1 _ (x5.no1 _ (x4.no1 _ hnD))
          have hthr6 : ∀ i b, l1 i = some b → ∃ o, H5 b = some o := fun i b hi => r5.there (x15.id i b hi)
          have x16 := x15.trans x6.toExtW hthr6
          split at p6
          · rename_i hlen
            have hacc6 := RDs.mono x6 _ _ (RDs.mono x5 _ _ (RDs.mono x4 _ _ hacc))
            refine ⟨ws, hw6', by rw [hacc.length]; exact line_small hlen, m, Nat.lt_succ_self m, S4, l6, acc ++ [y], ws ++ [w], x16.under hD, (x6.lk.trans (x5.lk.trans (x4.lk.trans hlk))), fun a ha => x6.no1 a (x5.no1 a (x4.no1 a (hno a ha))), hnf, r6.grow hw6' (fun _ e => by cases e) (fun _ e => by cases e) hnf, upd_same,
              RDs.tr (tr_grow hw6' (fun _ e => by cases e) hnf) _ _ (RDs.append hacc6 ⟨w, [], rfl, hw6, rfl⟩), p6⟩
          · exact p6.elim
theorem PTsmono {ifs : List Expr} {t t' : TT} (h : PTs X ifs t) (k : ∀ s H Q, t' s H Q → t s H Q) : PTs X ifs t' := ⟨fun pins s σ H Q I q => h.run pins s σ H Q I (k σ H Q q)⟩
theorem sdts_nil : PTs X [] (TT' C W yesM) := by
  refine PTsmono pts_nil fun s H Q h => ?_
  obtain ⟨e, S, l, he, hr, hp⟩ := h
  exact Post.pure hr hp
theorem sd_lc {vs : List Nat} {own : List (Str × Nat)} {elt tg iter : Expr} {ifs : List Expr} {scope : Scope} {pos : Pos} {im : IM} {is : List Nat} {g : GM} {tt : TM} {te : EM} {h : Option (Option Id)} (hvs : own.map (·.2) = vs) (his : ∀ j, j ∈ is → j ∈ vs) (hc : X.calm = true) (hN : X.N.Nodup) (hi : PI X tg iter (TI' C W im)) (ok : BlkOk X.N X.env.scope scope own)
    (hg : ∀ (s : Shared) (H : Hp) (Ca : Addr) (cl : List (Str × Addr)) (fp : List Addr), PG (X.blk s H scope (compEnvC scope cl Ca X.env) fp) tg (G' C is g)) (ht : ∀ (s : Shared) (H : Hp) (Ca : Addr) (cl : List (Str × Addr)) (fp : List Addr), PTs (X.blk s H scope (compEnvC scope cl Ca X.env) fp) ifs (TT' C W0 tt))
    (he : ∀ (s : Shared) (H : Hp) (Ca : Addr) (cl : List (Str × Addr)) (fp : List Addr), PE (X.blk s H scope (compEnvC scope cl Ca X.env) fp) elt (T C W0 te)) (hs : noSet iter = true) : PE X (.ListComp elt [⟨tg, iter, ifs, 0⟩] scope pos) (T C W (lcM h vs im g tt te)) := by
  subst hvs
  exact PEmono (pe_lc hc hN hi ok hg ht he fun x => fold_eq hs) fun s H Q q => lc_ok his s H Q q
theorem ss_setLc {vs : List Nat} {own : List (Str × Nat)} {i : Nat} {y : Str} {py : Pos} {elt tg iter : Expr} {ifs : List Expr} {scope : Scope} {pos spos : Pos} {im : IM} {is : List Nat} {g : GM} {tt : TM} {te : EM} {h : Option (Option Id)} (hvs : own.map (·.2) = vs) (his : ∀ j, j ∈ is → j ∈ vs) (hc : X.calm = true) (hN : X.N.Nodup) (hy : X.N[i]? = some y) (hyl : X.env.scope.names.lookup y = some .local)
    (hsw : swapsWith (.ListComp elt [⟨tg, iter, ifs, 0⟩] scope pos) (some (.Name y py)) spos.line X.env = pure true) (hi : PI X tg iter (TI' C W im)) (ok : BlkOk X.N X.env.scope scope own)
    (hg : ∀ (s : Shared) (H : Hp) (Ca : Addr) (cl : List (Str × Addr)) (fp : List Addr), PG (X.blk s H scope (compEnvC scope cl Ca X.env) fp) tg (G' C is g)) (ht : ∀ (s : Shared) (H : Hp) (Ca : Addr) (cl : List (Str × Addr)) (fp : List Addr), PTs (X.blk s H scope (compEnvC scope cl Ca X.env) fp) ifs (TT' C W0 tt))
    (he : ∀ (s : Shared) (H : Hp) (Ca : Addr) (cl : List (Str × Addr)) (fp : List Addr), PE (X.blk s H scope (compEnvC scope cl Ca X.env) fp) elt (T C W0 te)) (hs : noSet iter = true) : PS X (.Assign [.Name y py] (.ListComp elt [⟨tg, iter, ifs, 0⟩] scope pos) spos) (TS' C W (asgM (gNm i) (lcM h vs im g tt te))) := by
  subst hvs
  refine PSmono (ps_setLc hc hN hy hyl hsw hi ok hg ht he fun x => fold_eq hs) fun D' s H q => ?_
  obtain ⟨e, S, l, he, hr, hp⟩ := q
  refine lc_ok his s H _ (Tmono (S_run he hr hp) fun v H1 ⟨l1, d1, S1, he1, hr1, x1, hd1, hp1⟩ => ?_)
  exact PostS.now hr1 (he1.set hd1) hp1
end
end Pyx
/-! enumerate of a tuple -/
namespace PySem
abbrev tupIt (l : Addr) : Obj := { cls := .type "tuple_iterator", data := .fields #[.ref l, .int 0 0] }
abbrev enumOb (a : Addr) : Obj := { cls := .type "enumerate", data := .fields #[.none, .bool false, .ref a, rawInt 0, .none, .none] }
theorem enumTup_new (l : Addr) (its : Array Value) : Meets (Builtin.«enumerate.__new__» ⟨[.type "enumerate", .ref l], []⟩) (fun _ R s =>
    s.heap.IsTuple l its ∧ R (.ok (.ret (.ref (s.heap.push (tupIt l)).objs.size))) { s with heap := (s.heap.push (tupIt l)).push (enumOb s.heap.objs.size) }) :=
  .of_wp fun prog w A R s h => by
    obtain ⟨hp, g, d, tk, os⟩ := s
    obtain ⟨ht, h⟩ := h
    obtain ⟨ob, ho, _⟩ := id ht
    have sb := sub_enumerate
    have ht2 : Heap.IsTuple (Shared.heap ⟨hp, g, d, tk, os⟩) l its := ht
    wp_walk using wpAny_loadPart' ho
    refine wpAny_stack_any fun _ => wpAny_pure ?_
    split
    · rename_i c _ _ _ _ _
      cases (c == Value.type "enumerate") <;> (wp_walk using wpAny_loadPart' ho, wpAny_pyIter_tuple ht2) <;> exact ⟨_, rfl, h⟩
    · wp_walk using wpAny_loadPart' ho, wpAny_pyIter_tuple ht2
      exact ⟨_, rfl, h⟩
section
variable {prog : Program} {w : World} {A : Around} {E : Value → Shared → Prop} {s : Shared}
theorem enumTup_call {l : Addr} {its : Array Value} {Q : Value → Shared → Prop} (hT : s.heap.IsTuple l its)
    (k : ∀ h', IsEnum h' (s.heap.objs.size + 1) s.heap.objs.size 0 .none → h'.IsTupleIter s.heap.objs.size l 0 → h'.objs.size = s.heap.objs.size + 2 → (∀ b o, s.heap.get? b = some o → h'.get? b = some o) →
      Q (.ref (s.heap.objs.size + 1)) { s with heap := h' }) : wpAny (model prog w) A (call (.type "enumerate") [.ref l]) Q E s := by
  refine callType_new F.called_enumerate (by decide) (F.typeCall_enumerate_1 _) (F.newCall_enumerate_1 _)
    (fun o => F.args_object_init_2 o _) F.entry_enumerate_new (enumTup_new l its) ⟨hT, ?_⟩
  have z : (s.heap.push (tupIt l)).objs.size = s.heap.objs.size + 1 := Heap.size_push ..
  show _ ∧ _
  rw [z]
  have he : IsEnum ((s.heap.push (tupIt l)).push (enumOb s.heap.objs.size)) (s.heap.objs.size + 1) s.heap.objs.size 0 .none := by
    have q := Heap.get?_push_size (s.heap.push (tupIt l)) (o := enumOb s.heap.objs.size) rfl
    rw [z] at q
    exact q
  exact ⟨⟨_, he, rfl⟩, k _ he ⟨_, Heap.get?_push_of_some _ (Heap.get?_push_size _ rfl), rfl, rfl⟩
    (by rw [Heap.size_push, z]) fun b o x => Heap.get?_push_of_some _ (Heap.get?_push_of_some _ x)⟩
end
end PySem
namespace Pyx
open PySem PySem.Spec PyProof.Rows L2
def IteT (K : PySem.W.Frag) (a : Addr) : It where
  go := fun i H => ∃ (xs : List V) (x : V), SqT K H a xs ∧ xs[i]? = some x
  yld := fun i H v H' => ∃ T x, v = .ref T ∧ H T = none ∧ H' = upd H T (.tup [.int (i : Nat), x]) ∧ ∀ xs, SqT K H a xs → xs[i]? = some x
  stop := fun i H => ∃ xs : List V, SqT K H a xs ∧ xs.length ≤ i
theorem turnEnumT {P : Program} {w : World} {K : PySem.W.Frag} {elts : List Expr} {kk : Nat} {tpos : Pos} (a e it : Addr) :
    Turn P w K (.Tuple elts kk tpos) (IteT K a) [e, it] e (fun i h => (∃ old, IsEnum h e it ((i : Nat) : Int) old) ∧ h.IsTupleIter it a i ∧ e ≠ it ∧ a ≠ it ∧ a ≠ e) where
  mem := by simp
  obj := fun i h st b hb => by
    obtain ⟨⟨old, he⟩, ⟨o, ho, hc, hd⟩, _⟩ := st
    rcases (show b = e ∨ b = it by simpa using hb) with rfl | rfl
    · exact ⟨_, he, fun v q => nomatch q⟩
    · exact ⟨o, ho, fun v q => by
        rw [hd] at q
        cases q⟩
  keep := fun i h h' st k => by
    obtain ⟨⟨old, he⟩, hi, hne, h4, h5⟩ := st
    exact ⟨⟨old, k e (by simp) _ he⟩, hi.at fun o q => k it (by simp) o q, hne, h4, h5⟩
  item := by
    intro X hP hw hK hc i pins s σ H E I hf st hg
    subst hP hw hK
    obtain ⟨⟨old, he⟩, hit, hne, h4, h5⟩ := st
    obtain ⟨xs, x, hq, hx⟩ := hg
    obtain ⟨its, rv, tp, hz⟩ := I.tuple hq
    have tp' : s.heap.IsTuple a its.toArray := tp
    obtain ⟨u, hu, ru⟩ := rv.get hx
    have el : e < s.heap.objs.size := Heap.lt_size he
    have il : it < s.heap.objs.size := by
      obtain ⟨_, q, _⟩ := hit
      exact Heap.lt_size q
    have hi : i < its.toArray.size := by
      have := (List.getElem?_eq_some_iff.mp hu).1
      simpa using this
    have Dr := Draws.tuple (prog := X.prog) (w := X.w) (A := X.A.in1) (by exact I.ok.hd hc) it a h4 its.toArray
    refine wpAny_pyNext_enum_itemD Dr he ⟨hit, tp'⟩ hi hne (by simp [hne, h5.symm]) fun y h' tk hy ho hst hT hsz hk => ?_
    have hyu : y = u := by
      have hy' : its.toArray[i]? = some y := hy
      have hy2 : its[i]? = some y := by simpa using hy'
      exact Option.some.inj (hy2.symm.trans hu)
    subst hyu
    refine ⟨_, rfl, wpAny_letOwnedTupleGo_enum (s := { s with heap := h', toks := tk + 1 }) ho fun h'' he' sb => ?_⟩
    have tT : h''.get? s.heap.objs.size = some { cls := .type "tuple", data := .seq #[.int i tk, y] } := (sb.2 _ (Nat.ne_of_gt el)).trans hT
    have nw : ObjOk X.prog X.w (upd H s.heap.objs.size (.tup [.int (i : Nat), x])) h'' s.heap.objs.size (.tup [.int (i : Nat), x]) :=
      ⟨by show 2 ≤ sizeLine; decide, [.int i tk, y], .cons ⟨_, rfl⟩ (.cons ru .nil), ⟨_, tT, rfl, _, rfl⟩⟩
    have I1 : Inv X pins σ (upd H s.heap.objs.size (.tup [.int (i : Nat), x])) { s with heap := h'', toks := tk + 1 } := by
      refine I.turnedNew (ch := [e, it]) (fun b ob hb q => ?_) hf (Nat.le_refl _) nw
      have b1 : b ≠ e := fun z => hb (by simp [z])
      have b2 : b ≠ it := fun z => hb (by simp [z])
      exact (sb.2 b b1).trans (hk b ob b1 b2 q)
    refine ⟨.ref s.heap.objs.size, _, I1, rfl, ⟨_, x, rfl, I.hok.fresh (Nat.le_refl _), rfl, fun ys hy => ?_⟩, ⟨⟨y, ?_⟩, hst.1.at fun o q => (sb.2 it (Ne.symm hne)).trans q, hne, h4, h5⟩, fun b hb => ?_⟩
    · rw [I.tuple_inj hy hq]
      exact hx
    · rw [show ((i + 1 : Nat) : Int) = (i : Int) + 1 by omega]
      exact he'
    · have bl : b < s.heap.objs.size := by
        rcases (show b = e ∨ b = it by simpa using hb) with rfl | rfl
        · exact el
        · exact il
      rw [upd_ne (Nat.ne_of_lt bl)]
      exact (hf b hb).1
  done := by
    intro X hP hw hK hc i pins s σ H E I hf st hg
    subst hP hw hK
    obtain ⟨⟨old, he⟩, hit, hne, h4, h5⟩ := st
    obtain ⟨xs, hq, hx⟩ := hg
    obtain ⟨its, rv, tp, hz⟩ := I.tuple hq
    have tp' : s.heap.IsTuple a its.toArray := tp
    obtain ⟨f0, f1, f2, f3, f4, f5⟩ := hf it (by simp)
    have hl := rv.length
    have hno : its.toArray[i]? = none := by
      rw [Array.getElem?_eq_none_iff]
      simp only [List.size_toArray]
      omega
    have Dn : Draws X.prog X.w X.A.in1 it [it, a] 0 (fun _ _ => False) (fun j h => h.IsTupleIter it a i ∧ h.IsTuple a its.toArray) := {
      live := fun _ _ z => by
        obtain ⟨o, ho, _⟩ := z.1
        exact ⟨o, ho⟩
      frame := fun _ _ _ z hk => ⟨z.1.at fun o q => hk it (by simp) o q, z.2.at fun o q => hk a (by simp) o q⟩
      item := fun j s' Q' E' hj => absurd hj (Nat.not_lt_zero j)
      done := fun s' Q' E' z hE => wpAny_nextOf_tuple_end (show X.A.in1.handled = none from I.ok.hd hc) z.1 z.2 hno hE }
    exact wpAny_pyNext_enum_endD Dn he ⟨hit, tp'⟩ fun h' eb => ⟨rfl, I.turned (t' := s.toks) (fun b o hb q => eb b o hb q) f0 f1 f3 f4 f5⟩
  self := fun A i s Q E st h => by
    obtain ⟨⟨_, he⟩, _⟩ := st
    exact wpAny_pyIter_enum he h
def iEnumT (K : PySem.W.Frag) (ta : TA) : TI := fun σ H R => ta σ H fun vs H1 => ∃ a xs, vs = [.ref a] ∧ SqT K H1 a xs ∧ R (IteT K a) H1
theorem pi_enumT {X : Cx} {e : Expr} {ta : TA} {p pos tpos : Pos} {elts : List Expr} {kk : Nat} (hg : Gl X "enumerate") (hm : X.mg "enumerate" = none) (ha : PA X [e] ta) (hs : starEach [e] X.env = [(false, eval e X.env)] := by rfl) :
    PI X (.Tuple elts kk tpos) (.Call (.Name "enumerate" p) [e] [] pos) (iEnumT X.K ta) := by
  refine ⟨fun pins s σ H R I h => ?_⟩
  refine Call_ (ld_blt I hg hm boot_enumerate (PyProof.Rows.callWith_type1 (thn (ha.run pos pins s σ H _ I h) fun us s1 ⟨vs, H1, I1, r1, q1⟩ => ?_) hs rfl))
  obtain ⟨a, xs, rfl, hq, q⟩ := q1
  obtain ⟨u, rfl, ru⟩ := vals1 r1
  obtain rfl : u = Value.ref a := ru
  obtain ⟨its, rv, tp, hz⟩ := I1.tuple hq
  have tp' : s1.heap.IsTuple a its.toArray := tp
  have al : a < s1.heap.objs.size := by
    obtain ⟨o, ho, _⟩ := id tp'
    exact Heap.lt_size ho
  refine enumTup_call tp' fun h' he hit hsz hk => wpAny_pyIter_enum he ?_
  have I2 : Inv X pins σ H1 { s1 with heap := h' } := I1.kept (t' := s1.toks) hk
  refine ⟨s1.heap.objs.size + 1, [s1.heap.objs.size + 1, s1.heap.objs.size], _, _, H1, rfl, I2, turnEnumT a (s1.heap.objs.size + 1) s1.heap.objs.size, ⟨⟨.none, he⟩, hit, Nat.succ_ne_self _, Nat.ne_of_lt al, Nat.ne_of_lt (Nat.lt_succ_of_lt al)⟩, fun b hb => ?_, q⟩
  have hle : s1.heap.objs.size ≤ b := by
    rcases (show b = s1.heap.objs.size + 1 ∨ b = s1.heap.objs.size by simpa using hb) with rfl | rfl
    · exact Nat.le_add_right _ _
    · exact Nat.le_refl _
  exact I1.fpOk hle (I1.hok.fresh hle)
/-- enumerate of a list, of a tuple -/
def enumS2 (x : D) (S : Sto) : Option Src := match x with
  | .tup ds => some (.fix (enum0 ds))
  | .ktup ds => some (.fix (enum0 ds))
  | x => enumS x S
def enumI2 (t : AM) : IM := fun e S => (t e S).bind fun ds S1 => match ds with
  | [x] => ofO (enumS2 x S1) S1
  | _ => .bad
def isTup : D → Bool
  | .tup _ => true
  | .ktup _ => true
  | _ => false
theorem enumS2_no {x : D} {S : Sto} (h : isTup x = false) : enumS2 x S = enumS x S := by
  cases x <;> first | rfl | cases h
section
variable {X : Cx} {C : Ctx} {W : WX}
theorem yld_enumT {l : Lay} {H : Hp} {es : List D} {p : Addr} (h : ∀ l' H', ExtW l H l' H' → ∃ vs, SqT C.K H' p vs ∧ RDs C.K l' H' es vs) : Yld C (IteT C.K p) (.fix (enum0 es)) l H := by
  intro S' l' H' k x r
  obtain ⟨xs, sq, hx'⟩ := h l' H' x
  show match some (enum0 es)[k]? with | none => True | some none => (IteT C.K p).stop k H' | some (some d) => _
  unfold enum0
  rw [List.getElem?_mapIdx]
  cases q1 : es[k]? with
  | none => exact ⟨xs, sq, by rw [hx'.length]; exact List.getElem?_eq_none_iff.mp q1⟩
  | some d =>
    obtain ⟨w, hw, hd⟩ := hx'.get q1
    refine ⟨⟨xs, w, sq, hw⟩, ?_⟩
    rintro z H2 ⟨T, u, rfl, hT, rfl, f1⟩
    have e1 : u = w := Option.some.inj ((f1 xs sq).symm.trans hw)
    subst e1
    have x2 := ext_new (l := l') (o := .tup [.int (k : Nat), u]) hT
    exact ⟨x2, rel_new r hT, T, _, rfl, upd_same, ⟨_, _, rfl, rfl, _, _, rfl, RD.mono x2 _ _ hd, rfl⟩⟩
theorem sp_enum2 {a : Expr} {p pos tpos : Pos} {elts : List Expr} {kk : Nat} {m : AM} (hK : C.K = X.K) (hg : Gl X "enumerate") (hm : X.mg "enumerate" = none) (ha : PA X [a] (TA' C W m)) (h1 : noStar a = true) :
    PI X (.Tuple elts kk tpos) (.Call (.Name "enumerate" p) [a] [] pos) (TI' C W (enumI2 m)) := by
  have q1 := sp_enum (W := W) (p := p) (pos := pos) (tpos := tpos) (elts := elts) (kk := kk) hK hg hm ha h1
  have q2 := pi_enumT (p := p) (pos := pos) (tpos := tpos) (elts := elts) (kk := kk) hg hm ha (star_eq h1)
  refine ⟨fun pins s σ H R I h => ?_⟩
  obtain ⟨e, S, l, he, hr, hp⟩ := h
  by_cases hc : ∃ x S1, m e S = .ok [x] S1 ∧ isTup x = true
  · obtain ⟨x, S1, em, ht⟩ := hc
    refine q2.run pins s σ H R I ?_
    refine ⟨e, S, l, he, hr, ?_⟩
    unfold enumI2 at hp
    rw [em] at hp ⊢
    have hp' : Post C W (fun l' H' src => ∀ J, Yld C J src l' H' → R J H') σ l H (ofO (enumS2 x S1) S1) := hp
    intro H1 l1 x1 r1 ws hv
    obtain ⟨v, rfl, hw⟩ := hv.one
    cases x with
    | tup es =>
      obtain ⟨b, xs, rfl, tp, hx⟩ := RD.tupE hw
      refine ⟨b, xs, rfl, hK ▸ tp.sq, hp' H1 l1 x1 r1 _ ?_⟩
      exact hK ▸ yld_enumT (stays_tup tp hx)
    | ktup es =>
      obtain ⟨b, xs, rfl, tp, hx⟩ := (show ∃ a vs, v = .ref a ∧ KTup C.K a vs ∧ RDs C.K l1 H1 es vs from hw)
      refine ⟨b, xs, rfl, hK ▸ .inr tp, hp' H1 l1 x1 r1 _ ?_⟩
      exact hK ▸ yld_enumT fun l' H' x => ⟨xs, .inr tp, RDs.monoW x _ _ hx⟩
    | _ => cases ht
  · refine q1.run pins s σ H R I ⟨e, S, l, he, hr, ?_⟩
    have ee : enumI m e S = enumI2 m e S := by
      unfold enumI enumI2
      cases em : m e S with
      | bad => rfl
      | exc x S1 => rfl
      | ok ds S1 =>
        rcases ds with _ | ⟨x, _ | ⟨y, r⟩⟩
        · rfl
        · show ofO (enumS x S1) S1 = ofO (enumS2 x S1) S1
          rw [enumS2_no]
          cases ht : isTup x with
          | false => rfl
          | true => exact (hc ⟨x, S1, em, ht⟩).elim
        · rfl
    rw [ee]
    exact hp
end
end Pyx
/-! a tuple turned round -/
namespace HTR
open PySem PySem.Spec PyProof.Rows HT
section
variable {prog : Program} {w : World} {A : Around} {E : Value → Shared → Prop} {s : Shared}
theorem revAdjust (n : Nat) : Builtin.Slice.sliceAdjust none none (-1) (n : Int) = ((n : Int) - 1, -1) := rfl
theorem revPlaces (n : Nat) : Builtin.Slice.slicePlaces ((n : Int) - 1) (-1) (-1) = n := by
  unfold Builtin.Slice.slicePlaces
  have h1 : ¬ ((-1 : Int) > 0) := by decide
  rw [if_neg h1]
  split
  · rw [show (- -1 : Int) = 1 by decide, Int.ediv_one]
    omega
  · omega
theorem revApplied {sl : Addr} {vk : Value} {n : Nat} {Q : Int × Int × Nat → Shared → Prop} (hs : s.heap.IsSliceOf sl .none .none vk) (pk : IsPart vk (some (-1)))
    (h : Q ((n : Int) - 1, -1, n) s) : wpAny (model prog w) A (Builtin.Slice.sliceApplied (.ref sl) (pure (n : Int))) Q E s := by
  obtain ⟨os, hos, hcs, hds⟩ := id hs
  unfold Builtin.Slice.sliceApplied Builtin.Slice.sliceFields
  refine wpAny_bind (wpAny_bind (wpAny_field hos hds (x := .none) rfl (wpAny_bind (wpAny_field hos hds (x := .none) rfl (wpAny_bind (wpAny_field hos hds (x := vk) rfl (wpAny_pure ?_)))))))
  refine wpAny_bind (slicePart_ pk ?_)
  show wpAny _ _ (if ((-1 : Int) == 0) = true then _ else _) _ _ s
  rw [if_neg (by decide)]
  refine wpAny_bind (slicePart_none (wpAny_bind (slicePart_none (wpAny_bind (wpAny_pure ?_)))))
  show wpAny _ _ (match Builtin.Slice.sliceAdjust none none (-1) (n : Int) with | (lo, hi) => pure (lo, (-1 : Int), Builtin.Slice.slicePlaces lo hi (-1))) _ _ s
  rw [revAdjust n]
  show wpAny _ _ (pure ((n : Int) - 1, (-1 : Int), Builtin.Slice.slicePlaces ((n : Int) - 1) (-1) (-1))) _ _ s
  rw [revPlaces n]
  exact wpAny_pure h
theorem fmCongr {α β : Type} {f g : α → Option β} : ∀ {l : List α}, (∀ x ∈ l, f x = g x) → l.filterMap f = l.filterMap g
  | [], _ => rfl
  | x :: l, h => by
    have h1 := h x (List.mem_cons_self ..)
    have h2 := fmCongr (l := l) fun y hy => h y (List.mem_cons_of_mem _ hy)
    rw [List.filterMap_cons, List.filterMap_cons, h1, h2]
theorem revPick (xs : Array Value) : ((List.range xs.size).filterMap fun (k : Nat) => xs[(((xs.size : Int) - 1) + (k : Int) * (-1)).toNat]?).toArray = xs.toList.reverse.toArray := by
  have e : (List.range xs.size).filterMap (fun (k : Nat) => xs[(((xs.size : Int) - 1) + (k : Int) * (-1)).toNat]?) = ((List.range xs.size).map fun k => xs.size - 1 - k).filterMap (xs[·]?) := by
    rw [List.filterMap_map]
    refine fmCongr fun k hk => ?_
    have := List.mem_range.mp hk
    have h2 : (((xs.size : Int) - 1) + (k : Int) * (-1)).toNat = xs.size - 1 - k := by omega
    rw [h2]
    rfl
  rw [e, PySem.W.krv_range, List.filterMap_reverse, PySem.W.krv_all]
theorem getItem_tuple_rev {t sl : Addr} {items : Array Value} {vk : Value} {Q : Value → Shared → Prop} (ht : IsTup s.heap t items) (hs : s.heap.IsSliceOf sl .none .none vk) (pk : IsPart vk (some (-1)))
    (h : Q (.ref s.heap.objs.size) { s with heap := s.heap.push { cls := .type "tuple", data := .seq items.toList.reverse.toArray } })
    (hsz : items.size ≤ sizeLine) : wpAny (model prog w) A (getItem (.ref t) (.ref sl)) Q E s := by
  have hrev : sizeOk (.seq items.toList.reverse.toArray) := by
    show items.toList.reverse.toArray.size ≤ sizeLine
    rw [List.size_toArray, List.length_reverse, Array.length_toList]
    exact hsz
  obtain ⟨os, hos, hcs, hds⟩ := id hs
  have hTs : s.TypeIs (.ref sl) "slice" := ⟨os, hos, hcs⟩
  unfold getItem
  try with_reducible refine wpAny_holding ?_
  first | refine wpAny_bind (wpAny_pure ?_) | skip
  refine wpAny_bind (wpAny_sequenceKey ht.typeIs (by decide) ?_)
  refine wpAny_bind (wpAny_callSpecial?_slot (name := Str.ofString "__getitem__") ht.typeIs PyProof.Rows.slot_tuple_getitem
    (wpAny_call_entry PyProof.Rows.slot_tuple_getitem ht.typeIs entry_tuple_getitem ?_ (args_tuple_getitem _ _)))
  show wpAny _ _ (Builtin.Tuple.tupleItemsOf (.ref t) >>= _) _ _ s
  refine wpAny_bind (tupleItemsOf_ ht ?_)
  refine wpAny_bind (wpAny_typeOf hTs ?_)
  rw [if_pos (by decide)]
  refine wpAny_bind (revApplied hs pk ?_)
  have hno : ¬ ((((items.size : Int) - 1) == 0 && (-1 : Int) == 1 && items.size == items.size) = true) := by
    rw [show ((-1 : Int) == 1) = false by decide, Bool.and_false, Bool.false_and]
    exact Bool.false_ne_true
  show wpAny _ _ (if (((items.size : Int) - 1) == 0 && (-1 : Int) == 1 && items.size == items.size) = true then _ else _) _ _ s
  rw [if_neg hno, revPick]
  first
    | exact wpAny_bind (m := Builtin.Tuple.tupleExact _) (wpAny_newObj_type (wpAny_pure ⟨_, rfl, wpAny_pure h⟩) hrev)
    | exact wpAny_bind (m := Builtin.Tuple.tupleExact _) (wpAny_newObj_type (wpAny_bind (wpAny_pure (wpAny_pure ⟨_, rfl, wpAny_pure h⟩))) hrev)
    | exact wpAny_bind (wpAny_bind (m := Builtin.Tuple.tupleExact _) (wpAny_newObj_type (wpAny_pure (wpAny_pure ⟨_, rfl, wpAny_pure h⟩)) hrev))
    | exact wpAny_bind (wpAny_bind (m := Builtin.Tuple.tupleExact _) (wpAny_newObj_type (wpAny_pure ⟨_, rfl, wpAny_pure h⟩) hrev))
end
end HTR
namespace Pyx
open PySem PySem.Spec PyProof.Rows L2
section
variable {X : Cx}
def tRevT (K : PySem.W.Frag) (te : TE) : TE := fun σ H Q => te σ H fun x H1 => ∃ a xs, x = .ref a ∧ SqT K H1 a xs ∧ ∀ p, H1 p = none → Q (.ref p) (upd H1 p (.tup xs.reverse))
theorem pe_revT {e : Expr} {te : TE} {k : Nat} {p1 p2 p3 pos : Pos} (he : PE X e te) : PE X (.Subscript e (.Slice none none (some (.UnaryOp .USub (.Constant (.int 1) k p1) p2)) p3) pos) (tRevT X.K te) := by
  refine ⟨fun pins s σ H Q I h => ?_⟩
  refine Subscript_ (thn (he.run pins s σ H _ I h) fun v s1 ⟨x, H1, I1, r1, q1⟩ => ?_)
  obtain ⟨a, xs, rfl, hx, q⟩ := q1
  cases r1
  have hst : PO X (some (.UnaryOp .USub (.Constant (.int 1) k p1) p2)) (tPart (tUn (rU fun i => .int (-i)) (tC (.int 1)))) := po_some (pe_un un_neg pe_int)
  refine wpAny_Slice (thn (po_none.run pins s1 σ H1 (fun o H2 => o = none ∧ H2 = H1) I1 ⟨rfl, rfl⟩) fun vl s2 ⟨l, H2, I2, pl, el, e2⟩ => ?_)
  subst el e2
  refine thn (po_none.run pins s2 σ H2 (fun o H3 => o = none ∧ H3 = H2) I2 ⟨rfl, rfl⟩) fun vu s3 ⟨u, H3, I3, pu, eu, e3⟩ => ?_
  subst eu e3
  refine thn (hst.run pins s3 σ H3 (fun o H4 => o = some (-1) ∧ H4 = H3) I3 ⟨1, rfl, -1, rfl, rfl, rfl⟩) fun vs s4 ⟨o, H4, I4, ps, eo, e4⟩ => ?_
  subst eo e4
  cases pl
  cases pu
  have I5 : Inv X pins σ H4 { s4 with heap := s4.heap.push { cls := .type "slice", data := .fields #[.none, .none, vs] } } := I4.kept (t' := s4.toks) fun b ob q => Heap.get?_push_of_some _ q
  obtain ⟨its, r, ht, hz⟩ := I5.tuple hx
  have hlen := r.length
  show wpAny (model X.prog X.w) X.A (subscriptTail e (.Slice none none (some (.UnaryOp .USub (.Constant (.int 1) k p1) p2)) p3) (.ref a) (.ref s4.heap.objs.size)) (EP X pins σ Q) X.xe { s4 with heap := s4.heap.push { cls := .type "slice", data := .fields #[.none, .none, vs] } }
  refine tail_any (ops := [.ref a, .ref s4.heap.objs.size]) ht.typeIs (PyProof.Rows.slot_tuple_getitem.lookup) ?_ (by with_unfolding_all rfl)
  refine HTR.getItem_tuple_rev ht (Heap.IsSliceOf.new _ _ _ vs) ps ?_ (by rw [List.size_toArray]; omega)
  refine ⟨.ref _, _, I5.laid (t' := s4.toks) (o := .tup xs.reverse) (fun b ob q => Heap.get?_push_of_some _ q) (Nat.le_refl _) ?_, rfl, q _ (I5.hok.fresh (Nat.le_refl _))⟩
  exact ⟨by rw [List.length_reverse]; exact hz, _, r.reverse, IsTup.new _ _⟩
end
def revT (a : EM) : EM := fun e S => (a e S).bind fun x S1 => match x with
  | .tup ds => .ok (.tup ds.reverse) S1
  | _ => .bad
section
variable {X : Cx} {C : Ctx} {W : WX} (hK : C.K = X.K)
include hK
theorem sd_revT {e : Expr} {k : Nat} {p1 p2 p3 pos : Pos} {m : EM} (he : PE X e (T C W m)) : PE X (.Subscript e (.Slice none none (some (.UnaryOp .USub (.Constant (.int 1) k p1) p2)) p3) pos) (T C W (revT m)) := by
  refine PEmono (pe_revT he) fun s H Q h => ?_
  obtain ⟨e, S, l, he, hr, hp⟩ := h
  refine Tmono (T_run he hr hp) fun v H1 ⟨l1, d, S1, he1, hr1, x1, hd1, hp1⟩ => ?_
  cases d with
  | tup ds =>
    obtain ⟨a, xs, rfl, tp, hx⟩ := RD.tupE hd1
    refine ⟨a, xs, rfl, hK ▸ tp.sq, fun p hn => ?_⟩
    exact (VPost.of (show ∀ H' l', Ext l1 H1 l' H' → Rel C l' S1 H' → QE C Q l' H' (.tup ds.reverse) from hp1)).tup hr1 hx.reverse hn
  | _ => exact hp1.elim
/-! ### isinstance -/
theorem sd_isi {t : String} {x : Str} {p p2 pos : Pos} {ex : Expr} {m : EM} (hg : Gl X "isinstance") (hm : X.mg "isinstance" = none) (hgx : Gl X x) (hmx : X.mg x = none) (hvx : bootBuiltins x = some (.type t)) (hnx : x ≠ "__name__") (hdx : (x == ("__debug__" : Str)) = false)
    (ha : PE X ex (T C W m)) (hs : noStar ex = true) : PE X (.Call (.Name "isinstance" p) [ex, .Name x p2] [] pos) (T C W (isiM t m)) := by
  refine PEmono (pe_callB call_isi hg hm rfl (pa_cons ha (pa_cons (pe_bltn (v := .ty t) hgx hmx hvx rfl hnx hdx) pa_nil) (star_eq hs)) (by decide) (by decide) (star_eq hs) (star_any (es := [.Name x p2]) rfl)) fun s H Q h => ?_
  obtain ⟨e, S, l, he, hr, hp⟩ := h
  refine Tmono (T_run he hr hp) fun v H1 ⟨l1, d, S1, he1, hr1, x1, hd1, hp1⟩ => ?_
  obtain ⟨r, hs, hp1⟩ := post_ofO hp1
  unfold isiF at hs
  cases ht : tyName S1 d with
  | none =>
    rw [ht] at hs
    cases hs
  | some n =>
    rw [ht] at hs
    cases hk : kitB n t with
    | none =>
      have : (kitB n t).map D.bl = some r := hs
      rw [hk] at this
      cases this
    | some b =>
      have : (kitB n t).map D.bl = some r := hs
      rw [hk] at this
      cases this
      refine ⟨v, .ty t, .type n, .type t, b, rfl, .ty t, hK ▸ ty_ok hK hr1 hd1 ht, kit_ty hk, hp1 H1 l1 (Ext.refl _ _) hr1 _ rfl⟩
/-! ### sorted -/
def alikeB (ds : List PyData) : Bool := ds.all fun d => ds.all fun d' => PySem.W.alike d d'
def sortableB (ds : List PyData) : Bool := (ds.all fun d => match d with
    | .tuple (_ :: _) => true
    | _ => false) || ds.all fun d => match d with
    | .none => false
    | .tuple _ => false
    | _ => true
omit hK in
theorem alike_by {ds : List PyData} (h : alikeB ds = true) : PySem.W.AllAlike ds := fun d hd d' hd' => by
  unfold alikeB at h
  exact List.all_eq_true.mp (List.all_eq_true.mp h d hd) d' hd'
omit hK in
theorem sortable_by {ds : List PyData} (h : sortableB ds = true) : PySem.W.Sortable ds := by
  unfold sortableB at h
  rcases Bool.or_eq_true_iff.mp h with h | h
  · refine .inl fun d hd => ?_
    have := List.all_eq_true.mp h d hd
    split at this
    · exact ⟨_, _, rfl⟩
    · cases this
  · refine .inr fun d hd => ?_
    have := List.all_eq_true.mp h d hd
    split at this
    · cases this
    · cases this
    · rename_i h1 h2
      exact ⟨h1, h2⟩
def sortF : List D → Sto → Option D
  | [d], S => (listD S d).bind fun ds => if noCells ds && alikeB (ds.map py) && sortableB (ds.map py) && ds.all (fun d => decide ((py d).depth ≤ 50)) then some (.lst (ds.mergeSort (PySem.W.dataLe false py))) else none
  | _, _ => none
omit hK in
theorem each_of {K : PySem.W.Frag} {l : Lay} {H : Hp} {R : Value → D → Prop} : ∀ {ds : List D} {vs : List V} {us : List Value}, RDs K l H ds vs → Vals vs us → (∀ d v u, d ∈ ds → RD K l H d v → RelV v u → R u d) → PySem.W.EachIs R us ds
  | [], vs, us, h, r, k => by
    cases h
    cases r
    exact .nil
  | d :: ds, vs, us, h, r, k => by
    obtain ⟨v, ws, rfl, h1, h2⟩ := h
    cases r with
    | cons r rr => exact .cons (k d v _ (List.mem_cons_self ..) h1 r) (each_of h2 rr fun d v u hd => k d v u (List.mem_cons_of_mem _ hd))
omit hK in
theorem of_each {K : PySem.W.Frag} {l : Lay} {H : Hp} : ∀ {us : List Value} {ds : List D}, PySem.W.EachIs (fun u d => ∃ v, RelV v u ∧ RD K l H d v) us ds → ∃ vs, Vals vs us ∧ RDs K l H ds vs
  | _, _, .nil => ⟨[], .nil, rfl⟩
  | _, _, .cons ⟨v, r, h⟩ t => by
    obtain ⟨vs, rr, hh⟩ := of_each t
    exact ⟨v :: vs, .cons r rr, v, vs, rfl, h, hh⟩
omit hK in
theorem noCells_mem : ∀ {ds : List D}, noCells ds = true → ∀ d ∈ ds, noCell d = true
  | [], _, d, h => by cases h
  | e :: ds, h, d, hd => by
    unfold noCells at h
    rw [Bool.and_eq_true] at h
    rcases List.mem_cons.mp hd with rfl | hd
    · exact h.1
    · exact noCells_mem h.2 d hd
theorem cl_sorted (hu : X.A.units + 64 < cLine) : CallR X (.builtin "sorted") (rC C sortF) := by
  intro pins s σ H xs us Q I rs h
  obtain ⟨S, l, ds, d, hr, hd, hg, hp⟩ := h
  unfold sortF at hg
  split at hg
  · rename_i x
    obtain ⟨v, rfl, h1⟩ := hd.one
    cases hL : listD S x with
    | none =>
      rw [hL] at hg
      cases hg
    | some es =>
      rw [hL] at hg
      have hg' : (if (noCells es && alikeB (es.map py) && sortableB (es.map py) && es.all (fun d => decide ((py d).depth ≤ 50))) = true then some (D.lst (es.mergeSort (PySem.W.dataLe false py))) else none) = some d := hg
      split at hg'
      · rename_i hc
        cases hg'
        simp only [Bool.and_eq_true] at hc
        obtain ⟨⟨⟨n1, n2⟩, n3⟩, n4⟩ := hc
        obtain ⟨a, vs, rfl, sq, hes⟩ := list_ok hr h1 hL
        obtain ⟨u, rfl, ru⟩ := vals1 rs
        obtain rfl : u = Value.ref a := ru
        obtain ⟨its, rv, pl, hz⟩ := I.list (hK ▸ sq)
        have e1 : PySem.W.EachIs (fun u d => ∃ v, RelV v u ∧ RD C.K l H d v) its es := each_of hes rv fun d v u _ h r => ⟨v, r, h⟩
        have e2 : PySem.W.EachIs (fun u d => ∃ as, Reads s.heap u (py d) as) its es := each_of hes rv fun d v u hm h r => Dp.reads I _ v u (hK ▸ (RD.dp d v h (noCells_mem n1 d hm)).1) r
        have hlen : es.length = vs.length := hes.length.symm
        refine PySem.W.sorted_data pl.isList e1 e2 (alike_by n2) (sortable_by n3) (by rw [hlen]; exact hz) (fun b hb => ?_) fun out ho eo => ?_
        · have := of_decide_eq_true (List.all_eq_true.mp n4 b hb)
          omega
        · obtain ⟨ws, r2, h2⟩ := of_each eo
          obtain ⟨n, hn⟩ := sortedAll_at s.heap its out.toArray
          refine ⟨.ref (s.heap.objs.size + 1), _, I.laid (t' := s.toks) (o := .lst ws) (fun b o e => sortedAll_old e) (Nat.le_succ _) ⟨?_, out, n, r2, hn⟩, rfl, hp.lst hr h2 (I.hok.fresh (Nat.le_succ _))⟩
          rw [r2.length, ho, hlen]
          exact hz
      · cases hg'
  · cases hg
/-! ### list(x), as a cell -/
theorem sd_listC {i : Option Id} {p pos : Pos} {ex : Expr} {m : EM} (hg : Gl X "list") (hm : X.mg "list" = none) (ha : PE X ex (T C W m)) (hs : noStar ex = true) : PE X (.Call (.Name "list" p) [ex] [] pos) (T C W (listC i m)) := by
  refine PEmono (pe_callTy call_list_of hg hm rfl (pa_cons ha pa_nil (star_eq hs)) (by decide) (by decide) (star_eq hs) rfl) fun s H Q h => ?_
  obtain ⟨e, S, l, he, hr, hp⟩ := h
  refine Tmono (T_run he hr hp) fun v H1 ⟨l1, d, S1, he1, hr1, x1, hd1, hp1⟩ => ?_
  split at hp1
  · rename_i ds hi
    obtain ⟨a, vs, rfl, sq, hd⟩ := items_ok hr1 hd1 hi
    exact ⟨a, vs, rfl, hK ▸ sq, fun p hn => alloc_ok hp1 hr1 hn fun l' x => ⟨vs, upd_same, RDs.mono x _ _ hd⟩⟩
  · exact hp1.elim
end
end Pyx
/-! o[i] = e; raise; the rest of the statements -/
namespace Pyx
open PySem PySem.Spec PyProof.Rows L2
def lput (x i d : D) (S : Sto) : Option Sto := match x with
  | .cell j => match S.at_ j with
    | some (.lst ds) => match i with
      | .int k => (ixN ds.length k).map fun n => S.set j (.lst (ds.set n d))
      | _ => none
    | _ => none
  | _ => none
def setI (x i d : D) (S : Sto) : Option Sto := match dput x i d S with
  | some S' => some S'
  | none => lput x i d S
def putM (o i a : EM) : SM := fun e S => liftS (a e S) e fun d S1 => liftS (o e S1) e fun x S2 => liftS (i e S2) e fun y S3 => ofS (setI x y d S3) e
theorem lput_ok {C : Ctx} {S S' : Sto} {l : Lay} {H : Hp} {a b d : D} {x y v : V} (r : Rel C l S H) (ha : RD C.K l H a x) (hb : RD C.K l H b y) (hd : RD C.K l H d v) (e : lput a b d S = some S') :
    ∃ p xs k j, x = .ref p ∧ y = .int k ∧ H p = some (.lst xs) ∧ ixN xs.length k = some j ∧ Ext l H l (upd H p (.lst (xs.set j v))) ∧ Rel C l S' (upd H p (.lst (xs.set j v))) := by
  unfold lput at e
  split at e
  · rename_i i
    split at e
    · rename_i ds hS
      split at e
      · rename_i k
        obtain ⟨n, hn, rfl⟩ := Option.map_eq_some_iff.mp e
        obtain ⟨p, rfl, hi⟩ := ha
        obtain ⟨p', hp', vs, hv, hq⟩ := r.cells i _ hS
        rw [hi] at hp'
        cases hp'
        cases hb
        have x := ext_set (i := i) (o := .lst (vs.set n v)) r hi
        refine ⟨p, vs, k, n, rfl, rfl, hv, by rw [hq.length]; exact hn, x, rel_set r hi ⟨vs.set n v, upd_same, ?_⟩⟩
        exact RDs.mono x _ _ (hq.set n hd)
      · cases e
    · cases e
  · cases e
theorem S_runE {C : Ctx} {W : WX} {D' : Ends} {s : L2.St} {l : Lay} {H : Hp} {e : Env'} {S : Sto} {m : EM} {f : D → Sto → SO} (he : EnvR C.K l H e s) (hr : Rel C l S H) (hp : PostS C W D' l H (liftS (m e S) e f)) :
    T C W m s H fun v H1 => ∃ l1 d S1, m e S = .ok d S1 ∧ EnvR C.K l1 H1 e s ∧ Rel C l1 S1 H1 ∧ Ext l H l1 H1 ∧ RD C.K l1 H1 d v ∧ PostS C W D' l1 H1 (f d S1) := by
  refine ⟨e, S, l, he, hr, ?_⟩
  cases q : m e S with
  | bad =>
    rw [q] at hp
    exact hp
  | exc x S1 =>
    rw [q] at hp
    intro H' l' c d x r rx
    exact hp s H' l' c d x r (he.mono x) rx
  | ok d S1 =>
    rw [q] at hp
    intro H1 l1 x r v hv
    exact ⟨l1, d, S1, rfl, he.mono x, r, x, hv, PostS.mono (show PostS C W D' l H (f d S1) from hp) x r⟩
def noSl (e : Expr) : Bool := match e with
  | .Slice _ _ _ _ => false
  | .Tuple es _ _ => es.all fun x => match x with
    | .Slice _ _ _ _ => false
    | _ => true
  | _ => true
theorem swap_sub {e o i : Expr} {p : Pos} {n : Nat} {env : Env} : swapsWith e (some (.Subscript o i p)) n env = pure false := by
  cases e <;> rfl
theorem swap_att {e o : Expr} {x : Str} {p : Pos} {n : Nat} {env : Env} : swapsWith e (some (.Attribute o x p)) n env = pure false := by
  cases e <;> rfl
theorem asg_sub {o i : Expr} {pos : Pos} {env : Env} (h : noSlice i = true) (v : Value) : assign (.Subscript o i pos) env v = (do
      let ov ← holding [v] (eval o env)
      let iv ← holding [v, ov] (eval i env)
      standAt pos
      holding [v, ov, iv] (setItem ov iv v)
      release [v, ov, iv] []) := by
  cases i <;> first
    | rfl
    | cases h
section
variable {X : Cx} {C : Ctx} {W : WX}
theorem ss_put {o i ex : Expr} {pos pos' : Pos} {mo mi m : EM} (hu : X.A.units + 1 < cLine) (ho : PE X o (T C W mo)) (hi : PE X i (T C W mi)) (h : PE X ex (T C W m)) (hs : noSlice i = true) :
    PS X (.Assign [.Subscript o i pos'] ex pos) (TS' C W (putM mo mi m)) := by
  have h1 := ps_asg (pos := pos) h (pg_sub (pos := pos') ho hi set_list (asg_sub hs)) (show swapsWith ex (some (.Subscript o i pos')) pos.line X.env = pure false from swap_sub) rfl rfl
  have h2 := ps_dput (pos := pos) (pos' := pos') hu ho hi h swap_sub
  refine ⟨fun pins s σ H D' I q => ?_⟩
  obtain ⟨e, S, l, he, hr, hp⟩ := q
  by_cases hc : ∃ d S1 x S2 y S3 S', m e S = .ok d S1 ∧ mo e S1 = .ok x S2 ∧ mi e S2 = .ok y S3 ∧ dput x y d S3 = some S'
  · obtain ⟨d, S1, x, S2, y, S3, S', e1, e2, e3, e4⟩ := hc
    refine h2.run pins s σ H D' I ?_
    refine ⟨e, S, l, he, hr, ?_⟩
    have hp' : PostS C W D' l H (.nx e S') := by
      have : putM mo mi m e S = .nx e S' := by
        unfold putM
        rw [e1]
        show liftS (mo e S1) e _ = _
        rw [e2]
        show liftS (mi e S2) e _ = _
        rw [e3]
        show ofS (setI x y d S3) e = _
        unfold setI
        rw [e4]
        rfl
      rw [← this]
      exact hp
    rw [e1]
    intro H1 l1 x1 r1 v hv
    refine ⟨e, S1, l1, he.mono x1, r1, ?_⟩
    rw [e2]
    intro H2 l2 x2 r2 w hw
    refine ⟨e, S2, l2, (he.mono x1).mono x2, r2, ?_⟩
    rw [e3]
    intro H3 l3 x3 r3 u hu
    obtain ⟨p, H', rfl, dp, x4, r4⟩ := dput_ok r3 (RD.mono x3 _ _ hw) hu (RD.mono x3 _ _ (RD.mono x2 _ _ hv)) e4
    exact ⟨p, H', rfl, dp, hp' σ H' l3 ((x1.thru (x2.thru (x3.thru x4 r3) r2) r1)) r4 (((he.mono x1).mono x2).mono x3 |>.mono x4)⟩
  · refine h1.run pins s σ H D' I ?_
    refine Tmono (S_runE he hr hp) fun v H1 ⟨l1, d1, S1, em1, he1, hr1, x1, hd1, hp1⟩ => Tmono (S_runE he1 hr1 hp1) fun w H2 ⟨l2, d2, S2, em2, he2, hr2, x2, hd2, hp2⟩ => Tmono (S_runE he2 hr2 hp2) fun u H3 ⟨l3, d3, S3, em3, he3, hr3, x3, hd3, hp3⟩ => ?_
    have hz : dput d2 d3 d1 S3 = none := by
      cases q : dput d2 d3 d1 S3 with
      | none => rfl
      | some S' => exact (hc ⟨_, _, _, _, _, _, _, em1, em2, em3, q⟩).elim
    unfold setI at hp3
    rw [hz] at hp3
    have hp4 : PostS C W D' l3 H3 (ofS (lput d2 d3 d1 S3) e) := hp3
    cases q : lput d2 d3 d1 S3 with
    | none =>
      rw [q] at hp4
      exact hp4.elim
    | some S' =>
      rw [q] at hp4
      obtain ⟨p, xs, k, j, rfl, rfl, h1, h2, h3, h4⟩ := lput_ok hr3 (RD.mono x3 _ _ hd2) hd3 (RD.mono x3 _ _ (RD.mono x2 _ _ hd1)) q
      exact ⟨p, xs, k, j, rfl, rfl, h1, h2, hp4 σ _ l3 h3 h4 (he3.mono h3)⟩
end
end Pyx
/-! from the text to meanings: what is known of names, of the place -/
namespace Pyx
open PySem PySem.Spec PyProof.Rows L2
/-- what a global name is -/
inductive Gk where
  | no | blt | fn (f : Nat) | cl (c f : Nat) | con (d : D) | exc (c : Nat) (own : Bool)
structure Ce where
  N : List Str
  an : Str → Option Nat
  gl : Str → Gk
  tb : Tb
  np : Nat → Nat
  G : Fn
  hint : Nat → Nat → Nat
structure Sc where
  sc : Scope
  fn : Str → Bool
  tr : Bool
def GlOk (X : Cx) (C : Ctx) (tb : Tb) (np : Nat → Nat) (G : Fn) (k : Nat) (x : Str) : Gk → Prop
  | .no => True
  | .blt => X.mg x = none
  | .fn f => ∃ a, X.mg x = some (.ref a) ∧ PySem.W.keepIn X.K (.ref a) = true ∧ FnIs X C tb G k f (np f) a
  | .cl c f => ∃ a, X.mg x = some (.ref (C.cad c)) ∧ Mk X.K (C.cad c) a ∧ FnIs X C tb G k f (np f) a
  | .con d => ∃ v u, X.mg x = some u ∧ RelV v u ∧ ∀ l H, RD C.K l H d v
  | .exc _ _ => True
structure CtxOk (ce : Ce) (z : Sc) (k : Nat) (X : Cx) (C : Ctx) (W : WX) : Prop where
  hK : C.K = X.K
  N : X.N = ce.N
  nd : ce.N.Nodup
  sc : X.env.scope = z.sc
  fn : ∀ x, z.fn x = true → X.fn x = true
  calm : X.calm = true
  room : Room (k + 1) X.A
  tk : Takes X W
  own : z.tr = false → ∃ E : XK, W = fun cls d _ H => E cls d H
  gl : ∀ x, GlOk X C ce.tb ce.np ce.G k x (ce.gl x)
  ok : AOk C ce.tb
  M : MOk X C ce.tb ce.np ce.G k
  an : ∀ x f, ce.an x = some f → C.anm f = x
def slotOf : List Str → Str → Nat → Option Nat
  | [], _, _ => none
  | y :: r, x, n => if y = x then some n else slotOf r x (n + 1)
theorem slotOf_ok : ∀ {N : List Str} {x : Str} {n i : Nat}, slotOf N x n = some i → n ≤ i ∧ N[i - n]? = some x
  | [], _, _, _, h => by cases h
  | y :: r, x, n, i, h => by
    unfold slotOf at h
    split at h
    · rename_i e
      cases h
      subst e
      exact ⟨Nat.le_refl _, by simp⟩
    · obtain ⟨h1, h2⟩ := slotOf_ok h
      refine ⟨by omega, ?_⟩
      rw [show i - n = (i - (n + 1)) + 1 by omega]
      simpa using h2
theorem slot_ok {N : List Str} {x : Str} {i : Nat} (h : slotOf N x 0 = some i) : N[i]? = some x := (slotOf_ok h).2
def isGl (z : Sc) (x : Str) : Bool := match z.sc.names.lookup x with
  | some .globalImplicit => true
  | _ => false
theorem gl_of {ce : Ce} {z : Sc} {k : Nat} {X : Cx} {C : Ctx} {W : WX} (c : CtxOk ce z k X C W) {x : Str} (h : isGl z x = true) : Gl X x := by
  unfold isGl at h
  show X.env.scope.names.lookup x = _
  rw [c.sc]
  split at h
  · assumption
  · cases h
def badT : TM := fun _ _ => .bad
def badI : IM := fun _ _ => .bad
def badS : SM := fun _ _ => .bad
section
variable {X : Cx} {C : Ctx} {W : WX}
theorem sd_bad {e : Expr} : PE X e (T C W badE) := ⟨fun _ _ _ _ _ _ h => by
  obtain ⟨_, _, _, _, _, h⟩ := h
  exact h.elim⟩
theorem sdt_bad {e : Expr} : PT X e (TT' C W badT) := ⟨fun _ _ _ _ _ _ h => by
  obtain ⟨_, _, _, _, _, h⟩ := h
  exact h.elim⟩
theorem sp_bad {tg e : Expr} : PI X tg e (TI' C W badI) := ⟨fun _ _ _ _ _ _ h => by
  obtain ⟨_, _, _, _, _, h⟩ := h
  exact h.elim⟩
theorem ss_bad {e : Stmt} : PS X e (TS' C W badS) := ⟨fun _ _ _ _ _ _ h => by
  obtain ⟨_, _, _, _, _, h⟩ := h
  exact h.elim⟩
theorem ite_bad {c : Bool} {e : Expr} {m : EM} (h : c = true → PE X e (T C W m)) : PE X e (T C W (if c = true then m else badE)) := by
  split
  · exact h (by assumption)
  · exact sd_bad
theorem itet_bad {c : Bool} {e : Expr} {m : TM} (h : c = true → PT X e (TT' C W m)) : PT X e (TT' C W (if c = true then m else badT)) := by
  split
  · exact h (by assumption)
  · exact sdt_bad
theorem itei_bad {c : Bool} {tg e : Expr} {m : IM} (h : c = true → PI X tg e (TI' C W m)) : PI X tg e (TI' C W (if c = true then m else badI)) := by
  split
  · exact h (by assumption)
  · exact sp_bad
theorem ites_bad {c : Bool} {e : Stmt} {m : SM} (h : c = true → PS X e (TS' C W m)) : PS X e (TS' C W (if c = true then m else badS)) := by
  split
  · exact h (by assumption)
  · exact ss_bad
end
/-! ### what is compiled at one level -/
structure Lv where
  E : Sc → Expr → EM
  T : Sc → Expr → TM
structure OkLv (ce : Ce) (k : Nat) (lv : Lv) : Prop where
  E : ∀ {z : Sc} {X : Cx} {C : Ctx} {W : WX}, CtxOk ce z k X C W → ∀ e, PE X e (Pyx.T C W (lv.E z e))
  T : ∀ {z : Sc} {X : Cx} {C : Ctx} {W : WX}, CtxOk ce z k X C W → ∀ e, PT X e (TT' C W (lv.T z e))
def argsE (f : Expr → EM) : List Expr → AM
  | [] => nilM
  | e :: r => consM (f e) (argsE f r)
theorem args_ok {X : Cx} {C : Ctx} {W : WX} {f : Expr → EM} (h : ∀ e, PE X e (T C W (f e))) : ∀ {es : List Expr}, es.all noStar = true → PA X es (TA' C W (argsE f es))
  | [], _ => sda_nil
  | e :: r, hs => by
    rw [List.all_cons, Bool.and_eq_true] at hs
    exact sda_cons (h e) (args_ok h hs.2) (star_eq hs.1)
def nameE (ce : Ce) (z : Sc) (x : Str) : EM :=
  if (!(x == ("__debug__" : Str)) && !(x == ("__classdict__" : Str))) = true then match z.sc.names.lookup x with
    | some .local => match slotOf ce.N x 0 with
      | some i => varM i
      | none => badE
    | some .cell => match slotOf ce.N x 0 with
      | some i => varM i
      | none => badE
    | some .free => match slotOf ce.N x 0 with
      | some i => varM i
      | none => badE
    | some .globalImplicit => match ce.gl x with
      | .con d => cM d
      | _ => badE
    | _ => badE
  else badE
section
variable {ce : Ce} {k : Nat} {z : Sc} {X : Cx} {C : Ctx} {W : WX} (c : CtxOk ce z k X C W)
include c
theorem slot_sd {x : Str} {pos : Pos} (hv : Vis X.env.scope x) (h1 : (x == ("__debug__" : Str)) = false) (h2 : (x == ("__classdict__" : Str)) = false) : PE X (.Name x pos) (T C W (match slotOf ce.N x 0 with | some i => varM i | none => badE)) := by
  split
  · rename_i i hi
    exact sd_var (by rw [c.N]; exact slot_ok hi) hv h1 h2
  · exact sd_bad
theorem name_ok {x : Str} {pos : Pos} : PE X (.Name x pos) (T C W (nameE ce z x)) := by
  unfold nameE
  refine ite_bad fun h => ?_
  simp only [Bool.and_eq_true, Bool.not_eq_true'] at h
  split
  · exact slot_sd c (.inl (by rw [c.sc]; assumption)) h.1 h.2
  · exact slot_sd c (.inr (.inl (by rw [c.sc]; assumption))) h.1 h.2
  · exact slot_sd c (.inr (.inr (by rw [c.sc]; assumption))) h.1 h.2
  · rename_i hl
    split
    · rename_i d hd
      have := c.gl x
      rw [hd] at this
      obtain ⟨v, u, h3, h4, h5⟩ := this
      exact sd_val (pe_glob (show X.env.scope.names.lookup x = _ by rw [c.sc]; exact hl) h3 h4 h.1) h5
    · exact sd_bad
  · exact sd_bad
end
/-! ### operators -/
def negI : D → Option D
  | .int i => some (.int (-i))
  | _ => none
def negM (a : EM) : EM := fun e S => (a e S).bind fun x S1 => ofO (negI x) S1
theorem sd_neg {X : Cx} {C : Ctx} {W : WX} {a : Expr} {pos : Pos} {m : EM} (h : PE X a (T C W m)) : PE X (.UnaryOp .USub a pos) (T C W (negM m)) := by
  refine PEmono (pe_un un_neg h) fun s H Q h => ?_
  obtain ⟨e, S, l, he, hr, hp⟩ := h
  refine Tmono (T_run he hr hp) fun v H1 ⟨l1, d, S1, he1, hr1, x1, hd1, hp1⟩ => ?_
  obtain ⟨y, hy, hp1⟩ := post_ofO hp1
  cases d <;> simp only [negI] at hy <;> cases hy
  cases hd1
  exact ⟨_, rfl, hp1 H1 l1 (Ext.refl _ _) hr1 _ rfl⟩
def opG : Operator → Option (D → D → Sto → Option D)
  | .Add => some addD
  | .Sub => some subD
  | .Mult => some mulD
  | .FloorDiv => some fdivD
  | .Mod => some modD
  | _ => none
theorem opG_ok {X : Cx} {C : Ctx} (hK : C.K = X.K) {op : Operator} {g : D → D → Sto → Option D} (h : opG op = some g) : OpR X (binaryOp op) (rB C g) := by
  cases op <;> cases h
  · exact vo_add hK
  · exact vo_sub hK
  · exact vo_mul hK
  · exact vo_mod hK
  · exact vo_fdiv hK
def cmG : CmpOp → Option (D → D → Sto → Option D)
  | .Eq => some eqD
  | .NotEq => some neD
  | .Lt => some (cmpI fun i j => decide (i < j))
  | .LtE => some (cmpI fun i j => decide (i ≤ j))
  | .Gt => some (cmpI fun i j => decide (j < i))
  | .GtE => some (cmpI fun i j => decide (j ≤ i))
  | .Is => some isND
  | .IsNot => some notND
  | .In => some (inD false)
  | .NotIn => some (inD true)
theorem cmG_ok {X : Cx} {C : Ctx} (hK : C.K = X.K) (hu : X.A.units + 64 < cLine) {op : CmpOp} {g : D → D → Sto → Option D} (h : cmG op = some g) : OpR X (compareOp op) (rB C g) := by
  cases op <;> cases h
  · exact vo_eq hK hu
  · exact vo_ne hK hu
  · exact vo_lt
  · exact vo_le
  · exact vo_gt
  · exact vo_ge
  · exact vo_is
  · exact vo_isnot
  · exact vo_in hK (by omega) false
  · exact vo_in hK (by omega) true
theorem sdt_chain {X : Cx} {C : Ctx} {W : WX} {op op' : CmpOp} {g g' : D → D → Sto → Option D} {a b c : Expr} {ma mb mc : EM} {pos : Pos} (ho : OpR X (compareOp op) (rB C g)) (ho' : OpR X (compareOp op') (rB C g')) (ha : PE X a (T C W ma)) (hb : PE X b (T C W mb)) (hc : PE X c (T C W mc))
    (hm : lastMarks [op, op'] [b, c] = false) : PT X (.Compare a [op, op'] [b, c] pos) (TT' C W (tstM (chainM g g' ma mb mc))) := by
  refine PTmono (pt_chain ho ho' ha hb hc hm) fun s H Q h => ?_
  obtain ⟨e, S, l, he, hr, hp⟩ := h
  unfold tstM chainM at hp
  rw [out_assoc] at hp
  refine Tmono (T_run he hr hp) fun v H1 ⟨l1, d1, S1, he1, hr1, x1, hd1, hp1⟩ => ?_
  rw [out_assoc] at hp1
  refine Tmono (T_run he1 hr1 hp1) fun w H2 ⟨l2, d2, S2, he2, hr2, x2, hd2, hp2⟩ => ?_
  cases hg : g d1 d2 S2 with
  | none =>
    rw [hg] at hp2
    exact hp2.elim
  | some d =>
    rw [hg] at hp2
    refine ⟨S2, l2, d1, d2, d, hr2, RD.mono x2 _ _ hd1, hd2, hg, fun H3 l3 x3 hr3 z hz => ?_⟩
    have hp3 := Post.mono hp2 x3 hr3
    cases d with
    | bl k =>
      cases hz
      refine ⟨k, rfl, ?_⟩
      cases k with
      | true =>
        rw [if_pos rfl]
        have hp4 : Post C W (QT Q) s l3 H3 ((mc e S2).bind fun u S4 => (ofO (g' d2 u S4) S4).bind fun x S5 => ofO (boolOf x) S5) := by
          rw [← out_assoc]
          exact hp3
        refine Tmono (T_run (he2.mono x3) hr3 hp4) fun u H4 ⟨l4, d4, S4, he4, hr4, x4, hd4, hp5⟩ => ?_
        cases hg' : g' d2 d4 S4 with
        | none =>
          rw [hg'] at hp5
          exact hp5.elim
        | some d =>
          rw [hg'] at hp5
          obtain ⟨b, hb, hp6⟩ := post_ofO (show Post C W (QT Q) s l4 H4 (ofO (boolOf d) S4) from hp5)
          exact ⟨S4, l4, d2, d4, d, hr4, RD.mono x4 _ _ (RD.mono x3 _ _ hd2), hd4, hg', fun H' l' x r v hv => ⟨b, boolOf_rd hv hb, hp6 H' l' x r⟩⟩
      | false =>
        rw [if_neg Bool.false_ne_true]
        exact ⟨false, rfl, Post.pure hr3 (show Post C W (QT Q) s l3 H3 (.ok false S2) from hp3)⟩
    | _ => exact hp3.elim
/-! ### targets -/
def locB (z : Sc) (x : Str) : Bool := match z.sc.names.lookup x with
  | some .local => true
  | some .cell => z.fn x
  | _ => false
mutual
def tgE (ce : Ce) (z : Sc) : Nat → Expr → Option (List Nat × GM)
  | 0, _ => none
  | n + 1, e => match e with
    | .Name x _ => if locB z x = true then (slotOf ce.N x 0).map fun i => ([i], gNm i) else none
    | .Tuple es _ _ => if es.all noStar = true then (tgsE ce z n es).map fun p => (p.1, gTp es.length p.2) else none
    | _ => none
def tgsE (ce : Ce) (z : Sc) : Nat → List Expr → Option (List Nat × GMs)
  | 0, _ => none
  | n + 1, es => match es with
    | [] => some ([], gsNil)
    | e :: r => (tgE ce z n e).bind fun p => (tgsE ce z n r).map fun q => (p.1 ++ q.1, gsCons p.2 q.2)
end
section
variable {ce : Ce} {k : Nat} {z : Sc} {X : Cx} {C : Ctx} {W : WX} (c : CtxOk ce z k X C W)
include c
theorem tg_ok : ∀ (n : Nat), (∀ e is g, tgE ce z n e = some (is, g) → PG X e (G' C is g)) ∧ ∀ es is g, tgsE ce z n es = some (is, g) → es.all noStar = true → PGs X es (Gs' C is g)
  | 0 => ⟨fun e is g h => (by unfold tgE at h; cases h), fun e is g h _ => (by unfold tgsE at h; cases h)⟩
  | n + 1 => by
    obtain ⟨ih1, ih2⟩ := tg_ok n
    refine ⟨fun e is g h => ?_, fun es is g h hs => ?_⟩
    · unfold tgE at h
      split at h
      · rename_i x pos
        split at h
        · rename_i hl
          obtain ⟨i, hi, e1⟩ := Option.map_eq_some_iff.mp h
          cases e1
          unfold locB at hl
          have hN : X.N[i]? = some x := by
            rw [c.N]
            exact slot_ok hi
          have nd : X.N.Nodup := by
            rw [c.N]
            exact c.nd
          split at hl
          · exact sg_name nd hN (.inl (by rw [c.sc]; assumption)) (.inr (by rw [c.sc]; assumption))
          · exact sg_name nd hN (.inr (by rw [c.sc]; assumption)) (.inl (c.fn x hl))
          · cases hl
        · cases h
      · rename_i es kk pos
        split at h
        · rename_i hs
          obtain ⟨p, hp, e1⟩ := Option.map_eq_some_iff.mp h
          cases e1
          exact sg_tup c.hK c.calm (ih2 es p.1 p.2 hp hs) hs
        · cases h
      · cases h
    · unfold tgsE at h
      split at h
      · cases h
        exact sgs_nil
      · rename_i e r
        rw [List.all_cons, Bool.and_eq_true] at hs
        obtain ⟨p, hp, h⟩ := Option.bind_eq_some_iff.mp h
        obtain ⟨q, hq, e1⟩ := Option.map_eq_some_iff.mp h
        cases e1
        exact sgs_cons (ih1 e p.1 p.2 hp) (ih2 r q.1 q.2 hq hs.2) hs.1
end
end Pyx
/-! one level of expressions -/
namespace Pyx
open PySem PySem.Spec PyProof.Rows L2
def isBlt : Gk → Bool
  | .blt => true
  | _ => false
theorem eqS {x y : Str} (h : (x == y) = true) : x = y := eq_of_beq h
section
variable {ce : Ce} {k : Nat} {z : Sc} {X : Cx} {C : Ctx} {W : WX} (c : CtxOk ce z k X C W)
include c
theorem blt_of {x : Str} (h : isBlt (ce.gl x) = true) : X.mg x = none := by
  have := c.gl x
  revert h this
  cases ce.gl x <;> intro h this <;> first | exact this | cases h
end
/-! ### what is walked -/
def isTupE : Expr → Bool
  | .Tuple _ _ _ => true
  | _ => false
def itB (f : Expr → EM) (tg : Expr) (x : Str) (args : List Expr) (other : IM) : IM :=
  if x == ("range" : Str) then match args with
    | [a] => if noStar a = true then rng1I (argsE f [a]) else badI
    | [a, b] => if (noStar a && noStar b) = true then rng2I (argsE f [a, b]) else badI
    | [a, b, c] => if [a, b, c].all noStar = true then rng3I (argsE f [a, b, c]) else badI
    | _ => badI
  else if x == ("enumerate" : Str) then match args with
    | [a] => if (noStar a && isTupE tg) = true then enumI2 (argsE f [a]) else badI
    | _ => badI
  else if x == ("zip" : Str) then match args with
    | [a, b] => if (noStar a && noStar b && isTupE tg) = true then zipI (argsE f [a, b]) else badI
    | _ => badI
  else other
def itE (ce : Ce) (z : Sc) (f : Expr → EM) (tg it : Expr) : IM := match it with
  | .Call (.Name x _) args [] _ => if (isGl z x && isBlt (ce.gl x)) = true then itB f tg x args (seqI (f it)) else seqI (f it)
  | _ => seqI (f it)
section
variable {ce : Ce} {k : Nat} {z : Sc} {X : Cx} {C : Ctx} {W : WX} (c : CtxOk ce z k X C W)
include c
theorem one_ok {f : Expr → EM} (h : ∀ e, PE X e (T C W (f e))) {a : Expr} (hs : noStar a = true) : PA X [a] (TA' C W (argsE f [a])) := args_ok h (by rw [List.all_cons, hs]; rfl)
theorem it_ok {f : Expr → EM} (h : ∀ e, PE X e (T C W (f e))) (tg it : Expr) : PI X tg it (TI' C W (itE ce z f tg it)) := by
  unfold itE
  split
  · rename_i x p args pos
    split
    · rename_i hc
      rw [Bool.and_eq_true] at hc
      have hg := gl_of c hc.1
      have hm := blt_of c hc.2
      unfold itB
      split
      · rename_i e
        have e := eqS e
        subst e
        split
        · refine itei_bad fun h1 => sp_range1 hg hm (one_ok c h h1) h1
        · rename_i a b
          refine itei_bad fun h1 => ?_
          rw [Bool.and_eq_true] at h1
          exact sp_range2 hg hm (args_ok h (by rw [List.all_cons, List.all_cons, h1.1, h1.2]; rfl)) h1.1 h1.2
        · refine itei_bad fun h1 => sp_range3 hg hm (args_ok h h1) h1
        · exact sp_bad
      · split
        · rename_i e
          have e := eqS e
          subst e
          split
          · refine itei_bad fun h1 => ?_
            rw [Bool.and_eq_true] at h1
            cases tg <;> first | (cases h1.2; done) | skip
            exact sp_enum2 c.hK hg hm (one_ok c h h1.1) h1.1
          · exact sp_bad
        · split
          · rename_i e
            have e := eqS e
            subst e
            split
            · refine itei_bad fun h1 => ?_
              rw [Bool.and_eq_true, Bool.and_eq_true] at h1
              obtain ⟨⟨h1, h2⟩, h3⟩ := h1
              cases tg <;> first | (cases h3; done) | skip
              exact sp_zip c.hK hg hm (args_ok h (by rw [List.all_cons, List.all_cons, h1, h2]; rfl)) h1 h2
            · exact sp_bad
          · exact sp_seq c.hK (h _)
    · exact sp_seq c.hK (h _)
  · exact sp_seq c.hK (h _)
end
/-! ### comprehensions -/
def ownOf (N : List Str) : List (Str × NameKind) → List (Str × Nat)
  | [] => []
  | (n, k) :: r => match k with
    | .local => match slotOf N n 0 with
      | some i => (n, i) :: ownOf N r
      | none => ownOf N r
    | .cell => match slotOf N n 0 with
      | some i => (n, i) :: ownOf N r
      | none => ownOf N r
    | _ => ownOf N r
def blkSc (z : Sc) (scope : Scope) : Sc := ⟨relS scope z.sc, fun x => scope.names.lookup x == some .cell, false⟩
theorem FnIs.blk {X : Cx} {C : Ctx} {tb : Tb} {G : Fn} {k f np : Nat} {a : Addr} {s : Shared} {H : Hp} {scope : Scope} {cenv : Env} {fp : List Addr} (h : FnIs X C tb G k f np a) : FnIs (X.blk s H scope cenv fp) C tb G k f np a := ⟨h.ok⟩
theorem CtxOk.blk {ce : Ce} {k : Nat} {z : Sc} {X : Cx} {C : Ctx} {W : WX} (c : CtxOk ce z k X C W) (scope : Scope) (s : Shared) (H : Hp) (Ca : Addr) (cl : List (Str × Addr)) (fp : List Addr) :
    CtxOk ce (blkSc z scope) k (X.blk s H scope (compEnvC scope cl Ca X.env) fp) C W0 where
  hK := c.hK
  N := c.N
  nd := c.nd
  sc := by
    show relS scope X.env.scope = relS scope z.sc
    rw [c.sc]
  fn := fun x h => h
  calm := c.calm
  room := c.room
  tk := fun u s' h => by
    obtain ⟨_, _, _, _, _, _, _, _, _, _, _, _, _, _, _, _, w⟩ := h
    exact w.elim
  own := fun _ => ⟨fun _ _ _ => False, rfl⟩
  gl := fun x => by
    have := c.gl x
    revert this
    cases ce.gl x with
    | fn f =>
      rintro ⟨a, h1, h2, h3⟩
      exact ⟨a, h1, h2, h3.blk⟩
    | cl d f =>
      rintro ⟨a, h1, h2, h3⟩
      exact ⟨a, h1, h2, h3.blk⟩
    | _ => exact id
  ok := c.ok
  M := ⟨fun d m f e => by
    obtain ⟨h1, a, h2, h3⟩ := c.M.mt d m f e
    exact ⟨h1, a, h2, h3.blk⟩⟩
  an := c.an
theorem sdts_one {X : Cx} {C : Ctx} {W : WX} {e : Expr} {m : TM} (h : PT X e (TT' C W m)) : PTs X [e] (TT' C W m) := pts_one h
def tstsE (f : Expr → TM) : List Expr → Option TM
  | [] => some yesM
  | [e] => some (f e)
  | _ => none
def lcH (h : Nat) : Option (Option Id) := if h = 1 then some none else none
def lcE (ce : Ce) (lv : Lv) (z : Sc) (elt tg it : Expr) (ifs : List Expr) (scope : Scope) (hint : Nat) : EM :=
  if (blkC ce.N z.sc scope (ownOf ce.N scope.names) && noSet it) = true then match tgE ce (blkSc z scope) 10 tg, tstsE (lv.T (blkSc z scope)) ifs with
    | some (is, g), some tt => if (is.all fun j => decide (j ∈ (ownOf ce.N scope.names).map (·.2))) = true then lcM (lcH hint) ((ownOf ce.N scope.names).map (·.2)) (itE ce z (lv.E z) tg it) g tt (lv.E (blkSc z scope) elt) else badE
    | _, _ => badE
  else badE
section
variable {ce : Ce} {k : Nat} {z : Sc} {X : Cx} {C : Ctx} {W : WX} (c : CtxOk ce z k X C W) {lv : Lv} (L : OkLv ce k lv)
include c L
theorem lc_sd {elt tg it : Expr} {ifs : List Expr} {scope : Scope} {hint : Nat} {pos : Pos} : PE X (.ListComp elt [⟨tg, it, ifs, 0⟩] scope pos) (T C W (lcE ce lv z elt tg it ifs scope hint)) := by
  unfold lcE
  refine ite_bad fun h => ?_
  rw [Bool.and_eq_true] at h
  split
  · rename_i is g tt h1 h2
    refine ite_bad fun h3 => ?_
    have hN : X.N.Nodup := by
      rw [c.N]
      exact c.nd
    refine sd_lc rfl (fun j hj => of_decide_eq_true (List.all_eq_true.mp h3 j hj)) c.calm hN (it_ok c (L.E c) tg it) (by rw [c.N, c.sc]; exact blkOk_by h.1) (fun s H Ca cl fp => (tg_ok (c.blk scope s H Ca cl fp) 10).1 tg is g h1) (fun s H Ca cl fp => ?_) (fun s H Ca cl fp => L.E (c.blk scope s H Ca cl fp) elt) h.2
    unfold tstsE at h2
    split at h2
    · cases h2
      exact sdts_nil
    · cases h2
      exact sdts_one (L.T (c.blk scope s H Ca cl fp) _)
    · cases h2
  · exact sd_bad
end
/-! ### calls of built-in functions -/
def cl1 (f : Expr → EM) (g : List D → Sto → Option D) : List Expr → EM
  | [] => badE
  | a :: es => if (a :: es).all noStar = true then calM g (argsE f (a :: es)) else badE
def tyB (t : Str) : Option String :=
  if t == ("int" : Str) then some "int" else if t == ("bool" : Str) then some "bool" else if t == ("str" : Str) then some "str" else if t == ("tuple" : Str) then some "tuple" else if t == ("list" : Str) then some "list" else none
theorem tyB_ok {t : Str} {ty : String} (h : tyB t = some ty) : bootBuiltins t = some (.type ty) ∧ t ≠ "__name__" ∧ (t == ("__debug__" : Str)) = false := by
  unfold tyB at h
  split at h
  · rename_i e
    cases h
    have e := eqS e
    subst e
    exact ⟨rfl, by decide, by decide⟩
  · split at h
    · rename_i e
      cases h
      have e := eqS e
      subst e
      exact ⟨rfl, by decide, by decide⟩
    · split at h
      · rename_i e
        cases h
        have e := eqS e
        subst e
        exact ⟨rfl, by decide, by decide⟩
      · split at h
        · rename_i e
          cases h
          have e := eqS e
          subst e
          exact ⟨rfl, by decide, by decide⟩
        · split at h
          · rename_i e
            cases h
            have e := eqS e
            subst e
            exact ⟨rfl, by decide, by decide⟩
          · cases h
def isiE (ce : Ce) (z : Sc) (f : Expr → EM) (args : List Expr) : EM := match args with
  | [a, .Name t _] => if (noStar a && isGl z t && isBlt (ce.gl t)) = true then match tyB t with
      | some ty => isiM ty (f a)
      | none => badE
    else badE
  | _ => badE
def bltE (ce : Ce) (z : Sc) (f : Expr → EM) (x : Str) (args : List Expr) (hint : Nat) : EM :=
  if x == ("len" : Str) then cl1 f lenF args
  else if x == ("sum" : Str) then cl1 f sumF args
  else if x == ("all" : Str) then cl1 f allF args
  else if x == ("min" : Str) then cl1 f minF args
  else if x == ("max" : Str) then cl1 f maxF args
  else if x == ("int" : Str) then cl1 f intF args
  else if x == ("tuple" : Str) then cl1 f tupF args
  else if x == ("sorted" : Str) then cl1 f sortF args
  else if x == ("isinstance" : Str) then isiE ce z f args
  else if x == ("list" : Str) then if hint = 1 then match args with
      | [a] => if noStar a = true then listC none (f a) else badE
      | _ => badE
    else cl1 f listF args
  else badE
section
variable {ce : Ce} {k : Nat} {z : Sc} {X : Cx} {C : Ctx} {W : WX} (c : CtxOk ce z k X C W)
include c
theorem cl1_B {f : Expr → EM} (h : ∀ e, PE X e (T C W (f e))) {g : List D → Sto → Option D} {x : Str} {id : String} {args : List Expr} {p pos : Pos} (hg : Gl X x) (hm : X.mg x = none) (hc : CallR X (.builtin id) (rC C g)) (hv : bootBuiltins x = some (.builtin id)) (hn : x ≠ "__name__") (hd : (x == ("__debug__" : Str)) = false) :
    PE X (.Call (.Name x p) args [] pos) (T C W (cl1 f g args)) := by
  unfold cl1
  split
  · exact sd_bad
  · refine ite_bad fun hs => ?_
    have hs2 := hs
    rw [List.all_cons, Bool.and_eq_true] at hs2
    exact sd_calB hc hg hm hv (args_ok h hs) hn hd (star_eq hs2.1) (star_any hs2.2)
theorem cl1_T {f : Expr → EM} (h : ∀ e, PE X e (T C W (f e))) {g : List D → Sto → Option D} {x : Str} {id : String} {args : List Expr} {p pos : Pos} (hg : Gl X x) (hm : X.mg x = none) (hc : CallR X (.type id) (rC C g)) (hv : bootBuiltins x = some (.type id)) (hn : x ≠ "__name__") (hd : (x == ("__debug__" : Str)) = false) :
    PE X (.Call (.Name x p) args [] pos) (T C W (cl1 f g args)) := by
  unfold cl1
  split
  · exact sd_bad
  · refine ite_bad fun hs => ?_
    have hs2 := hs
    rw [List.all_cons, Bool.and_eq_true] at hs2
    exact sd_calT hc hg hm hv (args_ok h hs) hn hd (star_eq hs2.1) (star_any hs2.2)
theorem isi_ok {f : Expr → EM} (h : ∀ e, PE X e (T C W (f e))) {args : List Expr} {p pos : Pos} (hg : Gl X "isinstance") (hm : X.mg "isinstance" = none) : PE X (.Call (.Name "isinstance" p) args [] pos) (T C W (isiE ce z f args)) := by
  unfold isiE
  split
  · rename_i a t p2
    refine ite_bad fun hc => ?_
    rw [Bool.and_eq_true, Bool.and_eq_true] at hc
    obtain ⟨⟨h1, h2⟩, h3⟩ := hc
    split
    · rename_i ty ht
      obtain ⟨b1, b2, b3⟩ := tyB_ok ht
      exact sd_isi c.hK hg hm (gl_of c h2) (blt_of c h3) b1 b2 b3 (h a) h1
    · exact sd_bad
  · exact sd_bad
omit c in
theorem ite2 {b : Bool} {e : Expr} {m m' : EM} (h : b = true → PE X e (T C W m)) (h' : PE X e (T C W m')) : PE X e (T C W (if b = true then m else m')) := by
  cases b with
  | true => exact h rfl
  | false => exact h'
theorem blt_sd {f : Expr → EM} (h : ∀ e, PE X e (T C W (f e))) {x : Str} {args : List Expr} {hint : Nat} {p pos : Pos} (hg : Gl X x) (hm : X.mg x = none) : PE X (.Call (.Name x p) args [] pos) (T C W (bltE ce z f x args hint)) := by
  have hu := c.room.units
  unfold bltE
  refine ite2 (fun e => ?_) ?_
  · have e := eqS e
    subst e
    exact cl1_B c h hg hm (cl_len c.hK) rfl (by decide) (by decide)
  refine ite2 (fun e => ?_) ?_
  · have e := eqS e
    subst e
    exact cl1_B c h hg hm (cl_sum c.hK c.calm) rfl (by decide) (by decide)
  refine ite2 (fun e => ?_) ?_
  · have e := eqS e
    subst e
    exact cl1_B c h hg hm (cl_all c.hK c.calm) rfl (by decide) (by decide)
  refine ite2 (fun e => ?_) ?_
  · have e := eqS e
    subst e
    exact cl1_B c h hg hm (cl_min c.calm) rfl (by decide) (by decide)
  refine ite2 (fun e => ?_) ?_
  · have e := eqS e
    subst e
    exact cl1_B c h hg hm (cl_max c.hK c.calm) rfl (by decide) (by decide)
  refine ite2 (fun e => ?_) ?_
  · have e := eqS e
    subst e
    exact cl1_T c h hg hm cl_int rfl (by decide) (by decide)
  refine ite2 (fun e => ?_) ?_
  · have e := eqS e
    subst e
    exact cl1_T c h hg hm (cl_tuple c.hK) rfl (by decide) (by decide)
  refine ite2 (fun e => ?_) ?_
  · have e := eqS e
    subst e
    exact cl1_B c h hg hm (cl_sorted c.hK hu) rfl (by decide) (by decide)
  refine ite2 (fun e => ?_) ?_
  · have e := eqS e
    subst e
    exact isi_ok c h hg hm
  refine ite2 (fun e => ?_) sd_bad
  have e := eqS e
  subst e
  split
  · split
    · exact ite_bad fun hs => sd_listC c.hK hg hm (h _) hs
    · exact sd_bad
  · exact cl1_T c h hg hm (cl_list c.hK) rfl (by decide) (by decide)
end
end Pyx
/-! calls; one level of expressions -/
namespace Pyx
open PySem PySem.Spec PyProof.Rows L2
def fnE (ce : Ce) (z : Sc) (f : Expr → EM) (g : Nat) (args : List Expr) : EM := match args with
  | [] => match ce.tb.df g 0 with
    | some dd => if (!z.tr) = true then callM (ce.np g) dd (ce.G g) nilM else badE
    | none => badE
  | a :: es => match ce.tb.df g (a :: es).length with
    | some dd => if (a :: es).all noStar = true then callM (ce.np g) dd (ce.G g) (argsE f (a :: es)) else badE
    | none => badE
def mkE (ce : Ce) (z : Sc) (f : Expr → EM) (d g : Nat) (args : List Expr) : EM := match args with
  | [] => badE
  | a :: es => match ce.tb.df g ((a :: es).length + 1) with
    | some dd => if (!z.tr && (a :: es).all noStar) = true then mkM (ce.np g) d dd (ce.G g) (argsE f (a :: es)) else badE
    | none => badE
def bm1 (t : Nat) (g : D → List D → Sto → Option (D × Sto)) (f : Expr → EM) (o : Expr) (apos pos : Pos) (n : Nat) (args : List Expr) : EM := match args with
  | [] => badE
  | a :: es => if (decide ((a :: es).length = n) && decide (n < 29) && noSuper o && (a :: es).all noStar && (apos.endLine == pos.line)) = true then bmM t g (f o) (argsE f (a :: es)) else badE
def usrE (ce : Ce) (f : Expr → EM) (o : Expr) (m : Str) (apos pos : Pos) (args : List Expr) : EM := match ce.an m with
  | some a => if (noSuper o && args.all noStar && decide (args.length < 30) && (apos.endLine == pos.line)) = true then methM ce.tb ce.np ce.G a (args.length + 1) (f o) (argsE f args) else badE
  | none => badE
def mthE (ce : Ce) (f : Expr → EM) (o : Expr) (m : Str) (apos pos : Pos) (args : List Expr) : EM :=
  if m == ("append" : Str) then bm1 1 appG f o apos pos 1 args
  else if m == ("pop" : Str) then match args with
    | [a, b] => bm1 2 dpopG f o apos pos 2 [a, b]
    | _ => bm1 1 popG f o apos pos 1 args
  else if m == ("insert" : Str) then bm1 1 insG f o apos pos 2 args
  else if m == ("extend" : Str) then bm1 1 extG f o apos pos 1 args
  else usrE ce f o m apos pos args
def callE (ce : Ce) (z : Sc) (f : Expr → EM) (fn : Expr) (args : List Expr) (kws : List Keyword) (pos : Pos) : EM := match fn, kws with
  | .Name x _, [] => if (isGl z x && !(x == ("__debug__" : Str))) = true then match ce.gl x with
      | .blt => bltE ce z f x args (ce.hint pos.line pos.col)
      | .fn g => fnE ce z f g args
      | .cl d g => mkE ce z f d g args
      | _ => badE
    else badE
  | .Attribute o m apos, [] => mthE ce f o m apos pos args
  | _, _ => badE
section
variable {ce : Ce} {k : Nat} {z : Sc} {X : Cx} {C : Ctx} {W : WX} (c : CtxOk ce z k X C W)
include c
theorem fn_sd {f : Expr → EM} (h : ∀ e, PE X e (T C W (f e))) {x : Str} {g : Nat} {args : List Expr} {p pos : Pos} (hg : Gl X x) (hk : ce.gl x = .fn g) (hd : (x == ("__debug__" : Str)) = false) : PE X (.Call (.Name x p) args [] pos) (T C W (fnE ce z f g args)) := by
  have := c.gl x
  rw [hk] at this
  obtain ⟨a, h1, h2, F⟩ := this
  unfold fnE
  split
  · split
    · rename_i dd hdd
      refine ite_bad fun ht => ?_
      rw [Bool.not_eq_true'] at ht
      exact sd_call0 c.tk (c.room.mono (Nat.le_succ k)) F hg h1 h2 hdd hd (c.own ht)
    · exact sd_bad
  · split
    · rename_i dd hdd
      exact ite_bad fun hs => sd_call c.tk (c.room.mono (Nat.le_succ k)) F hg h1 h2 hdd (args_ok h hs) hd hs
    · exact sd_bad
theorem mk_sd {f : Expr → EM} (h : ∀ e, PE X e (T C W (f e))) {x : Str} {d g : Nat} {args : List Expr} {p pos : Pos} (hg : Gl X x) (hk : ce.gl x = .cl d g) (hd : (x == ("__debug__" : Str)) = false) : PE X (.Call (.Name x p) args [] pos) (T C W (mkE ce z f d g args)) := by
  have := c.gl x
  rw [hk] at this
  obtain ⟨a, h1, h2, F⟩ := this
  unfold mkE
  split
  · exact sd_bad
  · split
    · rename_i dd hdd
      refine ite_bad fun hs => ?_
      rw [Bool.and_eq_true, Bool.not_eq_true'] at hs
      obtain ⟨E, hE⟩ := c.own hs.1
      have tk := c.tk
      have ha := args_ok h hs.2
      subst hE
      exact sd_mk c.hK tk c.room rfl h2 F hg h1 hdd ha hd hs.2
    · exact sd_bad
theorem bm1_sd {f : Expr → EM} (h : ∀ e, PE X e (T C W (f e))) {t : Nat} {g : D → List D → Sto → Option (D × Sto)} {o : Expr} {m : Str} {id : String} {n : Nat} {args : List Expr} {apos pos : Pos} (pa : PlainAttrs (tyS t)) (slot : Slot (tyS t) m id) (hty : typeOf (.builtin id) = pure (.type "method_descriptor"))
    (hm : MtR X id (rM C g)) : PE X (.Call (.Attribute o m apos) args [] pos) (T C W (bm1 t g f o apos pos n args)) := by
  unfold bm1
  split
  · exact sd_bad
  · refine ite_bad fun hs => ?_
    rw [Bool.and_eq_true, Bool.and_eq_true, Bool.and_eq_true, Bool.and_eq_true, decide_eq_true_eq, decide_eq_true_eq] at hs
    obtain ⟨⟨⟨⟨h1, h2⟩, h3⟩, h4⟩, h5⟩ := hs
    exact sd_bm c.hK pa slot hty hm (h o) (args_ok h h4) h3 h4 (by rw [h1]; exact h2) h5
theorem usr_sd {f : Expr → EM} (h : ∀ e, PE X e (T C W (f e))) {o : Expr} {m : Str} {args : List Expr} {apos pos : Pos} : PE X (.Call (.Attribute o m apos) args [] pos) (T C W (usrE ce f o m apos pos args)) := by
  unfold usrE
  split
  · rename_i a ha
    refine ite_bad fun hs => ?_
    rw [Bool.and_eq_true, Bool.and_eq_true, Bool.and_eq_true, decide_eq_true_eq] at hs
    obtain ⟨⟨⟨h1, h2⟩, h3⟩, h4⟩ := hs
    exact sd_meth c.hK c.ok c.M c.tk (c.room.mono (Nat.le_succ k)) (c.an m a ha) (h o) (args_ok h h2) h1 h2 h3 h4 (fun e => by rw [e]; rfl)
  · exact sd_bad
theorem mth_sd {f : Expr → EM} (h : ∀ e, PE X e (T C W (f e))) {o : Expr} {m : Str} {args : List Expr} {apos pos : Pos} : PE X (.Call (.Attribute o m apos) args [] pos) (T C W (mthE ce f o m apos pos args)) := by
  have hu : X.A.units + 1 < cLine := by
    have := c.room.units
    omega
  unfold mthE
  refine ite2 (fun e => ?_) (ite2 (fun e => ?_) (ite2 (fun e => ?_) (ite2 (fun e => ?_) (usr_sd c h))))
  · have e := eqS e
    subst e
    exact bm1_sd c h F.plainAttrs_list F.slot_list_append F.type_list_append mg_app
  · have e := eqS e
    subst e
    split
    · exact bm1_sd c h F.plainAttrs_dict F.slot_dict_pop F.type_dict_pop (mg_dpop hu)
    · exact bm1_sd c h F.plainAttrs_list F.slot_list_pop F.type_list_pop mg_pop
  · have e := eqS e
    subst e
    exact bm1_sd c h F.plainAttrs_list F.slot_list_insert F.type_list_insert mg_ins
  · have e := eqS e
    subst e
    exact bm1_sd c h F.plainAttrs_list F.slot_list_extend F.type_list_extend mg_ext
theorem call_sd {f : Expr → EM} (h : ∀ e, PE X e (T C W (f e))) {fn : Expr} {args : List Expr} {kws : List Keyword} {pos : Pos} : PE X (.Call fn args kws pos) (T C W (callE ce z f fn args kws pos)) := by
  unfold callE
  split
  · rename_i x p
    refine ite_bad fun hc => ?_
    rw [Bool.and_eq_true, Bool.not_eq_true'] at hc
    have hg := gl_of c hc.1
    split
    · rename_i hk
      exact blt_sd c h hg (blt_of c (by rw [hk]; rfl))
    · rename_i g hk
      exact fn_sd c h hg hk hc.2
    · rename_i d g hk
      exact mk_sd c h hg hk hc.2
    · exact sd_bad
  · exact mth_sd c h
  · exact sd_bad
end
/-! ### one level -/
def constE : Const → EM
  | .int i => cM (.int i)
  | .bool b => cM (.bl b)
  | .none => cM .non
  | .str s => if PySem.PyData.strOk s = true then cM (.str s) else badE
  | _ => badE
def boolV (op : BoolOp) (f : Expr → EM) : List Expr → EM
  | [] => badE
  | [e] => f e
  | a :: b :: r => match op with
    | .And => andV (f a) (boolV op f (b :: r))
    | .Or => orV (f a) (boolV op f (b :: r))
def boolT (op : BoolOp) (f : Expr → TM) : List Expr → TM
  | [] => badT
  | [e] => f e
  | a :: b :: r => match op with
    | .And => andM (f a) (boolT op f (b :: r))
    | .Or => orM (f a) (boolT op f (b :: r))
def cmpE (f : Expr → EM) (a : Expr) (ops : List CmpOp) (bs : List Expr) : EM := match ops, bs with
  | [op], [b] => match cmG op with
    | some g => if (!behindInMarks op b) = true then binM g (f a) (f b) else badE
    | none => badE
  | [op, op'], [b, c] => match cmG op, cmG op' with
    | some g, some g' => if (!lastMarks [op, op'] [b, c]) = true then chainM g g' (f a) (f b) (f c) else badE
    | _, _ => badE
  | _, _ => badE
def ptE (f : Expr → EM) : Option Expr → OM
  | none => noPart
  | some e => partM (f e)
def subE (f : Expr → EM) (a s : Expr) : EM := match s with
  | .Slice lo hi none _ => sliceM (f a) (ptE f lo) (ptE f hi)
  | .Slice none none (some (.UnaryOp .USub (.Constant (.int 1) _ _) _)) _ => revT (f a)
  | s => if noSlice s = true then subM (f a) (f s) else badE
def stepE (ce : Ce) (lv : Lv) (z : Sc) (e : Expr) : EM := match e with
  | .Constant c _ _ => constE c
  | .Name x _ => nameE ce z x
  | .BinOp a op b _ => match opG op with
    | some g => binM g (lv.E z a) (lv.E z b)
    | none => badE
  | .UnaryOp op a _ => match op with
    | .Not => notV (lv.E z a)
    | .USub => negM (lv.E z a)
    | _ => badE
  | .BoolOp op es _ => boolV op (lv.E z) es
  | .IfExp c a b _ => ifM (lv.T z c) (lv.E z a) (lv.E z b)
  | .Compare a ops bs _ => cmpE (lv.E z) a ops bs
  | .Tuple es _ _ => if es.all noStar = true then tupM (argsE (lv.E z) es) else badE
  | .List es pos => if es.all noStar = true then (if ce.hint pos.line pos.col = 1 then lstC none (argsE (lv.E z) es) else lstM (argsE (lv.E z) es)) else badE
  | .Dict [] [] pos => if ce.hint pos.line pos.col = 1 then dctT none else dctK none
  | .Subscript a s _ => subE (lv.E z) a s
  | .Attribute a x _ => match ce.an x with
    | some f => if noSuper a = true then attM ce.tb f (lv.E z a) else badE
    | none => badE
  | .Call fn args kws pos => callE ce z (lv.E z) fn args kws pos
  | .ListComp elt [⟨tg, it, ifs, 0⟩] scope pos => lcE ce lv z elt tg it ifs scope (ce.hint pos.line pos.col)
  | _ => badE
def stepT (ce : Ce) (lv : Lv) (z : Sc) (e : Expr) : TM := match e with
  | .Compare a ops bs _ => tstM (cmpE (lv.E z) a ops bs)
  | .UnaryOp .Not a _ => notM (lv.T z a)
  | .BoolOp op es _ => boolT op (lv.T z) es
  | e => if plainTest e = true then tstM (lv.E z e) else badT
def badLv : Lv := ⟨fun _ _ => badE, fun _ _ => badT⟩
def stepLv (ce : Ce) (lv : Lv) : Lv := ⟨stepE ce lv, stepT ce lv⟩
def lvN (ce : Ce) : Nat → Lv
  | 0 => badLv
  | n + 1 => stepLv ce (lvN ce n)
section
variable {ce : Ce} {k : Nat} {z : Sc} {X : Cx} {C : Ctx} {W : WX} (c : CtxOk ce z k X C W)
include c
theorem const_ok {v : Const} {j : Nat} {pos : Pos} : PE X (.Constant v j pos) (T C W (constE v)) := by
  unfold constE
  split
  · exact sd_val pe_int fun _ _ => rfl
  · exact sd_val pe_bl fun _ _ => rfl
  · exact sd_val pe_non fun _ _ => rfl
  · exact ite_bad fun h => sd_val pe_str fun _ _ => ⟨rfl, h⟩
  · exact sd_bad
omit c in
theorem bool1 {op : BoolOp} {a : Expr} {pos : Pos} {t : TE} (h : PE X a t) : PE X (.BoolOp op [a] pos) t := ⟨fun pins s σ H Q I q => h.run pins s σ H Q I q⟩
theorem boolV_ok {op : BoolOp} {f : Expr → EM} (h : ∀ e, PE X e (T C W (f e))) {pos : Pos} : ∀ {es : List Expr}, PE X (.BoolOp op es pos) (T C W (boolV op f es))
  | [] => sd_bad
  | [e] => bool1 (h e)
  | a :: b :: r => by
    cases op with
    | And => exact sd_andV (h a) (boolV_ok h)
    | Or => exact sd_orV (h a) (boolV_ok h)
theorem boolT_ok {op : BoolOp} {f : Expr → TM} (h : ∀ e, PT X e (TT' C W (f e))) {pos : Pos} : ∀ {es : List Expr}, PW X (.BoolOp op es pos) (TT' C W (boolT op f es))
  | [] => ⟨fun _ _ _ _ _ _ _ h => by
    obtain ⟨_, _, _, _, _, h⟩ := h
    exact h.elim⟩
  | [e] => sdw_one (h e)
  | a :: b :: r => by
    cases op with
    | And => exact sdw_and (h a) (boolT_ok h)
    | Or => exact sdw_or (h a) (boolT_ok h)
theorem cmp_ok {f : Expr → EM} (h : ∀ e, PE X e (T C W (f e))) {a : Expr} {ops : List CmpOp} {bs : List Expr} {pos : Pos} : PE X (.Compare a ops bs pos) (T C W (cmpE f a ops bs)) := by
  have hu := c.room.units
  unfold cmpE
  split
  · split
    · rename_i g hg
      refine ite_bad fun hm => ?_
      rw [Bool.not_eq_true'] at hm
      exact sd_cmp (cmG_ok c.hK hu hg) (h _) (h _) hm
    · exact sd_bad
  · split
    · rename_i g g' hg hg'
      refine ite_bad fun hm => ?_
      rw [Bool.not_eq_true'] at hm
      exact sd_chain (cmG_ok c.hK hu hg) (cmG_ok c.hK hu hg') (h _) (h _) (h _) hm
    · exact sd_bad
  · exact sd_bad
omit c in
theorem tst_bad : tstM badE = badT := rfl
theorem cmpT_ok {f : Expr → EM} (h : ∀ e, PE X e (T C W (f e))) {a : Expr} {ops : List CmpOp} {bs : List Expr} {pos : Pos} : PT X (.Compare a ops bs pos) (TT' C W (tstM (cmpE f a ops bs))) := by
  have hu := c.room.units
  unfold cmpE
  split
  · split
    · rename_i g hg
      split
      · rename_i hm
        rw [Bool.not_eq_true'] at hm
        exact sdt_cmp (cmG_ok c.hK hu hg) (h _) (h _) hm
      · exact sdt_bad
    · exact sdt_bad
  · split
    · rename_i g g' hg hg'
      split
      · rename_i hm
        rw [Bool.not_eq_true'] at hm
        exact sdt_chain (cmG_ok c.hK hu hg) (cmG_ok c.hK hu hg') (h _) (h _) (h _) hm
      · exact sdt_bad
    · exact sdt_bad
  · exact sdt_bad
theorem pt_sd {f : Expr → EM} (h : ∀ e, PE X e (T C W (f e))) : ∀ o : Option Expr, PO X o (TO' C W (ptE f o))
  | none => sdo_none
  | some e => sdo_some (h e)
theorem sub_ok {f : Expr → EM} (h : ∀ e, PE X e (T C W (f e))) {a s : Expr} {pos : Pos} : PE X (.Subscript a s pos) (T C W (subE f a s)) := by
  have hu : X.A.units + 1 < cLine := by
    have := c.room.units
    omega
  unfold subE
  split
  · exact sd_slice c.hK (h a) (pt_sd c h _) (pt_sd c h _)
  · exact sd_revT c.hK (h a)
  · exact ite_bad fun hs => sd_sub c.hK hu (h a) (h _) (fun o i => ix_eq hs o i) (fun o i => ix_eq hs o i)
end
theorem stepLv_ok {ce : Ce} {k : Nat} {lv : Lv} (L : OkLv ce k lv) : OkLv ce k (stepLv ce lv) where
  E := fun {z X C W} c e => by
    show PE X e (T C W (stepE ce lv z e))
    unfold stepE
    split
    · exact const_ok c
    · exact name_ok c
    · split
      · rename_i g hg
        exact sd_bin (opG_ok c.hK hg) (L.E c _) (L.E c _)
      · exact sd_bad
    · split
      · exact sd_notV (L.E c _)
      · exact sd_neg (L.E c _)
      · exact sd_bad
    · exact boolV_ok c (L.E c)
    · exact sd_if (L.T c _) (L.E c _) (L.E c _)
    · exact cmp_ok c (L.E c)
    · exact ite_bad fun hs => sd_tup (args_ok (L.E c) hs)
    · refine ite_bad fun hs => ?_
      split
      · exact sd_lstC (args_ok (L.E c) hs)
      · exact sd_lst (args_ok (L.E c) hs)
    · split
      · exact sd_dctT
      · exact sd_dctK
    · exact sub_ok c (L.E c)
    · split
      · rename_i f hf
        exact ite_bad fun hs => sd_att c.hK c.ok (c.an _ _ hf) (L.E c _) hs
      · exact sd_bad
    · exact call_sd c (L.E c)
    · exact lc_sd c L
    · exact sd_bad
  T := fun {z X C W} c e => by
    show PT X e (TT' C W (stepT ce lv z e))
    unfold stepT
    split
    · exact cmpT_ok c (L.E c)
    · exact sdt_not (L.T c _)
    · exact (boolT_ok c (L.T c)).pt
    · exact itet_bad fun hs => sdt_val (L.E c _) (test_eq hs)
theorem lvN_ok {ce : Ce} {k : Nat} : ∀ n, OkLv ce k (lvN ce n)
  | 0 => ⟨fun _ _ => sd_bad, fun _ _ => sdt_bad⟩
  | n + 1 => stepLv_ok (lvN_ok n)
end Pyx
/-! statements compiled -/
namespace Pyx
open PySem PySem.Spec PyProof.Rows L2
structure StOk (ce : Ce) (z : Sc) (k : Nat) (X : Cx) (C : Ctx) (W : WX) : Prop where
  c : CtxOk ce z k X C W
  pass : PassesOwn (model X.prog X.w) X.A X.env X.xe
theorem swap_cell {elt : Expr} {gs : List Comprehension} {scope : Scope} {pos py : Pos} {y : Str} {l : Nat} {env : Env} (hy : env.scope.names.lookup y = some .cell) : swapsWith (.ListComp elt gs scope pos) (some (.Name y py)) l env = pure false := by
  have ky : env.kindOf y = some .cell := hy
  unfold swapsWith
  simp only [ky]
  have e : ((some NameKind.cell : Option NameKind) == some NameKind.local) = false := rfl
  rw [e, Bool.and_false, Bool.false_and, Bool.false_and]
theorem swapped_none {tg ex : Expr} {env : Env} (h : isTupE ex = false) : swappedStores [tg] ex env = pure none := by
  cases ex <;> first
    | (cases h; done)
    | (cases tg <;> rfl)
theorem swapped_name {x : Str} {p : Pos} {ex : Expr} {env : Env} : swappedStores [.Name x p] ex env = pure none := by
  cases ex <;> rfl
def kindF (s : Scope) : Bool := match s.kind with
  | .function => true
  | _ => false
theorem kindF_ok {s : Scope} (h : kindF s = true) : s.kind = .function := by
  unfold kindF at h
  split at h
  · assumption
  · cases h
def lcSet (ce : Ce) (lv : Lv) (z : Sc) (i : Nat) (y : Str) (py : Pos) (elt : Expr) (gens : List Comprehension) (scope : Scope) (pos : Pos) : SM := match gens with
  | [⟨tg, it, ifs, 0⟩] => if (kindF z.sc && (py.line == pos.line) && !(scope.names.any fun (n, k) => n == y && (k == .local || k == .cell))) = true then asgM (gNm i) (lcE ce lv z elt tg it ifs scope (ce.hint pos.line pos.col)) else badS
  | _ => badS
def setE (ce : Ce) (lv : Lv) (z : Sc) (i : Nat) (y : Str) (py : Pos) (ex : Expr) : SM := match ex with
  | .ListComp elt gens scope pos => match z.sc.names.lookup y with
    | some .local => lcSet ce lv z i y py elt gens scope pos
    | some .cell => asgM (gNm i) (lv.E z ex)
    | _ => badS
  | _ => if noComp ex = true then asgM (gNm i) (lv.E z ex) else badS
def asgE (ce : Ce) (lv : Lv) (z : Sc) (tg ex : Expr) : SM := match tg with
  | .Attribute o x _ => match ce.an x with
    | some f => satM ce.tb f (lv.E z o) (lv.E z ex)
    | none => badS
  | .Subscript o i _ => if noSlice i = true then putM (lv.E z o) (lv.E z i) (lv.E z ex) else badS
  | .Name y py => if locB z y = true then match slotOf ce.N y 0 with
      | some i => setE ce lv z i y py ex
      | none => badS
    else badS
  | .Tuple _ _ _ => if (noComp ex && !isTupE ex) = true then match tgE ce z 10 tg with
      | some (_, g) => asgM g (lv.E z ex)
      | none => badS
    else badS
  | _ => badS
section
variable {ce : Ce} {k : Nat} {z : Sc} {X : Cx} {C : Ctx} {W : WX} (s : StOk ce z k X C W) {lv : Lv} (L : OkLv ce k lv)
include s L
theorem ss_lcSet {i : Nat} {y : Str} {py : Pos} {elt : Expr} {gens : List Comprehension} {scope : Scope} {pos spos : Pos} (hi : X.N[i]? = some y) (hl : z.sc.names.lookup y = some .local) :
    PS X (.Assign [.Name y py] (.ListComp elt gens scope pos) spos) (TS' C W (lcSet ce lv z i y py elt gens scope pos)) := by
  have c := s.c
  unfold lcSet
  split
  · rename_i tg it ifs
    refine ites_bad fun h => ?_
    rw [Bool.and_eq_true, Bool.and_eq_true, Bool.not_eq_true'] at h
    obtain ⟨⟨h1, h2⟩, h3⟩ := h
    have hsw := sw_true (elt := elt) (gs := [⟨tg, it, ifs, 0⟩]) (env := X.env) (l := spos.line) (by rw [c.sc]; exact kindF_ok h1) (by rw [c.sc]; exact hl) h2 h3
    unfold lcE
    split
    · rename_i hb
      rw [Bool.and_eq_true] at hb
      split
      · rename_i is g tt g1 g2
        split
        · rename_i h4
          have hN : X.N.Nodup := by
            rw [c.N]
            exact c.nd
          refine ss_setLc rfl (fun j hj => of_decide_eq_true (List.all_eq_true.mp h4 j hj)) c.calm hN hi (by rw [c.sc]; exact hl) hsw (it_ok c (L.E c) tg it) (by rw [c.N, c.sc]; exact blkOk_by hb.1) (fun s H Ca cl fp => (tg_ok (c.blk scope s H Ca cl fp) 10).1 tg is g g1) (fun s H Ca cl fp => ?_) (fun s H Ca cl fp => L.E (c.blk scope s H Ca cl fp) elt) hb.2
          unfold tstsE at g2
          split at g2
          · cases g2
            exact sdts_nil
          · cases g2
            exact sdts_one (L.T (c.blk scope s H Ca cl fp) _)
          · cases g2
        · exact ss_bad
      · exact ss_bad
    · exact ss_bad
  · exact ss_bad
theorem ss_asgE {tg ex : Expr} {pos : Pos} : PS X (.Assign [tg] ex pos) (TS' C W (asgE ce lv z tg ex)) := by
  have c := s.c
  have hu : X.A.units + 1 < cLine := by
    have := c.room.units
    omega
  have nd : X.N.Nodup := by
    rw [c.N]
    exact c.nd
  unfold asgE
  split
  · split
    · rename_i f hf
      exact ss_sat c.hK c.ok (c.an _ _ hf) (L.E c _) (L.E c _) swap_att
    · exact ss_bad
  · exact ites_bad fun h => ss_put hu (L.E c _) (L.E c _) (L.E c _) h
  · rename_i y py
    refine ites_bad fun h => ?_
    split
    · rename_i i hi
      have hN : X.N[i]? = some y := by
        rw [c.N]
        exact slot_ok hi
      have hl : Loc X.env.scope y ∧ (X.fn y = true ∨ X.env.scope.names.lookup y = some .local) := by
        unfold locB at h
        rw [c.sc]
        split at h
        · rename_i e
          exact ⟨.inl e, .inr e⟩
        · rename_i e
          exact ⟨.inr e, .inl (c.fn y h)⟩
        · cases h
      unfold setE
      split
      · split
        · rename_i e
          exact ss_lcSet s L hN e
        · rename_i e
          exact ss_set nd hN hl.1 hl.2 (L.E c _) (swap_cell (by rw [c.sc]; exact e))
        · exact ss_bad
      · exact ites_bad fun h2 => ss_set nd hN hl.1 hl.2 (L.E c _) (swap_eq h2)
    · exact ss_bad
  · refine ites_bad fun h => ?_
    rw [Bool.and_eq_true, Bool.not_eq_true'] at h
    split
    · rename_i is g hg
      exact ss_asg (L.E c _) ((tg_ok c 10).1 _ is g hg) h.1 rfl (swapped_none h.2)
    · exact ss_bad
  · exact ss_bad
end
def seqE (f : Stmt → SM) : List Stmt → SM
  | [] => skipM
  | st :: r => seqM (f st) (seqE f r)
theorem seq_ok {X : Cx} {C : Ctx} {W : WX} {f : Stmt → SM} (h : ∀ st, PS X st (TS' C W (f st))) : ∀ ss, PSs X ss (TS' C W (seqE f ss))
  | [] => sss_nil
  | st :: r => sss_cons (h st) (seq_ok h r)
structure SLv where
  S : Sc → Stmt → SM
structure OkS (ce : Ce) (k : Nat) (sv : SLv) : Prop where
  S : ∀ {z : Sc} {X : Cx} {C : Ctx} {W : WX}, StOk ce z k X C W → ∀ st, PS X st (TS' C W (sv.S z st))
def stepS (ce : Ce) (lv : Lv) (sv : SLv) (z : Sc) (st : Stmt) : SM := match st with
  | .Pass _ => skipM
  | .Break _ => breakM
  | .Continue _ => contM
  | .Expr e _ => if noComp e = true then exprM (lv.E z e) else badS
  | .Return (some e) _ => retM (lv.E z e)
  | .Return none _ => retM (cM .non)
  | .If c a b _ => ifS (lv.T z c) (seqE (sv.S z) a) (seqE (sv.S z) b)
  | .Assign [tg] ex _ => asgE ce lv z tg ex
  | .For tg it body [] _ => if noSet it = true then match tgE ce z 10 tg with
      | some (_, g) => forM (itE ce z (lv.E z) tg it) g (seqE (sv.S z) body)
      | none => badS
    else badS
  | .While c body [] _ => whileM (lv.T z c) (seqE (sv.S z) body)
  | _ => badS
def stN (ce : Ce) (lv : Lv) : Nat → SLv
  | 0 => ⟨fun _ _ => badS⟩
  | n + 1 => ⟨stepS ce lv (stN ce lv n)⟩
theorem stepS_ok {ce : Ce} {k : Nat} {lv : Lv} {sv : SLv} (L : OkLv ce k lv) (K : OkS ce k sv) : OkS ce k ⟨stepS ce lv sv⟩ where
  S := fun {z X C W} s st => by
    have c := s.c
    show PS X st (TS' C W (stepS ce lv sv z st))
    unfold stepS
    split
    · exact ss_skip
    · exact ss_break
    · exact ss_cont
    · exact ites_bad fun h => ss_expr (L.E c _) h
    · exact ss_ret (L.E c _)
    · exact ss_retN
    · exact ss_if (L.T c _) (seq_ok (K.S s) _) (seq_ok (K.S s) _)
    · exact ss_asgE s L
    · refine ites_bad fun h => ?_
      split
      · rename_i is g hg
        exact ss_for s.pass c.calm (it_ok c (L.E c) _ _) ((tg_ok c 10).1 _ is g hg) (seq_ok (K.S s) _) h
      · exact ss_bad
    · exact ss_while s.pass (L.T c _) (seq_ok (K.S s) _)
    · exact ss_bad
theorem stN_ok {ce : Ce} {k : Nat} {lv : Lv} (L : OkLv ce k lv) : ∀ n, OkS ce k (stN ce lv n)
  | 0 => ⟨fun _ _ => ss_bad⟩
  | n + 1 => stepS_ok L (stN_ok L n)
/-- a def's body -/
def bodyM (ce : Ce) (scope : Scope) (body : List Stmt) : SM := seqE ((stN ce (lvN ce 24) 12).S ⟨scope, fun _ => true, false⟩) body
/-- a def, by its body: how many parameters, how many slots -/
def defM (ce : Ce) (scope : Scope) (body : List Stmt) (ds : List D) (S : Sto) : Out D := match bodyM ce scope body (ds.map some ++ List.replicate (ce.N.length - ds.length) none) S with
  | .nx _ S' => .ok .non S'
  | .rt d S' => .ok d S'
  | .exc x _ S' => .exc x S'
  | _ => .bad
theorem env_start {K : PySem.W.Frag} {l : Lay} {H : Hp} {ds : List D} {vs : List V} {N : List Str} (h : RDs K l H ds vs) : EnvR K l H (ds.map some ++ List.replicate (N.length - ds.length) none) (L2.start N vs) := by
  have hl := h.length
  unfold L2.start
  refine ⟨by rw [List.length_append, List.length_append, List.length_map, List.length_map, List.length_replicate, List.length_replicate, hl], fun i d hi => ?_⟩
  by_cases hd : i < ds.length
  · rw [List.getElem?_append_left (by rw [List.length_map]; exact hd), List.getElem?_map] at hi
    obtain ⟨x, hx, e⟩ := Option.map_eq_some_iff.mp hi
    cases e
    obtain ⟨v, hv, r⟩ := h.get hx
    refine ⟨v, ?_, r⟩
    rw [List.getElem?_append_left (by rw [List.length_map, hl]; exact hd), List.getElem?_map, hv]
    rfl
  · rw [List.getElem?_append_right (by rw [List.length_map]; omega), List.getElem?_replicate] at hi
    split at hi <;> cases hi
/-- what is known of the module, for every body -/
structure Wd (P : Program) (w : World) (K : PySem.W.Frag) (mg : Str → Option Value) (base : Heap) (C : Ctx) (tb : Tb) (np : Nat → Nat) (G : Fn) (gl : Str → Gk) (an : Str → Option Nat) (k : Nat) : Prop where
  hK : C.K = K
  gl : ∀ (N : List Str) (qual : Str) (scope : Scope) (f : Addr) (cd : Value) (A : Around) (outer : List Env) (s : Shared) (H : Hp) (E : XK) (x : Str), GlOk (cxOf (L2.CX P w) P w K mg base N qual scope f cd A outer s H E) C tb np G k x (gl x)
  ok : AOk C tb
  M : ∀ (N : List Str) (qual : Str) (scope : Scope) (f : Addr) (cd : Value) (A : Around) (outer : List Env) (s : Shared) (H : Hp) (E : XK), MOk (cxOf (L2.CX P w) P w K mg base N qual scope f cd A outer s H E) C tb np G k
  an : ∀ x f, an x = some f → C.anm f = x
theorem def_ok {P : Program} {w : World} {K : PySem.W.Frag} {mg : Str → Option Value} {base : Heap} {C : Ctx} {tb : Tb} {np : Nat → Nat} {G : Fn} {gl : Str → Gk} {an : Str → Option Nat} {hint : Nat → Nat → Nat} {k : Nat} (Z : Wd P w K mg base C tb np G gl an k)
    {f : Addr} {name qual : Str} {params : Arguments} {body : List Stmt} {scope : Scope} {dV kV doc pm cdv ct oc : Value} {an' od : Option Addr} {osl : Array (Option Value)} {N ps : List Str}
    (lk : K.lookup f = some ⟨oc, od, .func (PySem.W.fnOf name qual params body scope dV kV doc pm an' cdv ct), osl⟩) (hcd : PySem.W.codeIn K cdv qual = true) (S : FnScope N ps scope) :
    FnOk P w K mg base (L2.CX P w) (k + 2) f (PySem.W.fnOf name qual params body scope dV kV doc pm an' cdv ct) ps (spM C ps.length (defM ⟨N, an, gl, tb, np, G, hint⟩ scope body)) := by
  refine fn_of (k := k + 1) lk hcd S (fun vs H Q E h => h.1) fun A outer s H vs Q E hr hsp => ?_
  obtain ⟨hl, S0, l, ds, r, hd, hp⟩ := hsp
  have so : StOk ⟨N, an, gl, tb, np, G, hint⟩ ⟨scope, fun _ => true, false⟩ k (cxOf (L2.CX P w) P w K mg base N qual scope f cdv A outer s H E) C (fun cls d _ H => E cls d H) := by
    refine ⟨⟨Z.hK, rfl, S.nd, rfl, fun _ _ => rfl, rfl, hr, takes_of rfl rfl rfl rfl, fun _ => ⟨E, rfl⟩, fun x => Z.gl N qual scope f cdv A outer s H E x, Z.ok, Z.M N qual scope f cdv A outer s H E, Z.an⟩, passes_of rfl⟩
  refine ⟨TS' C (fun cls d _ H => E cls d H) (bodyM ⟨N, an, gl, tb, np, G, hint⟩ scope body), seq_ok ((stN_ok (lvN_ok 24) 12).S so) body, ?_⟩
  refine ⟨_, S0, l, env_start hd, r, ?_⟩
  unfold defM at hp
  revert hp
  show Post C (fun cls d _ H => E cls d H) (QE C Q) [] l H (match bodyM ⟨N, an, gl, tb, np, G, hint⟩ scope body (ds.map some ++ List.replicate (N.length - ds.length) none) S0 with
    | .nx _ S' => .ok .non S'
    | .rt d S' => .ok d S'
    | .exc x _ S' => .exc x S'
    | _ => .bad) → _
  generalize bodyM ⟨N, an, gl, tb, np, G, hint⟩ scope body (ds.map some ++ List.replicate (N.length - ds.length) none) S0 = o
  intro hp
  cases o with
  | nx e S' => exact fun s' H' l' x r he => hp H' l' x r _ rfl
  | rt d S' => exact fun H' l' x r v hv => hp H' l' x r v hv
  | bk e S' => exact hp.elim
  | ct e S' => exact hp.elim
  | exc x e S' => exact fun s' H' l' cls d x r he rx => hp H' l' cls d x r rx
  | bad => exact hp.elim
end Pyx
/-! a law's defs, all of them -/
namespace Pyx
open PySem PySem.Spec PyProof.Rows L2
structure Tl where
  fa : List He.Fa
  fn : List He.DefD
  NS : List (List Str × List Str)
  cls : List Str
  exs : List Str
  ans : List Str
  gls : List (Str × Gk)
  pls : List (Nat × Nat)
  mts : List (Nat × Nat × Nat)
  dfs : List (Nat × Nat × List D)
  hint : Nat → Nat → Nat
def oddS (n : Nat) : Str := ⟨#[n + 2000000]⟩
def anmOf (ans : List Str) (f : Nat) : Str := match ans[f]? with
  | some x => x
  | none => oddS f
theorem anm_inj {ans : List Str} (h : ans.Nodup) (h2 : ans.all (fun x => x.cps.toList.all fun c => decide (c < 2000000)) = true) : ∀ f g, anmOf ans f = anmOf ans g → f = g := by
  have odd : ∀ (x : Str) (n : Nat), x ∈ ans → x ≠ oddS n := fun x n hx e => by
    have := List.all_eq_true.mp h2 x hx
    rw [e] at this
    have := of_decide_eq_true (List.all_eq_true.mp this (n + 2000000) (by simp [oddS]))
    omega
  have oddI : ∀ m n, oddS m = oddS n → m = n := fun m n e => by
    have : (#[m + 2000000] : Array Nat) = #[n + 2000000] := congrArg Str.cps e
    simpa using this
  intro f g e
  unfold anmOf at e
  cases hf : ans[f]? with
  | none =>
    rw [hf] at e
    cases hg : ans[g]? with
    | none =>
      rw [hg] at e
      exact oddI _ _ e
    | some y =>
      rw [hg] at e
      exact (odd y f (List.mem_of_getElem? hg) e.symm).elim
  | some x =>
    rw [hf] at e
    cases hg : ans[g]? with
    | none =>
      rw [hg] at e
      exact (odd x g (List.mem_of_getElem? hf) e).elim
    | some y =>
      rw [hg] at e
      obtain ⟨h1, h3⟩ := List.getElem?_eq_some_iff.mp hf
      obtain ⟨h4, h5⟩ := List.getElem?_eq_some_iff.mp hg
      have : ans[f] = ans[g] := by rw [h3, h5]; exact e
      exact (List.getElem_inj h).mp this
namespace Tl
variable (t : Tl)
def gl (x : Str) : Gk := match t.gls.lookup x with
  | some g => g
  | none => .no
def an (x : Str) : Option Nat := slotOf t.ans x 0
def np (f : Nat) : Nat := match t.NS[f]? with
  | some p => p.2.length
  | none => 0
def tb : Tb where
  pl := fun c f => t.pls.any fun p => p.1 == c && p.2 == f
  mt := fun c m => (t.mts.find? fun p => p.1 == c && p.2.1 == m).map (·.2.2)
  df := fun f n => match t.dfs.find? fun p => p.1 == f && p.2.1 == n with
    | some p => some p.2.2
    | none => if n = t.np f then some [] else none
def mean : Nat → Fn
  | 0, _ => fun _ _ => .bad
  | j + 1, i => match t.fn[i]?, t.NS[i]? with
    | some d, some p => defM ⟨p.1, t.an, t.gl, t.tb, t.np, mean j, t.hint⟩ d.scope d.body
    | _, _ => fun _ _ => .bad
def ctx (K : PySem.W.Frag) : Ctx where
  K := K
  cad := fun c => match t.cls[c]? with
    | some x => He.ga K x
    | none => 0
  xad := fun c => match t.exs[c]? with
    | some x => He.ga K x
    | none => 0
  anm := anmOf t.ans
end Tl
/-! ### what is checked of the tables -/
def hasF (fa : List He.Fa) (p : He.Fa → Bool) : Bool := fa.any p
def fGlo (x : Str) : He.Fa → Bool
  | .glo y => decide (y = x)
  | _ => false
def fFree (x : Str) : He.Fa → Bool
  | .free y => decide (y = x)
  | _ => false
def fMkr (x : Str) : He.Fa → Bool
  | .mkr y => decide (y = x)
  | _ => false
def fCls (x : Str) : He.Fa → Bool
  | .cls y => decide (y = x)
  | _ => false
def fInt (x : Str) (i : Int) : He.Fa → Bool
  | .int y j => decide (y = x ∧ j = i)
  | _ => false
def fStr (x s : Str) : He.Fa → Bool
  | .str y z => decide (y = x ∧ z = s)
  | _ => false
def fNoat (x f : Str) : He.Fa → Bool
  | .noat y g => decide (y = x ∧ g = f)
  | _ => false
def fMeth (x f : Str) : He.Fa → Bool
  | .meth y g => decide (y = x ∧ g = f)
  | _ => false
theorem hasF_of {fa : List He.Fa} {p : He.Fa → Bool} (h : hasF fa p = true) : ∃ f ∈ fa, p f = true := List.any_eq_true.mp h
def atIs (t : Tl) (i : Nat) (p : Str × Option Str) : Bool := match t.fn[i]? with
  | some d => decide (d.at_ = p)
  | none => false
theorem atIs_ok {t : Tl} {i : Nat} {p : Str × Option Str} (h : atIs t i p = true) : ∃ d, t.fn[i]? = some d ∧ d.at_ = p := by
  unfold atIs at h
  split at h
  · exact ⟨_, by assumption, of_decide_eq_true h⟩
  · cases h
def glsB (t : Tl) (q : Str × Gk) : Bool := match q.2 with
  | .no => true
  | .blt => hasF t.fa (fFree q.1)
  | .fn i => hasF t.fa (fGlo q.1) && atIs t i (q.1, none) && decide (i < t.NS.length)
  | .cl c i => hasF t.fa (fGlo q.1) && hasF t.fa (fMkr q.1) && atIs t i (q.1, some "__init__") && decide (t.cls[c]? = some q.1) && decide (i < t.NS.length)
  | .con d => match d with
    | .int i => hasF t.fa (fInt q.1 i)
    | .str s => hasF t.fa (fStr q.1 s) && PySem.PyData.strOk s
    | _ => false
  | .exc _ _ => true
def plsB (t : Tl) (q : Nat × Nat) : Bool := match t.cls[q.1]?, t.ans[q.2]? with
  | some x, some f => hasF t.fa (fCls x) && hasF t.fa (fNoat x f)
  | _, _ => false
def mtsB (t : Tl) (q : Nat × Nat × Nat) : Bool := match t.cls[q.1]?, t.ans[q.2.1]? with
  | some x, some m => hasF t.fa (fCls x) && hasF t.fa (fMeth x m) && atIs t q.2.2 (x, some m) && decide (q.2.2 < t.NS.length)
  | _, _ => false
def fnsB (p : List Str × List Str) (sc : Scope) : Bool := kindF sc && !sc.isCoroutine && !sc.isGenerator && decide p.1.Nodup && decide (p.1.take p.2.length = p.2) && (p.2.all fun x => match sc.names.lookup x with
    | some .local => true
    | some .cell => true
    | _ => false) && sc.names.all fun y => match y.2 with
    | .free => false
    | _ => true
theorem fns_ok {p : List Str × List Str} {sc : Scope} (h : fnsB p sc = true) : FnScope p.1 p.2 sc := by
  unfold fnsB at h
  simp only [Bool.and_eq_true, Bool.not_eq_true', decide_eq_true_eq] at h
  obtain ⟨⟨⟨⟨⟨⟨h1, h2⟩, h3⟩, h4⟩, h5⟩, h6⟩, h7⟩ := h
  refine ⟨kindF_ok h1, h2, h3, h4, h5, fun x hx => ?_, fun y hy e => ?_⟩
  · have := List.all_eq_true.mp h6 x hx
    split at this
    · exact .inl (by assumption)
    · exact .inr (by assumption)
    · cases this
  · have := List.all_eq_true.mp h7 y hy
    rw [e] at this
    cases this
def fnsAll : List He.DefD → List (List Str × List Str) → Bool
  | [], [] => true
  | d :: ds, p :: ps => fnsB p d.scope && fnsAll ds ps
  | _, _ => false
theorem fnsAll_ok : ∀ {ds : List He.DefD} {ps : List (List Str × List Str)}, fnsAll ds ps = true → ds.length = ps.length ∧ ∀ (i : Nat) (d : He.DefD) (p : List Str × List Str), ds[i]? = some d → ps[i]? = some p → FnScope p.1 p.2 d.scope
  | [], [], _ => ⟨rfl, fun i d p h => by simp at h⟩
  | [], _ :: _, h => by cases h
  | _ :: _, [], h => by cases h
  | d :: ds, p :: ps, h => by
    unfold fnsAll at h
    rw [Bool.and_eq_true] at h
    obtain ⟨h1, h2⟩ := fnsAll_ok h.2
    refine ⟨by rw [List.length_cons, List.length_cons, h1], fun i d' p' e e' => ?_⟩
    cases i with
    | zero =>
      cases e
      cases e'
      exact fns_ok h.1
    | succ i => exact h2 i d' p' (by simpa using e) (by simpa using e')
def Tl.okB (t : Tl) : Bool := decide t.ans.Nodup && (t.ans.all fun x => x.cps.toList.all fun c => decide (c < 2000000)) && t.gls.all (glsB t) && t.pls.all (plsB t) && t.mts.all (mtsB t) && fnsAll t.fn t.NS
structure Tl.Good (t : Tl) : Prop where
  nd : t.ans.Nodup
  asc : (t.ans.all fun x => x.cps.toList.all fun c => decide (c < 2000000)) = true
  gls : t.gls.all (glsB t) = true
  pls : t.pls.all (plsB t) = true
  mts : t.mts.all (mtsB t) = true
  fns : fnsAll t.fn t.NS = true
theorem Tl.good {t : Tl} (h : t.okB = true) : t.Good := by
  unfold Tl.okB at h
  simp only [Bool.and_eq_true, decide_eq_true_eq] at h
  obtain ⟨⟨⟨⟨⟨h1, h2⟩, h3⟩, h4⟩, h5⟩, h6⟩ := h
  exact ⟨h1, h2, h3, h4, h5, h6⟩
/-- how a def binds -/
def BindOk (t : Tl) (K : PySem.W.Frag) (i : Nat) (ps : List Str) (fd : FuncData) : Prop :=
  ∀ n dd, t.tb.df i n = some dd → n + dd.length = ps.length ∧ ∃ ds dvs, Binds K fd ps ds ∧ Vals dvs ds ∧ ∀ l H, RDs K l H dd dvs
end Pyx
/-! all defs keep their promises -/
namespace Pyx
open PySem PySem.Spec PyProof.Rows L2
section
variable {t : Tl} {P : Program} {w : World} {K : PySem.W.Frag} {mg : Str → Option Value} {base : Heap}
theorem bad_fn {C : Ctx} {f : Addr} {fd : FuncData} {ps : List Str} : FnOk P w K mg base (L2.CX P w) 0 f fd ps (spM C ps.length fun _ _ => .bad) :=
  ⟨fun vs H Q E h => h.1, fun A outer s H args us vs Q E hr e0 hb r hsp => by
    obtain ⟨_, _, _, _, _, _, h⟩ := hsp
    exact h.elim⟩
def Binding (t : Tl) (K : PySem.W.Frag) : Prop := ∀ (i : Nat) (d : He.DefD) (p : List Str × List Str) (fd : FuncData), t.fn[i]? = some d → t.NS[i]? = some p → FunD K d.name d.qual d.params d.body d.scope (d.dvs K) (d.kws K) (He.fAd K d.at_) fd → BindOk t K i p.2 fd
def Keeps (P : Program) (w : World) (K : PySem.W.Frag) (mg : Str → Option Value) (base : Heap) (t : Tl) (j : Nat) : Prop := ∀ (i : Nat) (d : He.DefD) (p : List Str × List Str) (fd : FuncData), t.fn[i]? = some d → t.NS[i]? = some p →
  FunD K d.name d.qual d.params d.body d.scope (d.dvs K) (d.kws K) (He.fAd K d.at_) fd → FnOk P w K mg base (L2.CX P w) (2 * j) (He.fAd K d.at_) fd p.2 (spM (t.ctx K) p.2.length (t.mean j i))
theorem fnIs_of {N : List Str} {qual : Str} {scope : Scope} {f : Addr} {cd : Value} {A : Around} {outer : List Env} {s : Shared} {H : Hp} {E : XK} {j i : Nat} {d : He.DefD} (g : t.Good) (c : He.SaysD t.fa t.fn K) (B : Binding t K) (kp : Keeps P w K mg base t j)
    (hi : t.fn[i]? = some d) (hl : i < t.NS.length) : PySem.W.keepIn K (.ref (He.fAd K d.at_)) = true ∧ FnIs (cxOf (L2.CX P w) P w K mg base N qual scope f cd A outer s H E) (t.ctx K) t.tb (t.mean j) (2 * j) i (t.np i) (He.fAd K d.at_) := by
  obtain ⟨fd, F⟩ := c.def_ i (d := d) hi
  have hp : t.NS[i]? = some t.NS[i] := List.getElem?_eq_getElem hl
  have hn : t.np i = t.NS[i].2.length := by
    unfold Tl.np
    rw [hp]
  refine ⟨F.kp, ⟨fd, t.NS[i].2, hn.symm, ?_, ?_⟩⟩
  · rw [hn]
    exact kp i d _ fd hi hp F
  · rw [hn]
    exact B i d _ fd hi hp F
theorem wd_of (g : t.Good) (KX : K.In base) (G : base.Ns mainGlobals mg) (c : He.SaysD t.fa t.fn K) (B : Binding t K) {j : Nat} (kp : Keeps P w K mg base t j) : Wd P w K mg base (t.ctx K) t.tb t.np (t.mean j) t.gl t.an (2 * j) where
  hK := rfl
  gl := fun N qual scope f cd A outer s H E x => by
    unfold Tl.gl
    cases hl : t.gls.lookup x with
    | none => exact True.intro
    | some q =>
      have hm := List.all_eq_true.mp g.gls (x, q) (PySem.mem_of_lookup hl)
      unfold glsB at hm
      cases q with
      | no => exact True.intro
      | blt =>
        obtain ⟨y, hy, hf⟩ := hasF_of (show hasF t.fa (fFree x) = true from hm)
        cases y <;> first | (cases hf; done) | skip
        obtain rfl := of_decide_eq_true hf
        exact He.free_ok KX G (c.facts hy)
      | fn i =>
        have hm' : (hasF t.fa (fGlo x) && atIs t i (x, none) && decide (i < t.NS.length)) = true := hm
        simp only [Bool.and_eq_true, decide_eq_true_eq] at hm'
        obtain ⟨⟨h1, h2⟩, h3⟩ := hm'
        obtain ⟨y, hy, hf⟩ := hasF_of h1
        cases y <;> first | (cases hf; done) | skip
        obtain rfl := of_decide_eq_true hf
        obtain ⟨d, hd, ha⟩ := atIs_ok h2
        obtain ⟨k1, k2⟩ := fnIs_of (N := N) (qual := qual) (scope := scope) (f := f) (cd := cd) (A := A) (outer := outer) (s := s) (H := H) (E := E) g c B kp hd h3
        rw [ha] at k1 k2
        exact ⟨_, He.glo_ok KX G (c.facts hy), k1, k2⟩
      | cl b i =>
        have hm' : (hasF t.fa (fGlo x) && hasF t.fa (fMkr x) && atIs t i (x, some "__init__") && decide (t.cls[b]? = some x) && decide (i < t.NS.length)) = true := hm
        simp only [Bool.and_eq_true, decide_eq_true_eq] at hm'
        obtain ⟨⟨⟨⟨h1, h2⟩, h3⟩, h4⟩, h5⟩ := hm'
        have e : (t.ctx K).cad b = He.ga K x := by
          show (match t.cls[b]? with | some x => He.ga K x | none => 0) = _
          rw [h4]
        obtain ⟨y, hy, hf⟩ := hasF_of h1
        cases y <;> first | (cases hf; done) | skip
        obtain rfl := of_decide_eq_true hf
        obtain ⟨y, hy2, hf⟩ := hasF_of h2
        cases y <;> first | (cases hf; done) | skip
        obtain rfl := of_decide_eq_true hf
        obtain ⟨d, hd, ha⟩ := atIs_ok h3
        obtain ⟨k1, k2⟩ := fnIs_of (N := N) (qual := qual) (scope := scope) (f := f) (cd := cd) (A := A) (outer := outer) (s := s) (H := H) (E := E) g c B kp hd h5
        rw [ha] at k1 k2
        refine ⟨_, ?_, ?_, k2⟩
        · rw [e]
          exact He.glo_ok KX G (c.facts hy)
        · rw [e]
          exact He.mkr_ok (c.facts hy2)
      | con d =>
        cases d with
        | int i =>
          obtain ⟨y, hy, hf⟩ := hasF_of (show hasF t.fa (fInt x i) = true from hm)
          cases y <;> first | (cases hf; done) | skip
          obtain ⟨rfl, rfl⟩ := of_decide_eq_true hf
          obtain ⟨tk, hk⟩ := He.int_ok KX G (c.facts hy)
          exact ⟨.int _, _, hk, ⟨tk, rfl⟩, fun _ _ => rfl⟩
        | str z =>
          have hm' : (hasF t.fa (fStr x z) && PySem.PyData.strOk z) = true := hm
          rw [Bool.and_eq_true] at hm'
          obtain ⟨y, hy, hf⟩ := hasF_of hm'.1
          cases y <;> first | (cases hf; done) | skip
          obtain ⟨rfl, rfl⟩ := of_decide_eq_true hf
          obtain ⟨tk, hk⟩ := He.str_ok KX G (c.facts hy)
          exact ⟨.str _, _, hk, ⟨tk, rfl⟩, fun _ _ => ⟨rfl, hm'.2⟩⟩
        | _ => cases hm
      | exc _ _ => exact True.intro
  ok := {
    inj := anm_inj g.nd g.asc
    pl := fun b f h => by
      obtain ⟨q, hq, e⟩ := List.any_eq_true.mp (show (t.pls.any fun p => p.1 == b && p.2 == f) = true from h)
      rw [Bool.and_eq_true] at e
      have e1 : q.1 = b := eq_of_beq e.1
      have e2 : q.2 = f := eq_of_beq e.2
      subst e1 e2
      have hm := List.all_eq_true.mp g.pls q hq
      unfold plsB at hm
      cases h1 : t.cls[q.1]? with
      | none =>
        rw [h1] at hm
        cases hm
      | some x =>
        cases h2 : t.ans[q.2]? with
        | none =>
          rw [h1, h2] at hm
          cases hm
        | some y =>
          rw [h1, h2] at hm
          have hm' : (hasF t.fa (fCls x) && hasF t.fa (fNoat x y)) = true := hm
          rw [Bool.and_eq_true] at hm'
          have e1 : (t.ctx K).cad q.1 = He.ga K x := by
            show (match t.cls[q.1]? with | some x => He.ga K x | none => 0) = _
            rw [h1]
          have e2 : (t.ctx K).anm q.2 = y := by
            show (match t.ans[q.2]? with | some x => x | none => oddS q.2) = _
            rw [h2]
          rw [e1, e2]
          obtain ⟨y1, hy1, hf1⟩ := hasF_of hm'.1
          cases y1 <;> first | (cases hf1; done) | skip
          obtain rfl := of_decide_eq_true hf1
          obtain ⟨y2, hy2, hf2⟩ := hasF_of hm'.2
          cases y2 <;> first | (cases hf2; done) | skip
          obtain ⟨rfl, rfl⟩ := of_decide_eq_true hf2
          exact ⟨He.cls_ok (c.facts hy1), He.noat_ok (c.facts hy2)⟩ }
  M := fun N qual scope f cd A outer s H E => ⟨fun b m i h => by
    obtain ⟨q, hq, e⟩ := Option.map_eq_some_iff.mp (show (t.mts.find? fun p => p.1 == b && p.2.1 == m).map (·.2.2) = some i from h)
    subst e
    have e := List.find?_some hq
    have hq' := List.mem_of_find?_eq_some hq
    rw [Bool.and_eq_true] at e
    have e1 : q.1 = b := eq_of_beq e.1
    have e2 : q.2.1 = m := eq_of_beq e.2
    subst e1 e2
    have hm := List.all_eq_true.mp g.mts q hq'
    unfold mtsB at hm
    cases h1 : t.cls[q.1]? with
    | none =>
      rw [h1] at hm
      cases hm
    | some x =>
      cases h2 : t.ans[q.2.1]? with
      | none =>
        rw [h1, h2] at hm
        cases hm
      | some y =>
        rw [h1, h2] at hm
        have hm' : (hasF t.fa (fCls x) && hasF t.fa (fMeth x y) && atIs t q.2.2 (x, some y) && decide (q.2.2 < t.NS.length)) = true := hm
        simp only [Bool.and_eq_true, decide_eq_true_eq] at hm'
        obtain ⟨⟨⟨h3, h4⟩, h5⟩, h6⟩ := hm'
        have e1 : (t.ctx K).cad q.1 = He.ga K x := by
          show (match t.cls[q.1]? with | some x => He.ga K x | none => 0) = _
          rw [h1]
        have e2 : (t.ctx K).anm q.2.1 = y := by
          show (match t.ans[q.2.1]? with | some x => x | none => oddS q.2.1) = _
          rw [h2]
        rw [e1, e2]
        obtain ⟨y1, hy1, hf1⟩ := hasF_of h3
        cases y1 <;> first | (cases hf1; done) | skip
        obtain rfl := of_decide_eq_true hf1
        obtain ⟨y2, hy2, hf2⟩ := hasF_of h4
        cases y2 <;> first | (cases hf2; done) | skip
        obtain ⟨rfl, rfl⟩ := of_decide_eq_true hf2
        obtain ⟨d, hd, ha⟩ := atIs_ok h5
        obtain ⟨k1, k2⟩ := fnIs_of (N := N) (qual := qual) (scope := scope) (f := f) (cd := cd) (A := A) (outer := outer) (s := s) (H := H) (E := E) g c B kp hd h6
        rw [ha] at k1 k2
        exact ⟨He.cls_ok (c.facts hy1), _, He.meth_ok (c.facts hy2), k2⟩⟩
  an := fun x f h => by
    have := slot_ok (N := t.ans) (x := x) (i := f) h
    show (match t.ans[f]? with | some x => x | none => oddS f) = x
    rw [this]
theorem keeps_all (g : t.Good) (KX : K.In base) (G : base.Ns mainGlobals mg) (c : He.SaysD t.fa t.fn K) (B : Binding t K) : ∀ j, Keeps P w K mg base t j
  | 0 => fun i d p fd hi hp F => bad_fn
  | j + 1 => fun i d p fd hi hp F => by
    have Z := wd_of (P := P) (w := w) g KX G c B (keeps_all g KX G c B j)
    obtain ⟨oc, od, dV, kV, doc, pm, an, cdv, ct, osl, rfl, lk, hcd, _, _⟩ := F.ex
    have S := (fnsAll_ok g.fns).2 i d p hi hp
    have e : t.mean (j + 1) i = defM ⟨p.1, t.an, t.gl, t.tb, t.np, t.mean j, t.hint⟩ d.scope d.body := by
      show (match t.fn[i]?, t.NS[i]? with
        | some d, some p => defM ⟨p.1, t.an, t.gl, t.tb, t.np, t.mean j, t.hint⟩ d.scope d.body
        | _, _ => fun _ _ => .bad) = _
      rw [hi, hp]
    rw [e]
    exact def_ok (hint := t.hint) Z lk hcd S
end
/-! ### the law's own promise -/
def sto0 : Sto := ⟨0, fun _ => none⟩
def lay0 : Lay := ⟨fun _ => none, fun _ => False, fun _ => none⟩
theorem rel0 {C : Ctx} {H : Hp} : Rel C lay0 sto0 H where
  cells := fun i c h => by cases h
  dom := fun _ _ => rfl
  inj := fun i j a h => by cases h
  nos := fun a h => False.elim h
theorem law_sp {C : Ctx} {mu : List D → Sto → Out D} {H : Hp} {a : Addr} {ns : List Int} {S : Sto} (hS : SqL C.K H a (ns.map V.int)) (hm : mu [.scr ns] sto0 = .ok (.bl true) S) :
    spM C 1 mu [.ref a] H (fun v _ => v = .bl true) fun _ _ _ => False := by
  refine ⟨rfl, sto0, lay0, [.scr ns], rel0, ⟨.ref a, [], rfl, ⟨a, rfl, ?_⟩, rfl⟩, ?_⟩
  · rcases hS with h | h
    · exact .inl ⟨h, (fun _ z => by cases z), fun z => False.elim z⟩
    · exact .inr h
  · rw [hm]
    exact fun H' l' x r v hv => hv
end Pyx
/-! for the printed texts -/
namespace Pyx
open PySem PySem.Spec PyProof.Rows L2
theorem bind_plain {t : Tl} {K : PySem.W.Frag} (i : Nat) (ps : List Str) (fd : FuncData) (h : (t.dfs.all fun p => !(p.1 == i)) = true) (hn : t.np i = ps.length) (B : Binds K fd ps []) : BindOk t K i ps fd := by
  intro n dd hd
  have hf : t.dfs.find? (fun p => p.1 == i && p.2.1 == n) = none := by
    rw [List.find?_eq_none]
    intro p hp e
    have := List.all_eq_true.mp h p hp
    rw [Bool.not_eq_true'] at this
    rw [this, Bool.false_and] at e
    cases e
  have e : (match t.dfs.find? (fun p => p.1 == i && p.2.1 == n) with
    | some p => some p.2.2
    | none => if n = t.np i then some [] else none) = some dd := hd
  rw [hf] at e
  have e2 : (if n = t.np i then some ([] : List D) else none) = some dd := e
  split at e2
  · rename_i hn2
    cases e2
    exact ⟨by rw [hn2, hn]; rfl, [], [], B, .nil, fun _ _ => rfl⟩
  · cases e2
abbrev ltD : D → D → Sto → Option D := cmpI fun i j => decide (i < j)
abbrev leD : D → D → Sto → Option D := cmpI fun i j => decide (i ≤ j)
abbrev gtD : D → D → Sto → Option D := cmpI fun i j => decide (j < i)
abbrev geD : D → D → Sto → Option D := cmpI fun i j => decide (j ≤ i)
/-- a def by its body's meaning: n slots -/
def defX (n : Nat) (b : SM) (ds : List D) (S : Sto) : Out D := match b (ds.map some ++ List.replicate (n - ds.length) none) S with
  | .nx _ S' => .ok .non S'
  | .rt d S' => .ok d S'
  | .exc x _ S' => .exc x S'
  | _ => .bad
end Pyx
namespace Pyx
open PySem PySem.Spec PyProof.Rows L2
/-- what may leave a def, whatever the world -/
def CXe (P : Program) : CXT := fun outer H s E u s' => ∃ w, L2.CX P w outer H s E u s'
theorem cxe_no {P : Program} (H : Hp) (s : Shared) (e : Value) (s' : Shared) (h : CXe P [] H s (fun _ _ _ => False) e s') : False := by
  obtain ⟨w, a, B, H', cls, d, _, _, _, _, _, _, _, z⟩ := h
  exact z
theorem fn_cxe {P : Program} {w : World} {K : PySem.W.Frag} {mg : Str → Option Value} {base : Heap} {k : Nat} {f : Addr} {fd : FuncData} {ps : List Str} {sp : Sp} (F : FnOk P w K mg base (L2.CX P w) k f fd ps sp) : FnOk P w K mg base (CXe P) k f fd ps sp :=
  ⟨F.len, fun A outer s H args us vs Q E hr he hb hv hs => codeAny_mono (F.run A outer s H args us vs Q E hr he hb hv hs) fun r s' h => by
    cases r with
    | ok v => cases v <;> exact h
    | error e => exact ⟨w, h⟩⟩
end Pyx
/-! tools for reckoning with meanings -/
namespace Pyx
open PySem PySem.Spec PyProof.Rows L2
@[simp] theorem bind_ok {A B : Type} {a : A} {S : Sto} {f : A → Sto → Out B} : (Out.ok a S).bind f = f a S := rfl
@[simp] theorem bind_bad {A B : Type} {f : A → Sto → Out B} : (Out.bad : Out A).bind f = .bad := rfl
@[simp] theorem liftS_ok {A : Type} {a : A} {S : Sto} {e : Env'} {f : A → Sto → SO} : liftS (.ok a S) e f = f a S := rfl
@[simp] theorem liftS_bad {A : Type} {e : Env'} {f : A → Sto → SO} : liftS (.bad : Out A) e f = .bad := rfl
@[simp] theorem ofO_some {A : Type} {a : A} {S : Sto} : ofO (some a) S = .ok a S := rfl
@[simp] theorem ofO_none {A : Type} {S : Sto} : ofO (none : Option A) S = .bad := rfl
@[simp] theorem ofS_some {S : Sto} {e : Env'} : ofS (some S) e = .nx e S := rfl
@[simp] theorem seqM_nx {a b : SM} {e e' : Env'} {S S' : Sto} (h : a e S = .nx e' S') : seqM a b e S = b e' S' := by
  unfold seqM
  rw [h]
theorem seqM_rt {a b : SM} {e : Env'} {S S' : Sto} {d : D} (h : a e S = .rt d S') : seqM a b e S = .rt d S' := by
  unfold seqM
  rw [h]
/-! ### loops -/
theorem loop_gen {src : Src} {n : Nat} {g : GM} {body : SM} (item : Nat → Option D) (I : Nat → Env' → Sto → Prop) (hget : ∀ k e S, k ≤ n → I k e S → src.get S k = some (item k)) (hn : item n = none)
    (hs : ∀ k e S, k < n → I k e S → ∃ d e1 e' S', item k = some d ∧ g d e = some e1 ∧ (body e1 S = .nx e' S' ∨ body e1 S = .ct e' S') ∧ I (k + 1) e' S') :
    ∀ (m k f : Nat) (e : Env') (S : Sto), k + m = n → m < f → I k e S → ∃ e' S', loopM src g body f k e S = .nx e' S' ∧ I n e' S'
  | 0, k, 0, _, _, _, hf, _ => absurd hf (by omega)
  | 0, k, f + 1, e, S, hk, _, h => by
    have e0 : k = n := by omega
    subst e0
    refine ⟨e, S, ?_, h⟩
    unfold loopM
    rw [hget k e S (Nat.le_refl _) h, hn]
  | m + 1, k, 0, _, _, _, hf, _ => absurd hf (by omega)
  | m + 1, k, f + 1, e, S, hk, hf, h => by
    obtain ⟨d, e1, e', S', h1, h2, h3, h4⟩ := hs k e S (by omega) h
    obtain ⟨e2, S2, h5, h6⟩ := loop_gen item I hget hn hs m (k + 1) f e' S' (by omega) (by omega) h4
    refine ⟨e2, S2, ?_, h6⟩
    unfold loopM
    rw [hget k e S (by omega) h, h1]
    show (match g d e with
      | none => SO.bad
      | some e1 => match body e1 S with
        | .nx e' S' => loopM src g body f (k + 1) e' S'
        | .ct e' S' => loopM src g body f (k + 1) e' S'
        | .bk e' S' => .nx e' S'
        | o => o) = _
    rw [h2]
    show (match body e1 S with
        | .nx e' S' => loopM src g body f (k + 1) e' S'
        | .ct e' S' => loopM src g body f (k + 1) e' S'
        | .bk e' S' => .nx e' S'
        | o => o) = _
    rcases h3 with h3 | h3
    · rw [h3]
      exact h5
    · rw [h3]
      exact h5
theorem loop_fix {ds : List D} {g : GM} {body : SM} {e : Env'} {S : Sto} (I : Nat → Env' → Sto → Prop) (h0 : I 0 e S)
    (hs : ∀ k e S d, ds[k]? = some d → I k e S → ∃ e1 e' S', g d e = some e1 ∧ (body e1 S = .nx e' S' ∨ body e1 S = .ct e' S') ∧ I (k + 1) e' S') :
    ∃ e' S', loopM (.fix ds) g body ((Src.fix ds).fuel S) 0 e S = .nx e' S' ∧ I ds.length e' S' := by
  refine loop_gen (fun k => ds[k]?) I (fun k e S _ _ => rfl) (by simp) (fun k e S hk h => ?_) ds.length 0 _ e S (by omega) (Nat.lt_succ_self _) h0
  have hd : ds[k]? = some ds[k] := List.getElem?_eq_getElem hk
  obtain ⟨e1, e', S', h1, h2, h3⟩ := hs k e S _ hd h
  exact ⟨_, e1, e', S', hd, h1, h2, h3⟩
theorem loop_rng {lo c : Int} {n : Nat} {g : GM} {body : SM} {e : Env'} {S : Sto} (I : Nat → Env' → Sto → Prop) (h0 : I 0 e S)
    (hs : ∀ k e S, k < n → I k e S → ∃ e1 e' S', g (.int (lo + (k : Nat) * c)) e = some e1 ∧ (body e1 S = .nx e' S' ∨ body e1 S = .ct e' S') ∧ I (k + 1) e' S') :
    ∃ e' S', loopM (.rng lo c n) g body ((Src.rng lo c n).fuel S) 0 e S = .nx e' S' ∧ I n e' S' := by
  refine loop_gen (fun k => if k < n then some (.int (lo + (k : Nat) * c)) else none) I (fun k e S _ _ => rfl) (by simp) (fun k e S hk h => ?_) n 0 _ e S (by omega) (Nat.lt_succ_self _) h0
  obtain ⟨e1, e', S', h1, h2, h3⟩ := hs k e S hk h
  exact ⟨_, e1, e', S', if_pos hk, h1, h2, h3⟩
theorem loop_cel {ds : List D} {i : Id} {g : GM} {body : SM} {e : Env'} {S : Sto} (I : Nat → Env' → Sto → Prop) (h0 : I 0 e S) (hI : ∀ k e S, I k e S → S.at_ i = some (.lst ds))
    (hs : ∀ k e S d, ds[k]? = some d → I k e S → ∃ e1 e' S', g d e = some e1 ∧ (body e1 S = .nx e' S' ∨ body e1 S = .ct e' S') ∧ I (k + 1) e' S') :
    ∃ e' S', loopM (.cel i) g body ((Src.cel i).fuel S) 0 e S = .nx e' S' ∧ I ds.length e' S' := by
  have hf : (Src.cel i).fuel S = ds.length + 1 := by
    show (match S.at_ i with | some (.lst ds) => ds.length + 1 | _ => 0) = _
    rw [hI 0 e S h0]
  refine loop_gen (fun k => ds[k]?) I (fun k e S _ h => ?_) (by simp) (fun k e S hk h => ?_) ds.length 0 _ e S (by omega) (by rw [hf]; exact Nat.lt_succ_self _) h0
  · show (match S.at_ i with | some (.lst ds) => some ds[k]? | _ => none) = _
    rw [hI k e S h]
  · have hd : ds[k]? = some ds[k] := List.getElem?_eq_getElem hk
    obtain ⟨e1, e', S', h1, h2, h3⟩ := hs k e S _ hd h
    exact ⟨_, e1, e', S', hd, h1, h2, h3⟩
/-! ### list comprehensions -/
theorem lc_gen {src : Src} {n : Nat} {g : GM} {tt : TM} {te : EM} {e : Env'} (item : Nat → Option D) (I : Nat → Sto → List D → Prop) (hget : ∀ k S acc, k ≤ n → I k S acc → src.get S k = some (item k)) (hn : item n = none)
    (hs : ∀ k S acc, k < n → I k S acc → ∃ d e1 b S1, item k = some d ∧ g d e = some e1 ∧ tt e1 S = .ok b S1 ∧ if b = true then ∃ y S2, te e1 S1 = .ok y S2 ∧ acc.length < 1000000 ∧ I (k + 1) S2 (acc ++ [y]) else I (k + 1) S1 acc) :
    ∀ (m k f : Nat) (S : Sto) (acc : List D), k + m = n → m < f → I k S acc → ∃ acc' S', lcLoop src g tt te f k e S acc = .ok acc' S' ∧ I n S' acc'
  | 0, k, 0, _, _, _, hf, _ => absurd hf (by omega)
  | 0, k, f + 1, S, acc, hk, _, h => by
    have e0 : k = n := by omega
    subst e0
    refine ⟨acc, S, ?_, h⟩
    unfold lcLoop
    rw [hget k S acc (Nat.le_refl _) h, hn]
  | m + 1, k, 0, _, _, _, hf, _ => absurd hf (by omega)
  | m + 1, k, f + 1, S, acc, hk, hf, h => by
    obtain ⟨d, e1, b, S1, h1, h2, h3, h4⟩ := hs k S acc (by omega) h
    have step : lcLoop src g tt te (f + 1) k e S acc = (noX (tt e1 S)).bind fun b S1 => if b = true then (noX (te e1 S1)).bind fun y S2 => if acc.length < 1000000 then lcLoop src g tt te f (k + 1) e S2 (acc ++ [y]) else .bad
        else lcLoop src g tt te f (k + 1) e S1 acc := by
      rw [show lcLoop src g tt te (f + 1) k e S acc = (match src.get S k with
        | none => .bad
        | some none => .ok acc S
        | some (some d) => match g d e with
          | none => .bad
          | some e1 => (noX (tt e1 S)).bind fun b S1 => if b = true then (noX (te e1 S1)).bind fun y S2 => if acc.length < 1000000 then lcLoop src g tt te f (k + 1) e S2 (acc ++ [y]) else .bad
            else lcLoop src g tt te f (k + 1) e S1 acc) from rfl, hget k S acc (by omega) h, h1]
      show (match g d e with
          | none => Out.bad
          | some e1 => (noX (tt e1 S)).bind fun b S1 => if b = true then (noX (te e1 S1)).bind fun y S2 => if acc.length < 1000000 then lcLoop src g tt te f (k + 1) e S2 (acc ++ [y]) else .bad
            else lcLoop src g tt te f (k + 1) e S1 acc) = _
      rw [h2]
    rw [step, h3]
    show ∃ acc' S', (if b = true then (noX (te e1 S1)).bind fun y S2 => if acc.length < 1000000 then lcLoop src g tt te f (k + 1) e S2 (acc ++ [y]) else .bad
        else lcLoop src g tt te f (k + 1) e S1 acc) = .ok acc' S' ∧ I n S' acc'
    cases b with
    | true =>
      obtain ⟨y, S2, h5, h6, h7⟩ := h4
      rw [if_pos rfl, h5]
      show ∃ acc' S', (if acc.length < 1000000 then lcLoop src g tt te f (k + 1) e S2 (acc ++ [y]) else .bad) = .ok acc' S' ∧ I n S' acc'
      rw [if_pos h6]
      exact lc_gen item I hget hn hs m (k + 1) f S2 _ (by omega) (by omega) h7
    | false =>
      rw [if_neg Bool.false_ne_true]
      exact lc_gen item I hget hn hs m (k + 1) f S1 _ (by omega) (by omega) h4
/-- of things that stand -/
theorem lc_fix {ds : List D} {g : GM} {tt : TM} {te : EM} {e : Env'} {S : Sto} (I : Nat → Sto → List D → Prop) (h0 : I 0 S [])
    (hs : ∀ k S acc d, ds[k]? = some d → I k S acc → ∃ e1 b S1, g d e = some e1 ∧ tt e1 S = .ok b S1 ∧ if b = true then ∃ y S2, te e1 S1 = .ok y S2 ∧ acc.length < 1000000 ∧ I (k + 1) S2 (acc ++ [y]) else I (k + 1) S1 acc) :
    ∃ acc S', lcLoop (.fix ds) g tt te ((Src.fix ds).fuel S) 0 e S [] = .ok acc S' ∧ I ds.length S' acc := by
  refine lc_gen (fun k => ds[k]?) I (fun k S acc _ _ => rfl) (by simp) (fun k S acc hk h => ?_) ds.length 0 _ S [] (by omega) (Nat.lt_succ_self _) h0
  have hd : ds[k]? = some ds[k] := List.getElem?_eq_getElem hk
  obtain ⟨e1, b, S1, h1, h2, h3⟩ := hs k S acc _ hd h
  exact ⟨_, e1, b, S1, hd, h1, h2, h3⟩
theorem lc_cel {ds : List D} {i : Id} {g : GM} {tt : TM} {te : EM} {e : Env'} {S : Sto} (I : Nat → Sto → List D → Prop) (h0 : I 0 S []) (hI : ∀ k S acc, I k S acc → S.at_ i = some (.lst ds))
    (hs : ∀ k S acc d, ds[k]? = some d → I k S acc → ∃ e1 b S1, g d e = some e1 ∧ tt e1 S = .ok b S1 ∧ if b = true then ∃ y S2, te e1 S1 = .ok y S2 ∧ acc.length < 1000000 ∧ I (k + 1) S2 (acc ++ [y]) else I (k + 1) S1 acc) :
    ∃ acc S', lcLoop (.cel i) g tt te ((Src.cel i).fuel S) 0 e S [] = .ok acc S' ∧ I ds.length S' acc := by
  have hf : (Src.cel i).fuel S = ds.length + 1 := by
    show (match S.at_ i with | some (.lst ds) => ds.length + 1 | _ => 0) = _
    rw [hI 0 S [] h0]
  refine lc_gen (fun k => ds[k]?) I (fun k S acc _ h => ?_) (by simp) (fun k S acc hk h => ?_) ds.length 0 _ S [] (by omega) (by rw [hf]; exact Nat.lt_succ_self _) h0
  · show (match S.at_ i with | some (.lst ds) => some ds[k]? | _ => none) = _
    rw [hI k S acc h]
  · have hd : ds[k]? = some ds[k] := List.getElem?_eq_getElem hk
    obtain ⟨e1, b, S1, h1, h2, h3⟩ := hs k S acc _ hd h
    exact ⟨_, e1, b, S1, hd, h1, h2, h3⟩
theorem lc_rng {lo c : Int} {n : Nat} {g : GM} {tt : TM} {te : EM} {e : Env'} {S : Sto} (I : Nat → Sto → List D → Prop) (h0 : I 0 S [])
    (hs : ∀ k S acc, k < n → I k S acc → ∃ e1 b S1, g (.int (lo + (k : Nat) * c)) e = some e1 ∧ tt e1 S = .ok b S1 ∧ if b = true then ∃ y S2, te e1 S1 = .ok y S2 ∧ acc.length < 1000000 ∧ I (k + 1) S2 (acc ++ [y]) else I (k + 1) S1 acc) :
    ∃ acc S', lcLoop (.rng lo c n) g tt te ((Src.rng lo c n).fuel S) 0 e S [] = .ok acc S' ∧ I n S' acc := by
  refine lc_gen (fun k => if k < n then some (.int (lo + (k : Nat) * c)) else none) I (fun k S acc _ _ => rfl) (by simp) (fun k S acc hk h => ?_) n 0 _ S [] (by omega) (Nat.lt_succ_self _) h0
  obtain ⟨e1, b, S1, h1, h2, h3⟩ := hs k S acc hk h
  exact ⟨_, e1, b, S1, if_pos hk, h1, h2, h3⟩
/-! ### stores -/
def Sto.Ok (S : Sto) : Prop := ∀ c k, S.nx ≤ k → S.at_ (.obj c k) = none
def Fr (ch : List Id) (S S' : Sto) : Prop := S.nx ≤ S'.nx ∧ ∀ i, S.at_ i ≠ none → i ∉ ch → S'.at_ i = S.at_ i
theorem Fr.refl (ch : List Id) (S : Sto) : Fr ch S S := ⟨Nat.le_refl _, fun _ _ _ => rfl⟩
theorem Fr.trans {ch : List Id} {S S1 S2 : Sto} (a : Fr ch S S1) (b : Fr ch S1 S2) : Fr ch S S2 := ⟨Nat.le_trans a.1 b.1, fun i h hn => by
  have h1 := a.2 i h hn
  rw [b.2 i (by rw [h1]; exact h) hn, h1]⟩
theorem Fr.mono {ch ch' : List Id} {S S' : Sto} (a : Fr ch S S') (h : ∀ i, i ∈ ch → i ∈ ch') : Fr ch' S S' := ⟨a.1, fun i hi hn => a.2 i hi fun z => hn (h i z)⟩
theorem Fr.get {ch : List Id} {S S' : Sto} (a : Fr ch S S') {i : Id} {c : Cell} (h : S.at_ i = some c) (hn : i ∉ ch) : S'.at_ i = some c := by
  rw [a.2 i (by rw [h]; exact fun z => by cases z) hn, h]
theorem sto0_ok : sto0.Ok := fun _ _ _ => rfl
theorem Sto.Ok.set {S : Sto} (h : S.Ok) {i : Id} {c : Cell} (hi : S.at_ i ≠ none) : (S.set i c).Ok := fun d k hk => by
  show (if Id.obj d k = i then some c else S.at_ (.obj d k)) = none
  split
  · rename_i e
    rw [← e] at hi
    exact (hi (h d k hk)).elim
  · exact h d k hk
theorem fr_set {S : Sto} {i : Id} {c : Cell} : Fr [i] S (S.set i c) := ⟨Nat.le_refl _, fun j _ hn => Sto.set_ne (by simpa using hn)⟩
theorem alloc_eq {S : Sto} (h : S.Ok) {c : Cell} : alloc none c S = .ok (.cell (.obj 0 S.nx)) (S.bump.set (.obj 0 S.nx) c) := by
  unfold alloc newId
  rw [h 0 S.nx (Nat.le_refl _)]
theorem alloc_k {S : Sto} (h : S.Ok) {c : Nat} {l : Cell} : (S.bump.set (.obj c S.nx) l).Ok := fun d k hk => by
  have hk' : S.nx + 1 ≤ k := hk
  rw [Sto.set_ne (fun e => by injection e; omega)]
  exact h d k (by omega)
theorem alloc_fr {S : Sto} (h : S.Ok) {c : Nat} {l : Cell} : Fr [] S (S.bump.set (.obj c S.nx) l) := ⟨Nat.le_succ _, fun i hi _ => by
  rw [Sto.set_ne (fun e => by rw [e] at hi; exact hi (h c S.nx (Nat.le_refl _)))]
  rfl⟩
theorem Sto.Ok.ne {S : Sto} (h : S.Ok) {i : Id} {c : Nat} (hi : S.at_ i ≠ none) : i ≠ .obj c S.nx := fun e => by
  rw [e] at hi
  exact hi (h c S.nx (Nat.le_refl _))
end Pyx
/-! draws -/
namespace Pyx
open PySem PySem.Spec PyProof.Rows L2
def kTake (G : Fn) : SM := seqM (ifS (tstM (binM eqD (subM (varM 0) (cM (.int 0))) (lstM nilM))) (seqM (putM (varM 0) (cM (.int 1)) (binM modD (binM mulD (subM (varM 0) (cM (.int 1))) (cM (.int 48271))) (cM (.int 2147483647)))) (seqM (retM (binM modD (binM fdivD (subM (varM 0) (cM (.int 1))) (cM (.int 7))) (varM 1))) skipM)) skipM) (seqM (asgM (gNm 2) (subM (subM (varM 0) (cM (.int 0))) (cM (.int 0)))) (seqM (putM (subM (varM 0) (cM (.int 0))) (cM (.int 0)) (binM fdivD (varM 2) (varM 1))) (seqM (ifS (orM (tstM (binM eqD (subM (subM (varM 0) (cM (.int 0))) (cM (.int 0))) (cM (.int 0)))) (tstM (binM eqD (subM (subM (varM 0) (cM (.int 0))) (cM (.int 0))) (negM (cM (.int 1)))))) (seqM (exprM (bmM 1 popG (subM (varM 0) (cM (.int 0))) (consM (cM (.int 0)) nilM))) skipM) skipM) (seqM (retM (binM modD (varM 2) (varM 1))) skipM))))
/-- the draws' box: a list at b of the numbers' list at c and a number -/
def Box (S : Sto) (b c : Id) : Prop := b ≠ c ∧ ∃ (st : Int) (ms : List Int), S.at_ b = some (.lst [.cell c, .int st]) ∧ S.at_ c = some (.lst (ms.map .int)) ∧ ms.length < 1000000
theorem Box.keep {S S' : Sto} {b c : Id} (h : Box S b c) (h1 : S'.at_ b = S.at_ b) (h2 : S'.at_ c = S.at_ c) : Box S' b c := by
  obtain ⟨hn, st, ms, hb, hc, hl⟩ := h
  exact ⟨hn, st, ms, by rw [h1]; exact hb, by rw [h2]; exact hc, hl⟩
theorem Box.fr {S S' : Sto} {b c : Id} {ch : List Id} (h : Box S b c) (f : Fr ch S S') (nb : b ∉ ch) (nc : c ∉ ch) : Box S' b c := by
  obtain ⟨hn, st, ms, hb, hc, hl⟩ := h
  exact ⟨hn, st, ms, f.get hb nb, f.get hc nc, hl⟩
/-! items of lists and tuples -/
theorem atI_nat {A : Type} {xs : List A} {i : Nat} {x : A} (h : xs[i]? = some x) : atI xs (i : Int) = some x := by
  have hi := (List.getElem?_eq_some_iff.mp h).1
  unfold atI ixN
  rw [if_pos (by omega), if_pos (by omega)]
  show xs[(i : Int).toNat]? = _
  rw [Int.toNat_natCast]
  exact h
theorem atI_zero {A : Type} {x : A} {xs : List A} : atI (x :: xs) 0 = some x := atI_nat (i := 0) rfl
theorem atI_one {A : Type} {x y : A} {xs : List A} : atI (x :: y :: xs) 1 = some y := atI_nat (i := 1) rfl
theorem atI_two {A : Type} {x y z : A} {xs : List A} : atI (x :: y :: z :: xs) 2 = some z := atI_nat (i := 2) rfl
theorem top1_cel {S : Sto} {i : Id} {ds : List D} (h : S.at_ i = some (.lst ds)) : top1 S (.cell i) = .lst ds := by
  simp only [top1, h]
theorem dget_lst {S : Sto} {i : Id} {ds : List D} {k : D} (h : S.at_ i = some (.lst ds)) : dget (.cell i) k S = none := by
  simp only [dget, h]
theorem ixD_cel {S : Sto} {i : Id} {ds : List D} {k : Int} (h : S.at_ i = some (.lst ds)) : ixD (.cell i) (.int k) S = atI ds k := by
  simp only [ixD, top1_cel h]
theorem dput_lst {S : Sto} {i : Id} {ds : List D} {k d : D} (h : S.at_ i = some (.lst ds)) : dput (.cell i) k d S = none := by
  simp only [dput, h]
theorem setI_lst {S : Sto} {i : Id} {ds : List D} {k : Int} {d : D} {n : Nat} (h : S.at_ i = some (.lst ds)) (hn : ixN ds.length k = some n) : setI (.cell i) (.int k) d S = some (S.set i (.lst (ds.set n d))) := by
  simp only [setI, dput_lst h, lput, h, hn, Option.map_some]
theorem noCells_ints : ∀ ms : List Int, noCells (ms.map .int) = true
  | [] => rfl
  | m :: r => by
    show (noCell (.int m) && noCells (r.map .int)) = true
    rw [noCells_ints r]
    rfl
theorem eqD_nil {S : Sto} {c : Id} {ms : List Int} (h : S.at_ c = some (.lst (ms.map .int))) : eqD (.cell c) (.lst []) S = some (.bl ms.isEmpty) := by
  unfold eqD
  rw [top1_cel h]
  show eqRaw false (.lst (ms.map .int)) (.lst []) = _
  unfold eqRaw
  have e2 : (noCell (.lst (ms.map .int)) && noCell (.lst []) && decide (min (py (.lst (ms.map .int))).depth (py (.lst [])).depth ≤ 64)) = true := by
    rw [Bool.and_eq_true, Bool.and_eq_true]
    refine ⟨⟨noCells_ints ms, rfl⟩, decide_eq_true ?_⟩
    have h2 : (py (.lst [])).depth = 1 := rfl
    omega
  rw [if_pos e2]
  cases ms <;> rfl
theorem eqD_int {S : Sto} {i j : Int} : eqD (.int i) (.int j) S = some (.bl (decide (i = j))) := by
  have h : (noCell (.int i) && noCell (.int j) && decide (min (py (.int i)).depth (py (.int j)).depth ≤ 64)) = true := rfl
  show eqRaw false (.int i) (.int j) = _
  unfold eqRaw
  rw [if_pos h]
  have : PyData.eqv (py (.int i)) (py (.int j)) = decide (i = j) := by
    show PyData.eqv (.int i) (.int j) = _
    first | rfl | (unfold PyData.eqv; first | rfl | simp)
  rw [this]
  cases decide (i = j) <;> rfl
theorem binM_ok {g : D → D → Sto → Option D} {a b : EM} {e : Env'} {S S1 S2 : Sto} {x y : D} (ha : a e S = .ok x S1) (hb : b e S1 = .ok y S2) : binM g a b e S = ofO (g x y S2) S2 := by
  show (a e S).bind _ = _
  rw [ha]
  show (b e S1).bind _ = _
  rw [hb]
  rfl
theorem consM_ok {a : EM} {r : AM} {e : Env'} {S S1 S2 : Sto} {x : D} {xs : List D} (ha : a e S = .ok x S1) (hb : r e S1 = .ok xs S2) : consM a r e S = .ok (x :: xs) S2 := by
  show (a e S).bind _ = _
  rw [ha]
  show (r e S1).bind _ = _
  rw [hb]
  rfl
theorem calM_ok {g : List D → Sto → Option D} {r : AM} {e : Env'} {S S1 : Sto} {xs : List D} (hb : r e S = .ok xs S1) : calM g r e S = ofO (g xs S1) S1 := by
  show (r e S).bind _ = _
  rw [hb]
  rfl
theorem callM_ok {np : Nat} {dd : List D} {g : List D → Sto → Out D} {r : AM} {e : Env'} {S S1 : Sto} {xs : List D} (hb : r e S = .ok xs S1) (hn : (xs ++ dd).length = np) : callM np dd g r e S = g (xs ++ dd) S1 := by
  show (r e S).bind _ = _
  rw [hb]
  show (if (xs ++ dd).length = np then g (xs ++ dd) S1 else .bad) = _
  rw [if_pos hn]
theorem modD_int {i j : Int} {S : Sto} (h : 0 < j) : modD (.int i) (.int j) S = some (.int (i % j)) := by
  simp only [modD, if_pos h]
theorem fdivD_int {i j : Int} {S : Sto} (h : 0 < j ∧ j < 1073741824) : fdivD (.int i) (.int j) S = some (.int (i / j)) := by
  simp only [fdivD, if_pos h]
theorem mulD_int {i j : Int} {S : Sto} (h : mulOk i j) : mulD (.int i) (.int j) S = some (.int (i * j)) := by
  simp only [mulD, if_pos h]
theorem mulOk_r {i j : Int} (h : -1000000000 < j ∧ j < 1000000000) : mulOk i j := .inr (by
  have : (2 : Int) ^ 64 = 18446744073709551616 := by decide
  omega)
theorem mulOk_l {i j : Int} (h : -1000000000 < i ∧ i < 1000000000) : mulOk i j := .inl (by
  have : (2 : Int) ^ 64 = 18446744073709551616 := by decide
  omega)
/-- a draw -/
theorem take_ok {G : Fn} {S : Sto} {b c : Id} {m : Int} (h : Box S b c) (hm : 0 < m ∧ m < 1073741824) :
    ∃ r S', defX 3 (kTake G) [.cell b, .int m] S = .ok (.int r) S' ∧ 0 ≤ r ∧ r < m ∧ Box S' b c ∧ S'.nx = S.nx ∧ ∀ i, i ≠ b → i ≠ c → S'.at_ i = S.at_ i := by
  obtain ⟨hn, st, ms, hb, hc, hl⟩ := h
  cases ms with
  | nil =>
    refine ⟨st * 48271 % 2147483647 / 7 % m, S.set b (.lst [.cell c, .int (st * 48271 % 2147483647)]), ?_, Int.emod_nonneg _ (by omega), Int.emod_lt_of_pos _ hm.1, ?_, rfl, fun i h1 h2 => Sto.set_ne h1⟩
    · have hb2 : (S.set b (.lst [.cell c, .int (st * 48271 % 2147483647)])).at_ b = some (.lst [.cell c, .int (st * 48271 % 2147483647)]) := Sto.set_same
      simp [defX, kTake, seqM, ifS, liftS, tstM, binM, subM, varM, cM, lstM, nilM, Out.bind, dget_lst hb, ixD_cel hb, atI_zero, atI_one, ofO, eqD_nil hc, boolOf, putM, mulD_int (mulOk_r (show -1000000000 < (48271 : Int) ∧ (48271 : Int) < 1000000000 by decide)),
        modD_int (show (0 : Int) < 2147483647 by decide), setI_lst hb (show ixN 2 1 = some 1 by decide), ofS, retM, dget_lst hb2, ixD_cel hb2, fdivD_int (show (0 : Int) < 7 ∧ (7 : Int) < 1073741824 by decide), modD_int hm.1]
    · exact ⟨hn, _, [], Sto.set_same, by rw [Sto.set_ne (Ne.symm hn)]; exact hc, by decide⟩
  | cons a ms =>
    have hc : S.at_ c = some (.lst (.int a :: ms.map .int)) := hc
    have hcb : c ≠ b := Ne.symm hn
    obtain ⟨q, hqd⟩ : ∃ q, q = a / m := ⟨_, rfl⟩
    have l1 : ixN (D.int a :: ms.map D.int).length 0 = some 0 := by
      unfold ixN
      rw [if_pos (by decide), if_pos (by rw [List.length_cons]; omega)]
      rfl
    have hset : setI (.cell c) (.int 0) (.int (q)) S = some (S.set c (.lst (.int (q) :: ms.map .int))) := setI_lst hc l1
    have he : eqD (.cell c) (.lst []) S = some (.bl false) := eqD_nil (ms := a :: ms) hc
    have hb2 : (S.set c (.lst (.int (q) :: ms.map .int))).at_ b = some (.lst [.cell c, .int st]) := by rw [Sto.set_ne hn]; exact hb
    have hc2 : (S.set c (.lst (.int (q) :: ms.map .int))).at_ c = some (.lst (.int (q) :: ms.map .int)) := Sto.set_same
    by_cases hq : q = 0 ∨ q = -1
    · refine ⟨a % m, (S.set c (.lst (.int (q) :: ms.map .int))).set c (.lst (ms.map .int)), ?_, Int.emod_nonneg _ (by omega), Int.emod_lt_of_pos _ hm.1, ?_, rfl, fun i h1 h2 => by rw [Sto.set_ne h2, Sto.set_ne h2]⟩
      · have l2 : (D.int (q) :: ms.map D.int).length < 1000000 := by
          rw [List.length_cons, List.length_map]
          rw [List.length_cons] at hl
          exact hl
        have l3 : ixN (D.int (q) :: ms.map D.int).length 0 = some 0 := by
          unfold ixN
          rw [if_pos (by decide), if_pos (by rw [List.length_cons]; omega)]
          rfl
        have hpop : popG (.cell c) [.int 0] (S.set c (.lst (.int (q) :: ms.map .int))) = some (.int (q), (S.set c (.lst (.int (q) :: ms.map .int))).set c (.lst (ms.map .int))) := by
          simp only [popG, hc2, if_pos l2, l3]
          rfl
        have hty : tyIs 1 (.cell c) (S.set c (.lst (.int (q) :: ms.map .int))) = true := by
          simp only [tyIs, hc2]
        have ht : (decide (q = 0) || decide (q = -1)) = true := by
          rcases hq with hq | hq
          · rw [decide_eq_true hq]
            rfl
          · rw [decide_eq_true hq, Bool.or_true]
        cases h0 : decide (q = 0) with
        | true => simp [defX, kTake, seqM, skipM, ifS, liftS, tstM, binM, subM, varM, cM, lstM, nilM, consM, Out.bind, dget_lst hb, ixD_cel hb, dget_lst hc, ixD_cel hc, atI_zero, atI_one, ofO, he, boolOf, putM, asgM, gNm, fdivD_int hm, hset, ofS, retM, dget_lst hb2, ixD_cel hb2, dget_lst hc2, ixD_cel hc2, modD_int hm.1, orM, eqD_int, negM, negI, exprM, bmM, ← hqd, hty, hpop, h0]
        | false =>
          rw [h0, Bool.false_or] at ht
          simp [defX, kTake, seqM, skipM, ifS, liftS, tstM, binM, subM, varM, cM, lstM, nilM, consM, Out.bind, dget_lst hb, ixD_cel hb, dget_lst hc, ixD_cel hc, atI_zero, atI_one, ofO, he, boolOf, putM, asgM, gNm, fdivD_int hm, hset, ofS, retM, dget_lst hb2, ixD_cel hb2, dget_lst hc2, ixD_cel hc2, modD_int hm.1, orM, eqD_int, negM, negI, exprM, bmM, ← hqd, hty, hpop, h0, ht]
      · exact ⟨hn, st, ms, by rw [Sto.set_ne hn, Sto.set_ne hn]; exact hb, Sto.set_same, by rw [List.length_cons] at hl; omega⟩
    · refine ⟨a % m, S.set c (.lst (.int (q) :: ms.map .int)), ?_, Int.emod_nonneg _ (by omega), Int.emod_lt_of_pos _ hm.1, ?_, rfl, fun i h1 h2 => by rw [Sto.set_ne h2]⟩
      · have h0 : decide (q = 0) = false := decide_eq_false fun z => hq (.inl z)
        have h1 : decide (q = -1) = false := decide_eq_false fun z => hq (.inr z)
        simp [defX, kTake, seqM, skipM, ifS, liftS, tstM, binM, subM, varM, cM, lstM, nilM, consM, Out.bind, dget_lst hb, ixD_cel hb, dget_lst hc, ixD_cel hc, atI_zero, atI_one, ofO, he, boolOf, putM, asgM, gNm, fdivD_int hm, hset, ofS, retM, dget_lst hb2, ixD_cel hb2, dget_lst hc2, ixD_cel hc2, modD_int hm.1, orM, eqD_int, negM, negI, exprM, bmM, ← hqd, h0, h1]
      · exact ⟨hn, st, q :: ms, hb2, hc2, by rw [List.length_cons] at hl ⊢; exact hl⟩
end Pyx
/-! what the laws share: their beginning, likeness -/
namespace Pyx
open PySem PySem.Spec PyProof.Rows L2
def kBegun (G : Fn) : SM := seqM (asgM (gNm 1) (cM (.int 0))) (seqM (forM (seqI (varM 0)) (gNm 2) (seqM (asgM (gNm 1) (binM modD (binM addD (binM addD (binM mulD (varM 1) (cM (.int 48271))) (binM mulD (varM 2) (cM (.int 69621)))) (cM (.int 11))) (cM (.int 2147483647)))) skipM)) (seqM (retM (lstC none (consM (listC none (varM 0)) (consM (binM mulD (varM 1) (calM intF (consM (binM gtD (calM lenF (consM (varM 0) nilM)) (cM (.int 2))) nilM))) nilM)))) skipM))
theorem begun_ok {G : Fn} {S : Sto} {ns : List Int} (hS : S.Ok) (hl : ns.length < 1000000) :
    ∃ b c S', defX 3 (kBegun G) [.scr ns] S = .ok (.cell b) S' ∧ Box S' b c ∧ S'.Ok ∧ Fr [] S S' ∧ S.at_ b = none ∧ S.at_ c = none := by
  obtain ⟨e', S', h1, h2, st, x, he⟩ := loop_fix (ds := ns.map .int) (g := gNm 2) (body := seqM (asgM (gNm 1) (binM modD (binM addD (binM addD (binM mulD (varM 1) (cM (.int 48271))) (binM mulD (varM 2) (cM (.int 69621)))) (cM (.int 11))) (cM (.int 2147483647)))) skipM)
    (e := [some (.scr ns), some (.int 0), none]) (S := S) (fun _ e S' => S' = S ∧ ∃ st x, e = [some (.scr ns), some (.int st), x]) ⟨rfl, 0, none, rfl⟩ (fun k e S' d hd ⟨h1, st, x, h2⟩ => by
      subst h1 h2
      rw [List.getElem?_map] at hd
      obtain ⟨n, _, rfl⟩ := Option.map_eq_some_iff.mp hd
      refine ⟨_, [some (.scr ns), some (.int ((st * 48271 + n * 69621 + 11) % 2147483647)), some (.int n)], S', rfl, .inl ?_, rfl, _, _, rfl⟩
      simp [seqM, skipM, asgM, gNm, binM, varM, cM, Out.bind, liftS, mulD_int (mulOk_r (show -1000000000 < (48271 : Int) ∧ (48271 : Int) < 1000000000 by decide)), mulD_int (mulOk_r (show -1000000000 < (69621 : Int) ∧ (69621 : Int) < 1000000000 by decide)), addD, ofO, modD_int (show (0 : Int) < 2147483647 by decide)])
  subst h2 he
  have g1 := alloc_eq hS (c := .lst (ns.map .int))
  have hS1 := alloc_k hS (c := 0) (l := .lst (ns.map .int))
  have f1 := alloc_fr hS (c := 0) (l := .lst (ns.map .int))
  generalize hT : S'.bump.set (.obj 0 S'.nx) (.lst (ns.map .int)) = T at *
  have hT1 : T.at_ (.obj 0 S'.nx) = some (.lst (ns.map .int)) := by
    rw [← hT]
    exact Sto.set_same
  have hTn : T.nx = S'.nx + 1 := by
    rw [← hT]
    rfl
  obtain ⟨v, hv⟩ : ∃ v : Int, (calM intF (consM (binM gtD (calM lenF (consM (varM 0) nilM)) (cM (.int 2))) nilM)) [some (.scr ns), some (.int st), x] T = .ok (.int v) T ∧ -1000000000 < v ∧ v < 1000000000 := by
    refine ⟨if (2 : Int) < ns.length then 1 else 0, ?_, by split <;> omega⟩
    have hlen : lenF [D.scr ns] T = some (.int ns.length) := by
      show ((some (ns.map D.int)).map fun ds => D.int ds.length) = _
      simp
    simp [calM, consM, nilM, binM, varM, cM, Out.bind, ofO, hlen, cmpI, intF]
  have g2 := alloc_eq hS1 (c := .lst [.cell (.obj 0 S'.nx), .int (st * v)])
  have hS2 := alloc_k hS1 (c := 0) (l := .lst [.cell (.obj 0 S'.nx), .int (st * v)])
  have f2 := alloc_fr hS1 (c := 0) (l := .lst [.cell (.obj 0 S'.nx), .int (st * v)])
  refine ⟨.obj 0 T.nx, .obj 0 S'.nx, _, ?_, ⟨fun e => ?_, st * v, ns, Sto.set_same, ?_, hl⟩, hS2, f1.trans f2, hS _ _ (by omega), hS _ _ (Nat.le_refl _)⟩
  · have hsrc : seqI (varM 0) [some (.scr ns), some (.int 0), none] S' = .ok (.fix (ns.map .int)) S' := rfl
    have hlst : listC none (varM 0) [some (.scr ns), some (.int st), x] S' = .ok (.cell (.obj 0 S'.nx)) T := by
      show (match itemsD S' (.scr ns) with | some ds => alloc none (.lst ds) S' | none => .bad) = _
      exact g1
    have hmul : binM mulD (varM 1) (calM intF (consM (binM gtD (calM lenF (consM (varM 0) nilM)) (cM (.int 2))) nilM)) [some (.scr ns), some (.int st), x] T = .ok (.int (st * v)) T := by
      rw [binM_ok (a := varM 1) (x := .int st) rfl hv.1, mulD_int (mulOk_r hv.2)]
      rfl
    have hret : lstC none (consM (listC none (varM 0)) (consM (binM mulD (varM 1) (calM intF (consM (binM gtD (calM lenF (consM (varM 0) nilM)) (cM (.int 2))) nilM))) nilM)) [some (.scr ns), some (.int st), x] S' = alloc none (.lst [.cell (.obj 0 S'.nx), .int (st * v)]) T := by
      simp [lstC, consM, nilM, hlst, hmul]
    simp [defX, kBegun, seqM, asgM, gNm, cM, liftS, forM, hsrc, h1, retM, hret, g2]
  · injection e with _ e
    omega
  · rw [Sto.set_ne (fun e => by injection e with _ e; omega)]
    exact hT1
end Pyx
/-! likeness -/
namespace Pyx
open PySem PySem.Spec PyProof.Rows L2
def kAlikeL (f : Nat) (G : Fn) : SM := forM (rng1I (consM (calM lenF (consM (varM 1) nilM)) nilM)) (gNm 2) (seqM (ifS (notM (tstM (callM 2 ([]) (G f) (consM (subM (varM 0) (varM 2)) (consM (subM (varM 1) (varM 2)) nilM))))) (seqM (retM (cM (.bl false))) skipM) skipM) skipM)
def kAlike (f : Nat) (G : Fn) : SM := seqM (ifS (tstM (binM isND (varM 1) (cM .non))) (seqM (retM (binM isND (varM 0) (cM .non))) skipM) skipM) (seqM (ifS (tstM (isiM ("bool") (varM 1))) (seqM (retM (andV (isiM ("bool") (varM 0)) (binM eqD (varM 0) (varM 1)))) skipM) skipM) (seqM (ifS (tstM (isiM ("int") (varM 1))) (seqM (retM (andV (isiM ("int") (varM 0)) (andV (notV (isiM ("bool") (varM 0))) (binM eqD (varM 0) (varM 1))))) skipM) skipM) (seqM (ifS (tstM (isiM ("str") (varM 1))) (seqM (retM (andV (isiM ("str") (varM 0)) (binM eqD (varM 0) (varM 1)))) skipM) skipM) (seqM (ifS (orM (tstM (binM neD (isiM ("tuple") (varM 1)) (isiM ("tuple") (varM 0)))) (tstM (binM neD (isiM ("list") (varM 1)) (isiM ("list") (varM 0))))) (seqM (retM (cM (.bl false))) skipM) skipM) (seqM (ifS (tstM (binM neD (calM lenF (consM (varM 0) nilM)) (calM lenF (consM (varM 1) nilM)))) (seqM (retM (cM (.bl false))) skipM) skipM) (seqM (kAlikeL f G) (seqM (retM (cM (.bl true))) skipM)))))))
theorem kit_bb : kitB "bool" "bool" = some true := by kernel_rfl
theorem kit_bi : kitB "bool" "int" = some true := by kernel_rfl
theorem kit_bs : kitB "bool" "str" = some false := by kernel_rfl
theorem kit_bt : kitB "bool" "tuple" = some false := by kernel_rfl
theorem kit_bl : kitB "bool" "list" = some false := by kernel_rfl
theorem kit_ib : kitB "int" "bool" = some false := by kernel_rfl
theorem kit_ii : kitB "int" "int" = some true := by kernel_rfl
theorem kit_is : kitB "int" "str" = some false := by kernel_rfl
theorem kit_it : kitB "int" "tuple" = some false := by kernel_rfl
theorem kit_il : kitB "int" "list" = some false := by kernel_rfl
theorem kit_sb : kitB "str" "bool" = some false := by kernel_rfl
theorem kit_si : kitB "str" "int" = some false := by kernel_rfl
theorem kit_ss : kitB "str" "str" = some true := by kernel_rfl
theorem kit_st : kitB "str" "tuple" = some false := by kernel_rfl
theorem kit_sl : kitB "str" "list" = some false := by kernel_rfl
theorem kit_tb : kitB "tuple" "bool" = some false := by kernel_rfl
theorem kit_ti : kitB "tuple" "int" = some false := by kernel_rfl
theorem kit_ts : kitB "tuple" "str" = some false := by kernel_rfl
theorem kit_tt : kitB "tuple" "tuple" = some true := by kernel_rfl
theorem kit_tl : kitB "tuple" "list" = some false := by kernel_rfl
theorem kit_lb : kitB "list" "bool" = some false := by kernel_rfl
theorem kit_li : kitB "list" "int" = some false := by kernel_rfl
theorem kit_ls : kitB "list" "str" = some false := by kernel_rfl
theorem kit_lt : kitB "list" "tuple" = some false := by kernel_rfl
theorem kit_ll : kitB "list" "list" = some true := by kernel_rfl
theorem kit_nb : kitB "NoneType" "bool" = some false := by kernel_rfl
theorem kit_ni : kitB "NoneType" "int" = some false := by kernel_rfl
theorem kit_ns : kitB "NoneType" "str" = some false := by kernel_rfl
theorem kit_nt : kitB "NoneType" "tuple" = some false := by kernel_rfl
theorem kit_nl : kitB "NoneType" "list" = some false := by kernel_rfl
theorem isi_eq {T t : String} {d : D} {S : Sto} {b : Bool} (h : tyName S d = some t) (k : kitB t T = some b) : isiF T d S = some (.bl b) := by
  unfold isiF
  rw [h]
  show (kitB t T).map D.bl = _
  rw [k]
  rfl
theorem i_bb {v : Bool} {S : Sto} : isiF "bool" (.bl v) S = some (.bl true) := isi_eq rfl kit_bb
theorem i_bi {v : Bool} {S : Sto} : isiF "int" (.bl v) S = some (.bl true) := isi_eq rfl kit_bi
theorem i_bs {v : Bool} {S : Sto} : isiF "str" (.bl v) S = some (.bl false) := isi_eq rfl kit_bs
theorem i_bt {v : Bool} {S : Sto} : isiF "tuple" (.bl v) S = some (.bl false) := isi_eq rfl kit_bt
theorem i_bl {v : Bool} {S : Sto} : isiF "list" (.bl v) S = some (.bl false) := isi_eq rfl kit_bl
theorem i_ib {v : Int} {S : Sto} : isiF "bool" (.int v) S = some (.bl false) := isi_eq rfl kit_ib
theorem i_ii {v : Int} {S : Sto} : isiF "int" (.int v) S = some (.bl true) := isi_eq rfl kit_ii
theorem i_is {v : Int} {S : Sto} : isiF "str" (.int v) S = some (.bl false) := isi_eq rfl kit_is
theorem i_it {v : Int} {S : Sto} : isiF "tuple" (.int v) S = some (.bl false) := isi_eq rfl kit_it
theorem i_il {v : Int} {S : Sto} : isiF "list" (.int v) S = some (.bl false) := isi_eq rfl kit_il
theorem i_sb {v : Str} {S : Sto} : isiF "bool" (.str v) S = some (.bl false) := isi_eq rfl kit_sb
theorem i_si {v : Str} {S : Sto} : isiF "int" (.str v) S = some (.bl false) := isi_eq rfl kit_si
theorem i_ss {v : Str} {S : Sto} : isiF "str" (.str v) S = some (.bl true) := isi_eq rfl kit_ss
theorem i_st {v : Str} {S : Sto} : isiF "tuple" (.str v) S = some (.bl false) := isi_eq rfl kit_st
theorem i_sl {v : Str} {S : Sto} : isiF "list" (.str v) S = some (.bl false) := isi_eq rfl kit_sl
theorem i_tb {v : List D} {S : Sto} : isiF "bool" (.tup v) S = some (.bl false) := isi_eq rfl kit_tb
theorem i_ti {v : List D} {S : Sto} : isiF "int" (.tup v) S = some (.bl false) := isi_eq rfl kit_ti
theorem i_ts {v : List D} {S : Sto} : isiF "str" (.tup v) S = some (.bl false) := isi_eq rfl kit_ts
theorem i_tt {v : List D} {S : Sto} : isiF "tuple" (.tup v) S = some (.bl true) := isi_eq rfl kit_tt
theorem i_tl {v : List D} {S : Sto} : isiF "list" (.tup v) S = some (.bl false) := isi_eq rfl kit_tl
theorem i_lb {v : List D} {S : Sto} : isiF "bool" (.lst v) S = some (.bl false) := isi_eq rfl kit_lb
theorem i_li {v : List D} {S : Sto} : isiF "int" (.lst v) S = some (.bl false) := isi_eq rfl kit_li
theorem i_ls {v : List D} {S : Sto} : isiF "str" (.lst v) S = some (.bl false) := isi_eq rfl kit_ls
theorem i_lt {v : List D} {S : Sto} : isiF "tuple" (.lst v) S = some (.bl false) := isi_eq rfl kit_lt
theorem i_ll {v : List D} {S : Sto} : isiF "list" (.lst v) S = some (.bl true) := isi_eq rfl kit_ll
theorem i_nb  {S : Sto} : isiF "bool" .non S = some (.bl false) := isi_eq rfl kit_nb
theorem i_ni  {S : Sto} : isiF "int" .non S = some (.bl false) := isi_eq rfl kit_ni
theorem i_ns  {S : Sto} : isiF "str" .non S = some (.bl false) := isi_eq rfl kit_ns
theorem i_nt  {S : Sto} : isiF "tuple" .non S = some (.bl false) := isi_eq rfl kit_nt
theorem i_nl  {S : Sto} : isiF "list" .non S = some (.bl false) := isi_eq rfl kit_nl
theorem neD_int {S : Sto} {i j : Int} : neD (.int i) (.int j) S = some (.bl (!decide (i = j))) := by
  have h : (noCell (.int i) && noCell (.int j) && decide (min (py (.int i)).depth (py (.int j)).depth ≤ 64)) = true := rfl
  show eqRaw true (.int i) (.int j) = _
  unfold eqRaw
  rw [if_pos h]
  have : PyData.eqv (py (.int i)) (py (.int j)) = decide (i = j) := by
    show PyData.eqv (.int i) (.int j) = _
    first | rfl | (unfold PyData.eqv; first | rfl | simp)
  rw [this]
  cases decide (i = j) <;> rfl
theorem neD_bl {S : Sto} {i j : Bool} : neD (.bl i) (.bl j) S = some (.bl (i != j)) := by
  cases i <;> cases j <;> rfl
theorem eqD_bl {S : Sto} {i j : Bool} : eqD (.bl i) (.bl j) S = some (.bl (i == j)) := by
  cases i <;> cases j <;> rfl
theorem eqD_str {S : Sto} {i j : Str} : eqD (.str i) (.str j) S = some (.bl (decide (i = j))) := by
  have h : (noCell (.str i) && noCell (.str j) && decide (min (py (.str i)).depth (py (.str j)).depth ≤ 64)) = true := rfl
  show eqRaw false (.str i) (.str j) = _
  unfold eqRaw
  rw [if_pos h]
  have : PyData.eqv (py (.str i)) (py (.str j)) = decide (i = j) := by
    show PyData.eqv (.str i) (.str j) = _
    unfold PyData.eqv
    first | rfl | (simp; done) | (by_cases e : i = j <;> simp [e])
  rw [this]
  cases decide (i = j) <;> rfl
/-- data without stores -/
inductive Pl : Nat → D → Prop
  | non {n : Nat} : Pl n .non
  | bl {n : Nat} {b : Bool} : Pl n (.bl b)
  | int {n : Nat} {i : Int} : Pl n (.int i)
  | str {n : Nat} {s : Str} : Pl n (.str s)
  | tup {n : Nat} {ds : List D} (h : ∀ d ∈ ds, Pl n d) (hl : ds.length < 1000000) : Pl (n + 1) (.tup ds)
  | lst {n : Nat} {ds : List D} (h : ∀ d ∈ ds, Pl n d) (hl : ds.length < 1000000) : Pl (n + 1) (.lst ds)
theorem alike_loop {f : Nat} {G : Fn} {S : Sto} {x y : D} {ds : List D} (h : ∀ d ∈ ds, G f [d, d] S = .ok (.bl true) S) (hl : ds.length < 1000000) (hx : ∀ k d, ds[k]? = some d → dget x (.int (k : Nat)) S = none ∧ ixD x (.int (k : Nat)) S = some d) (hy : ∀ k d, ds[k]? = some d → dget y (.int (k : Nat)) S = none ∧ ixD y (.int (k : Nat)) S = some d)
    (hn : lenF [y] S = some (.int ds.length)) : ∃ e, kAlikeL f G [some x, some y, none] S = .nx e S := by
  have hr : rng1I (consM (calM lenF (consM (varM 1) nilM)) nilM) [some x, some y, none] S = .ok (.rng 0 1 ds.length) S := by
    simp [rng1I, consM, nilM, calM, varM, Out.bind, ofO, hn]
    omega
  obtain ⟨e', S', h1, h2, z, h3⟩ := loop_rng (lo := 0) (c := 1) (n := ds.length) (g := gNm 2) (body := seqM (ifS (notM (tstM (callM 2 ([]) (G f) (consM (subM (varM 0) (varM 2)) (consM (subM (varM 1) (varM 2)) nilM))))) (seqM (retM (cM (.bl false))) skipM) skipM) skipM)
    (e := [some x, some y, none]) (S := S) (fun _ e S' => S' = S ∧ ∃ z, e = [some x, some y, z]) ⟨rfl, none, rfl⟩ (fun k e S' hk ⟨h1, z, h2⟩ => by
      subst h1 h2
      have hd : ds[k]? = some ds[k] := List.getElem?_eq_getElem hk
      obtain ⟨x1, x2⟩ := hx k _ hd
      obtain ⟨y1, y2⟩ := hy k _ hd
      have hg := h ds[k] (List.mem_of_getElem? hd)
      have e0 : (0 : Int) + (k : Nat) * 1 = (k : Nat) := by omega
      rw [e0]
      refine ⟨_, [some x, some y, some (.int (k : Nat))], S', rfl, .inl ?_, rfl, _, rfl⟩
      simp [seqM, skipM, ifS, notM, tstM, callM, consM, nilM, subM, varM, Out.bind, liftS, ofO, boolOf, x1, x2, y1, y2, hg])
  subst h2
  refine ⟨e', ?_⟩
  unfold kAlikeL forM
  rw [hr]
  exact h1
theorem skip_if {c : TM} {a r : SM} {e : Env'} {S : Sto} (h : c e S = .ok false S) : seqM (ifS c a skipM) r e S = r e S := by
  have : ifS c a skipM e S = .nx e S := by
    show liftS (c e S) e _ = _
    rw [h]
    rfl
  exact seqM_nx this
theorem do_if {c : TM} {a b r : SM} {e : Env'} {S : Sto} {d : D} {S' : Sto} (h : c e S = .ok true S) (ha : a e S = .rt d S') : seqM (ifS c a b) r e S = .rt d S' := by
  have : ifS c a b e S = .rt d S' := by
    show liftS (c e S) e _ = _
    rw [h]
    exact ha
  exact seqM_rt this
theorem tst_ok {a : EM} {e : Env'} {S S' : Sto} {b : Bool} (h : a e S = .ok (.bl b) S') : tstM a e S = .ok b S' := by
  show (a e S).bind _ = _
  rw [h]
  rfl
theorem isiM_ok {T : String} {a : EM} {e : Env'} {S S' : Sto} {d r : D} (h : a e S = .ok d S') (hi : isiF T d S' = some r) : isiM T a e S = .ok r S' := by
  show (a e S).bind _ = _
  rw [h]
  show ofO (isiF T d S') S' = _
  rw [hi]
  rfl
theorem binM_eq {g : D → D → Sto → Option D} {a b : EM} {e : Env'} {S S1 S2 : Sto} {x y z : D} (ha : a e S = .ok x S1) (hb : b e S1 = .ok y S2) (hg : g x y S2 = some z) : binM g a b e S = .ok z S2 := by
  rw [binM_ok ha hb, hg]
  rfl
theorem orM_no {t u : TM} {e : Env'} {S : Sto} {b : Bool} (h : t e S = .ok false S) (h2 : u e S = .ok b S) : orM t u e S = .ok b S := by
  show (t e S).bind _ = _
  rw [h]
  exact h2
theorem cal_eq {g : List D → Sto → Option D} {r : AM} {e : Env'} {S S1 : Sto} {xs : List D} {d : D} (hb : r e S = .ok xs S1) (hg : g xs S1 = some d) : calM g r e S = .ok d S1 := by
  rw [calM_ok hb, hg]
  rfl
theorem alike_seq {f : Nat} {G : Fn} {S : Sto} {x y : D} {n : Int} {t1 t2 : Bool} {e : Env'} (h0 : isND y .non S = some (.bl false)) (hb : isiF "bool" y S = some (.bl false)) (hi : isiF "int" y S = some (.bl false)) (hs : isiF "str" y S = some (.bl false))
    (ht : isiF "tuple" y S = some (.bl t1)) (ht2 : isiF "tuple" x S = some (.bl t1)) (hl : isiF "list" y S = some (.bl t2)) (hl2 : isiF "list" x S = some (.bl t2)) (n1 : lenF [x] S = some (.int n)) (n2 : lenF [y] S = some (.int n)) (he : kAlikeL f G [some x, some y, none] S = .nx e S) :
    defX 3 (kAlike f G) [x, y] S = .ok (.bl true) S := by
  have v0 : varM 0 [some x, some y, none] S = .ok x S := rfl
  have v1 : varM 1 [some x, some y, none] S = .ok y S := rfl
  have key : kAlike f G [some x, some y, none] S = .rt (.bl true) S := by
    unfold kAlike
    rw [skip_if (tst_ok (binM_eq v1 rfl h0)), skip_if (tst_ok (isiM_ok v1 hb)), skip_if (tst_ok (isiM_ok v1 hi)), skip_if (tst_ok (isiM_ok v1 hs)),
      skip_if (orM_no (tst_ok (binM_eq (isiM_ok v1 ht) (isiM_ok v0 ht2) (z := .bl false) (by rw [neD_bl, bne_self_eq_false]))) (tst_ok (binM_eq (isiM_ok v1 hl) (isiM_ok v0 hl2) (z := .bl false) (by rw [neD_bl, bne_self_eq_false])))),
      skip_if (tst_ok (binM_eq (cal_eq (consM_ok v0 rfl) n1) (cal_eq (consM_ok v1 rfl) n2) (z := .bl false) (by rw [neD_int, decide_eq_true rfl]; rfl))), seqM_nx he]
    rfl
  unfold defX
  show (match kAlike f G [some x, some y, none] S with
    | .nx _ S' => Out.ok D.non S'
    | .rt d S' => .ok d S'
    | .exc x _ S' => .exc x S'
    | _ => .bad) = _
  rw [key]
theorem alike_ok {f : Nat} {G : Nat → Fn} (hG : ∀ j d S, G (j + 1) f d S = defX 3 (kAlike f (G j)) d S) : ∀ {n : Nat} {d : D} (S : Sto), Pl n d → ∀ j, n < j → G j f [d, d] S = .ok (.bl true) S := by
  intro n
  induction n with
  | zero =>
    intro d S h j hj
    obtain ⟨i, rfl⟩ : ∃ i, j = i + 1 := ⟨j - 1, by omega⟩
    rw [hG]
    cases h with
    | non => simp [defX, kAlike, seqM, ifS, liftS, tstM, binM, varM, cM, Out.bind, isND, ofO, boolOf, retM]
    | bl => simp [defX, kAlike, seqM, skipM, ifS, liftS, tstM, binM, varM, cM, Out.bind, isND, ofO, boolOf, retM, isiM, i_bb, andV, eqD_bl]
    | int => simp [defX, kAlike, seqM, skipM, ifS, liftS, tstM, binM, varM, cM, Out.bind, isND, ofO, boolOf, retM, isiM, i_ib, i_ii, andV, notV, eqD_int]
    | str => simp [defX, kAlike, seqM, skipM, ifS, liftS, tstM, binM, varM, cM, Out.bind, isND, ofO, boolOf, retM, isiM, i_sb, i_si, i_ss, andV, notV, eqD_str]
  | succ n ih =>
    intro d S h j hj
    obtain ⟨i, rfl⟩ : ∃ i, j = i + 1 := ⟨j - 1, by omega⟩
    rw [hG]
    cases h with
    | non => simp [defX, kAlike, seqM, ifS, liftS, tstM, binM, varM, cM, Out.bind, isND, ofO, boolOf, retM]
    | bl => simp [defX, kAlike, seqM, skipM, ifS, liftS, tstM, binM, varM, cM, Out.bind, isND, ofO, boolOf, retM, isiM, i_bb, andV, eqD_bl]
    | int => simp [defX, kAlike, seqM, skipM, ifS, liftS, tstM, binM, varM, cM, Out.bind, isND, ofO, boolOf, retM, isiM, i_ib, i_ii, andV, notV, eqD_int]
    | str => simp [defX, kAlike, seqM, skipM, ifS, liftS, tstM, binM, varM, cM, Out.bind, isND, ofO, boolOf, retM, isiM, i_sb, i_si, i_ss, andV, notV, eqD_str]
    | @tup _ ds h hl =>
      have hx : ∀ (k : Nat) (d : D), ds[k]? = some d → dget (.tup ds) (.int (k : Nat)) S = none ∧ ixD (.tup ds) (.int (k : Nat)) S = some d := fun k d hd => ⟨rfl, atI_nat hd⟩
      obtain ⟨e, he⟩ := alike_loop (f := f) (G := G i) (fun d hd => ih S (h d hd) i (by omega)) hl hx hx rfl
      exact alike_seq rfl i_tb i_ti i_ts i_tt i_tt i_tl i_tl rfl rfl he
    | @lst _ ds h hl =>
      have hx : ∀ (k : Nat) (d : D), ds[k]? = some d → dget (.lst ds) (.int (k : Nat)) S = none ∧ ixD (.lst ds) (.int (k : Nat)) S = some d := fun k d hd => ⟨rfl, atI_nat hd⟩
      obtain ⟨e, he⟩ := alike_loop (f := f) (G := G i) (fun d hd => ih S (h d hd) i (by omega)) hl hx hx rfl
      exact alike_seq rfl i_lb i_li i_ls i_lt i_lt i_ll i_ll rfl rfl he
end Pyx
/-! steps of expressions and statements, one lemma each -/
namespace Pyx
open PySem PySem.Spec PyProof.Rows L2
section
variable {e : Env'} {S S1 S2 S3 : Sto}
theorem methM_ok {tb : Tb} {np : Nat → Nat} {G : Fn} {m n f c : Nat} {a : EM} {t : AM} {i : Id} {fs : List (Nat × D)} {dd ds : List D} (ha : a e S = .ok (.cell i) S1) (hi : S1.at_ i = some (.ins c fs)) (hm : tb.mt c m = some f) (hl : fs.lookup m = none) (hd : tb.df f n = some dd)
    (ht : t e S1 = .ok ds S2) (hn : (D.cell i :: (ds ++ dd)).length = np f) : methM tb np G m n a t e S = G f (.cell i :: (ds ++ dd)) S2 := by
  simp only [methM, ha, bind_ok, hi, hm, hl, hd, ht]
  rw [if_pos hn]
theorem attM_ok {tb : Tb} {f c : Nat} {a : EM} {i : Id} {fs : List (Nat × D)} {d : D} (ha : a e S = .ok (.cell i) S1) (hi : S1.at_ i = some (.ins c fs)) (hp : tb.pl c f = true) (hl : fs.lookup f = some d) : attM tb f a e S = .ok d S1 := by
  simp only [attM, ha, bind_ok, getA, hi, hp, if_true, hl, ofO_some]
theorem subM_tup {a b : EM} {ds : List D} {k : Int} {d : D} (ha : a e S = .ok (.tup ds) S1) (hb : b e S1 = .ok (.int k) S2) (hd : atI ds k = some d) : subM a b e S = .ok d S2 := by
  simp only [subM, ha, hb, bind_ok, dget, ixD, top1, hd, ofO_some]
theorem subM_lst {a b : EM} {ds : List D} {k : Int} {d : D} (ha : a e S = .ok (.lst ds) S1) (hb : b e S1 = .ok (.int k) S2) (hd : atI ds k = some d) : subM a b e S = .ok d S2 := by
  simp only [subM, ha, hb, bind_ok, dget, ixD, top1, hd, ofO_some]
theorem subM_cel {a b : EM} {i : Id} {ds : List D} {k : Int} {d : D} (ha : a e S = .ok (.cell i) S1) (hb : b e S1 = .ok (.int k) S2) (hi : S2.at_ i = some (.lst ds)) (hd : atI ds k = some d) : subM a b e S = .ok d S2 := by
  simp only [subM, ha, hb, bind_ok, dget_lst hi, ixD_cel hi, hd, ofO_some]
theorem subM_dT {a b : EM} {i : Id} {kvs : List (List Key × D)} {k d : D} {q : List Key} (ha : a e S = .ok (.cell i) S1) (hb : b e S1 = .ok k S2) (hi : S2.at_ i = some (.dT kvs)) (hk : keyT k = some q) (hd : valD kvs q = some d) : subM a b e S = .ok d S2 := by
  simp only [subM, ha, hb, bind_ok, dget, hi, hk, Option.map_some, hd, ofO_some]
theorem tupM_ok {t : AM} {ds : List D} (ht : t e S = .ok ds S1) (hl : ds.length ≤ 1000) : tupM t e S = .ok (.tup ds) S1 := by
  simp only [tupM, ht, bind_ok, if_pos hl]
theorem lstM_ok {t : AM} {ds : List D} (ht : t e S = .ok ds S1) (hl : ds.length ≤ 1000) : lstM t e S = .ok (.lst ds) S1 := by
  simp only [lstM, ht, bind_ok, if_pos hl]
theorem nilM_ok : nilM e S = .ok [] S := rfl
theorem cM_ok {d : D} : cM d e S = .ok d S := rfl
theorem varM_ok {i : Nat} {d : D} (h : e[i]? = some (some d)) : varM i e S = .ok d S := by
  simp only [varM, h]
theorem asg_ok {g : GM} {a : EM} {e' : Env'} {d : D} {r : SM} (ha : a e S = .ok d S1) (hg : g d e = some e') : seqM (asgM g a) r e S = r e' S1 := by
  have : asgM g a e S = .nx e' S1 := by
    simp only [asgM, ha, liftS_ok, hg]
  exact seqM_nx this
theorem ret_ok {a : EM} {d : D} {r : SM} (ha : a e S = .ok d S1) : seqM (retM a) r e S = .rt d S1 := by
  have : retM a e S = .rt d S1 := by
    simp only [retM, ha, liftS_ok]
  exact seqM_rt this
theorem expr_ok {a : EM} {d : D} {r : SM} (ha : a e S = .ok d S1) : seqM (exprM a) r e S = r e S1 := by
  have : exprM a e S = .nx e S1 := by
    simp only [exprM, ha, liftS_ok]
  exact seqM_nx this
theorem put_ok {o i a : EM} {d x y : D} {T : Sto} {r : SM} (ha : a e S = .ok d S1) (ho : o e S1 = .ok x S2) (hi : i e S2 = .ok y S3) (hs : setI x y d S3 = some T) : seqM (putM o i a) r e S = r e T := by
  have : putM o i a e S = .nx e T := by
    simp only [putM, ha, ho, hi, liftS_ok, hs, ofS_some]
  exact seqM_nx this
theorem sat_ok {tb : Tb} {f : Nat} {o a : EM} {d x : D} {T : Sto} {r : SM} (ha : a e S = .ok d S1) (ho : o e S1 = .ok x S2) (hs : setAt tb f x d S2 = some T) : seqM (satM tb f o a) r e S = r e T := by
  have : satM tb f o a e S = .nx e T := by
    simp only [satM, ha, ho, liftS_ok, hs, ofS_some]
  exact seqM_nx this
theorem if_yes {c : TM} {a b r : SM} {e' : Env'} (hc : c e S = .ok true S1) (ha : a e S1 = .nx e' S2) : seqM (ifS c a b) r e S = r e' S2 := by
  have : ifS c a b e S = .nx e' S2 := by
    simp only [ifS, hc, liftS_ok, if_true]
    exact ha
  exact seqM_nx this
theorem if_no {c : TM} {a b r : SM} {e' : Env'} (hc : c e S = .ok false S1) (hb : b e S1 = .nx e' S2) : seqM (ifS c a b) r e S = r e' S2 := by
  have : ifS c a b e S = .nx e' S2 := by
    simp only [ifS, hc, liftS_ok]
    rw [if_neg Bool.false_ne_true]
    exact hb
  exact seqM_nx this
theorem if_rt {c : TM} {a b r : SM} {d : D} (hc : c e S = .ok true S1) (ha : a e S1 = .rt d S2) : seqM (ifS c a b) r e S = .rt d S2 := by
  have : ifS c a b e S = .rt d S2 := by
    simp only [ifS, hc, liftS_ok, if_true]
    exact ha
  exact seqM_rt this
theorem tst_eq {a : EM} {b : Bool} (h : a e S = .ok (.bl b) S1) : tstM a e S = .ok b S1 := tst_ok h
theorem not_eq' {t : TM} {b : Bool} (h : t e S = .ok b S1) : notM t e S = .ok (!b) S1 := by
  simp only [notM, h, bind_ok]
theorem and_no {t u : TM} (h : t e S = .ok false S1) : andM t u e S = .ok false S1 := by
  simp only [andM, h, bind_ok]
  rfl
theorem and_yes {t u : TM} {b : Bool} (h : t e S = .ok true S1) (h2 : u e S1 = .ok b S2) : andM t u e S = .ok b S2 := by
  simp only [andM, h, bind_ok, if_true, h2]
theorem or_yes {t u : TM} (h : t e S = .ok true S1) : orM t u e S = .ok true S1 := by
  simp only [orM, h, bind_ok, if_true]
theorem or_no {t u : TM} {b : Bool} (h : t e S = .ok false S1) (h2 : u e S1 = .ok b S2) : orM t u e S = .ok b S2 := by
  simp only [orM, h, bind_ok]
  rw [if_neg Bool.false_ne_true]
  exact h2
theorem ifM_yes {t : TM} {a b : EM} {d : D} (h : t e S = .ok true S1) (ha : a e S1 = .ok d S2) : ifM t a b e S = .ok d S2 := by
  simp only [ifM, h, bind_ok, if_true, ha]
theorem ifM_no {t : TM} {a b : EM} {d : D} (h : t e S = .ok false S1) (hb : b e S1 = .ok d S2) : ifM t a b e S = .ok d S2 := by
  simp only [ifM, h, bind_ok]
  rw [if_neg Bool.false_ne_true]
  exact hb
theorem call_eq {np : Nat} {dd : List D} {g : List D → Sto → Out D} {r : AM} {xs : List D} {d : D} (hb : r e S = .ok xs S1) (hn : (xs ++ dd).length = np) (hg : g (xs ++ dd) S1 = .ok d S2) : callM np dd g r e S = .ok d S2 := by
  rw [callM_ok hb hn, hg]
theorem bm_eq {t : Nat} {g : D → List D → Sto → Option (D × Sto)} {a : EM} {ta : AM} {x d : D} {ds : List D} (ha : a e S = .ok x S1) (hx : tyIs t x S1 = true) (ht : ta e S1 = .ok ds S2) (hg : g x ds S2 = some (d, S3)) : bmM t g a ta e S = .ok d S3 := by
  simp only [bmM, ha, bind_ok, hx, if_true, ht, hg]
theorem for_ok {im : IM} {g : GM} {body : SM} {src : Src} {e' : Env'} {r : SM} (hi : im e S = .ok src S1) (hl : loopM src g body (src.fuel S1) 0 e S1 = .nx e' S2) : seqM (forM im g body) r e S = r e' S2 := by
  have : forM im g body e S = .nx e' S2 := by
    simp only [forM, hi, liftS_ok, hl]
  exact seqM_nx this
theorem lcM_ok {h : Option (Option Id)} {vs : List Nat} {im : IM} {g : GM} {tt : TM} {te : EM} {src : Src} {ds : List D} {d : D} (hi : im e S = .ok src S1) (hl : lcLoop src g tt te (src.fuel S1) 0 (wipeE e vs) S1 [] = .ok ds S2) (he : endL h ds S2 = .ok d S3) : lcM h vs im g tt te e S = .ok d S3 := by
  simp only [lcM, hi, bind_ok, hl, he]
theorem defX_rt {n : Nat} {b : SM} {ds : List D} {d : D} (h : b (ds.map some ++ List.replicate (n - ds.length) none) S = .rt d S1) : defX n b ds S = .ok d S1 := by
  simp only [defX, h]
theorem defX_nx {n : Nat} {b : SM} {ds : List D} {e' : Env'} (h : b (ds.map some ++ List.replicate (n - ds.length) none) S = .nx e' S1) : defX n b ds S = .ok .non S1 := by
  simp only [defX, h]
end
/-! dicts -/
section
variable {A : Type} [DecidableEq A]
theorem valD_mem {kvs : List (A × D)} {k : A} {d : D} (h : valD kvs k = some d) : (k, d) ∈ kvs := by
  unfold valD at h
  obtain ⟨p, hp, e⟩ := Option.map_eq_some_iff.mp h
  have h1 := List.mem_of_find?_eq_some hp
  have h3 := List.find?_some hp
  have h2 := of_decide_eq_true h3
  subst e h2
  exact h1
theorem putD_mem {kvs : List (A × D)} {k k' : A} {d d' : D} (h : (k', d') ∈ putD kvs k d) : (k', d') ∈ kvs ∨ (k' = k ∧ d' = d) := by
  unfold putD at h
  split at h
  · obtain ⟨p, hp, e⟩ := List.mem_map.mp h
    split at e
    · rename_i hk
      cases e
      exact .inr ⟨hk, rfl⟩
    · subst e
      exact .inl hp
  · rcases List.mem_append.mp h with h | h
    · exact .inl h
    · cases List.mem_singleton.mp h
      exact .inr ⟨rfl, rfl⟩
theorem putD_len {kvs : List (A × D)} {k : A} {d : D} : (putD kvs k d).length ≤ kvs.length + 1 := by
  unfold putD
  split
  · rw [List.length_map]
    omega
  · rw [List.length_append]
    exact Nat.le_refl _
theorem find_map {k : A} {d : D} : ∀ {kvs : List (A × D)}, (kvs.any fun kv => decide (kv.1 = k)) = true → (kvs.map fun kv => if kv.1 = k then (kv.1, d) else kv).find? (fun kv => decide (kv.1 = k)) = some (k, d)
  | [], h => by cases h
  | p :: r, h => by
    rw [List.map_cons, List.find?_cons]
    by_cases e : p.1 = k
    · rw [if_pos e]
      have : decide ((p.1, d).1 = k) = true := decide_eq_true e
      rw [this, ← e]
    · rw [if_neg e, decide_eq_false e]
      refine find_map ?_
      rw [List.any_cons, decide_eq_false e, Bool.false_or] at h
      exact h
theorem valD_put {kvs : List (A × D)} {k : A} {d : D} : valD (putD kvs k d) k = some d := by
  unfold valD putD
  split
  · rename_i h
    rw [find_map h]
    rfl
  · rename_i h
    rw [List.find?_append]
    have : kvs.find? (fun kv => decide (kv.1 = k)) = none := by
      rw [List.find?_eq_none]
      intro p hp e
      exact h (List.any_eq_true.mpr ⟨p, hp, e⟩)
    rw [this]
    simp
end
/-! what is walked, where it may be a list of the store -/
def Holds (S : Sto) (x : D) (ds : List D) : Prop := x = .lst ds ∨ ∃ i, x = .cell i ∧ S.at_ i = some (.lst ds)
theorem for_seq {a : EM} {x : D} {ds : List D} {g : GM} {body r : SM} {e : Env'} {S S1 : Sto} (ha : a e S = .ok x S1) (I : Nat → Env' → Sto → Prop) (h0 : I 0 e S1) (hI : ∀ k e S, I k e S → Holds S x ds)
    (hs : ∀ k e S d, ds[k]? = some d → I k e S → ∃ e1 e' S', g d e = some e1 ∧ (body e1 S = .nx e' S' ∨ body e1 S = .ct e' S') ∧ I (k + 1) e' S') :
    ∃ e' S', seqM (forM (seqI a) g body) r e S = r e' S' ∧ I ds.length e' S' := by
  rcases hI 0 e S1 h0 with h | ⟨i, h, hi⟩
  · subst h
    obtain ⟨e', S', h1, h2⟩ := loop_fix (ds := ds) (g := g) (body := body) I h0 hs
    refine ⟨e', S', for_ok ?_ h1, h2⟩
    simp only [seqI, ha, bind_ok, srcOf, ofO_some]
  · subst h
    have hI' : ∀ k e S, I k e S → S.at_ i = some (.lst ds) := fun k e S h => by
      rcases hI k e S h with z | ⟨j, z, hj⟩
      · cases z
      · cases z
        exact hj
    obtain ⟨e', S', h1, h2⟩ := loop_cel (ds := ds) (i := i) (g := g) (body := body) I h0 hI' hs
    refine ⟨e', S', for_ok ?_ h1, h2⟩
    simp only [seqI, ha, bind_ok, srcOf, hi, ofO_some]
theorem lc_seq {a : EM} {x : D} {ds : List D} {h : Option (Option Id)} {vs : List Nat} {g : GM} {tt : TM} {te : EM} {e : Env'} {S S1 : Sto} (ha : a e S = .ok x S1) (I : Nat → Sto → List D → Prop) (h0 : I 0 S1 []) (hI : ∀ k S acc, I k S acc → Holds S x ds)
    (hs : ∀ k S acc d, ds[k]? = some d → I k S acc → ∃ e1 b S1, g d (wipeE e vs) = some e1 ∧ tt e1 S = .ok b S1 ∧ if b = true then ∃ y S2, te e1 S1 = .ok y S2 ∧ acc.length < 1000000 ∧ I (k + 1) S2 (acc ++ [y]) else I (k + 1) S1 acc) :
    ∃ acc S', lcM h vs (seqI a) g tt te e S = endL h acc S' ∧ I ds.length S' acc := by
  rcases hI 0 S1 [] h0 with h' | ⟨i, h', hi⟩
  · subst h'
    obtain ⟨acc, S', h1, h2⟩ := lc_fix (ds := ds) (g := g) (tt := tt) (te := te) (e := wipeE e vs) I h0 hs
    refine ⟨acc, S', ?_, h2⟩
    simp only [lcM, seqI, ha, bind_ok, srcOf, ofO_some, h1]
  · subst h'
    have hI' : ∀ k S acc, I k S acc → S.at_ i = some (.lst ds) := fun k S acc h => by
      rcases hI k S acc h with z | ⟨j, z, hj⟩
      · cases z
      · cases z
        exact hj
    obtain ⟨acc, S', h1, h2⟩ := lc_cel (ds := ds) (i := i) (g := g) (tt := tt) (te := te) (e := wipeE e vs) I h0 hI' hs
    refine ⟨acc, S', ?_, h2⟩
    simp only [lcM, seqI, ha, bind_ok, srcOf, hi, ofO_some, h1]
theorem lc_fixM {im : IM} {ds : List D} {h : Option (Option Id)} {vs : List Nat} {g : GM} {tt : TM} {te : EM} {e : Env'} {S S1 : Sto} (hi : im e S = .ok (.fix ds) S1) (I : Nat → Sto → List D → Prop) (h0 : I 0 S1 [])
    (hs : ∀ k S acc d, ds[k]? = some d → I k S acc → ∃ e1 b S1, g d (wipeE e vs) = some e1 ∧ tt e1 S = .ok b S1 ∧ if b = true then ∃ y S2, te e1 S1 = .ok y S2 ∧ acc.length < 1000000 ∧ I (k + 1) S2 (acc ++ [y]) else I (k + 1) S1 acc) :
    ∃ acc S', lcM h vs im g tt te e S = endL h acc S' ∧ I ds.length S' acc := by
  obtain ⟨acc, S', h1, h2⟩ := lc_fix (ds := ds) (g := g) (tt := tt) (te := te) (e := wipeE e vs) I h0 hs
  refine ⟨acc, S', ?_, h2⟩
  simp only [lcM, hi, bind_ok, h1]
theorem lc_rngM {im : IM} {lo c : Int} {n : Nat} {h : Option (Option Id)} {vs : List Nat} {g : GM} {tt : TM} {te : EM} {e : Env'} {S S1 : Sto} (hi : im e S = .ok (.rng lo c n) S1) (I : Nat → Sto → List D → Prop) (h0 : I 0 S1 [])
    (hs : ∀ k S acc, k < n → I k S acc → ∃ e1 b S1, g (.int (lo + (k : Nat) * c)) (wipeE e vs) = some e1 ∧ tt e1 S = .ok b S1 ∧ if b = true then ∃ y S2, te e1 S1 = .ok y S2 ∧ acc.length < 1000000 ∧ I (k + 1) S2 (acc ++ [y]) else I (k + 1) S1 acc) :
    ∃ acc S', lcM h vs im g tt te e S = endL h acc S' ∧ I n S' acc := by
  obtain ⟨acc, S', h1, h2⟩ := lc_rng (lo := lo) (c := c) (n := n) (g := g) (tt := tt) (te := te) (e := wipeE e vs) I h0 hs
  refine ⟨acc, S', ?_, h2⟩
  simp only [lcM, hi, bind_ok, h1]
theorem rng1_ok {t : AM} {n : Int} {e : Env'} {S S1 : Sto} (ht : t e S = .ok [.int n] S1) (hn : n < 1000000 ∧ -1000000 < n) : rng1I t e S = .ok (.rng 0 1 n.toNat) S1 := by
  simp only [rng1I, ht, bind_ok, if_pos hn]
theorem rng2_ok {t : AM} {a b : Int} {e : Env'} {S S1 : Sto} (ht : t e S = .ok [.int a, .int b] S1) (hn : (a < 1000000 ∧ -1000000 < a) ∧ (b < 1000000 ∧ -1000000 < b)) : rng2I t e S = .ok (.rng a 1 (b - a).toNat) S1 := by
  simp only [rng2I, ht, bind_ok, if_pos hn]
theorem rng3_ok {t : AM} {a b : Int} {e : Env'} {S S1 : Sto} (ht : t e S = .ok [.int a, .int b, .int (-1)] S1) (hn : (a < 1000000 ∧ -1000000 < a) ∧ (b < 1000000 ∧ -1000000 < b)) : rng3I t e S = .ok (.rng a (-1) (a - b).toNat) S1 := by
  simp only [rng3I, ht, bind_ok]
  rw [if_pos ⟨True.intro, hn⟩]
end Pyx
-- noteboxes_k05_fewest_and_ways /opt/kit/linked/fb49e6ebd56ba6c2de1dca2ac2d723e9eb3280d5/law_k05_fewest_and_ways law at 25; 17 fns 64 facts 21 names
namespace Hd
open PySem PySem.Spec PyProof.Rows L2
def top (i : Nat) : Stmt := PySem.Challenge.pw_noteboxes_k05_fewest_and_ways.main.body.getD i (.Pass ⟨0, 0, 0, 0⟩)
def fn0 : List He.DefD := [⟨("is_number", none), "is_number", "is_number", defArgs (top 10), defBody (top 10), defScope (top 10), [], []⟩,
  ⟨("need_count", none), "need_count", "need_count", defArgs (top 11), defBody (top 11), defScope (top 11), [], []⟩,
  ⟨("need_kinds", none), "need_kinds", "need_kinds", defArgs (top 12), defBody (top 12), defScope (top 12), [], []⟩,
  ⟨("need_notes", none), "need_notes", "need_notes", defArgs (top 13), defBody (top 13), defScope (top 13), [], []⟩,
  ⟨("chosen", none), "chosen", "chosen", defArgs (top 16), defBody (top 16), defScope (top 16), [], []⟩,
  ⟨("need_all", none), "need_all", "need_all", defArgs (top 17), defBody (top 17), defScope (top 17), [], []⟩,
  ⟨("fewest", none), "fewest", "fewest", defArgs (top 18), defBody (top 18), defScope (top 18), [], []⟩,
  ⟨("ways", none), "ways", "ways", defArgs (top 19), defBody (top 19), defScope (top 19), [], []⟩,
  ⟨("_law_begun", none), "_law_begun", "_law_begun", defArgs (top 21), defBody (top 21), defScope (top 21), [], []⟩,
  ⟨("_law_take", none), "_law_take", "_law_take", defArgs (top 22), defBody (top 22), defScope (top 22), [], []⟩,
  ⟨("_law_alike", none), "_law_alike", "_law_alike", defArgs (top 23), defBody (top 23), defScope (top 23), [], []⟩,
  ⟨("_law_all_choices", none), "_law_all_choices", "_law_all_choices", defArgs (top 24), defBody (top 24), defScope (top 24), [], []⟩,
  ⟨("law", none), "law", "law", defArgs (top 25), defBody (top 25), defScope (top 25), [], []⟩,
  ⟨("Chooser", some "__init__"), "__init__", "Chooser.__init__", defArgs (inClass (top 15) 0), defBody (inClass (top 15) 0), defScope (inClass (top 15) 0), [], []⟩,
  ⟨("Chooser", some "best"), "best", "Chooser.best", defArgs (inClass (top 15) 1), defBody (inClass (top 15) 1), defScope (inClass (top 15) 1), [], []⟩,
  ⟨("Chooser", some "count"), "count", "Chooser.count", defArgs (inClass (top 15) 2), defBody (inClass (top 15) 2), defScope (inClass (top 15) 2), [], []⟩,
  ⟨("BadPlan", some "__init__"), "__init__", "BadPlan.__init__", defArgs (inClass (top 2) 0), defBody (inClass (top 2) 0), defScope (inClass (top 2) 0), [], []⟩]
def fn : List He.DefD := fn0
def fa0 : List He.Fa := [.glo "is_number",
  .keep "is_number",
  .glo "need_count",
  .keep "need_count",
  .glo "need_kinds",
  .keep "need_kinds",
  .glo "need_notes",
  .keep "need_notes",
  .glo "chosen",
  .keep "chosen",
  .glo "need_all",
  .keep "need_all",
  .glo "fewest",
  .keep "fewest",
  .glo "ways",
  .keep "ways",
  .glo "_law_begun",
  .keep "_law_begun",
  .glo "_law_take",
  .keep "_law_take"]
def fa1 : List He.Fa := [.glo "_law_alike",
  .keep "_law_alike",
  .glo "_law_all_choices",
  .keep "_law_all_choices",
  .glo "law",
  .keep "law",
  .glo "Chooser",
  .cls "Chooser",
  .mkr "Chooser",
  .noat "Chooser" "kinds",
  .noat "Chooser" "piles",
  .noat "Chooser" "known",
  .noat "Chooser" "counted",
  .meth "Chooser" "best",
  .meth "Chooser" "count",
  .glo "BoxError",
  .exc "BoxError",
  .exm "BoxError" "BoxError" true,
  .glo "BadPlan",
  .exm "BadPlan" "BoxError" true]
def fa2 : List He.Fa := [.glo "BadCount",
  .exc "BadCount",
  .exm "BadCount" "BoxError" true,
  .glo "BadNotes",
  .exc "BadNotes",
  .exm "BadNotes" "BoxError" true,
  .int "MOST_KINDS" 5,
  .int "MOST_WORTH" 500,
  .int "MOST_AMOUNT" 99999,
  .int "MOST_STACK" 99,
  .free "isinstance",
  .free "int",
  .free "bool",
  .free "str",
  .free "tuple",
  .free "list",
  .free "len",
  .free "range",
  .free "min",
  .free "sum"]
def fa3 : List He.Fa := [.free "all",
  .free "enumerate",
  .free "sorted",
  .free "ValueError"]
def fa : List He.Fa := fa0 ++ fa1 ++ fa2 ++ fa3
def loose0 : List PySem.Str := ["BoxError",
  "BadPlan",
  "BadCount",
  "BadNotes",
  "MOST_KINDS",
  "MOST_WORTH",
  "MOST_AMOUNT",
  "MOST_STACK",
  "is_number",
  "need_count",
  "need_kinds",
  "need_notes",
  "Chooser",
  "chosen",
  "need_all",
  "fewest",
  "ways",
  "_law_begun",
  "_law_take",
  "_law_alike"]
def loose1 : List PySem.Str := ["_law_all_choices"]
def loose : List PySem.Str := loose0 ++ loose1
/-! ### a lean part of the heap: what the names reach, by kind -/
def kids (o : Obj) : List Addr := match o.data with
  | .dict es _ => es.toList.flatMap fun e => He.refV e.val
  | .func fd => He.refV fd.code ++ He.refV fd.defaults ++ He.refV fd.kwdefaults
  | .cls cd => [cd.ns]
  | _ => []
def pick (g : Addr → Option Obj) (as : List Addr) : List Addr := as.flatMap fun a => match g a with
  | some o => kids o
  | none => []
def asP (g : Addr → Option Obj) : Nat → List Addr → List Addr
  | 0, as => as
  | n + 1, as => as ++ asP g n (pick g as)
def obsP (fa : List He.Fa) (fn : List He.DefD) (g : Addr → Option Obj) : He.AlD := He.obsD fa fn (He.frG g (asP g 4 [mainGlobals]))
def hookP (fa : List He.Fa) (fn : List He.DefD) : PySem.W.Hook where
  α := He.AlD
  obs := fun s => obsP fa fn s.heap.get?
  val := fun _ => He.valD fn
  says := fun _ h => ∃ K : PySem.W.Frag, K.In h ∧ He.SaysD fa fn K
  of := fun _ _ e => ⟨_, He.frG_in, e⟩
  keeps := fun _ _ _ ⟨K, hK, c⟩ k => ⟨K, PySem.W.Frag.In.keeps hK k, c⟩
theorem obsP_eq {fa : List He.Fa} {fn : List He.DefD} {g : Addr → Option Obj} {s : Shared} (h : ∀ a, g a = s.heap.get? a) : obsP fa fn g = (hookP fa fn).obs s := by
  have e : g = s.heap.get? := funext h
  subst e
  rfl
abbrev R : PySem.W.OpenRow := PySem.W.OpenLaw.row PySem.Challenge.rw_noteboxes_k05_fewest_and_ways
abbrev hk : PySem.W.Hook := hookP fa fn
def ob (s : PySem.W.SharedT) : He.AlD := obsP fa fn (HandSHeadRun.getT s)
theorem ob_eq (s : PySem.W.SharedT) : ob s = hk.obs s.abs := obsP_eq (HandSHeadRun.getT_eq s)
theorem run (w : World) : HandSHeadRun.RunEq R (PySem.W.view R.prog [25]) hk ob 20000 loose w := by
  intro os
  kernel_rfl
/-! the tables -/
open Pyx
def tNS0 : List (List PySem.Str × List PySem.Str) := [(["part", "low", "high"], ["part", "low", "high"]),
  (["part", "low", "high"], ["part", "low", "high"]),
  (["kinds", "number", "worth", "least"], ["kinds"]),
  (["kinds", "notes", "one"], ["kinds", "notes"]),
  (["kinds", "stacks", "amount", "found"], ["kinds", "stacks", "amount"]),
  (["kinds", "stacks", "amount"], ["kinds", "stacks", "amount"]),
  (["kinds", "stacks", "amount"], ["kinds", "stacks", "amount"]),
  (["kinds", "stacks", "amount"], ["kinds", "stacks", "amount"]),
  (["_law_script", "_law_stirred", "_law_cell"], ["_law_script"]),
  (["_law_box", "_law_many", "_law_drawn"], ["_law_box", "_law_many"]),
  (["_law_found", "_law_due", "_law_k"], ["_law_found", "_law_due"]),
  (["_law_stacks", "_law_found", "_law_many", "_law_longer", "_law_row", "_law_k"], ["_law_stacks"])]
def tNS1 : List (List PySem.Str × List PySem.Str) := [(["_law_script", "_law_box", "_law_turn", "_law_some", "_law_kinds", "_law_stacks", "_law_worth", "_law_amount", "_law_k", "_law_good", "_law_row", "_law_order", "_law_many", "_law_due", "_law_again"], ["_law_script"]),
  (["self", "kinds", "stacks"], ["self", "kinds", "stacks"]),
  (["self", "kind", "amount", "found", "many", "rest"], ["self", "kind", "amount"]),
  (["self", "kind", "amount", "most", "some", "many"], ["self", "kind", "amount"]),
  (["self", "part", "number"], ["self", "part", "number"])]
def tNS : List (List PySem.Str × List PySem.Str) := tNS0 ++ tNS1
def tAns0 : List PySem.Str := ["kinds",
  "piles",
  "known",
  "counted",
  "best",
  "count"]
def tAns : List PySem.Str := tAns0
def tGls0 : List (PySem.Str × Gk) := [("is_number", .fn 0),
  ("need_count", .fn 1),
  ("need_kinds", .fn 2),
  ("need_notes", .fn 3),
  ("chosen", .fn 4),
  ("need_all", .fn 5),
  ("fewest", .fn 6),
  ("ways", .fn 7),
  ("_law_begun", .fn 8),
  ("_law_take", .fn 9),
  ("_law_alike", .fn 10),
  ("_law_all_choices", .fn 11),
  ("law", .fn 12),
  ("Chooser", .cl 0 13),
  ("MOST_KINDS", .con (.int 5)),
  ("MOST_WORTH", .con (.int 500))]
def tGls1 : List (PySem.Str × Gk) := [("MOST_AMOUNT", .con (.int 99999)),
  ("MOST_STACK", .con (.int 99)),
  ("isinstance", .blt),
  ("int", .blt),
  ("bool", .blt),
  ("str", .blt),
  ("tuple", .blt),
  ("list", .blt),
  ("len", .blt),
  ("range", .blt),
  ("min", .blt),
  ("sum", .blt),
  ("all", .blt),
  ("enumerate", .blt),
  ("sorted", .blt),
  ("ValueError", .blt)]
def tGls : List (PySem.Str × Gk) := tGls0 ++ tGls1
def tPls : List (Nat × Nat) := [(0, 0), (0, 1), (0, 2), (0, 3)]
def tMts : List (Nat × Nat × Nat) := [(0, 4, 14), (0, 5, 15)]
def tDfs : List (Nat × Nat × List D) := []
def tHint (l c : Nat) : Nat := if l == 42 && c == 21 then 1 else if l == 43 && c == 23 then 1 else if l == 83 && c == 11 then 1 else if l == 83 && c == 12 then 1 else if l == 113 && c == 22 then 1 else 0
def tl : Tl where
  fa := fa
  fn := fn
  NS := tNS
  cls := ["Chooser"]
  exs := ["BoxError", "BadPlan", "BadCount", "BadNotes"]
  ans := tAns
  gls := tGls
  pls := tPls
  mts := tMts
  dfs := tDfs
  hint := tHint
theorem tlGood : tl.Good := Tl.good (by kernel_rfl)
section
variable {K : PySem.W.Frag}
theorem bind0 {fd : FuncData} {f : Addr} (F : FunD K (fn[0]'(by decide)).name (fn[0]'(by decide)).qual (fn[0]'(by decide)).params (fn[0]'(by decide)).body (fn[0]'(by decide)).scope [] [] f fd) : BindOk tl K 0 ["part", "low", "high"] fd :=
  bind_plain 0 ["part", "low", "high"] fd (by decide) rfl (F.bindsN fun _ _ _ _ _ _ us hl => match us, hl with | [_, _, _], _ => rfl)
theorem bind1 {fd : FuncData} {f : Addr} (F : FunD K (fn[1]'(by decide)).name (fn[1]'(by decide)).qual (fn[1]'(by decide)).params (fn[1]'(by decide)).body (fn[1]'(by decide)).scope [] [] f fd) : BindOk tl K 1 ["part", "low", "high"] fd :=
  bind_plain 1 ["part", "low", "high"] fd (by decide) rfl (F.bindsN fun _ _ _ _ _ _ us hl => match us, hl with | [_, _, _], _ => rfl)
theorem bind2 {fd : FuncData} {f : Addr} (F : FunD K (fn[2]'(by decide)).name (fn[2]'(by decide)).qual (fn[2]'(by decide)).params (fn[2]'(by decide)).body (fn[2]'(by decide)).scope [] [] f fd) : BindOk tl K 2 ["kinds"] fd :=
  bind_plain 2 ["kinds"] fd (by decide) rfl (F.bindsN fun _ _ _ _ _ _ us hl => match us, hl with | [_], _ => rfl)
theorem bind3 {fd : FuncData} {f : Addr} (F : FunD K (fn[3]'(by decide)).name (fn[3]'(by decide)).qual (fn[3]'(by decide)).params (fn[3]'(by decide)).body (fn[3]'(by decide)).scope [] [] f fd) : BindOk tl K 3 ["kinds", "notes"] fd :=
  bind_plain 3 ["kinds", "notes"] fd (by decide) rfl (F.bindsN fun _ _ _ _ _ _ us hl => match us, hl with | [_, _], _ => rfl)
theorem bind4 {fd : FuncData} {f : Addr} (F : FunD K (fn[4]'(by decide)).name (fn[4]'(by decide)).qual (fn[4]'(by decide)).params (fn[4]'(by decide)).body (fn[4]'(by decide)).scope [] [] f fd) : BindOk tl K 4 ["kinds", "stacks", "amount"] fd :=
  bind_plain 4 ["kinds", "stacks", "amount"] fd (by decide) rfl (F.bindsN fun _ _ _ _ _ _ us hl => match us, hl with | [_, _, _], _ => rfl)
theorem bind5 {fd : FuncData} {f : Addr} (F : FunD K (fn[5]'(by decide)).name (fn[5]'(by decide)).qual (fn[5]'(by decide)).params (fn[5]'(by decide)).body (fn[5]'(by decide)).scope [] [] f fd) : BindOk tl K 5 ["kinds", "stacks", "amount"] fd :=
  bind_plain 5 ["kinds", "stacks", "amount"] fd (by decide) rfl (F.bindsN fun _ _ _ _ _ _ us hl => match us, hl with | [_, _, _], _ => rfl)
theorem bind6 {fd : FuncData} {f : Addr} (F : FunD K (fn[6]'(by decide)).name (fn[6]'(by decide)).qual (fn[6]'(by decide)).params (fn[6]'(by decide)).body (fn[6]'(by decide)).scope [] [] f fd) : BindOk tl K 6 ["kinds", "stacks", "amount"] fd :=
  bind_plain 6 ["kinds", "stacks", "amount"] fd (by decide) rfl (F.bindsN fun _ _ _ _ _ _ us hl => match us, hl with | [_, _, _], _ => rfl)
theorem bind7 {fd : FuncData} {f : Addr} (F : FunD K (fn[7]'(by decide)).name (fn[7]'(by decide)).qual (fn[7]'(by decide)).params (fn[7]'(by decide)).body (fn[7]'(by decide)).scope [] [] f fd) : BindOk tl K 7 ["kinds", "stacks", "amount"] fd :=
  bind_plain 7 ["kinds", "stacks", "amount"] fd (by decide) rfl (F.bindsN fun _ _ _ _ _ _ us hl => match us, hl with | [_, _, _], _ => rfl)
theorem bind8 {fd : FuncData} {f : Addr} (F : FunD K (fn[8]'(by decide)).name (fn[8]'(by decide)).qual (fn[8]'(by decide)).params (fn[8]'(by decide)).body (fn[8]'(by decide)).scope [] [] f fd) : BindOk tl K 8 ["_law_script"] fd :=
  bind_plain 8 ["_law_script"] fd (by decide) rfl (F.bindsN fun _ _ _ _ _ _ us hl => match us, hl with | [_], _ => rfl)
theorem bind9 {fd : FuncData} {f : Addr} (F : FunD K (fn[9]'(by decide)).name (fn[9]'(by decide)).qual (fn[9]'(by decide)).params (fn[9]'(by decide)).body (fn[9]'(by decide)).scope [] [] f fd) : BindOk tl K 9 ["_law_box", "_law_many"] fd :=
  bind_plain 9 ["_law_box", "_law_many"] fd (by decide) rfl (F.bindsN fun _ _ _ _ _ _ us hl => match us, hl with | [_, _], _ => rfl)
theorem bind10 {fd : FuncData} {f : Addr} (F : FunD K (fn[10]'(by decide)).name (fn[10]'(by decide)).qual (fn[10]'(by decide)).params (fn[10]'(by decide)).body (fn[10]'(by decide)).scope [] [] f fd) : BindOk tl K 10 ["_law_found", "_law_due"] fd :=
  bind_plain 10 ["_law_found", "_law_due"] fd (by decide) rfl (F.bindsN fun _ _ _ _ _ _ us hl => match us, hl with | [_, _], _ => rfl)
theorem bind11 {fd : FuncData} {f : Addr} (F : FunD K (fn[11]'(by decide)).name (fn[11]'(by decide)).qual (fn[11]'(by decide)).params (fn[11]'(by decide)).body (fn[11]'(by decide)).scope [] [] f fd) : BindOk tl K 11 ["_law_stacks"] fd :=
  bind_plain 11 ["_law_stacks"] fd (by decide) rfl (F.bindsN fun _ _ _ _ _ _ us hl => match us, hl with | [_], _ => rfl)
theorem bind12 {fd : FuncData} {f : Addr} (F : FunD K (fn[12]'(by decide)).name (fn[12]'(by decide)).qual (fn[12]'(by decide)).params (fn[12]'(by decide)).body (fn[12]'(by decide)).scope [] [] f fd) : BindOk tl K 12 ["_law_script"] fd :=
  bind_plain 12 ["_law_script"] fd (by decide) rfl (F.bindsN fun _ _ _ _ _ _ us hl => match us, hl with | [_], _ => rfl)
theorem bind13 {fd : FuncData} {f : Addr} (F : FunD K (fn[13]'(by decide)).name (fn[13]'(by decide)).qual (fn[13]'(by decide)).params (fn[13]'(by decide)).body (fn[13]'(by decide)).scope [] [] f fd) : BindOk tl K 13 ["self", "kinds", "stacks"] fd :=
  bind_plain 13 ["self", "kinds", "stacks"] fd (by decide) rfl (F.bindsN fun _ _ _ _ _ _ us hl => match us, hl with | [_, _, _], _ => rfl)
theorem bind14 {fd : FuncData} {f : Addr} (F : FunD K (fn[14]'(by decide)).name (fn[14]'(by decide)).qual (fn[14]'(by decide)).params (fn[14]'(by decide)).body (fn[14]'(by decide)).scope [] [] f fd) : BindOk tl K 14 ["self", "kind", "amount"] fd :=
  bind_plain 14 ["self", "kind", "amount"] fd (by decide) rfl (F.bindsN fun _ _ _ _ _ _ us hl => match us, hl with | [_, _, _], _ => rfl)
theorem bind15 {fd : FuncData} {f : Addr} (F : FunD K (fn[15]'(by decide)).name (fn[15]'(by decide)).qual (fn[15]'(by decide)).params (fn[15]'(by decide)).body (fn[15]'(by decide)).scope [] [] f fd) : BindOk tl K 15 ["self", "kind", "amount"] fd :=
  bind_plain 15 ["self", "kind", "amount"] fd (by decide) rfl (F.bindsN fun _ _ _ _ _ _ us hl => match us, hl with | [_, _, _], _ => rfl)
theorem bind16 {fd : FuncData} {f : Addr} (F : FunD K (fn[16]'(by decide)).name (fn[16]'(by decide)).qual (fn[16]'(by decide)).params (fn[16]'(by decide)).body (fn[16]'(by decide)).scope [] [] f fd) : BindOk tl K 16 ["self", "part", "number"] fd :=
  bind_plain 16 ["self", "part", "number"] fd (by decide) rfl (F.bindsN fun _ _ _ _ _ _ us hl => match us, hl with | [_, _, _], _ => rfl)
theorem binding : Binding tl K := fun i d p fd hi hp F => match i, hi, hp with
  | 0, hi, hp => by
    have e := Option.some.inj hi
    have e2 := Option.some.inj hp
    subst e e2
    exact bind0 F
  | 1, hi, hp => by
    have e := Option.some.inj hi
    have e2 := Option.some.inj hp
    subst e e2
    exact bind1 F
  | 2, hi, hp => by
    have e := Option.some.inj hi
    have e2 := Option.some.inj hp
    subst e e2
    exact bind2 F
  | 3, hi, hp => by
    have e := Option.some.inj hi
    have e2 := Option.some.inj hp
    subst e e2
    exact bind3 F
  | 4, hi, hp => by
    have e := Option.some.inj hi
    have e2 := Option.some.inj hp
    subst e e2
    exact bind4 F
  | 5, hi, hp => by
    have e := Option.some.inj hi
    have e2 := Option.some.inj hp
    subst e e2
    exact bind5 F
  | 6, hi, hp => by
    have e := Option.some.inj hi
    have e2 := Option.some.inj hp
    subst e e2
    exact bind6 F
  | 7, hi, hp => by
    have e := Option.some.inj hi
    have e2 := Option.some.inj hp
    subst e e2
    exact bind7 F
  | 8, hi, hp => by
    have e := Option.some.inj hi
    have e2 := Option.some.inj hp
    subst e e2
    exact bind8 F
  | 9, hi, hp => by
    have e := Option.some.inj hi
    have e2 := Option.some.inj hp
    subst e e2
    exact bind9 F
  | 10, hi, hp => by
    have e := Option.some.inj hi
    have e2 := Option.some.inj hp
    subst e e2
    exact bind10 F
  | 11, hi, hp => by
    have e := Option.some.inj hi
    have e2 := Option.some.inj hp
    subst e e2
    exact bind11 F
  | 12, hi, hp => by
    have e := Option.some.inj hi
    have e2 := Option.some.inj hp
    subst e e2
    exact bind12 F
  | 13, hi, hp => by
    have e := Option.some.inj hi
    have e2 := Option.some.inj hp
    subst e e2
    exact bind13 F
  | 14, hi, hp => by
    have e := Option.some.inj hi
    have e2 := Option.some.inj hp
    subst e e2
    exact bind14 F
  | 15, hi, hp => by
    have e := Option.some.inj hi
    have e2 := Option.some.inj hp
    subst e e2
    exact bind15 F
  | 16, hi, hp => by
    have e := Option.some.inj hi
    have e2 := Option.some.inj hp
    subst e e2
    exact bind16 F
  | n + 17, hi, _ => by cases hi
end
end Hd
/-! fewest and ways: plain laws -/
namespace K5
def rowsP : List (Int × Nat) → List (List Int)
  | [] => [[]]
  | (_, p) :: r => (rowsP r).flatMap fun row => (List.range (p + 1)).map fun (k : Nat) => row ++ [(k : Int)]
def worth : List (Int × Nat) → List Int → Int
  | [], _ => 0
  | (w, _) :: r, row => worth r row.dropLast + w * row.getLastD 0
theorem worth_app (w : Int) (p : Nat) (r : List (Int × Nat)) (row : List Int) (k : Int) : worth ((w, p) :: r) (row ++ [k]) = worth r row + w * k := by
  simp [worth]
def hiP (w : Int) (p : Nat) (a : Int) : Nat := min p (a / w).toNat
def step (m : Nat) (o : Option (Int × List Int)) (acc : Option (Int × List Int)) : Option (Int × List Int) := match o with
  | none => acc
  | some (c, row) => match acc with
    | none => some (c + m, row ++ [(m : Int)])
    | some (c', _) => if c + m < c' then some (c + m, row ++ [(m : Int)]) else acc
/-- from n down -/
def pick (f : Nat → Option (Int × List Int)) : Nat → Option (Int × List Int) → Option (Int × List Int)
  | 0, acc => step 0 (f 0) acc
  | n + 1, acc => pick f n (step (n + 1) (f (n + 1)) acc)
def bestP : List (Int × Nat) → Int → Option (Int × List Int)
  | [], a => if a = 0 then some (0, []) else none
  | (w, p) :: r, a => pick (fun m => bestP r (a - m * w)) (hiP w p a) none
def countP : List (Int × Nat) → Int → Int
  | [], a => if a = 0 then 1 else 0
  | (w, p) :: r, a => ((List.range (hiP w p a + 1)).map fun (m : Nat) => countP r (a - m * w)).sum
def gtL : List Int → List Int → Prop
  | x :: xs, y :: ys => y < x ∨ (x = y ∧ gtL xs ys)
  | _, _ => False
def revGt (a b : List Int) : Prop := gtL a.reverse b.reverse
theorem revGt_app {a b : List Int} {x y : Int} : revGt (a ++ [x]) (b ++ [y]) ↔ y < x ∨ (x = y ∧ revGt a b) := by
  unfold revGt
  rw [List.reverse_append, List.reverse_append]
  exact Iff.rfl
def Pos (wps : List (Int × Nat)) : Prop := ∀ p ∈ wps, 0 < p.1
theorem mem_rows {w : Int} {p : Nat} {r : List (Int × Nat)} {row : List Int} : row ∈ rowsP ((w, p) :: r) ↔ ∃ row' ∈ rowsP r, ∃ k : Nat, k ≤ p ∧ row = row' ++ [(k : Int)] := by
  show row ∈ ((rowsP r).flatMap fun row => (List.range (p + 1)).map fun (k : Nat) => row ++ [(k : Int)]) ↔ _
  rw [List.mem_flatMap]
  constructor
  · rintro ⟨a, ha, hb⟩
    obtain ⟨k, hk, rfl⟩ := List.mem_map.mp hb
    exact ⟨a, ha, k, by have := List.mem_range.mp hk; omega, rfl⟩
  · rintro ⟨a, ha, k, hk, rfl⟩
    exact ⟨a, ha, List.mem_map.mpr ⟨k, List.mem_range.mpr (by omega), rfl⟩⟩
theorem worth_nn : ∀ {wps : List (Int × Nat)}, Pos wps → ∀ row ∈ rowsP wps, 0 ≤ worth wps row
  | [], _, _, _ => Int.le_refl _
  | (w, p) :: r, h, row, hr => by
    obtain ⟨row', h1, k, hk, rfl⟩ := mem_rows.mp hr
    rw [worth_app]
    have h2 := worth_nn (fun q hq => h q (List.mem_cons_of_mem _ hq)) row' h1
    have h3 : 0 < w := h (w, p) (List.mem_cons_self ..)
    have h4 : 0 ≤ w * (k : Int) := Int.mul_nonneg (Int.le_of_lt h3) (Int.natCast_nonneg k)
    omega
/-- what bestP tells -/
def Tells (wps : List (Int × Nat)) (a : Int) : Option (Int × List Int) → Prop
  | none => ∀ row ∈ rowsP wps, worth wps row ≠ a
  | some (c, row) => row ∈ rowsP wps ∧ worth wps row = a ∧ row.sum = c ∧ ∀ row' ∈ rowsP wps, worth wps row' = a → row' ≠ row → c < row'.sum ∨ (c = row'.sum ∧ revGt row row')
/-- .. of rows whose last count is n at least -/
def TellsN (w : Int) (p : Nat) (r : List (Int × Nat)) (a : Int) (n : Nat) : Option (Int × List Int) → Prop
  | none => ∀ row ∈ rowsP r, ∀ k : Nat, n ≤ k → k ≤ p → worth r row + w * k ≠ a
  | some (c, row) => ∃ row0 ∈ rowsP r, ∃ k0 : Nat, row = row0 ++ [(k0 : Int)] ∧ n ≤ k0 ∧ k0 ≤ p ∧ worth r row0 + w * k0 = a ∧ row.sum = c ∧
      ∀ row' ∈ rowsP r, ∀ k : Nat, n ≤ k → k ≤ p → worth r row' + w * k = a → row' ++ [(k : Int)] ≠ row → c < (row' ++ [(k : Int)]).sum ∨ (c = (row' ++ [(k : Int)]).sum ∧ revGt row (row' ++ [(k : Int)]))
theorem sum_app (l : List Int) (k : Int) : (l ++ [k]).sum = l.sum + k := by simp
theorem step_ok {w : Int} {p : Nat} {r : List (Int × Nat)} {a : Int} {n : Nat} {o acc : Option (Int × List Int)} (hn : n ≤ p) (ho : Tells r (a - n * w) o) (ha : TellsN w p r a (n + 1) acc) : TellsN w p r a n (step n o acc) := by
  have comm : (n : Int) * w = w * n := Int.mul_comm _ _
  cases o with
  | none =>
    have hno : ∀ row ∈ rowsP r, worth r row + w * n ≠ a := fun row hr e => ho row hr (by omega)
    show TellsN w p r a n acc
    cases acc with
    | none =>
      intro row hr k h1 h2
      by_cases e : k = n
      · subst e
        exact hno row hr
      · exact ha row hr k (by omega) h2
    | some q =>
      obtain ⟨c, row⟩ := q
      obtain ⟨row0, h1, k0, h2, h3, h4, h5, h6, h7⟩ := ha
      refine ⟨row0, h1, k0, h2, by omega, h4, h5, h6, fun row' hr k k1 k2 e ne => ?_⟩
      by_cases ek : k = n
      · subst ek
        exact (hno row' hr e).elim
      · exact h7 row' hr k (by omega) k2 e ne
  | some q =>
    obtain ⟨c, row⟩ := q
    obtain ⟨g1, g2, g3, g4⟩ := ho
    have mine : ∀ row' ∈ rowsP r, worth r row' + w * n = a → row' ++ [(n : Int)] ≠ row ++ [(n : Int)] → c + n < (row' ++ [(n : Int)]).sum ∨ (c + n = (row' ++ [(n : Int)]).sum ∧ revGt (row ++ [(n : Int)]) (row' ++ [(n : Int)])) := fun row' hr e ne => by
      have ne' : row' ≠ row := fun z => ne (by rw [z])
      rw [sum_app, revGt_app]
      rcases g4 row' hr (by omega) ne' with h | ⟨h, h'⟩
      · exact .inl (by omega)
      · exact .inr ⟨by omega, .inr ⟨rfl, h'⟩⟩
    cases acc with
    | none =>
      show TellsN w p r a n (some (c + n, row ++ [(n : Int)]))
      refine ⟨row, g1, n, rfl, Nat.le_refl _, hn, by omega, by rw [sum_app, g3], fun row' hr k k1 k2 e ne => ?_⟩
      by_cases ek : k = n
      · subst ek
        exact mine row' hr e ne
      · exact (ha row' hr k (by omega) k2 e).elim
    | some q =>
      obtain ⟨c', row2⟩ := q
      obtain ⟨row0, h1, k0, h2, h3, h4, h5, h6, h7⟩ := ha
      show TellsN w p r a n (if c + n < c' then some (c + n, row ++ [(n : Int)]) else some (c', row2))
      split
      · rename_i hlt
        refine ⟨row, g1, n, rfl, Nat.le_refl _, hn, by omega, by rw [sum_app, g3], fun row' hr k k1 k2 e ne => ?_⟩
        by_cases ek : k = n
        · subst ek
          exact mine row' hr e ne
        · by_cases es : row' ++ [(k : Int)] = row2
          · rw [es, h6]
            exact .inl hlt
          · rcases h7 row' hr k (by omega) k2 e es with h | ⟨h, _⟩
            · exact .inl (by omega)
            · exact .inl (by omega)
      · rename_i hlt
        refine ⟨row0, h1, k0, h2, by omega, h4, h5, h6, fun row' hr k k1 k2 e ne => ?_⟩
        by_cases ek : k = n
        · subst ek
          have hgt : revGt row2 (row' ++ [(k : Int)]) := by
            rw [h2, revGt_app]
            exact .inl (by omega)
          by_cases er : row' = row
          · subst er
            rw [sum_app, g3]
            by_cases ec : c' < c + k
            · exact .inl ec
            · exact .inr ⟨by omega, hgt⟩
          · rcases mine row' hr e (fun z => er (List.append_inj_left' z rfl)) with h | ⟨h, _⟩
            · exact .inl (by omega)
            · by_cases ec : c' < c + k
              · exact .inl (by omega)
              · exact .inr ⟨by omega, hgt⟩
        · exact h7 row' hr k (by omega) k2 e ne
theorem pick_ok {w : Int} {p : Nat} {r : List (Int × Nat)} {a : Int} {f : Nat → Option (Int × List Int)} (hf : ∀ n, n ≤ p → Tells r (a - n * w) (f n)) : ∀ (n : Nat) (acc : Option (Int × List Int)), n ≤ p → TellsN w p r a (n + 1) acc → TellsN w p r a 0 (pick f n acc)
  | 0, acc, hn, h => step_ok hn (hf 0 hn) h
  | n + 1, acc, hn, h => pick_ok hf n _ (by omega) (step_ok hn (hf (n + 1) hn) h)
theorem best_tells : ∀ {wps : List (Int × Nat)}, Pos wps → ∀ a, Tells wps a (bestP wps a)
  | [], _, a => by
    unfold bestP
    split
    · rename_i e
      subst e
      refine ⟨List.mem_singleton.mpr rfl, rfl, rfl, fun row' hr _ ne => ?_⟩
      exact (ne (List.mem_singleton.mp hr)).elim
    · rename_i e
      intro row hr z
      exact e z.symm
  | (w, p) :: r, h, a => by
    have hw : 0 < w := h (w, p) (List.mem_cons_self ..)
    have hr : Pos r := fun q hq => h q (List.mem_cons_of_mem _ hq)
    have ih := fun b => best_tells (wps := r) hr b
    have h0 : TellsN w p r a (hiP w p a + 1) none := by
      intro row hm k h1 h2 e
      have nn := worth_nn hr row hm
      have hk : (k : Int) ≤ a / w := by
        rw [Int.le_ediv_iff_mul_le hw, Int.mul_comm]
        omega
      unfold hiP at h1
      omega
    have := pick_ok (w := w) (p := p) (a := a) (f := fun m => bestP r (a - m * w)) (fun n _ => ih _) (hiP w p a) none (Nat.min_le_left _ _) h0
    show Tells ((w, p) :: r) a (pick (fun m => bestP r (a - m * w)) (hiP w p a) none)
    revert this
    generalize pick (fun m => bestP r (a - m * w)) (hiP w p a) none = o
    intro this
    cases o with
    | none =>
      intro row hm
      obtain ⟨row', h1, k, hk, rfl⟩ := mem_rows.mp hm
      rw [worth_app]
      exact this row' h1 k (Nat.zero_le _) hk
    | some q =>
      obtain ⟨c, row⟩ := q
      obtain ⟨row0, h1, k0, rfl, h3, h4, h5, h6, h7⟩ := this
      refine ⟨mem_rows.mpr ⟨row0, h1, k0, h4, rfl⟩, by rw [worth_app]; exact h5, h6, fun row' hm e ne => ?_⟩
      obtain ⟨row1, g1, k, hk, rfl⟩ := mem_rows.mp hm
      rw [worth_app] at e
      exact h7 row1 g1 k (Nat.zero_le _) hk e ne
end K5
namespace K5
def cnt (l : List (List Int)) (P : List Int → Bool) : Int := ((l.filter P).length : Nat)
theorem cnt_nil {P : List Int → Bool} : cnt [] P = 0 := rfl
theorem cnt_cons {x : List Int} {l : List (List Int)} {P : List Int → Bool} : cnt (x :: l) P = (if P x = true then 1 else 0) + cnt l P := by
  unfold cnt
  rw [List.filter_cons]
  split
  · rw [List.length_cons]
    omega
  · omega
theorem cnt_append {a b : List (List Int)} {P : List Int → Bool} : cnt (a ++ b) P = cnt a P + cnt b P := by
  unfold cnt
  rw [List.filter_append, List.length_append]
  omega
theorem sum_map_add {f g : Nat → Int} : ∀ l : List Nat, (l.map fun k => f k + g k).sum = (l.map f).sum + (l.map g).sum
  | [] => rfl
  | x :: l => by
    rw [List.map_cons, List.sum_cons, sum_map_add l, List.map_cons, List.sum_cons, List.map_cons, List.sum_cons]
    omega
theorem cnt_map {x : List Int} {P : List Int → Bool} : ∀ l : List Nat, cnt (l.map fun (k : Nat) => x ++ [(k : Int)]) P = (l.map fun (k : Nat) => if P (x ++ [(k : Int)]) = true then (1 : Int) else 0).sum
  | [] => rfl
  | k :: l => by
    rw [List.map_cons, cnt_cons, cnt_map l, List.map_cons, List.sum_cons]
theorem sum_zero {f : Nat → Int} : ∀ l : List Nat, (∀ k ∈ l, f k = 0) → (l.map f).sum = 0
  | [], _ => rfl
  | x :: l, h => by
    rw [List.map_cons, List.sum_cons, sum_zero l fun k hk => h k (List.mem_cons_of_mem _ hk), h x (List.mem_cons_self ..)]
    rfl
theorem cnt_flat {P : List Int → Bool} (ks : List Nat) : ∀ l : List (List Int), cnt (l.flatMap fun row => ks.map fun (k : Nat) => row ++ [(k : Int)]) P = (ks.map fun (k : Nat) => cnt l fun row => P (row ++ [(k : Int)])).sum
  | [] => by
    have := sum_zero (f := fun (k : Nat) => cnt [] fun row => P (row ++ [(k : Int)])) ks fun k _ => rfl
    rw [this]
    rfl
  | x :: l => by
    rw [List.flatMap_cons, cnt_append, cnt_flat ks l, cnt_map, ← sum_map_add]
    congr 1
    apply List.map_congr_left
    intro k _
    rw [cnt_cons]
theorem sum_short {f : Nat → Int} {hi : Nat} : ∀ (d : Nat), (∀ k, hi < k → k ≤ hi + d → f k = 0) → ((List.range (hi + d + 1)).map f).sum = ((List.range (hi + 1)).map f).sum
  | 0, _ => rfl
  | d + 1, h => by
    rw [show hi + (d + 1) + 1 = (hi + d + 1) + 1 by omega, List.range_succ, List.map_append, List.sum_append, sum_short d fun k h1 h2 => h k h1 (by omega), List.map_singleton, List.sum_singleton, h (hi + d + 1) (by omega) (by omega), Int.add_zero]
theorem cnt_zero {l : List (List Int)} {P : List Int → Bool} (h : ∀ row ∈ l, P row = false) : cnt l P = 0 := by
  unfold cnt
  rw [List.filter_eq_nil_iff.mpr fun row hr => by rw [h row hr]; exact Bool.false_ne_true]
  rfl
theorem cnt_congr {P Q : List Int → Bool} : ∀ {l : List (List Int)}, (∀ row ∈ l, P row = Q row) → cnt l P = cnt l Q
  | [], _ => rfl
  | x :: l, h => by
    rw [cnt_cons, cnt_cons, h x (List.mem_cons_self ..), cnt_congr fun row hr => h row (List.mem_cons_of_mem _ hr)]
theorem count_ok : ∀ {wps : List (Int × Nat)}, Pos wps → ∀ a, countP wps a = cnt (rowsP wps) fun row => decide (worth wps row = a)
  | [], _, a => by
    show (if a = 0 then (1 : Int) else 0) = cnt [[]] _
    rw [cnt_cons, cnt_nil]
    show _ = (if decide ((0 : Int) = a) = true then (1 : Int) else 0) + 0
    by_cases e : a = 0
    · subst e
      rfl
    · rw [if_neg e, if_neg (by rw [decide_eq_true_eq]; exact fun z => e z.symm)]
      rfl
  | (w, p) :: r, h, a => by
    have hw : 0 < w := h (w, p) (List.mem_cons_self ..)
    have hr : Pos r := fun q hq => h q (List.mem_cons_of_mem _ hq)
    show ((List.range (hiP w p a + 1)).map fun (m : Nat) => countP r (a - m * w)).sum = cnt ((rowsP r).flatMap fun row => (List.range (p + 1)).map fun (k : Nat) => row ++ [(k : Int)]) _
    rw [cnt_flat]
    have e : ∀ k : Nat, (cnt (rowsP r) fun row => decide (worth ((w, p) :: r) (row ++ [(k : Int)]) = a)) = countP r (a - k * w) := fun k => by
      rw [count_ok hr]
      refine cnt_congr fun row _ => ?_
      rw [worth_app]
      have : (k : Int) * w = w * k := Int.mul_comm _ _
      by_cases z : worth r row + w * k = a
      · rw [decide_eq_true z, decide_eq_true (by omega)]
      · rw [decide_eq_false z, decide_eq_false (by omega)]
    have e2 : ((List.range (p + 1)).map fun (k : Nat) => cnt (rowsP r) fun row => decide (worth ((w, p) :: r) (row ++ [(k : Int)]) = a)) = (List.range (p + 1)).map fun (k : Nat) => countP r (a - k * w) := List.map_congr_left fun k _ => e k
    rw [e2]
    have hle : hiP w p a ≤ p := Nat.min_le_left _ _
    obtain ⟨d, hd⟩ : ∃ d, p = hiP w p a + d := ⟨p - hiP w p a, by omega⟩
    have := sum_short (f := fun (k : Nat) => countP r (a - k * w)) (hi := hiP w p a) d fun k h1 h2 => by
      show countP r (a - k * w) = 0
      rw [count_ok hr]
      refine cnt_zero fun row hm => decide_eq_false fun z => ?_
      have nn := worth_nn hr row hm
      have comm : (k : Int) * w = w * k := Int.mul_comm _ _
      have hk : (k : Int) ≤ a / w := by
        rw [Int.le_ediv_iff_mul_le hw]
        omega
      have : k ≤ hiP w p a := by
        unfold hiP
        omega
      omega
    rw [← hd] at this
    exact this.symm
end K5
namespace K5
open PySem PySem.Spec PyProof.Rows L2 Pyx PySem.W
theorem first_sorted {α : Type} {le : α → α → Bool} (T : TotalLe le) {L : List α} {m : α} (hm : m ∈ L) (h : ∀ x ∈ L, x ≠ m → le x m = false) : ∃ t, L.mergeSort le = m :: t := by
  have hp := sort_pairwise T L
  have pm : (L.mergeSort le).Perm L := List.mergeSort_perm L le
  cases e : L.mergeSort le with
  | nil =>
    rw [e] at pm
    have := pm.mem_iff.mpr hm
    cases this
  | cons x t =>
    rw [e] at hp pm
    by_cases hx : x = m
    · exact ⟨t, by rw [hx]⟩
    · have h1 := h x (pm.mem_iff.mp (List.mem_cons_self ..)) hx
      rcases List.mem_cons.mp (pm.mem_iff.mpr hm) with h2 | h2
      · exact (hx h2.symm).elim
      · have h3 := (List.pairwise_cons.mp hp).1 m h2
        rw [h1] at h3
        cases h3
def negs (row : List Int) : List Int := row.map fun k => 0 - k
theorem negs_lt : ∀ {xs ys : List Int}, gtL xs ys → negs xs < negs ys
  | [], _, h => by cases h
  | _ :: _, [], h => by cases h
  | x :: xs, y :: ys, h => by
    show (0 - x) :: negs xs < (0 - y) :: negs ys
    rw [List.cons_lt_cons_iff]
    rcases h with h | ⟨h, h'⟩
    · exact .inl (by omega)
    · exact .inr ⟨by omega, negs_lt h'⟩
def rowD (row : List Int) : D := .tup (row.map .int)
def keyOf (row : List Int) : D := .tup [.int row.sum, .lst ((negs row.reverse).map .int), rowD row]
theorem pys_ints : ∀ ms : List Int, pys (ms.map .int) = ms.map PyData.int
  | [] => rfl
  | m :: r => by
    show py (.int m) :: pys (r.map .int) = _
    rw [pys_ints r]
    rfl
theorem py_key (row : List Int) : py (keyOf row) = .tuple [.int row.sum, .list ((negs row.reverse).map .int), .tuple (row.map .int)] := by
  show PyData.tuple [.int row.sum, .list (pys ((negs row.reverse).map .int)), .tuple (pys (row.map .int))] = _
  rw [pys_ints, pys_ints]
theorem alike_ints2 : ∀ xs ys : List Int, alikeAll (xs.map PyData.int) (ys.map .int) = true := alike_ints
theorem alike_key (a b : List Int) : alike (py (keyOf a)) (py (keyOf b)) = true := by
  rw [py_key, py_key]
  simp [alike, alikeAll, alike_ints2]
theorem lt_key {a b : List Int} (h : a.sum < b.sum ∨ (a.sum = b.sum ∧ revGt a b)) : dataLt (py (keyOf a)) (py (keyOf b)) = true := by
  rw [py_key, py_key, dataLt_tuple, dataLt_cons (by simp [alike])]
  rcases h with h | ⟨h, h'⟩
  · have e : PyData.eqv (.int a.sum) (.int b.sum) = false := by
      simp only [PyData.eqv]
      rw [beq_eq_false_iff_ne]
      omega
    rw [if_neg (by rw [e]; exact Bool.false_ne_true), dataLt_int]
    exact decide_eq_true h
  · have e : PyData.eqv (.int a.sum) (.int b.sum) = true := by
      simp only [PyData.eqv]
      rw [beq_iff_eq]
      exact h
    rw [if_pos e, dataLt_cons (by simp [alike, alike_ints2])]
    have hl : dataLt (.list ((negs a.reverse).map .int)) (.list ((negs b.reverse).map .int)) = true := by
      rw [dataLt_list]
      show rowLt ((negs a.reverse).map .int) ((negs b.reverse).map .int) = true
      rw [dataLt_ints]
      exact decide_eq_true (negs_lt h')
    cases q : PyData.eqv (.list ((negs a.reverse).map .int)) (.list ((negs b.reverse).map .int)) with
    | false =>
      rw [if_neg Bool.false_ne_true]
      exact hl
    | true =>
      have z := (toks_eqv (.list ((negs a.reverse).map .int)) (.list ((negs b.reverse).map .int)) (by simp [alike, alike_ints2])).1 q
      unfold dataLt at hl
      rw [z, lex_irrefl] at hl
      cases hl
theorem noCells_keys : ∀ rows : List (List Int), noCells (rows.map keyOf) = true
  | [] => rfl
  | r :: rs => by
    show (noCell (keyOf r) && noCells (rs.map keyOf)) = true
    rw [noCells_keys rs, Bool.and_true]
    show (true && ((noCells ((negs r.reverse).map .int)) && (noCells (r.map .int) && true))) = true
    rw [noCells_ints, noCells_ints]
    rfl
theorem depth_key (r : List Int) : (py (keyOf r)).depth ≤ 50 := by
  rw [py_key]
  simp [PyData.depth, PyData.depthAll, depth_ints]
theorem sort_keys (rows : List (List Int)) {S : Sto} : sortF [.lst (rows.map keyOf)] S = some (.lst ((rows.map keyOf).mergeSort (dataLe false py))) := by
  have e : listD S (.lst (rows.map keyOf)) = some (rows.map keyOf) := rfl
  simp only [sortF, e, Option.bind_some]
  rw [if_pos]
  simp only [Bool.and_eq_true]
  refine ⟨⟨⟨noCells_keys rows, ?_⟩, ?_⟩, ?_⟩
  · unfold alikeB
    refine List.all_eq_true.mpr fun d hd => List.all_eq_true.mpr fun d' hd' => ?_
    obtain ⟨x, hx, rfl⟩ := List.mem_map.mp hd
    obtain ⟨y, hy, rfl⟩ := List.mem_map.mp hd'
    obtain ⟨a, ha, rfl⟩ := List.mem_map.mp hx
    obtain ⟨b, hb, rfl⟩ := List.mem_map.mp hy
    exact alike_key a b
  · unfold sortableB
    rw [Bool.or_eq_true]
    refine .inl (List.all_eq_true.mpr fun d hd => ?_)
    obtain ⟨x, hx, rfl⟩ := List.mem_map.mp hd
    obtain ⟨a, ha, rfl⟩ := List.mem_map.mp hx
    rfl
  · refine List.all_eq_true.mpr fun d hd => ?_
    obtain ⟨a, ha, rfl⟩ := List.mem_map.mp hd
    exact decide_eq_true (depth_key a)
/-- the rows that come to an amount -/
def good (wps : List (Int × Nat)) (a : Int) : List (List Int) := (rowsP wps).filter fun row => decide (worth wps row = a)
theorem good_none {wps : List (Int × Nat)} {a : Int} (h : Pos wps) (e : bestP wps a = none) : good wps a = [] := by
  have t := best_tells h a
  rw [e] at t
  refine List.filter_eq_nil_iff.mpr fun row hr z => t row hr (of_decide_eq_true z)
theorem good_some {wps : List (Int × Nat)} {a c : Int} {row : List Int} (h : Pos wps) (e : bestP wps a = some (c, row)) : ∃ t, ((good wps a).map keyOf).mergeSort (dataLe false py) = keyOf row :: t := by
  have t := best_tells h a
  rw [e] at t
  obtain ⟨t1, t2, t3, t4⟩ := t
  refine first_sorted (sortLe_total _ _ _) (List.mem_map.mpr ⟨row, List.mem_filter.mpr ⟨t1, decide_eq_true t2⟩, rfl⟩) fun x hx ne => ?_
  obtain ⟨row', hr, rfl⟩ := List.mem_map.mp hx
  obtain ⟨h1, h2⟩ := List.mem_filter.mp hr
  have ne' : row' ≠ row := fun z => ne (by rw [z])
  show (!dataLt (py (keyOf row)) (py (keyOf row'))) = false
  rw [lt_key (by rw [t3]; exact t4 row' h1 (of_decide_eq_true h2) ne')]
  rfl
theorem good_len {wps : List (Int × Nat)} {a : Int} (h : Pos wps) : countP wps a = ((good wps a).length : Nat) := count_ok h a
end K5
namespace Hd
open PySem PySem.Spec PyProof.Rows L2 Pyx
def bd_is_number (G : Fn) : SM := seqM (retM (andV (isiM ("int") (varM 0)) (andV (notV (isiM ("bool") (varM 0))) (chainM leD leD (varM 1) (varM 0) (varM 2))))) skipM
theorem mn_is_number (j : Nat) : tl.mean (j + 1) 0 = defX 3 (bd_is_number (tl.mean j)) := by kernel_rfl
def bd_need_count (G : Fn) : SM := seqM (ifS (notM (tstM (callM 3 ([]) (G 0) (consM (varM 0) (consM (varM 1) (consM (varM 2) nilM)))))) (seqM badS skipM) skipM) skipM
theorem mn_need_count (j : Nat) : tl.mean (j + 1) 1 = defX 3 (bd_need_count (tl.mean j)) := by kernel_rfl
def bd_need_kinds (G : Fn) : SM := seqM (ifS (orM (notM (tstM (isiM ("tuple") (varM 0)))) (tstM (binM eqD (varM 0) (tupM nilM)))) (seqM badS skipM) skipM) (seqM (forM (enumI2 (consM (varM 0) nilM)) (gTp 2 (gsCons (gNm 1) (gsCons (gNm 2) gsNil))) (seqM (asgM (gNm 3) (ifM (tstM (binM gtD (varM 1) (cM (.int 0)))) (binM addD (subM (varM 0) (binM subD (varM 1) (cM (.int 1)))) (cM (.int 1))) (cM (.int 1)))) (seqM (ifS (orM (tstM (binM geD (varM 1) (cM (.int 5)))) (notM (tstM (callM 3 ([]) (G 0) (consM (varM 2) (consM (varM 3) (consM (cM (.int 500)) nilM))))))) (seqM badS skipM) skipM) skipM))) skipM)
theorem mn_need_kinds (j : Nat) : tl.mean (j + 1) 2 = defX 4 (bd_need_kinds (tl.mean j)) := by kernel_rfl
def bd_need_notes (G : Fn) : SM := seqM (ifS (orM (notM (tstM (isiM ("tuple") (varM 1)))) (tstM (binM neD (calM lenF (consM (varM 1) nilM)) (calM lenF (consM (varM 0) nilM))))) (seqM badS skipM) skipM) (seqM (ifS (notM (tstM (calM allF (consM (lcM none ([2]) (seqI (varM 1)) (gNm 2) yesM (callM 3 ([]) (G 0) (consM (varM 2) (consM (cM (.int 0)) (consM (cM (.int 99)) nilM))))) nilM)))) (seqM badS skipM) skipM) skipM)
theorem mn_need_notes (j : Nat) : tl.mean (j + 1) 3 = defX 3 (bd_need_notes (tl.mean j)) := by kernel_rfl
def bd_chosen (G : Fn) : SM := seqM (asgM (gNm 3) (methM tl.tb tl.np G 4 3 (mkM 3 0 ([]) (G 13) (consM (varM 0) (consM (varM 1) nilM))) (consM (binM subD (calM lenF (consM (varM 0) nilM)) (cM (.int 1))) (consM (varM 2) nilM)))) (seqM (retM (ifM (tstM (binM isND (varM 3) (cM .non))) (cM .non) (subM (varM 3) (cM (.int 1))))) skipM)
theorem mn_chosen (j : Nat) : tl.mean (j + 1) 4 = defX 4 (bd_chosen (tl.mean j)) := by kernel_rfl
def bd_need_all (G : Fn) : SM := seqM (exprM (callM 1 ([]) (G 2) (consM (varM 0) nilM))) (seqM (exprM (callM 2 ([]) (G 3) (consM (varM 0) (consM (varM 1) nilM)))) (seqM (exprM (callM 3 ([]) (G 1) (consM (varM 2) (consM (cM (.int 0)) (consM (cM (.int 99999)) nilM))))) skipM))
theorem mn_need_all (j : Nat) : tl.mean (j + 1) 5 = defX 3 (bd_need_all (tl.mean j)) := by kernel_rfl
def bd_fewest (G : Fn) : SM := seqM (exprM (callM 3 ([]) (G 5) (consM (varM 0) (consM (varM 1) (consM (varM 2) nilM))))) (seqM (retM (callM 3 ([]) (G 4) (consM (varM 0) (consM (varM 1) (consM (varM 2) nilM))))) skipM)
theorem mn_fewest (j : Nat) : tl.mean (j + 1) 6 = defX 3 (bd_fewest (tl.mean j)) := by kernel_rfl
def bd_ways (G : Fn) : SM := seqM (exprM (callM 3 ([]) (G 5) (consM (varM 0) (consM (varM 1) (consM (varM 2) nilM))))) (seqM (retM (methM tl.tb tl.np G 5 3 (mkM 3 0 ([]) (G 13) (consM (varM 0) (consM (varM 1) nilM))) (consM (binM subD (calM lenF (consM (varM 0) nilM)) (cM (.int 1))) (consM (varM 2) nilM)))) skipM)
theorem mn_ways (j : Nat) : tl.mean (j + 1) 7 = defX 3 (bd_ways (tl.mean j)) := by kernel_rfl
def bd__law_begun (G : Fn) : SM := seqM (asgM (gNm 1) (cM (.int 0))) (seqM (forM (seqI (varM 0)) (gNm 2) (seqM (asgM (gNm 1) (binM modD (binM addD (binM addD (binM mulD (varM 1) (cM (.int 48271))) (binM mulD (varM 2) (cM (.int 69621)))) (cM (.int 11))) (cM (.int 2147483647)))) skipM)) (seqM (retM (lstC none (consM (listC none (varM 0)) (consM (binM mulD (varM 1) (calM intF (consM (binM gtD (calM lenF (consM (varM 0) nilM)) (cM (.int 2))) nilM))) nilM)))) skipM))
theorem mn__law_begun (j : Nat) : tl.mean (j + 1) 8 = defX 3 (bd__law_begun (tl.mean j)) := by kernel_rfl
def bd__law_take (G : Fn) : SM := seqM (ifS (tstM (binM eqD (subM (varM 0) (cM (.int 0))) (lstM nilM))) (seqM (putM (varM 0) (cM (.int 1)) (binM modD (binM mulD (subM (varM 0) (cM (.int 1))) (cM (.int 48271))) (cM (.int 2147483647)))) (seqM (retM (binM modD (binM fdivD (subM (varM 0) (cM (.int 1))) (cM (.int 7))) (varM 1))) skipM)) skipM) (seqM (asgM (gNm 2) (subM (subM (varM 0) (cM (.int 0))) (cM (.int 0)))) (seqM (putM (subM (varM 0) (cM (.int 0))) (cM (.int 0)) (binM fdivD (varM 2) (varM 1))) (seqM (ifS (orM (tstM (binM eqD (subM (subM (varM 0) (cM (.int 0))) (cM (.int 0))) (cM (.int 0)))) (tstM (binM eqD (subM (subM (varM 0) (cM (.int 0))) (cM (.int 0))) (negM (cM (.int 1)))))) (seqM (exprM (bmM 1 popG (subM (varM 0) (cM (.int 0))) (consM (cM (.int 0)) nilM))) skipM) skipM) (seqM (retM (binM modD (varM 2) (varM 1))) skipM))))
theorem mn__law_take (j : Nat) : tl.mean (j + 1) 9 = defX 3 (bd__law_take (tl.mean j)) := by kernel_rfl
def bd__law_alike (G : Fn) : SM := seqM (ifS (tstM (binM isND (varM 1) (cM .non))) (seqM (retM (binM isND (varM 0) (cM .non))) skipM) skipM) (seqM (ifS (tstM (isiM ("bool") (varM 1))) (seqM (retM (andV (isiM ("bool") (varM 0)) (binM eqD (varM 0) (varM 1)))) skipM) skipM) (seqM (ifS (tstM (isiM ("int") (varM 1))) (seqM (retM (andV (isiM ("int") (varM 0)) (andV (notV (isiM ("bool") (varM 0))) (binM eqD (varM 0) (varM 1))))) skipM) skipM) (seqM (ifS (tstM (isiM ("str") (varM 1))) (seqM (retM (andV (isiM ("str") (varM 0)) (binM eqD (varM 0) (varM 1)))) skipM) skipM) (seqM (ifS (orM (tstM (binM neD (isiM ("tuple") (varM 1)) (isiM ("tuple") (varM 0)))) (tstM (binM neD (isiM ("list") (varM 1)) (isiM ("list") (varM 0))))) (seqM (retM (cM (.bl false))) skipM) skipM) (seqM (ifS (tstM (binM neD (calM lenF (consM (varM 0) nilM)) (calM lenF (consM (varM 1) nilM)))) (seqM (retM (cM (.bl false))) skipM) skipM) (seqM (forM (rng1I (consM (calM lenF (consM (varM 1) nilM)) nilM)) (gNm 2) (seqM (ifS (notM (tstM (callM 2 ([]) (G 10) (consM (subM (varM 0) (varM 2)) (consM (subM (varM 1) (varM 2)) nilM))))) (seqM (retM (cM (.bl false))) skipM) skipM) skipM)) (seqM (retM (cM (.bl true))) skipM)))))))
theorem mn__law_alike (j : Nat) : tl.mean (j + 1) 10 = defX 3 (bd__law_alike (tl.mean j)) := by kernel_rfl
def bd__law_all_choices (G : Fn) : SM := seqM (asgM (gNm 1) (lstM (consM (tupM nilM) nilM))) (seqM (forM (seqI (varM 0)) (gNm 2) (seqM (asgM (gNm 3) (lstC none nilM)) (seqM (forM (seqI (varM 1)) (gNm 4) (seqM (exprM (bmM 1 extG (varM 3) (consM (lcM none ([5]) (rng1I (consM (binM addD (varM 2) (cM (.int 1))) nilM)) (gNm 5) yesM (binM addD (varM 4) (tupM (consM (varM 5) nilM)))) nilM))) skipM)) (seqM (asgM (gNm 1) (varM 3)) skipM)))) (seqM (retM (varM 1)) skipM))
theorem mn__law_all_choices (j : Nat) : tl.mean (j + 1) 11 = defX 6 (bd__law_all_choices (tl.mean j)) := by kernel_rfl
def bd_law (G : Fn) : SM := seqM (asgM (gNm 1) (callM 1 ([]) (G 8) (consM (varM 0) nilM))) (seqM (forM (rng1I (consM (cM (.int 3)) nilM)) (gNm 2) (seqM (asgM (gNm 3) (lstM (consM (tupM (consM (cM (.int 1)) (consM (cM (.int 5)) (consM (cM (.int 6)) (consM (cM (.int 9)) nilM))))) (consM (tupM (consM (cM (.int 1)) (consM (cM (.int 3)) (consM (cM (.int 4)) nilM)))) (consM (tupM (consM (cM (.int 20)) (consM (cM (.int 50)) nilM))) (consM (tupM (consM (cM (.int 5)) (consM (cM (.int 10)) (consM (cM (.int 20)) (consM (cM (.int 50)) nilM))))) (consM (tupM (consM (cM (.int 3)) (consM (cM (.int 7)) (consM (cM (.int 10)) nilM)))) (consM (tupM (consM (cM (.int 499)) (consM (cM (.int 500)) nilM))) (consM (tupM (consM (cM (.int 2)) (consM (cM (.int 4)) (consM (cM (.int 6)) (consM (cM (.int 8)) nilM))))) nilM))))))))) (seqM (asgM (gNm 4) (subM (binM addD (varM 3) (lstM (consM (tupM (consM (cM (.int 1)) (consM (cM (.int 3)) (consM (cM (.int 8)) (consM (cM (.int 11)) nilM))))) nilM))) (callM 2 ([]) (G 9) (consM (varM 1) (consM (cM (.int 8)) nilM))))) (seqM (asgM (gNm 5) (calM tupF (consM (lcM none ([6]) (seqI (varM 4)) (gNm 6) yesM (callM 2 ([]) (G 9) (consM (varM 1) (consM (subM (lstM (consM (cM (.int 6)) (consM (cM (.int 100)) nilM))) (calM intF (consM (binM eqD (calM lenF (consM (varM 4) nilM)) (cM (.int 2))) nilM))) nilM)))) nilM))) (seqM (asgM (gNm 3) (callM 1 ([]) (G 11) (consM (varM 5) nilM))) (seqM (asgM (gNm 7) (calM sumF (consM (lcM none ([8]) (rng1I (consM (calM lenF (consM (varM 4) nilM)) nilM)) (gNm 8) yesM (binM mulD (subM (varM 4) (varM 8)) (subM (subM (varM 3) (callM 2 ([]) (G 9) (consM (varM 1) (consM (calM lenF (consM (varM 3) nilM)) nilM)))) (varM 8)))) nilM))) (seqM (asgM (gNm 7) (binM addD (varM 7) (binM mulD (callM 2 ([]) (G 9) (consM (varM 1) (consM (cM (.int 4)) nilM))) (calM intF (consM (binM eqD (callM 2 ([]) (G 9) (consM (varM 1) (consM (cM (.int 3)) nilM))) (cM (.int 0))) nilM))))) (seqM (asgM (gNm 9) (lcM none ([10]) (seqI (varM 3)) (gNm 10) (tstM (binM eqD (calM sumF (consM (lcM none ([8]) (rng1I (consM (calM lenF (consM (varM 4) nilM)) nilM)) (gNm 8) yesM (binM mulD (subM (varM 4) (varM 8)) (subM (varM 10) (varM 8)))) nilM)) (varM 7))) (varM 10))) (seqM (asgM (gNm 11) (calM sortF (consM (lcM none ([10]) (seqI (varM 9)) (gNm 10) yesM (tupM (consM (calM sumF (consM (varM 10) nilM)) (consM (lcM none ([12]) (seqI (revT (varM 10))) (gNm 12) yesM (binM subD (cM (.int 0)) (varM 12))) (consM (varM 10) nilM))))) nilM))) (seqM (asgM (gNm 13) (ifM (tstM (binM neD (varM 11) (lstM nilM))) (subM (subM (varM 11) (cM (.int 0))) (cM (.int 2))) (cM .non))) (seqM (forM (rng1I (consM (cM (.int 2)) nilM)) (gNm 14) (seqM (ifS (notM (tstM (callM 2 ([]) (G 10) (consM (lstM (consM (callM 3 ([]) (G 6) (consM (varM 4) (consM (varM 5) (consM (varM 7) nilM)))) (consM (callM 3 ([]) (G 7) (consM (varM 4) (consM (varM 5) (consM (varM 7) nilM)))) nilM))) (consM (lstM (consM (varM 13) (consM (calM lenF (consM (varM 9) nilM)) nilM))) nilM))))) (seqM (retM (cM (.bl false))) skipM) skipM) skipM)) skipM))))))))))) (seqM (retM (binM eqD (callM 3 ([]) (G 6) (consM (tupM (consM (cM (.int 1)) (consM (cM (.int 3)) (consM (cM (.int 8)) (consM (cM (.int 11)) nilM))))) (consM (tupM (consM (cM (.int 5)) (consM (cM (.int 5)) (consM (cM (.int 5)) (consM (cM (.int 5)) nilM))))) (consM (cM (.int 40)) nilM)))) (tupM (consM (cM (.int 0)) (consM (cM (.int 0)) (consM (cM (.int 5)) (consM (cM (.int 0)) nilM))))))) skipM))
theorem mn_law (j : Nat) : tl.mean (j + 1) 12 = defX 15 (bd_law (tl.mean j)) := by kernel_rfl
def bd_Chooser_init (G : Fn) : SM := seqM (satM tl.tb 0 (varM 0) (varM 1)) (seqM (satM tl.tb 1 (varM 0) (varM 2)) (seqM (satM tl.tb 2 (varM 0) (dctT none)) (seqM (satM tl.tb 3 (varM 0) (dctT none)) skipM)))
theorem mn_Chooser_init (j : Nat) : tl.mean (j + 1) 13 = defX 3 (bd_Chooser_init (tl.mean j)) := by kernel_rfl
def bd_Chooser_best (G : Fn) : SM := seqM (ifS (tstM (binM ltD (varM 1) (cM (.int 0)))) (seqM (retM (ifM (tstM (binM eqD (varM 2) (cM (.int 0)))) (tupM (consM (cM (.int 0)) (consM (tupM nilM) nilM))) (cM .non))) skipM) skipM) (seqM (ifS (tstM (binM ((inD true)) (tupM (consM (varM 1) (consM (varM 2) nilM))) (attM tl.tb 2 (varM 0)))) (seqM (asgM (gNm 3) (cM .non)) (seqM (forM (rng3I (consM (calM minF (consM (subM (attM tl.tb 1 (varM 0)) (varM 1)) (consM (binM fdivD (varM 2) (subM (attM tl.tb 0 (varM 0)) (varM 1))) nilM))) (consM (negM (cM (.int 1))) (consM (negM (cM (.int 1))) nilM)))) (gNm 4) (seqM (asgM (gNm 5) (methM tl.tb tl.np G 4 3 (varM 0) (consM (binM subD (varM 1) (cM (.int 1))) (consM (binM subD (varM 2) (binM mulD (varM 4) (subM (attM tl.tb 0 (varM 0)) (varM 1)))) nilM)))) (seqM (ifS (andM (tstM (binM notND (varM 5) (cM .non))) (orM (tstM (binM isND (varM 3) (cM .non))) (tstM (binM ltD (binM addD (subM (varM 5) (cM (.int 0))) (varM 4)) (subM (varM 3) (cM (.int 0))))))) (seqM (asgM (gNm 3) (tupM (consM (binM addD (subM (varM 5) (cM (.int 0))) (varM 4)) (consM (binM addD (subM (varM 5) (cM (.int 1))) (tupM (consM (varM 4) nilM))) nilM)))) skipM) skipM) skipM))) (seqM (putM (attM tl.tb 2 (varM 0)) (tupM (consM (varM 1) (consM (varM 2) nilM))) (varM 3)) skipM))) skipM) (seqM (retM (subM (attM tl.tb 2 (varM 0)) (tupM (consM (varM 1) (consM (varM 2) nilM))))) skipM))
theorem mn_Chooser_best (j : Nat) : tl.mean (j + 1) 14 = defX 6 (bd_Chooser_best (tl.mean j)) := by kernel_rfl
def bd_Chooser_count (G : Fn) : SM := seqM (ifS (tstM (binM ltD (varM 1) (cM (.int 0)))) (seqM (retM (calM intF (consM (binM eqD (varM 2) (cM (.int 0))) nilM))) skipM) skipM) (seqM (ifS (tstM (binM ((inD true)) (tupM (consM (varM 1) (consM (varM 2) nilM))) (attM tl.tb 3 (varM 0)))) (seqM (asgM (gNm 3) (calM minF (consM (subM (attM tl.tb 1 (varM 0)) (varM 1)) (consM (binM fdivD (varM 2) (subM (attM tl.tb 0 (varM 0)) (varM 1))) nilM)))) (seqM (asgM (gNm 4) (lcM none ([5]) (rng1I (consM (binM addD (varM 3) (cM (.int 1))) nilM)) (gNm 5) yesM (methM tl.tb tl.np G 5 3 (varM 0) (consM (binM subD (varM 1) (cM (.int 1))) (consM (binM subD (varM 2) (binM mulD (varM 5) (subM (attM tl.tb 0 (varM 0)) (varM 1)))) nilM))))) (seqM (putM (attM tl.tb 3 (varM 0)) (tupM (consM (varM 1) (consM (varM 2) nilM))) (calM sumF (consM (varM 4) nilM))) skipM))) skipM) (seqM (retM (subM (attM tl.tb 3 (varM 0)) (tupM (consM (varM 1) (consM (varM 2) nilM))))) skipM))
theorem mn_Chooser_count (j : Nat) : tl.mean (j + 1) 15 = defX 6 (bd_Chooser_count (tl.mean j)) := by kernel_rfl
def bd_BadPlan_init (G : Fn) : SM := seqM (exprM badE) (seqM badS (seqM badS skipM))
theorem mn_BadPlan_init (j : Nat) : tl.mean (j + 1) 16 = defX 3 (bd_BadPlan_init (tl.mean j)) := by kernel_rfl
end Hd
namespace K5
open PySem PySem.Spec PyProof.Rows L2 Pyx Hd
def accs (f : Nat → Option (Int × List Int)) (hi : Nat) : Nat → Option (Int × List Int)
  | 0 => none
  | k + 1 => step (hi - k) (f (hi - k)) (accs f hi k)
theorem pick_accs {f : Nat → Option (Int × List Int)} {hi : Nat} : ∀ (n k : Nat), n + k = hi → pick f n (accs f hi k) = accs f hi (hi + 1)
  | 0, k, h => by
    have : hi = k := by omega
    subst this
    show step 0 (f 0) (accs f hi hi) = step (hi - hi) (f (hi - hi)) (accs f hi hi)
    rw [Nat.sub_self]
  | n + 1, k, h => by
    show pick f n (step (n + 1) (f (n + 1)) (accs f hi k)) = _
    have e : hi - k = n + 1 := by omega
    have : step (n + 1) (f (n + 1)) (accs f hi k) = accs f hi (k + 1) := by
      show _ = step (hi - k) (f (hi - k)) (accs f hi k)
      rw [e]
    rw [this]
    exact pick_accs n (k + 1) (by omega)
def enc : Option (Int × List Int) → D
  | none => .non
  | some (c, row) => .tup [.int c, rowD row]
def kindsD (zs : List (Int × Nat)) : D := .tup (zs.map fun z => .int z.1)
def pilesD (zs : List (Int × Nat)) : D := .tup (zs.map fun z => .int (z.2 : Nat))
def pre (zs : List (Int × Nat)) (n : Nat) : List (Int × Nat) := (zs.take n).reverse
theorem pre_succ {zs : List (Int × Nat)} {n : Nat} {z : Int × Nat} (h : zs[n]? = some z) : pre zs (n + 1) = z :: pre zs n := by
  unfold pre
  obtain ⟨h1, h2⟩ := List.getElem?_eq_some_iff.mp h
  rw [List.take_succ, h, List.reverse_append]
  rfl
def Gr (zs : List (Int × Nat)) : Nat → Nat
  | 0 => 0
  | n + 1 => 1 + ((zs[n]?.map (·.2)).getD 0 + 1) * Gr zs n
structure ChS (zs : List (Int × Nat)) (S : Sto) (o kn ct : Id) (L M : Nat) : Prop where
  ne1 : o ≠ kn
  ne2 : o ≠ ct
  ne3 : kn ≠ ct
  ho : S.at_ o = some (.ins 0 [(0, kindsD zs), (1, pilesD zs), (2, .cell kn), (3, .cell ct)])
  hk : ∃ kvs, S.at_ kn = some (.dT kvs) ∧ kvs.length ≤ L ∧ ∀ (q : List Key) (d : D), (q, d) ∈ kvs → ∃ (i : Nat) (a : Int), q = [.inl (i : Int), .inl a] ∧ d = enc (bestP (pre zs (i + 1)) a)
  hc : ∃ kvs, S.at_ ct = some (.dT kvs) ∧ kvs.length ≤ M ∧ ∀ (q : List Key) (d : D), (q, d) ∈ kvs → ∃ (i : Nat) (a : Int), q = [.inl (i : Int), .inl a] ∧ d = .int (countP (pre zs (i + 1)) a)
theorem ChS.mono {zs : List (Int × Nat)} {S : Sto} {o kn ct : Id} {L L' M M' : Nat} (h : ChS zs S o kn ct L M) (hl : L ≤ L') (hm : M ≤ M') : ChS zs S o kn ct L' M' := by
  obtain ⟨kvs, h1, h2, h3⟩ := h.hk
  obtain ⟨cvs, g1, g2, g3⟩ := h.hc
  exact ⟨h.ne1, h.ne2, h.ne3, h.ho, ⟨kvs, h1, by omega, h3⟩, ⟨cvs, g1, by omega, g3⟩⟩
def kBestBody (G : Fn) : SM := seqM (asgM (gNm 5) (methM tl.tb tl.np G 4 3 (varM 0) (consM (binM subD (varM 1) (cM (.int 1))) (consM (binM subD (varM 2) (binM mulD (varM 4) (subM (attM tl.tb 0 (varM 0)) (varM 1)))) nilM)))) (seqM (ifS (andM (tstM (binM notND (varM 5) (cM .non))) (orM (tstM (binM isND (varM 3) (cM .non))) (tstM (binM ltD (binM addD (subM (varM 5) (cM (.int 0))) (varM 4)) (subM (varM 3) (cM (.int 0))))))) (seqM (asgM (gNm 3) (tupM (consM (binM addD (subM (varM 5) (cM (.int 0))) (varM 4)) (consM (binM addD (subM (varM 5) (cM (.int 1))) (tupM (consM (varM 4) nilM))) nilM)))) skipM) skipM) skipM)
def kBest (G : Fn) : SM := seqM (ifS (tstM (binM ltD (varM 1) (cM (.int 0)))) (seqM (retM (ifM (tstM (binM eqD (varM 2) (cM (.int 0)))) (tupM (consM (cM (.int 0)) (consM (tupM nilM) nilM))) (cM .non))) skipM) skipM) (seqM (ifS (tstM (binM ((inD true)) (tupM (consM (varM 1) (consM (varM 2) nilM))) (attM tl.tb 2 (varM 0)))) (seqM (asgM (gNm 3) (cM .non)) (seqM (forM (rng3I (consM (calM minF (consM (subM (attM tl.tb 1 (varM 0)) (varM 1)) (consM (binM fdivD (varM 2) (subM (attM tl.tb 0 (varM 0)) (varM 1))) nilM))) (consM (negM (cM (.int 1))) (consM (negM (cM (.int 1))) nilM)))) (gNm 4) (kBestBody G)) (seqM (putM (attM tl.tb 2 (varM 0)) (tupM (consM (varM 1) (consM (varM 2) nilM))) (varM 3)) skipM))) skipM) (seqM (retM (subM (attM tl.tb 2 (varM 0)) (tupM (consM (varM 1) (consM (varM 2) nilM))))) skipM))
theorem best_eq (j : Nat) (d : List D) (S : Sto) : tl.mean (j + 1) 14 d S = defX 6 (kBest (tl.mean j)) d S := by
  rw [mn_Chooser_best]
  rfl
theorem mt_best : tl.tb.mt 0 4 = some 14 := by decide +kernel
theorem mt_count : tl.tb.mt 0 5 = some 15 := by decide +kernel
theorem df_best : tl.tb.df 14 3 = some [] := by kernel_rfl
theorem df_count : tl.tb.df 15 3 = some [] := by kernel_rfl
theorem np_best : tl.np 14 = 3 := by kernel_rfl
theorem np_count : tl.np 15 = 3 := by kernel_rfl
theorem pl0 : tl.tb.pl 0 0 = true := by kernel_rfl
theorem pl1 : tl.tb.pl 0 1 = true := by kernel_rfl
theorem pl2 : tl.tb.pl 0 2 = true := by kernel_rfl
theorem pl3 : tl.tb.pl 0 3 = true := by kernel_rfl
section
variable {zs : List (Int × Nat)} {o kn ct : Id} {S : Sto} {L M : Nat} {n : Nat} {w : Int} {p : Nat}
theorem kinds_at (h : zs[n]? = some (w, p)) : atI (zs.map fun z => D.int z.1) (n : Nat) = some (.int w) := Pyx.atI_nat (by rw [List.getElem?_map, h]; rfl)
theorem piles_at (h : zs[n]? = some (w, p)) : atI (zs.map fun z => D.int (z.2 : Nat)) (n : Nat) = some (.int (p : Nat)) := Pyx.atI_nat (by rw [List.getElem?_map, h]; rfl)
theorem row_len : ∀ {wps : List (Int × Nat)} {row : List Int}, row ∈ rowsP wps → row.length = wps.length
  | [], row, h => by
    cases List.mem_singleton.mp h
    rfl
  | (w, p) :: r, row, h => by
    obtain ⟨row', h1, k, hk, rfl⟩ := mem_rows.mp h
    rw [List.length_append, row_len h1]
    rfl
theorem best_len {wps : List (Int × Nat)} {a c : Int} {row : List Int} (hp : Pos wps) (h : bestP wps a = some (c, row)) : row.length = wps.length := by
  have t := best_tells hp a
  rw [h] at t
  exact row_len t.1
theorem sz_small {n : Nat} (h : n ≤ 1000000) : n ≤ sizeLine := Nat.le_trans h (by decide)
/-- one turn of best's loop -/
theorem turn_ok {j : Nat} {S S' : Sto} {amount : Int} {m : Nat} {acc o1 : Option (Int × List Int)} {x y : Option D} (hz : zs[n]? = some (w, p)) (hw : -1000000000 < w ∧ w < 1000000000) (hS : ChS zs S o kn ct L M) (hr : tl.mean j 14 [.cell o, .int ((n : Int) - 1), .int (amount - m * w)] S = .ok (enc o1) S')
    (hlen : ∀ c row, o1 = some (c, row) → row.length ≤ 100) : kBestBody (tl.mean j) [some (.cell o), some (.int (n : Nat)), some (.int amount), some (enc acc), some (.int (m : Nat)), y] S = .nx [some (.cell o), some (.int (n : Nat)), some (.int amount), some (enc (step m o1 acc)), some (.int (m : Nat)), some (enc o1)] S' := by
  generalize he : [some (D.cell o), some (.int (n : Nat)), some (.int amount), some (enc acc), some (.int (m : Nat)), y] = e
  have v0 : ∀ T, varM 0 e T = .ok (.cell o) T := fun T => by rw [← he]; rfl
  have v1 : ∀ T, varM 1 e T = .ok (.int (n : Nat)) T := fun T => by rw [← he]; rfl
  have v2 : ∀ T, varM 2 e T = .ok (.int amount) T := fun T => by rw [← he]; rfl
  have v4 : ∀ T, varM 4 e T = .ok (.int (m : Nat)) T := fun T => by rw [← he]; rfl
  have kd : subM (attM tl.tb 0 (varM 0)) (varM 1) e S = .ok (.int w) S := subM_tup (attM_ok (v0 S) hS.ho pl0 rfl) (v1 S) (kinds_at hz)
  have a2 : binM subD (varM 2) (binM mulD (varM 4) (subM (attM tl.tb 0 (varM 0)) (varM 1))) e S = .ok (.int (amount - m * w)) S := binM_eq (v2 S) (binM_eq (v4 S) kd (mulD_int (mulOk_r hw))) rfl
  have a1 : binM subD (varM 1) (cM (.int 1)) e S = .ok (.int ((n : Int) - 1)) S := binM_eq (v1 S) rfl rfl
  have call : methM tl.tb tl.np (tl.mean j) 4 3 (varM 0) (consM (binM subD (varM 1) (cM (.int 1))) (consM (binM subD (varM 2) (binM mulD (varM 4) (subM (attM tl.tb 0 (varM 0)) (varM 1)))) nilM)) e S = .ok (enc o1) S' := by
    rw [methM_ok (v0 S) hS.ho mt_best rfl df_best (consM_ok a1 (consM_ok a2 rfl)) (by rw [np_best]; rfl)]
    exact hr
  unfold kBestBody
  rw [asg_ok call (show gNm 5 (enc o1) e = some [some (D.cell o), some (.int (n : Nat)), some (.int amount), some (enc acc), some (.int (m : Nat)), some (enc o1)] by rw [← he]; rfl)]
  have w3 : varM 3 [some (D.cell o), some (.int (n : Nat)), some (.int amount), some (enc acc), some (.int (m : Nat)), some (enc o1)] S' = .ok (enc acc) S' := rfl
  have w4 : varM 4 [some (D.cell o), some (.int (n : Nat)), some (.int amount), some (enc acc), some (.int (m : Nat)), some (enc o1)] S' = .ok (.int (m : Nat)) S' := rfl
  have w5 : varM 5 [some (D.cell o), some (.int (n : Nat)), some (.int amount), some (enc acc), some (.int (m : Nat)), some (enc o1)] S' = .ok (enc o1) S' := rfl
  cases o1 with
  | none =>
    rw [skip_if (and_no (tst_eq (binM_eq w5 rfl (z := .bl false) rfl)))]
    rfl
  | some q =>
    obtain ⟨c, row⟩ := q
    have hrow := hlen c row rfl
    have r0 : subM (varM 5) (cM (.int 0)) [some (D.cell o), some (.int (n : Nat)), some (.int amount), some (enc acc), some (.int (m : Nat)), some (enc (some (c, row)))] S' = .ok (.int c) S' := subM_tup w5 rfl atI_zero
    have r1 : subM (varM 5) (cM (.int 1)) [some (D.cell o), some (.int (n : Nat)), some (.int amount), some (enc acc), some (.int (m : Nat)), some (enc (some (c, row)))] S' = .ok (rowD row) S' := subM_tup w5 rfl atI_one
    have s0 : binM addD (subM (varM 5) (cM (.int 0))) (varM 4) [some (D.cell o), some (.int (n : Nat)), some (.int amount), some (enc acc), some (.int (m : Nat)), some (enc (some (c, row)))] S' = .ok (.int (c + m)) S' := binM_eq r0 w4 rfl
    have s1 : binM addD (subM (varM 5) (cM (.int 1))) (tupM (consM (varM 4) nilM)) [some (D.cell o), some (.int (n : Nat)), some (.int amount), some (enc acc), some (.int (m : Nat)), some (enc (some (c, row)))] S' = .ok (rowD (row ++ [(m : Int)])) S' := by
      refine binM_eq r1 (tupM_ok (consM_ok w4 rfl) (show (1 : Nat) ≤ 1000 by decide)) ?_
      show (if (row.map D.int).length + 1 ≤ sizeLine then some (D.tup (row.map D.int ++ [D.int m])) else none) = _
      rw [if_pos (sz_small (by rw [List.length_map]; omega))]
      unfold rowD
      rw [List.map_append]
      rfl
    have put : ∀ r : SM, seqM (asgM (gNm 3) (tupM (consM (binM addD (subM (varM 5) (cM (.int 0))) (varM 4)) (consM (binM addD (subM (varM 5) (cM (.int 1))) (tupM (consM (varM 4) nilM))) nilM)))) skipM [some (D.cell o), some (.int (n : Nat)), some (.int amount), some (enc acc), some (.int (m : Nat)), some (enc (some (c, row)))] S' =
        .nx [some (D.cell o), some (.int (n : Nat)), some (.int amount), some (enc (some (c + m, row ++ [(m : Int)]))), some (.int (m : Nat)), some (enc (some (c, row)))] S' := fun r => by
      rw [asg_ok (tupM_ok (consM_ok s0 (consM_ok s1 rfl)) (by show (2 : Nat) ≤ 1000; decide)) rfl]
      rfl
    have t1 : tstM (binM notND (varM 5) (cM .non)) [some (D.cell o), some (.int (n : Nat)), some (.int amount), some (enc acc), some (.int (m : Nat)), some (enc (some (c, row)))] S' = .ok true S' := tst_eq (binM_eq w5 rfl rfl)
    cases acc with
    | none =>
      rw [if_yes (and_yes t1 (or_yes (tst_eq (binM_eq w3 rfl rfl)))) (put skipM)]
      rfl
    | some q =>
      obtain ⟨c', row'⟩ := q
      have f0 : subM (varM 3) (cM (.int 0)) [some (D.cell o), some (.int (n : Nat)), some (.int amount), some (enc (some (c', row'))), some (.int (m : Nat)), some (enc (some (c, row)))] S' = .ok (.int c') S' := subM_tup w3 rfl atI_zero
      have t2 : tstM (binM isND (varM 3) (cM .non)) [some (D.cell o), some (.int (n : Nat)), some (.int amount), some (enc (some (c', row'))), some (.int (m : Nat)), some (enc (some (c, row)))] S' = .ok false S' := tst_eq (binM_eq w3 rfl rfl)
      have t3 : tstM (binM ltD (binM addD (subM (varM 5) (cM (.int 0))) (varM 4)) (subM (varM 3) (cM (.int 0)))) [some (D.cell o), some (.int (n : Nat)), some (.int amount), some (enc (some (c', row'))), some (.int (m : Nat)), some (enc (some (c, row)))] S' = .ok (decide (c + m < c')) S' := tst_eq (binM_eq s0 f0 rfl)
      by_cases hlt : c + m < c'
      · rw [if_yes (and_yes t1 (or_no t2 (by rw [t3, decide_eq_true hlt]))) (put skipM)]
        show SO.nx _ S' = _
        unfold step
        simp only [hlt, if_true]
      · rw [skip_if (and_yes t1 (or_no t2 (by rw [t3, decide_eq_false hlt])))]
        show SO.nx _ S' = _
        unfold step
        simp only [hlt, if_false]
end
end K5
namespace K5
open PySem PySem.Spec PyProof.Rows L2 Pyx Hd
theorem key_in {S : Sto} {kn : Id} {kvs : List (List Key × D)} {k a : Int} (h : S.at_ kn = some (.dT kvs)) : inD true (.tup [.int k, .int a]) (.cell kn) S = some (.bl (true != (valD kvs [.inl k, .inl a]).isSome)) := by
  have : dget (.cell kn) (.tup [.int k, .int a]) S = some (valD kvs [.inl k, .inl a]) := by
    simp only [dget, h]
    rfl
  simp only [inD, this]
theorem min_int {i j : Int} {S : Sto} : minF [.int i, .int j] S = some (.int (if j < i then j else i)) := rfl
theorem ltD_int {i j : Int} {S : Sto} : ltD (.int i) (.int j) S = some (.bl (decide (i < j))) := rfl
variable {zs : List (Int × Nat)} {o kn ct : Id}
theorem best_c (hz : ∀ z ∈ zs, 0 < z.1 ∧ z.1 < 1000) (hlen : zs.length ≤ 10) : ∀ (n : Nat), n ≤ zs.length → ∀ (j : Nat), n < j → ∀ (a : Int) (S : Sto) (L M : Nat), 0 ≤ a → a < 1000000 → ChS zs S o kn ct L M → L + Gr zs n ≤ 900000 →
    ∃ S', tl.mean j 14 [.cell o, .int ((n : Int) - 1), .int a] S = .ok (enc (bestP (pre zs n) a)) S' ∧ ChS zs S' o kn ct (L + Gr zs n) M ∧ S'.nx = S.nx ∧ ∀ i, i ≠ kn → S'.at_ i = S.at_ i
  | 0, _, j, hj, a, S, L, M, h0, h1, hS, hL => by
    obtain ⟨j, rfl⟩ : ∃ i, j = i + 1 := ⟨j - 1, by omega⟩
    refine ⟨S, ?_, hS.mono (Nat.le_add_right _ _) (Nat.le_refl _), rfl, fun _ _ => rfl⟩
    rw [best_eq]
    refine defX_rt ?_
    show kBest (tl.mean j) [some (.cell o), some (.int (((0 : Nat) : Int) - 1)), some (.int a), none, none, none] S = _
    unfold kBest
    refine if_rt (tst_eq (binM_eq (x := .int (((0 : Nat) : Int) - 1)) (y := .int 0) rfl rfl ltD_int)) ?_
    refine ret_ok ?_
    show ifM _ _ _ _ S = .ok (enc (if a = 0 then some (0, []) else none)) S
    by_cases e : a = 0
    · rw [if_pos e]
      exact ifM_yes (tst_eq (binM_eq (x := .int a) (y := .int 0) rfl rfl (by rw [eqD_int, decide_eq_true e]))) rfl
    · rw [if_neg e]
      exact ifM_no (tst_eq (binM_eq (x := .int a) (y := .int 0) rfl rfl (by rw [eqD_int, decide_eq_false e]))) rfl
  | n + 1, hn, j, hj, a, S, L, M, h0, h1, hS, hL => by
    obtain ⟨j, rfl⟩ : ∃ i, j = i + 1 := ⟨j - 1, by omega⟩
    have hzn : zs[n]? = some zs[n] := List.getElem?_eq_getElem (by omega)
    obtain ⟨w, p, hwp⟩ : ∃ w p, zs[n] = (w, p) := ⟨_, _, rfl⟩
    rw [hwp] at hzn
    obtain ⟨w0, w1⟩ := hz (w, p) (List.mem_of_getElem? hzn)
    have hpos : Pos (pre zs n) := fun q hq => (hz q (List.mem_of_mem_take (List.mem_reverse.mp hq))).1
    have hpl : (pre zs n).length ≤ 100 := by
      unfold pre
      rw [List.length_reverse, List.length_take]
      omega
    have hgr : Gr zs (n + 1) = 1 + (p + 1) * Gr zs n := by
      show 1 + ((zs[n]?.map (·.2)).getD 0 + 1) * Gr zs n = _
      rw [hzn]
      rfl
    have ek : (((n + 1 : Nat) : Int) - 1) = (n : Int) := by omega
    rw [ek, best_eq, pre_succ hzn]
    obtain ⟨kvs, k1, k2, k3⟩ := hS.hk
    have key : keyT (.tup [.int (n : Nat), .int a]) = some [.inl (n : Int), .inl a] := rfl
    generalize hE : [some (D.cell o), some (.int (n : Nat)), some (.int a), none, none, none] = e
    have v0 : varM 0 e S = .ok (.cell o) S := by rw [← hE]; rfl
    have v1 : varM 1 e S = .ok (.int (n : Nat)) S := by rw [← hE]; rfl
    have v2 : varM 2 e S = .ok (.int a) S := by rw [← hE]; rfl
    have c0 : tstM (binM ltD (varM 1) (cM (.int 0))) e S = .ok false S := tst_eq (binM_eq v1 rfl (by rw [ltD_int, decide_eq_false (by omega)]))
    have tp : tupM (consM (varM 1) (consM (varM 2) nilM)) e S = .ok (.tup [.int (n : Nat), .int a]) S := tupM_ok (consM_ok v1 (consM_ok v2 rfl)) (show (2 : Nat) ≤ 1000 by decide)
    have ka : attM tl.tb 2 (varM 0) e S = .ok (.cell kn) S := attM_ok v0 hS.ho pl2 rfl
    cases hv : valD kvs [.inl (n : Int), .inl a] with
    | some d =>
      obtain ⟨i, b, q1, q2⟩ := k3 _ _ (valD_mem hv)
      have qi : i = n := by
        have := (List.cons.inj q1).1
        injection this with this
        omega
      have qa : b = a := by
        have := (List.cons.inj (List.cons.inj q1).2).1
        injection this with this
        exact this.symm
      subst qi qa
      rw [pre_succ hzn] at q2
      refine ⟨S, ?_, hS.mono (Nat.le_add_right _ _) (Nat.le_refl _), rfl, fun _ _ => rfl⟩
      refine defX_rt ?_
      show kBest (tl.mean j) [some (.cell o), some (.int (i : Nat)), some (.int b), none, none, none] S = _
      rw [hE]
      unfold kBest
      rw [skip_if c0, skip_if (tst_eq (binM_eq tp ka (by rw [key_in k1, hv]; rfl)))]
      rw [← q2]
      exact ret_ok (subM_dT ka tp k1 key hv)
    | none =>
      have hdiv : 0 ≤ a / w := Int.ediv_nonneg h0 (Int.le_of_lt w0)
      have hdiv2 : a / w ≤ a := Int.ediv_le_self _ h0
      have hhi : (if a / w < ((p : Nat) : Int) then a / w else ((p : Nat) : Int)) = ((hiP w p a : Nat) : Int) := by
        unfold hiP
        split <;> omega
      have hhp : hiP w p a ≤ p := Nat.min_le_left _ _
      have hha : ((hiP w p a : Nat) : Int) ≤ a / w := by
        unfold hiP
        omega
      generalize hH : hiP w p a = hi at hhi hhp hha
      have im : rng3I (consM (calM minF (consM (subM (attM tl.tb 1 (varM 0)) (varM 1)) (consM (binM fdivD (varM 2) (subM (attM tl.tb 0 (varM 0)) (varM 1))) nilM))) (consM (negM (cM (.int 1))) (consM (negM (cM (.int 1))) nilM))) [some (D.cell o), some (.int (n : Nat)), some (.int a), some .non, none, none] S = .ok (.rng (hi : Int) (-1) (hi + 1)) S := by
        have pd : subM (attM tl.tb 1 (varM 0)) (varM 1) [some (D.cell o), some (.int (n : Nat)), some (.int a), some .non, none, none] S = .ok (.int (p : Nat)) S := subM_tup (attM_ok (i := o) rfl hS.ho pl1 rfl) (k := (n : Nat)) rfl (piles_at hzn)
        have kd : subM (attM tl.tb 0 (varM 0)) (varM 1) [some (D.cell o), some (.int (n : Nat)), some (.int a), some .non, none, none] S = .ok (.int w) S := subM_tup (attM_ok (i := o) rfl hS.ho pl0 rfl) (k := (n : Nat)) rfl (kinds_at hzn)
        have dv : binM fdivD (varM 2) (subM (attM tl.tb 0 (varM 0)) (varM 1)) [some (D.cell o), some (.int (n : Nat)), some (.int a), some .non, none, none] S = .ok (.int (a / w)) S := binM_eq (x := .int a) rfl kd (fdivD_int ⟨w0, by omega⟩)
        have mn : calM minF (consM (subM (attM tl.tb 1 (varM 0)) (varM 1)) (consM (binM fdivD (varM 2) (subM (attM tl.tb 0 (varM 0)) (varM 1))) nilM)) [some (D.cell o), some (.int (n : Nat)), some (.int a), some .non, none, none] S = .ok (.int (hi : Nat)) S := cal_eq (consM_ok pd (consM_ok dv rfl)) (by rw [min_int, hhi])
        rw [rng3_ok (consM_ok mn (consM_ok (x := .int (-1)) rfl (consM_ok (x := .int (-1)) rfl rfl))) (by omega)]
        rw [show ((hi : Int) - -1).toNat = hi + 1 by omega]
      have f := fun m => bestP (pre zs n) (a - (m : Nat) * w)
      obtain ⟨e', S', l1, x, y, le, lc, ln, lk⟩ := loop_rng (lo := (hi : Int)) (c := -1) (n := hi + 1) (g := gNm 4) (body := kBestBody (tl.mean j)) (e := [some (D.cell o), some (.int (n : Nat)), some (.int a), some .non, none, none]) (S := S)
        (fun k e S' => ∃ x y, e = [some (D.cell o), some (.int (n : Nat)), some (.int a), some (enc (accs (fun m => bestP (pre zs n) (a - (m : Nat) * w)) hi k)), x, y] ∧ ChS zs S' o kn ct (L + k * Gr zs n) M ∧ S'.nx = S.nx ∧ ∀ i, i ≠ kn → S'.at_ i = S.at_ i)
        ⟨none, none, rfl, hS.mono (Nat.le_add_right _ _) (Nat.le_refl _), rfl, fun _ _ => rfl⟩ (fun k e1 S1 hk ⟨x, y, q1, q2, q3, q4⟩ => by
          subst q1
          have em : (hi : Int) + (k : Nat) * -1 = ((hi - k : Nat) : Int) := by omega
          rw [em]
          have hm : ((hi - k : Nat) : Int) ≤ a / w := by omega
          have hmw : ((hi - k : Nat) : Int) * w ≤ a := (Int.le_ediv_iff_mul_le w0).mp hm
          have hmw0 : 0 ≤ ((hi - k : Nat) : Int) * w := Int.mul_nonneg (by omega) (by omega)
          have gl : k * Gr zs n + Gr zs n ≤ (p + 1) * Gr zs n := by
            rw [← Nat.succ_mul]
            exact Nat.mul_le_mul_right _ (by omega)
          obtain ⟨S2, r1, r2, r3, r4⟩ := best_c hz hlen n (by omega) j (by omega) (a - ((hi - k : Nat) : Int) * w) S1 (L + k * Gr zs n) M (by omega) (by omega) q2 (by omega)
          refine ⟨_, _, S2, rfl, .inl (turn_ok (m := hi - k) (x := x) hzn (by omega) q2 r1 fun c row h => by rw [best_len hpos h]; exact hpl), some (.int ((hi - k : Nat) : Int)), some (enc (bestP (pre zs n) (a - ((hi - k : Nat) : Int) * w))), rfl, ?_, by rw [r3, q3], fun i hi => by rw [r4 i hi, q4 i hi]⟩
          have : L + (k + 1) * Gr zs n = L + k * Gr zs n + Gr zs n := by rw [Nat.succ_mul]; omega
          rw [this]
          exact r2)
      have hres : accs (fun m => bestP (pre zs n) (a - (m : Nat) * w)) hi (hi + 1) = bestP ((w, p) :: pre zs n) a := by
        rw [← pick_accs hi 0 (by omega)]
        show _ = pick (fun m => bestP (pre zs n) (a - (m : Nat) * w)) (hiP w p a) none
        rw [hH]
        rfl
      rw [hres] at le
      obtain ⟨kvs', z1, z2, z3⟩ := lc.hk
      have gl : (hi + 1) * Gr zs n ≤ (p + 1) * Gr zs n := Nat.mul_le_mul_right _ (by omega)
      have hsz : kvs'.length < sizeLine := Nat.lt_of_lt_of_le (show kvs'.length < 1000000 by omega) (sz_small (Nat.le_refl _))
      generalize hB : bestP ((w, p) :: pre zs n) a = B at *
      have hset : setI (.cell kn) (.tup [.int (n : Nat), .int a]) (enc B) S' = some (S'.set kn (.dT (putD kvs' [.inl (n : Int), .inl a] (enc B)))) := by
        have : dput (.cell kn) (.tup [.int (n : Nat), .int a]) (enc B) S' = some (S'.set kn (.dT (putD kvs' [.inl (n : Int), .inl a] (enc B)))) := by
          simp only [dput, z1, if_pos hsz]
          rfl
        simp only [setI, this]
      have ho' : (S'.set kn (.dT (putD kvs' [.inl (n : Int), .inl a] (enc B)))).at_ o = some (.ins 0 [(0, kindsD zs), (1, pilesD zs), (2, .cell kn), (3, .cell ct)]) := by
        rw [Sto.set_ne lc.ne1]
        exact lc.ho
      refine ⟨S'.set kn (.dT (putD kvs' [.inl (n : Int), .inl a] (enc B))), ?_, ⟨lc.ne1, lc.ne2, lc.ne3, ho', ⟨_, Sto.set_same, ?_, fun q d hq => ?_⟩, ?_⟩, ln, fun i hi => by rw [Sto.set_ne hi, lk i hi]⟩
      · refine defX_rt ?_
        show kBest (tl.mean j) [some (.cell o), some (.int (n : Nat)), some (.int a), none, none, none] S = _
        rw [hE]
        unfold kBest
        have inner : seqM (asgM (gNm 3) (cM .non)) (seqM (forM (rng3I (consM (calM minF (consM (subM (attM tl.tb 1 (varM 0)) (varM 1)) (consM (binM fdivD (varM 2) (subM (attM tl.tb 0 (varM 0)) (varM 1))) nilM))) (consM (negM (cM (.int 1))) (consM (negM (cM (.int 1))) nilM)))) (gNm 4) (kBestBody (tl.mean j))) (seqM (putM (attM tl.tb 2 (varM 0)) (tupM (consM (varM 1) (consM (varM 2) nilM))) (varM 3)) skipM)) e S = .nx e' (S'.set kn (.dT (putD kvs' [.inl (n : Int), .inl a] (enc B)))) := by
          rw [asg_ok (d := .non) rfl (show gNm 3 .non e = some [some (D.cell o), some (.int (n : Nat)), some (.int a), some .non, none, none] by rw [← hE]; rfl), for_ok im l1]
          subst le
          rw [put_ok (d := enc B) (x := .cell kn) (y := .tup [.int (n : Nat), .int a]) rfl (attM_ok (i := o) rfl lc.ho pl2 rfl) (tupM_ok (consM_ok (x := .int (n : Nat)) rfl (consM_ok (x := .int a) rfl rfl)) (show (2 : Nat) ≤ 1000 by decide)) hset]
          rfl
        rw [skip_if c0, if_yes (tst_eq (binM_eq tp ka (by rw [key_in k1, hv]; rfl))) inner]
        subst le
        exact ret_ok (subM_dT (attM_ok (i := o) rfl ho' pl2 rfl) (tupM_ok (consM_ok (x := .int (n : Nat)) rfl (consM_ok (x := .int a) rfl rfl)) (show (2 : Nat) ≤ 1000 by decide)) Sto.set_same key valD_put)
      · have := putD_len (kvs := kvs') (k := ([.inl (n : Int), .inl a] : List Key)) (d := enc B)
        omega
      · rcases putD_mem hq with hq | ⟨rfl, rfl⟩
        · exact z3 q d hq
        · exact ⟨n, a, rfl, by rw [pre_succ hzn, hB]⟩
      · obtain ⟨cvs, y1, y2, y3⟩ := lc.hc
        exact ⟨cvs, by rw [Sto.set_ne (Ne.symm lc.ne3)]; exact y1, y2, y3⟩
end K5
namespace K5
open PySem PySem.Spec PyProof.Rows L2 Pyx Hd
def kCount (G : Fn) : SM := seqM (ifS (tstM (binM ltD (varM 1) (cM (.int 0)))) (seqM (retM (calM intF (consM (binM eqD (varM 2) (cM (.int 0))) nilM))) skipM) skipM) (seqM (ifS (tstM (binM ((inD true)) (tupM (consM (varM 1) (consM (varM 2) nilM))) (attM tl.tb 3 (varM 0)))) (seqM (asgM (gNm 3) (calM minF (consM (subM (attM tl.tb 1 (varM 0)) (varM 1)) (consM (binM fdivD (varM 2) (subM (attM tl.tb 0 (varM 0)) (varM 1))) nilM)))) (seqM (asgM (gNm 4) (lcM none ([5]) (rng1I (consM (binM addD (varM 3) (cM (.int 1))) nilM)) (gNm 5) yesM (methM tl.tb tl.np G 5 3 (varM 0) (consM (binM subD (varM 1) (cM (.int 1))) (consM (binM subD (varM 2) (binM mulD (varM 5) (subM (attM tl.tb 0 (varM 0)) (varM 1)))) nilM))))) (seqM (putM (attM tl.tb 3 (varM 0)) (tupM (consM (varM 1) (consM (varM 2) nilM))) (calM sumF (consM (varM 4) nilM))) skipM))) skipM) (seqM (retM (subM (attM tl.tb 3 (varM 0)) (tupM (consM (varM 1) (consM (varM 2) nilM))))) skipM))
theorem count_eq (j : Nat) (d : List D) (S : Sto) : tl.mean (j + 1) 15 d S = defX 6 (kCount (tl.mean j)) d S := by
  rw [mn_Chooser_count]
  rfl
theorem ints_map : ∀ l : List Int, intsD (l.map D.int) = some l
  | [] => rfl
  | x :: l => by
    show (intsD (l.map D.int)).map (x :: ·) = _
    rw [ints_map l]
    rfl
theorem sum_lst {l : List Int} {S : Sto} : sumF [.lst (l.map D.int)] S = some (.int l.sum) := by
  have : itemsD S (.lst (l.map D.int)) = some (l.map D.int) := rfl
  simp only [sumF, this, Option.bind_some, ints_map, Option.map_some]
theorem int_bl {b : Bool} {S : Sto} : intF [.bl b] S = some (.int (if b then 1 else 0)) := rfl
variable {zs : List (Int × Nat)} {o kn ct : Id}
theorem count_c (hz : ∀ z ∈ zs, 0 < z.1 ∧ z.1 < 1000) (hp : ∀ z ∈ zs, z.2 < 1000) (hlen : zs.length ≤ 10) : ∀ (n : Nat), n ≤ zs.length → ∀ (j : Nat), n < j → ∀ (a : Int) (S : Sto) (L M : Nat), 0 ≤ a → a < 1000000 → ChS zs S o kn ct L M → M + Gr zs n ≤ 900000 →
    ∃ S', tl.mean j 15 [.cell o, .int ((n : Int) - 1), .int a] S = .ok (.int (countP (pre zs n) a)) S' ∧ ChS zs S' o kn ct L (M + Gr zs n) ∧ S'.nx = S.nx ∧ ∀ i, i ≠ ct → S'.at_ i = S.at_ i
  | 0, _, j, hj, a, S, L, M, h0, h1, hS, hL => by
    obtain ⟨j, rfl⟩ : ∃ i, j = i + 1 := ⟨j - 1, by omega⟩
    refine ⟨S, ?_, hS.mono (Nat.le_refl _) (Nat.le_add_right _ _), rfl, fun _ _ => rfl⟩
    rw [count_eq]
    refine defX_rt ?_
    show kCount (tl.mean j) [some (.cell o), some (.int (((0 : Nat) : Int) - 1)), some (.int a), none, none, none] S = _
    unfold kCount
    refine if_rt (tst_eq (binM_eq (x := .int (((0 : Nat) : Int) - 1)) (y := .int 0) rfl rfl ltD_int)) ?_
    refine ret_ok (cal_eq (consM_ok (binM_eq (x := .int a) (y := .int 0) rfl rfl eqD_int) rfl) ?_)
    rw [int_bl]
    show some (D.int (if decide (a = 0) = true then 1 else 0)) = some (D.int (if a = 0 then 1 else 0))
    by_cases e : a = 0
    · rw [if_pos e, decide_eq_true e, if_pos rfl]
    · rw [if_neg e, decide_eq_false e, if_neg Bool.false_ne_true]
  | n + 1, hn, j, hj, a, S, L, M, h0, h1, hS, hL => by
    obtain ⟨j, rfl⟩ : ∃ i, j = i + 1 := ⟨j - 1, by omega⟩
    have hzn : zs[n]? = some zs[n] := List.getElem?_eq_getElem (by omega)
    obtain ⟨w, p, hwp⟩ : ∃ w p, zs[n] = (w, p) := ⟨_, _, rfl⟩
    rw [hwp] at hzn
    obtain ⟨w0, w1⟩ := hz (w, p) (List.mem_of_getElem? hzn)
    have pS := hp (w, p) (List.mem_of_getElem? hzn)
    have hgr : Gr zs (n + 1) = 1 + (p + 1) * Gr zs n := by
      show 1 + ((zs[n]?.map (·.2)).getD 0 + 1) * Gr zs n = _
      rw [hzn]
      rfl
    have ek : (((n + 1 : Nat) : Int) - 1) = (n : Int) := by omega
    rw [ek, count_eq, pre_succ hzn]
    obtain ⟨kvs, k1, k2, k3⟩ := hS.hc
    have key : keyT (.tup [.int (n : Nat), .int a]) = some [.inl (n : Int), .inl a] := rfl
    generalize hE : [some (D.cell o), some (.int (n : Nat)), some (.int a), none, none, none] = e
    have v0 : varM 0 e S = .ok (.cell o) S := by rw [← hE]; rfl
    have v1 : varM 1 e S = .ok (.int (n : Nat)) S := by rw [← hE]; rfl
    have v2 : varM 2 e S = .ok (.int a) S := by rw [← hE]; rfl
    have c0 : tstM (binM ltD (varM 1) (cM (.int 0))) e S = .ok false S := tst_eq (binM_eq v1 rfl (by rw [ltD_int, decide_eq_false (by omega)]))
    have tp : tupM (consM (varM 1) (consM (varM 2) nilM)) e S = .ok (.tup [.int (n : Nat), .int a]) S := tupM_ok (consM_ok v1 (consM_ok v2 rfl)) (show (2 : Nat) ≤ 1000 by decide)
    have ka : attM tl.tb 3 (varM 0) e S = .ok (.cell ct) S := attM_ok v0 hS.ho pl3 rfl
    cases hv : valD kvs [.inl (n : Int), .inl a] with
    | some d =>
      obtain ⟨i, b, q1, q2⟩ := k3 _ _ (valD_mem hv)
      have qi : i = n := by
        have := (List.cons.inj q1).1
        injection this with this
        omega
      have qa : b = a := by
        have := (List.cons.inj (List.cons.inj q1).2).1
        injection this with this
        exact this.symm
      subst qi qa
      rw [pre_succ hzn] at q2
      refine ⟨S, ?_, hS.mono (Nat.le_refl _) (Nat.le_add_right _ _), rfl, fun _ _ => rfl⟩
      refine defX_rt ?_
      show kCount (tl.mean j) [some (.cell o), some (.int (i : Nat)), some (.int b), none, none, none] S = _
      rw [hE]
      unfold kCount
      rw [skip_if c0, skip_if (tst_eq (binM_eq tp ka (by rw [key_in k1, hv]; rfl)))]
      rw [← q2]
      exact ret_ok (subM_dT ka tp k1 key hv)
    | none =>
      have hdiv : 0 ≤ a / w := Int.ediv_nonneg h0 (Int.le_of_lt w0)
      have hdiv2 : a / w ≤ a := Int.ediv_le_self _ h0
      have hhi : (if a / w < ((p : Nat) : Int) then a / w else ((p : Nat) : Int)) = ((hiP w p a : Nat) : Int) := by
        unfold hiP
        split <;> omega
      have hhp : hiP w p a ≤ p := Nat.min_le_left _ _
      have hha : ((hiP w p a : Nat) : Int) ≤ a / w := by
        unfold hiP
        omega
      generalize hH : hiP w p a = hi at hhi hhp hha
      have mn : calM minF (consM (subM (attM tl.tb 1 (varM 0)) (varM 1)) (consM (binM fdivD (varM 2) (subM (attM tl.tb 0 (varM 0)) (varM 1))) nilM)) e S = .ok (.int (hi : Nat)) S := by
        have pd : subM (attM tl.tb 1 (varM 0)) (varM 1) e S = .ok (.int (p : Nat)) S := subM_tup (attM_ok (i := o) v0 hS.ho pl1 rfl) v1 (piles_at hzn)
        have kd : subM (attM tl.tb 0 (varM 0)) (varM 1) e S = .ok (.int w) S := subM_tup (attM_ok (i := o) v0 hS.ho pl0 rfl) v1 (kinds_at hzn)
        exact cal_eq (consM_ok pd (consM_ok (binM_eq v2 kd (fdivD_int ⟨w0, by omega⟩)) rfl)) (by rw [min_int, hhi])
      have im : rng1I (consM (binM addD (varM 3) (cM (.int 1))) nilM) [some (D.cell o), some (.int (n : Nat)), some (.int a), some (.int (hi : Nat)), none, none] S = .ok (.rng 0 1 (hi + 1)) S := by
        rw [rng1_ok (consM_ok (binM_eq (x := .int (hi : Nat)) (y := .int 1) (z := .int ((hi : Nat) + 1)) rfl rfl rfl) rfl) (by omega)]
        rfl
      obtain ⟨acc, S', l1, la, lc, ln, lk⟩ := lc_rngM (h := none) (vs := [5]) (g := gNm 5) (tt := yesM) (te := methM tl.tb tl.np (tl.mean j) 5 3 (varM 0) (consM (binM subD (varM 1) (cM (.int 1))) (consM (binM subD (varM 2) (binM mulD (varM 5) (subM (attM tl.tb 0 (varM 0)) (varM 1)))) nilM))) im
        (fun k S' acc => acc = ((List.range k).map fun (m : Nat) => countP (pre zs n) (a - m * w)).map D.int ∧ ChS zs S' o kn ct L (M + k * Gr zs n) ∧ S'.nx = S.nx ∧ ∀ i, i ≠ ct → S'.at_ i = S.at_ i)
        ⟨rfl, hS.mono (Nat.le_refl _) (Nat.le_add_right _ _), rfl, fun _ _ => rfl⟩ (fun k S1 acc hk ⟨q1, q2, q3, q4⟩ => by
          have em : (0 : Int) + (k : Nat) * 1 = (k : Nat) := by omega
          rw [em]
          have hm : (k : Int) ≤ a / w := by omega
          have hmw : (k : Int) * w ≤ a := (Int.le_ediv_iff_mul_le w0).mp hm
          have hmw0 : 0 ≤ (k : Int) * w := Int.mul_nonneg (by omega) (by omega)
          have gl : k * Gr zs n + Gr zs n ≤ (p + 1) * Gr zs n := by
            rw [← Nat.succ_mul]
            exact Nat.mul_le_mul_right _ (by omega)
          obtain ⟨S2, r1, r2, r3, r4⟩ := count_c hz hp hlen n (by omega) j (by omega) (a - (k : Int) * w) S1 L (M + k * Gr zs n) (by omega) (by omega) q2 (by omega)
          refine ⟨[some (D.cell o), some (.int (n : Nat)), some (.int a), some (.int (hi : Nat)), none, some (.int (k : Nat))], true, S1, rfl, rfl, ?_⟩
          rw [if_pos rfl]
          refine ⟨.int (countP (pre zs n) (a - (k : Int) * w)), S2, ?_, ?_, ?_, ?_, by rw [r3, q3], fun i hi => by rw [r4 i hi, q4 i hi]⟩
          · have kd : subM (attM tl.tb 0 (varM 0)) (varM 1) [some (D.cell o), some (.int (n : Nat)), some (.int a), some (.int (hi : Nat)), none, some (.int (k : Nat))] S1 = .ok (.int w) S1 := subM_tup (attM_ok (i := o) rfl q2.ho pl0 rfl) (k := (n : Nat)) rfl (kinds_at hzn)
            rw [methM_ok (i := o) rfl q2.ho mt_count rfl df_count (consM_ok (x := .int ((n : Int) - 1)) (binM_eq (x := .int (n : Nat)) (y := .int 1) rfl rfl rfl) (consM_ok (x := .int (a - (k : Int) * w)) (binM_eq (x := .int a) rfl (binM_eq (x := .int (k : Nat)) rfl kd (mulD_int (mulOk_r (by omega)))) rfl) rfl)) (by rw [np_count]; rfl)]
            exact r1
          · rw [q1, List.length_map, List.length_map, List.length_range]
            omega
          · rw [q1, List.range_succ, List.map_append, List.map_append]
            rfl
          · have : M + (k + 1) * Gr zs n = M + k * Gr zs n + Gr zs n := by rw [Nat.succ_mul]; omega
            rw [this]
            exact r2)
      have hres : ((List.range (hi + 1)).map fun (m : Nat) => countP (pre zs n) (a - m * w)).sum = countP ((w, p) :: pre zs n) a := by
        rw [← hH]
        rfl
      obtain ⟨kvs', z1, z2, z3⟩ := lc.hc
      have gl : (hi + 1) * Gr zs n ≤ (p + 1) * Gr zs n := Nat.mul_le_mul_right _ (by omega)
      have hsz : kvs'.length < sizeLine := Nat.lt_of_lt_of_le (show kvs'.length < 1000000 by omega) (sz_small (Nat.le_refl _))
      generalize hB : countP ((w, p) :: pre zs n) a = B at *
      have hset : setI (.cell ct) (.tup [.int (n : Nat), .int a]) (.int B) S' = some (S'.set ct (.dT (putD kvs' [.inl (n : Int), .inl a] (.int B)))) := by
        have : dput (.cell ct) (.tup [.int (n : Nat), .int a]) (.int B) S' = some (S'.set ct (.dT (putD kvs' [.inl (n : Int), .inl a] (.int B)))) := by
          simp only [dput, z1, if_pos hsz]
          rfl
        simp only [setI, this]
      have ho' : (S'.set ct (.dT (putD kvs' [.inl (n : Int), .inl a] (.int B)))).at_ o = some (.ins 0 [(0, kindsD zs), (1, pilesD zs), (2, .cell kn), (3, .cell ct)]) := by
        rw [Sto.set_ne lc.ne2]
        exact lc.ho
      refine ⟨S'.set ct (.dT (putD kvs' [.inl (n : Int), .inl a] (.int B))), ?_, ⟨lc.ne1, lc.ne2, lc.ne3, ho', ?_, ⟨_, Sto.set_same, ?_, fun q d hq => ?_⟩⟩, ln, fun i hi => by rw [Sto.set_ne hi, lk i hi]⟩
      · refine defX_rt ?_
        show kCount (tl.mean j) [some (.cell o), some (.int (n : Nat)), some (.int a), none, none, none] S = _
        rw [hE]
        unfold kCount
        have inner : seqM (asgM (gNm 3) (calM minF (consM (subM (attM tl.tb 1 (varM 0)) (varM 1)) (consM (binM fdivD (varM 2) (subM (attM tl.tb 0 (varM 0)) (varM 1))) nilM)))) (seqM (asgM (gNm 4) (lcM none ([5]) (rng1I (consM (binM addD (varM 3) (cM (.int 1))) nilM)) (gNm 5) yesM (methM tl.tb tl.np (tl.mean j) 5 3 (varM 0) (consM (binM subD (varM 1) (cM (.int 1))) (consM (binM subD (varM 2) (binM mulD (varM 5) (subM (attM tl.tb 0 (varM 0)) (varM 1)))) nilM))))) (seqM (putM (attM tl.tb 3 (varM 0)) (tupM (consM (varM 1) (consM (varM 2) nilM))) (calM sumF (consM (varM 4) nilM))) skipM)) e S = .nx [some (D.cell o), some (.int (n : Nat)), some (.int a), some (.int (hi : Nat)), some (.lst acc), none] (S'.set ct (.dT (putD kvs' [.inl (n : Int), .inl a] (.int B)))) := by
          rw [asg_ok mn (show gNm 3 (.int (hi : Nat)) e = some [some (D.cell o), some (.int (n : Nat)), some (.int a), some (.int (hi : Nat)), none, none] by rw [← hE]; rfl)]
          rw [asg_ok (d := .lst acc) l1 rfl]
          have sm : calM sumF (consM (varM 4) nilM) [some (D.cell o), some (.int (n : Nat)), some (.int a), some (.int (hi : Nat)), some (.lst acc), none] S' = .ok (.int B) S' := cal_eq (consM_ok (x := .lst acc) rfl rfl) (by rw [la, sum_lst, hres])
          have := put_ok (r := skipM) (o := attM tl.tb 3 (varM 0)) (i := tupM (consM (varM 1) (consM (varM 2) nilM))) sm (x := .cell ct) (y := .tup [.int (n : Nat), .int a]) (attM_ok (i := o) rfl lc.ho pl3 rfl) (tupM_ok (consM_ok (x := .int (n : Nat)) rfl (consM_ok (x := .int a) rfl rfl)) (show (2 : Nat) ≤ 1000 by decide)) hset
          exact this
        rw [skip_if c0, if_yes (tst_eq (binM_eq tp ka (by rw [key_in k1, hv]; rfl))) inner]
        exact ret_ok (subM_dT (attM_ok (i := o) rfl ho' pl3 rfl) (tupM_ok (consM_ok (x := .int (n : Nat)) rfl (consM_ok (x := .int a) rfl rfl)) (show (2 : Nat) ≤ 1000 by decide)) Sto.set_same key valD_put)
      · obtain ⟨cvs, y1, y2, y3⟩ := lc.hk
        exact ⟨cvs, by rw [Sto.set_ne lc.ne3]; exact y1, y2, y3⟩
      · have := putD_len (kvs := kvs') (k := ([.inl (n : Int), .inl a] : List Key)) (d := .int B)
        omega
      · rcases putD_mem hq with hq | ⟨rfl, rfl⟩
        · exact z3 q d hq
        · exact ⟨n, a, rfl, by rw [pre_succ hzn, hB]⟩
end K5
namespace K5
open PySem PySem.Spec PyProof.Rows L2 Pyx Hd
theorem is_number_c {j : Nat} {p lo hi : Int} {S : Sto} (h : lo ≤ p ∧ p ≤ hi) : tl.mean (j + 1) 0 [.int p, .int lo, .int hi] S = .ok (.bl true) S := by
  rw [mn_is_number]
  refine defX_rt ?_
  show bd_is_number (tl.mean j) [some (.int p), some (.int lo), some (.int hi)] S = _
  unfold bd_is_number
  refine ret_ok ?_
  have h1 : decide (lo ≤ p) = true := decide_eq_true h.1
  have h2 : decide (p ≤ hi) = true := decide_eq_true h.2
  have e1 : leD (.int lo) (.int p) S = some (.bl true) := by
    show some (D.bl (decide (lo ≤ p))) = _
    rw [h1]
  have e2 : leD (.int p) (.int hi) S = some (.bl true) := by
    show some (D.bl (decide (p ≤ hi))) = _
    rw [h2]
  have v0 : varM 0 [some (D.int p), some (.int lo), some (.int hi)] S = .ok (.int p) S := rfl
  have i1 := isiM_ok v0 (i_ii (v := p) (S := S))
  have i2 := isiM_ok v0 (i_ib (v := p) (S := S))
  simp only [andV, i1, bind_ok, notV, i2, chainM, v0, varM, List.getElem?_cons_zero, List.getElem?_cons_succ, e1, e2, ofO_some, Bool.not_false]
theorem need_count_c {j : Nat} {p lo hi : Int} {S : Sto} (h : lo ≤ p ∧ p ≤ hi) : tl.mean (j + 2) 1 [.int p, .int lo, .int hi] S = .ok .non S := by
  rw [mn_need_count]
  refine defX_nx (e' := [some (.int p), some (.int lo), some (.int hi)]) ?_
  show bd_need_count (tl.mean (j + 1)) [some (.int p), some (.int lo), some (.int hi)] S = _
  unfold bd_need_count
  have hc : callM 3 [] (tl.mean (j + 1) 0) (consM (varM 0) (consM (varM 1) (consM (varM 2) nilM))) [some (D.int p), some (.int lo), some (.int hi)] S = .ok (.bl true) S := call_eq (consM_ok (x := .int p) rfl (consM_ok (x := .int lo) rfl (consM_ok (x := .int hi) rfl rfl))) rfl (is_number_c h)
  rw [skip_if (not_eq' (tst_eq hc))]
  rfl
def KindsOk (ks : List Int) : Prop := ks ≠ [] ∧ ks.length ≤ 5 ∧ ∀ (k : Nat) (v : Int), ks[k]? = some v → v ≤ 500 ∧ (k = 0 → 1 ≤ v) ∧ ∀ u, 0 < k → ks[k - 1]? = some u → u + 1 ≤ v
theorem eqD_tnil {S : Sto} {ms : List Int} : eqD (.tup (ms.map .int)) (.tup []) S = some (.bl ms.isEmpty) := by
  have h : (noCell (.tup (ms.map .int)) && noCell (.tup []) && decide (min (py (.tup (ms.map .int))).depth (py (.tup [])).depth ≤ 64)) = true := by
    rw [Bool.and_eq_true, Bool.and_eq_true]
    refine ⟨⟨noCells_ints ms, rfl⟩, decide_eq_true ?_⟩
    have h2 : (py (.tup [])).depth = 1 := rfl
    omega
  show eqRaw false (.tup (ms.map .int)) (.tup []) = _
  unfold eqRaw
  rw [if_pos h]
  cases ms <;> rfl
theorem len_tup {ds : List D} {S : Sto} : lenF [.tup ds] S = some (.int ds.length) := rfl
theorem need_kinds_c {j : Nat} {ks : List Int} {S : Sto} (h : KindsOk ks) : tl.mean (j + 2) 2 [.tup (ks.map .int)] S = .ok .non S := by
  obtain ⟨h1, h2, h3⟩ := h
  rw [mn_need_kinds]
  have c1 : orM (notM (tstM (isiM ("tuple") (varM 0)))) (tstM (binM eqD (varM 0) (tupM nilM))) [some (D.tup (ks.map .int)), none, none, none] S = .ok false S := by
    refine or_no (not_eq' (b := true) (tst_eq (isiM_ok (d := .tup (ks.map .int)) rfl i_tt))) (tst_eq (binM_eq (x := .tup (ks.map .int)) (y := .tup []) rfl rfl ?_))
    rw [eqD_tnil]
    cases ks with
    | nil => exact (h1 rfl).elim
    | cons a b => rfl
  have hlen : (enum0 (ks.map D.int)).length = ks.length := by
    unfold enum0
    rw [List.length_mapIdx, List.length_map]
  obtain ⟨e', S', l1, x, y, u, le, lS⟩ := loop_fix (ds := enum0 (ks.map D.int)) (g := gTp 2 (gsCons (gNm 1) (gsCons (gNm 2) gsNil))) (body := seqM (asgM (gNm 3) (ifM (tstM (binM gtD (varM 1) (cM (.int 0)))) (binM addD (subM (varM 0) (binM subD (varM 1) (cM (.int 1)))) (cM (.int 1))) (cM (.int 1)))) (seqM (ifS (orM (tstM (binM geD (varM 1) (cM (.int 5)))) (notM (tstM (callM 3 ([]) (tl.mean (j + 1) 0) (consM (varM 2) (consM (varM 3) (consM (cM (.int 500)) nilM))))))) (seqM badS skipM) skipM) skipM))
    (e := [some (D.tup (ks.map .int)), none, none, none]) (S := S) (fun k e S' => ∃ x y u, e = [some (D.tup (ks.map .int)), x, y, u] ∧ S' = S) ⟨none, none, none, rfl, rfl⟩ (fun k e S1 d hd ⟨x, y, u, q1, q2⟩ => by
      subst q1 q2
      unfold enum0 at hd
      rw [List.getElem?_mapIdx, List.getElem?_map] at hd
      obtain ⟨z, hz, rfl⟩ := Option.map_eq_some_iff.mp hd
      obtain ⟨v, hv, rfl⟩ := Option.map_eq_some_iff.mp hz
      obtain ⟨v1, v2, v3⟩ := h3 k v hv
      have hk : k < ks.length := (List.getElem?_eq_some_iff.mp hv).1
      obtain ⟨lst, hl, hlv⟩ : ∃ lst : Int, ifM (tstM (binM gtD (varM 1) (cM (.int 0)))) (binM addD (subM (varM 0) (binM subD (varM 1) (cM (.int 1)))) (cM (.int 1))) (cM (.int 1)) [some (D.tup (ks.map .int)), some (.int (k : Nat)), some (.int v), u] S1 = .ok (.int lst) S1 ∧ lst ≤ v := by
        by_cases hk0 : k = 0
        · subst hk0
          exact ⟨1, ifM_no (tst_eq (binM_eq (x := .int ((0 : Nat) : Int)) (y := .int 0) rfl rfl rfl)) rfl, v2 rfl⟩
        · have hu : ks[k - 1]? = some ks[k - 1] := List.getElem?_eq_getElem (by omega)
          refine ⟨ks[k - 1] + 1, ifM_yes (tst_eq (binM_eq (x := .int (k : Nat)) (y := .int 0) rfl rfl ?_)) (binM_eq (x := .int ks[k - 1]) (y := .int 1) (subM_tup (ds := ks.map .int) (k := (k : Int) - 1) rfl (binM_eq (x := .int (k : Nat)) (y := .int 1) rfl rfl rfl) ?_) rfl rfl), v3 _ (by omega) hu⟩
          · show some (D.bl (decide ((0 : Int) < (k : Nat)))) = _
            rw [decide_eq_true (by omega)]
          · rw [show (k : Int) - 1 = ((k - 1 : Nat) : Int) by omega]
            exact Pyx.atI_nat (by rw [List.getElem?_map, hu]; rfl)
      refine ⟨[some (D.tup (ks.map .int)), some (.int (k : Nat)), some (.int v), u], [some (D.tup (ks.map .int)), some (.int (k : Nat)), some (.int v), some (.int lst)], S1, rfl, .inl ?_, _, _, _, rfl, rfl⟩
      rw [asg_ok hl rfl]
      have hc : callM 3 [] (tl.mean (j + 1) 0) (consM (varM 2) (consM (varM 3) (consM (cM (.int 500)) nilM))) [some (D.tup (ks.map .int)), some (.int (k : Nat)), some (.int v), some (.int lst)] S1 = .ok (.bl true) S1 := call_eq (consM_ok (x := .int v) rfl (consM_ok (x := .int lst) rfl (consM_ok (x := .int 500) rfl rfl))) rfl (is_number_c ⟨hlv, v1⟩)
      have hc2 : tstM (binM geD (varM 1) (cM (.int 5))) [some (D.tup (ks.map .int)), some (.int (k : Nat)), some (.int v), some (.int lst)] S1 = .ok false S1 := tst_eq (binM_eq (x := .int (k : Nat)) (y := .int 5) rfl rfl (by
        show some (D.bl (decide ((5 : Int) ≤ (k : Nat)))) = _
        rw [decide_eq_false (by omega)]))
      show seqM (ifS (orM (tstM (binM geD (varM 1) (cM (.int 5)))) (notM (tstM (callM 3 ([]) (tl.mean (j + 1) 0) (consM (varM 2) (consM (varM 3) (consM (cM (.int 500)) nilM))))))) (seqM badS skipM) skipM) skipM [some (D.tup (ks.map .int)), some (.int (k : Nat)), some (.int v), some (.int lst)] S1 = _
      rw [skip_if (or_no hc2 (not_eq' (tst_eq hc)))]
      rfl)
  refine defX_nx (e' := e') ?_
  show bd_need_kinds (tl.mean (j + 1)) [some (D.tup (ks.map .int)), none, none, none] S = _
  unfold bd_need_kinds
  have im : enumI2 (consM (varM 0) nilM) [some (D.tup (ks.map .int)), none, none, none] S = .ok (.fix (enum0 (ks.map D.int))) S := rfl
  rw [skip_if c1, for_ok im l1, lS]
  rfl
theorem all_bl {n : Nat} {S : Sto} : allF [.lst (List.replicate n (.bl true))] S = some (.bl true) := by
  have : listD S (.lst (List.replicate n (.bl true))) = some (List.replicate n (.bl true)) := rfl
  have hb : ∀ n, boolsD (List.replicate n (D.bl true)) = some (List.replicate n true) := fun n => by
    induction n with
    | zero => rfl
    | succ n ih =>
      show (boolsD (List.replicate n (D.bl true))).map (true :: ·) = _
      rw [ih]
      rfl
  simp only [allF, this, Option.bind_some, hb, Option.map_some]
  have : ∀ n, (List.replicate n true).all id = true := fun n => by
    induction n with
    | zero => rfl
    | succ n ih => exact ih
  rw [this]
theorem need_notes_c {j : Nat} {ks : List D} {ps : List Nat} {S : Sto} (hl : ks.length = ps.length) (hp : ∀ p ∈ ps, p ≤ 99) (hs : ps.length < 1000) : tl.mean (j + 2) 3 [.tup ks, .tup (ps.map fun p => .int (p : Nat))] S = .ok .non S := by
  rw [mn_need_notes]
  have c1 : orM (notM (tstM (isiM ("tuple") (varM 1)))) (tstM (binM neD (calM lenF (consM (varM 1) nilM)) (calM lenF (consM (varM 0) nilM)))) [some (D.tup ks), some (.tup (ps.map fun p => .int (p : Nat))), none] S = .ok false S := by
    refine or_no (not_eq' (b := true) (tst_eq (isiM_ok (d := .tup (ps.map fun p => .int (p : Nat))) rfl i_tt))) (tst_eq (binM_eq (cal_eq (consM_ok (x := .tup (ps.map fun p => .int (p : Nat))) rfl rfl) len_tup) (cal_eq (consM_ok (x := .tup ks) rfl rfl) len_tup) ?_))
    rw [neD_int, hl, List.length_map, decide_eq_true rfl]
    rfl
  obtain ⟨acc, S', l1, la, lS⟩ := lc_fixM (h := none) (vs := [2]) (im := seqI (varM 1)) (ds := ps.map fun p => D.int (p : Nat)) (g := gNm 2) (tt := yesM) (te := callM 3 ([]) (tl.mean (j + 1) 0) (consM (varM 2) (consM (cM (.int 0)) (consM (cM (.int 99)) nilM)))) (e := [some (D.tup ks), some (.tup (ps.map fun p => .int (p : Nat))), none]) (S := S) (S1 := S) rfl
    (fun k S' acc => acc = List.replicate k (.bl true) ∧ S' = S ∧ k ≤ ps.length) ⟨rfl, rfl, Nat.zero_le _⟩ (fun k S1 acc d hd ⟨q1, q2, q3⟩ => by
      subst q1 q2
      rw [List.getElem?_map] at hd
      obtain ⟨p, hpp, rfl⟩ := Option.map_eq_some_iff.mp hd
      have hk := (List.getElem?_eq_some_iff.mp hpp).1
      have hp99 := hp p (List.mem_of_getElem? hpp)
      refine ⟨_, true, S1, rfl, rfl, ?_⟩
      rw [if_pos rfl]
      refine ⟨.bl true, S1, ?_, by rw [List.length_replicate]; omega, by rw [List.replicate_succ'], rfl, by omega⟩
      exact call_eq (consM_ok (x := .int (p : Nat)) rfl (consM_ok (x := .int 0) rfl (consM_ok (x := .int 99) rfl rfl))) rfl (is_number_c (by omega)))
  obtain ⟨lS, _⟩ := lS
  subst lS
  have c2 : tstM (calM allF (consM (lcM none ([2]) (seqI (varM 1)) (gNm 2) yesM (callM 3 ([]) (tl.mean (j + 1) 0) (consM (varM 2) (consM (cM (.int 0)) (consM (cM (.int 99)) nilM))))) nilM)) [some (D.tup ks), some (.tup (ps.map fun p => .int (p : Nat))), none] S' = .ok true S' := by
    refine tst_eq (cal_eq (consM_ok (x := .lst acc) l1 rfl) ?_)
    rw [la]
    exact all_bl
  refine defX_nx (e' := [some (D.tup ks), some (.tup (ps.map fun p => .int (p : Nat))), none]) ?_
  show bd_need_notes (tl.mean (j + 1)) [some (D.tup ks), some (.tup (ps.map fun p => .int (p : Nat))), none] S' = _
  unfold bd_need_notes
  rw [skip_if c1, skip_if (not_eq' c2)]
  rfl
end K5
namespace K5
open PySem PySem.Spec PyProof.Rows L2 Pyx Hd
theorem setAt_eq {f : Nat} {o : Pyx.Id} {d : D} {S : Sto} {fs : List (Nat × D)} (hp : tl.tb.pl 0 f = true) (ho : S.at_ o = some (.ins 0 fs)) (hl : fs.length < 900) : setAt tl.tb f (.cell o) d S = some (S.set o (.ins 0 (putA f d fs))) := by
  simp only [setAt, ho]
  rw [if_pos ⟨hp, hl⟩]
theorem fr_obj {S T : Sto} {c : Nat} {l : Cell} (hS : S.Ok) (f : Fr [] S T) : Fr [] S (T.set (.obj c S.nx) l) := ⟨f.1, fun i hi hn => by
  rw [Sto.set_ne (hS.ne hi)]
  exact f.2 i hi hn⟩
theorem mk_c {j : Nat} {K P : D} {t : AM} {e : Env'} {S : Sto} (hS : S.Ok) (ht : t e S = .ok [K, P] S) (zs : List (Int × Nat)) (hK : K = kindsD zs) (hP : P = pilesD zs) :
    ∃ o kn ct S', mkM 3 0 [] (tl.mean (j + 1) 13) t e S = .ok (.cell o) S' ∧ ChS zs S' o kn ct 0 0 ∧ S'.Ok ∧ Fr [] S S' ∧ S.at_ o = none ∧ S.at_ kn = none ∧ S.at_ ct = none := by
  subst hK hP
  obtain ⟨o, ho⟩ : ∃ o, o = Pyx.Id.obj 0 S.nx := ⟨_, rfl⟩
  have f0 := hS 0 S.nx (Nat.le_refl _)
  obtain ⟨S1, e1⟩ : ∃ S1, S1 = S.bump.set o (.ins 0 []) := ⟨_, rfl⟩
  have k1 : S1.Ok := by rw [e1, ho]; exact alloc_k hS
  have fr1 : Fr [] S S1 := by rw [e1, ho]; exact alloc_fr hS
  have a1 : S1.at_ o = some (.ins 0 []) := by rw [e1]; exact Sto.set_same
  obtain ⟨S2, e2⟩ : ∃ S2, S2 = S1.set o (.ins 0 [(0, kindsD zs)]) := ⟨_, rfl⟩
  have a2 : S2.at_ o = some (.ins 0 [(0, kindsD zs)]) := by rw [e2]; exact Sto.set_same
  have k2 : S2.Ok := by rw [e2]; exact k1.set (by rw [a1]; exact fun z => by cases z)
  have fr2 : Fr [] S S2 := by rw [e2, ho]; exact fr_obj hS fr1
  obtain ⟨S3, e3⟩ : ∃ S3, S3 = S2.set o (.ins 0 [(0, kindsD zs), (1, pilesD zs)]) := ⟨_, rfl⟩
  have a3 : S3.at_ o = some (.ins 0 [(0, kindsD zs), (1, pilesD zs)]) := by rw [e3]; exact Sto.set_same
  have k3 : S3.Ok := by rw [e3]; exact k2.set (by rw [a2]; exact fun z => by cases z)
  have fr3 : Fr [] S S3 := by rw [e3, ho]; exact fr_obj hS fr2
  have n3 : S3.nx = S.nx + 1 := by rw [e3, e2, e1]; rfl
  obtain ⟨kn, hkn⟩ : ∃ kn, kn = Pyx.Id.obj 0 S3.nx := ⟨_, rfl⟩
  obtain ⟨S4, e4⟩ : ∃ S4, S4 = S3.bump.set kn (.dT []) := ⟨_, rfl⟩
  have k4 : S4.Ok := by rw [e4, hkn]; exact alloc_k k3
  have fr4 : Fr [] S S4 := fr3.trans (by rw [e4, hkn]; exact alloc_fr k3)
  have ne1 : o ≠ kn := by
    rw [ho, hkn, n3]
    intro z
    injection z with _ z
    omega
  have a4 : S4.at_ o = some (.ins 0 [(0, kindsD zs), (1, pilesD zs)]) := by rw [e4, Sto.set_ne ne1]; exact a3
  have b4 : S4.at_ kn = some (.dT []) := by rw [e4]; exact Sto.set_same
  obtain ⟨S5, e5⟩ : ∃ S5, S5 = S4.set o (.ins 0 [(0, kindsD zs), (1, pilesD zs), (2, .cell kn)]) := ⟨_, rfl⟩
  have a5 : S5.at_ o = some (.ins 0 [(0, kindsD zs), (1, pilesD zs), (2, .cell kn)]) := by rw [e5]; exact Sto.set_same
  have k5 : S5.Ok := by rw [e5]; exact k4.set (by rw [a4]; exact fun z => by cases z)
  have b5 : S5.at_ kn = some (.dT []) := by rw [e5, Sto.set_ne (Ne.symm ne1)]; exact b4
  have fr5 : Fr [] S S5 := by rw [e5, ho]; exact fr_obj hS fr4
  have n5 : S5.nx = S.nx + 2 := by rw [e5, e4]; show S3.nx + 1 = _; omega
  obtain ⟨ct, hct⟩ : ∃ ct, ct = Pyx.Id.obj 0 S5.nx := ⟨_, rfl⟩
  obtain ⟨S6, e6⟩ : ∃ S6, S6 = S5.bump.set ct (.dT []) := ⟨_, rfl⟩
  have k6 : S6.Ok := by rw [e6, hct]; exact alloc_k k5
  have fr6 : Fr [] S S6 := fr5.trans (by rw [e6, hct]; exact alloc_fr k5)
  have ne2 : o ≠ ct := by
    rw [ho, hct, n5]
    intro z
    injection z with _ z
    omega
  have ne3 : kn ≠ ct := by
    rw [hkn, hct, n3, n5]
    intro z
    injection z with _ z
    omega
  have a6 : S6.at_ o = some (.ins 0 [(0, kindsD zs), (1, pilesD zs), (2, .cell kn)]) := by rw [e6, Sto.set_ne ne2]; exact a5
  have b6 : S6.at_ kn = some (.dT []) := by rw [e6, Sto.set_ne ne3]; exact b5
  have c6 : S6.at_ ct = some (.dT []) := by rw [e6]; exact Sto.set_same
  obtain ⟨S7, e7⟩ : ∃ S7, S7 = S6.set o (.ins 0 [(0, kindsD zs), (1, pilesD zs), (2, .cell kn), (3, .cell ct)]) := ⟨_, rfl⟩
  have init : tl.mean (j + 1) 13 [.cell o, kindsD zs, pilesD zs] S1 = .ok .non S7 := by
    rw [mn_Chooser_init]
    refine defX_nx (e' := [some (.cell o), some (kindsD zs), some (pilesD zs)]) ?_
    show bd_Chooser_init (tl.mean j) [some (.cell o), some (kindsD zs), some (pilesD zs)] S1 = _
    unfold bd_Chooser_init
    have s1 := setAt_eq (d := kindsD zs) pl0 a1 (by decide)
    have s2 := setAt_eq (d := pilesD zs) pl1 a2 (show (1 : Nat) < 900 by decide)
    have s3 := setAt_eq (d := .cell kn) pl2 a4 (show (2 : Nat) < 900 by decide)
    have s4 := setAt_eq (d := .cell ct) pl3 a6 (show (3 : Nat) < 900 by decide)
    have al1 : dctT none [some (.cell o), some (kindsD zs), some (pilesD zs)] S3 = .ok (.cell kn) S4 := by
      show alloc none (.dT []) S3 = _
      rw [alloc_eq k3, e4, hkn]
    have al2 : dctT none [some (.cell o), some (kindsD zs), some (pilesD zs)] S5 = .ok (.cell ct) S6 := by
      show alloc none (.dT []) S5 = _
      rw [alloc_eq k5, e6, hct]
    rw [sat_ok (d := kindsD zs) (x := .cell o) rfl rfl s1]
    rw [show S1.set o (.ins 0 (putA 0 (kindsD zs) [])) = S2 from e2.symm]
    rw [sat_ok (d := pilesD zs) (x := .cell o) rfl rfl s2]
    rw [show S2.set o (.ins 0 (putA 1 (pilesD zs) [(0, kindsD zs)])) = S3 from e3.symm]
    rw [sat_ok (x := .cell o) al1 rfl s3]
    rw [show S4.set o (.ins 0 (putA 2 (.cell kn) [(0, kindsD zs), (1, pilesD zs)])) = S5 from e5.symm]
    rw [sat_ok (x := .cell o) al2 rfl s4]
    rw [show S6.set o (.ins 0 (putA 3 (.cell ct) [(0, kindsD zs), (1, pilesD zs), (2, .cell kn)])) = S7 from e7.symm]
    rfl
  refine ⟨o, kn, ct, S7, ?_, ⟨ne1, ne2, ne3, by rw [e7]; exact Sto.set_same, ⟨[], by rw [e7, Sto.set_ne (Ne.symm ne1)]; exact b6, Nat.le_refl _, fun q d h => by cases h⟩, ⟨[], by rw [e7, Sto.set_ne (Ne.symm ne2)]; exact c6, Nat.le_refl _, fun q d h => by cases h⟩⟩, ?_, ?_, ?_, ?_, ?_⟩
  · simp only [mkM, ht, bind_ok, f0]
    rw [if_pos (show (D.cell (Pyx.Id.obj 0 S.nx) :: ([kindsD zs, pilesD zs] ++ [])).length = 3 from rfl), ← ho, ← e1]
    show (tl.mean (j + 1) 13 [.cell o, kindsD zs, pilesD zs] S1).bind _ = _
    rw [init]
    rfl
  · rw [e7]
    exact k6.set (by rw [a6]; exact fun z => by cases z)
  · rw [e7, ho]
    exact fr_obj hS fr6
  · rw [ho]
    exact f0
  · rw [hkn]
    exact hS _ _ (by omega)
  · rw [hct]
    exact hS _ _ (by omega)
/-- good kinds, stacks, amount -/
structure Fit (zs : List (Int × Nat)) : Prop where
  k : KindsOk (zs.map (·.1))
  w : ∀ z ∈ zs, 0 < z.1 ∧ z.1 < 1000
  p : ∀ z ∈ zs, z.2 ≤ 99
  l : zs.length ≤ 10
  g : Gr zs zs.length ≤ 900000
theorem kindsD_eq (zs : List (Int × Nat)) : kindsD zs = .tup ((zs.map (·.1)).map .int) := by
  unfold kindsD
  rw [List.map_map]
  rfl
theorem pilesD_eq (zs : List (Int × Nat)) : pilesD zs = .tup ((zs.map (·.2)).map fun p => .int (p : Nat)) := by
  unfold pilesD
  rw [List.map_map]
  rfl
theorem need_all_c {j : Nat} {zs : List (Int × Nat)} {a : Int} {S : Sto} (F : Fit zs) (ha : 0 ≤ a ∧ a ≤ 99999) : tl.mean (j + 3) 5 [kindsD zs, pilesD zs, .int a] S = .ok .non S := by
  rw [mn_need_all]
  refine defX_nx (e' := [some (kindsD zs), some (pilesD zs), some (.int a)]) ?_
  show bd_need_all (tl.mean (j + 2)) [some (kindsD zs), some (pilesD zs), some (.int a)] S = _
  unfold bd_need_all
  have h1 : tl.mean (j + 2) 2 [kindsD zs] S = .ok .non S := by
    rw [kindsD_eq]
    exact need_kinds_c F.k
  have h2 : tl.mean (j + 2) 3 [kindsD zs, pilesD zs] S = .ok .non S := by
    rw [kindsD_eq, pilesD_eq]
    refine need_notes_c (by rw [List.length_map, List.length_map, List.length_map]) (fun p hp => ?_) ?_
    · obtain ⟨z, hz, rfl⟩ := List.mem_map.mp hp
      exact F.p z hz
    · rw [List.length_map]
      have := F.l
      omega
  have c1 : callM 1 [] (tl.mean (j + 2) 2) (consM (varM 0) nilM) [some (kindsD zs), some (pilesD zs), some (.int a)] S = .ok .non S := call_eq (consM_ok (x := kindsD zs) rfl rfl) rfl h1
  have c2 : callM 2 [] (tl.mean (j + 2) 3) (consM (varM 0) (consM (varM 1) nilM)) [some (kindsD zs), some (pilesD zs), some (.int a)] S = .ok .non S := call_eq (consM_ok (x := kindsD zs) rfl (consM_ok (x := pilesD zs) rfl rfl)) rfl h2
  have c3 : callM 3 [] (tl.mean (j + 2) 1) (consM (varM 2) (consM (cM (.int 0)) (consM (cM (.int 99999)) nilM))) [some (kindsD zs), some (pilesD zs), some (.int a)] S = .ok .non S := call_eq (consM_ok (x := .int a) rfl (consM_ok (x := .int 0) rfl (consM_ok (x := .int 99999) rfl rfl))) rfl (need_count_c ha)
  rw [expr_ok c1, expr_ok c2, expr_ok c3]
  rfl
theorem pre_all (zs : List (Int × Nat)) : pre zs zs.length = zs.reverse := by
  unfold pre
  rw [List.take_length]
/-- the answer's form -/
def ans : Option (Int × List Int) → D
  | none => .non
  | some (_, row) => rowD row
theorem fewest_c {j : Nat} {zs : List (Int × Nat)} {a : Int} {S : Sto} (hS : S.Ok) (F : Fit zs) (ha : 0 ≤ a ∧ a ≤ 99999) (hj : 20 ≤ j) : ∃ S', tl.mean j 6 [kindsD zs, pilesD zs, .int a] S = .ok (ans (bestP zs.reverse a)) S' ∧ S'.Ok ∧ Fr [] S S' := by
  obtain ⟨i, rfl⟩ : ∃ i, j = i + 4 := ⟨j - 4, by omega⟩
  have h1 := need_all_c (j := i) (S := S) F ha
  obtain ⟨o, kn, ct, S1, m1, m2, m3, m4, m5, m6, m7⟩ := mk_c (j := i + 1) (K := kindsD zs) (P := pilesD zs) (t := consM (varM 0) (consM (varM 1) nilM)) (e := [some (kindsD zs), some (pilesD zs), some (.int a), none]) hS rfl zs rfl rfl
  obtain ⟨S2, b1, b2, b3, b4⟩ := best_c F.w F.l zs.length (Nat.le_refl _) (i + 2) (by have := F.l; omega) a S1 0 0 ha.1 (by omega) m2 (by have := F.g; omega)
  have fr : Fr [] S S2 := ⟨by rw [b3]; exact m4.1, fun x hx hn => by
    rw [b4 x (fun z => by rw [z] at hx; exact hx m6), m4.2 x hx hn]⟩
  have ok2 : S2.Ok := fun c k hk => by
    obtain ⟨kvs, q, _⟩ := m2.hk
    have : Pyx.Id.obj c k ≠ kn := fun z => by
      have h := m3 c k (by omega)
      rw [z, q] at h
      cases h
    rw [b4 _ this]
    exact m3 c k (by omega)
  refine ⟨S2, ?_, ok2, fr⟩
  rw [mn_fewest]
  refine defX_rt ?_
  show bd_fewest (tl.mean (i + 3)) [some (kindsD zs), some (pilesD zs), some (.int a)] S = _
  unfold bd_fewest
  have c1 : callM 3 [] (tl.mean (i + 3) 5) (consM (varM 0) (consM (varM 1) (consM (varM 2) nilM))) [some (kindsD zs), some (pilesD zs), some (.int a)] S = .ok .non S := call_eq (consM_ok (x := kindsD zs) rfl (consM_ok (x := pilesD zs) rfl (consM_ok (x := .int a) rfl rfl))) rfl h1
  rw [expr_ok c1]
  refine ret_ok (call_eq (consM_ok (x := kindsD zs) rfl (consM_ok (x := pilesD zs) rfl (consM_ok (x := .int a) rfl rfl))) rfl ?_)
  show tl.mean (i + 3) 4 [kindsD zs, pilesD zs, .int a] S = _
  rw [mn_chosen]
  refine defX_rt ?_
  show bd_chosen (tl.mean (i + 2)) [some (kindsD zs), some (pilesD zs), some (.int a), none] S = _
  unfold bd_chosen
  have call : methM tl.tb tl.np (tl.mean (i + 2)) 4 3 (mkM 3 0 ([]) (tl.mean (i + 2) 13) (consM (varM 0) (consM (varM 1) nilM))) (consM (binM subD (calM lenF (consM (varM 0) nilM)) (cM (.int 1))) (consM (varM 2) nilM)) [some (kindsD zs), some (pilesD zs), some (.int a), none] S = .ok (enc (bestP zs.reverse a)) S2 := by
    have hl : calM lenF (consM (varM 0) nilM) [some (kindsD zs), some (pilesD zs), some (.int a), none] S1 = .ok (.int (zs.length : Nat)) S1 := cal_eq (consM_ok (x := kindsD zs) rfl rfl) (by
      unfold kindsD
      rw [len_tup, List.length_map])
    rw [methM_ok m1 m2.ho mt_best rfl df_best (consM_ok (x := .int ((zs.length : Int) - 1)) (binM_eq hl (y := .int 1) rfl rfl) (consM_ok (x := .int a) rfl rfl)) (by rw [np_best]; rfl)]
    rw [← pre_all]
    exact b1
  rw [asg_ok call rfl]
  refine ret_ok ?_
  cases bestP zs.reverse a with
  | none => exact ifM_yes (tst_eq (binM_eq (x := .non) (y := .non) rfl rfl rfl)) rfl
  | some q => exact ifM_no (tst_eq (binM_eq (x := enc (some q)) (y := .non) rfl rfl rfl)) (subM_tup (ds := [.int q.1, rowD q.2]) (k := 1) rfl rfl atI_one)
theorem ways_c {j : Nat} {zs : List (Int × Nat)} {a : Int} {S : Sto} (hS : S.Ok) (F : Fit zs) (ha : 0 ≤ a ∧ a ≤ 99999) (hj : 20 ≤ j) : ∃ S', tl.mean j 7 [kindsD zs, pilesD zs, .int a] S = .ok (.int (countP zs.reverse a)) S' ∧ S'.Ok ∧ Fr [] S S' := by
  obtain ⟨i, rfl⟩ : ∃ i, j = i + 4 := ⟨j - 4, by omega⟩
  have h1 := need_all_c (j := i) (S := S) F ha
  obtain ⟨o, kn, ct, S1, m1, m2, m3, m4, m5, m6, m7⟩ := mk_c (j := i + 2) (K := kindsD zs) (P := pilesD zs) (t := consM (varM 0) (consM (varM 1) nilM)) (e := [some (kindsD zs), some (pilesD zs), some (.int a)]) hS rfl zs rfl rfl
  obtain ⟨S2, b1, b2, b3, b4⟩ := count_c F.w (fun z hz => by have := F.p z hz; omega) F.l zs.length (Nat.le_refl _) (i + 3) (by have := F.l; omega) a S1 0 0 ha.1 (by omega) m2 (by have := F.g; omega)
  have fr : Fr [] S S2 := ⟨by rw [b3]; exact m4.1, fun x hx hn => by
    rw [b4 x (fun z => by rw [z] at hx; exact hx m7), m4.2 x hx hn]⟩
  have ok2 : S2.Ok := fun c k hk => by
    obtain ⟨kvs, q, _⟩ := m2.hc
    have : Pyx.Id.obj c k ≠ ct := fun z => by
      have h := m3 c k (by omega)
      rw [z, q] at h
      cases h
    rw [b4 _ this]
    exact m3 c k (by omega)
  refine ⟨S2, ?_, ok2, fr⟩
  rw [mn_ways]
  refine defX_rt ?_
  show bd_ways (tl.mean (i + 3)) [some (kindsD zs), some (pilesD zs), some (.int a)] S = _
  unfold bd_ways
  have c1 : callM 3 [] (tl.mean (i + 3) 5) (consM (varM 0) (consM (varM 1) (consM (varM 2) nilM))) [some (kindsD zs), some (pilesD zs), some (.int a)] S = .ok .non S := call_eq (consM_ok (x := kindsD zs) rfl (consM_ok (x := pilesD zs) rfl (consM_ok (x := .int a) rfl rfl))) rfl h1
  rw [expr_ok c1]
  refine ret_ok ?_
  have hl : calM lenF (consM (varM 0) nilM) [some (kindsD zs), some (pilesD zs), some (.int a)] S1 = .ok (.int (zs.length : Nat)) S1 := cal_eq (consM_ok (x := kindsD zs) rfl rfl) (by
    unfold kindsD
    rw [len_tup, List.length_map])
  rw [methM_ok m1 m2.ho mt_count rfl df_count (consM_ok (x := .int ((zs.length : Int) - 1)) (binM_eq hl (y := .int 1) rfl rfl) (consM_ok (x := .int a) rfl rfl)) (by rw [np_count]; rfl)]
  rw [← pre_all]
  exact b1
end K5
namespace K5
open PySem PySem.Spec PyProof.Rows L2 Pyx Hd
theorem take_c {j : Nat} {S : Sto} {b c : Pyx.Id} {m : Int} (hS : S.Ok) (h : Box S b c) (hm : 0 < m ∧ m < 1073741824) :
    ∃ r S', tl.mean (j + 1) 9 [.cell b, .int m] S = .ok (.int r) S' ∧ 0 ≤ r ∧ r < m ∧ Box S' b c ∧ S'.Ok ∧ Fr [b, c] S S' ∧ S'.nx = S.nx := by
  obtain ⟨r, S', h1, h2, h3, h4, h5, h6⟩ := take_ok (G := tl.mean j) h hm
  refine ⟨r, S', ?_, h2, h3, h4, fun d k hk => ?_, ⟨by rw [h5]; exact Nat.le_refl _, fun i _ hi => h6 i (fun z => hi (by rw [z]; exact List.mem_cons_self ..)) fun z => hi (by rw [z]; exact List.mem_cons_of_mem _ (List.mem_cons_self ..))⟩, h5⟩
  · rw [mn__law_take]
    exact h1
  · obtain ⟨_, st, ms, hb, hc, _⟩ := h
    have nb : Pyx.Id.obj d k ≠ b := fun z => by
      have := hS d k (by omega)
      rw [z, hb] at this
      cases this
    have nc : Pyx.Id.obj d k ≠ c := fun z => by
      have := hS d k (by omega)
      rw [z, hc] at this
      cases this
    rw [h6 _ nb nc]
    exact hS d k (by omega)
def ext (p : Nat) (row : List Int) : List (List Int) := (List.range (p + 1)).map fun (m : Nat) => row ++ [(m : Int)]
theorem rows_succ {zs : List (Int × Nat)} {n : Nat} {w : Int} {p : Nat} (h : zs[n]? = some (w, p)) : rowsP (pre zs (n + 1)) = (rowsP (pre zs n)).flatMap (ext p) := by
  rw [pre_succ h]
  rfl
theorem flat_take {l : List (List Int)} {p i : Nat} : ((l.take i).flatMap (ext p)).length ≤ (l.flatMap (ext p)).length := by
  have : l.flatMap (ext p) = (l.take i).flatMap (ext p) ++ (l.drop i).flatMap (ext p) := by
    rw [← List.flatMap_append, List.take_append_drop]
  rw [this, List.length_append]
  omega
def HoldsN (L : Pyx.Id) (S : Sto) (x : D) (ds : List D) : Prop := x = .lst ds ∨ ∃ i, i ≠ L ∧ x = .cell i ∧ S.at_ i = some (.lst ds)
theorem HoldsN.h {L : Pyx.Id} {S : Sto} {x : D} {ds : List D} (h : HoldsN L S x ds) : Holds S x ds := by
  rcases h with h | ⟨i, _, h1, h2⟩
  · exact .inl h
  · exact .inr ⟨i, h1, h2⟩
def kChB (G : Fn) : SM := seqM (exprM (bmM 1 extG (varM 3) (consM (lcM none ([5]) (rng1I (consM (binM addD (varM 2) (cM (.int 1))) nilM)) (gNm 5) yesM (binM addD (varM 4) (tupM (consM (varM 5) nilM)))) nilM))) skipM
def kChO (G : Fn) : SM := seqM (asgM (gNm 3) (lstC none nilM)) (seqM (forM (seqI (varM 1)) (gNm 4) (kChB G)) (seqM (asgM (gNm 1) (varM 3)) skipM))
def kCh (G : Fn) : SM := seqM (asgM (gNm 1) (lstM (consM (tupM nilM) nilM))) (seqM (forM (seqI (varM 0)) (gNm 2) (kChO G)) (seqM (retM (varM 1)) skipM))
variable {zs : List (Int × Nat)}
/-- one row more -/
theorem chB_ok {G : Fn} {S : Sto} {st f : D} {p : Nat} {L : Pyx.Id} {x5 : Option D} {row : List Int} {old : List (List Int)} (hL : S.at_ L = some (.lst (old.map rowD))) (hp : p < 1000) (hr : row.length ≤ 100) (ho : (old ++ ext p row).length ≤ 100000) :
    kChB G [some st, some f, some (.int (p : Nat)), some (.cell L), some (rowD row), x5] S = .nx [some st, some f, some (.int (p : Nat)), some (.cell L), some (rowD row), x5] (S.set L (.lst ((old ++ ext p row).map rowD))) := by
  have im : rng1I (consM (binM addD (varM 2) (cM (.int 1))) nilM) [some st, some f, some (.int (p : Nat)), some (.cell L), some (rowD row), x5] S = .ok (.rng 0 1 (p + 1)) S := by
    rw [rng1_ok (consM_ok (binM_eq (x := .int (p : Nat)) (y := .int 1) (z := .int ((p : Nat) + 1)) rfl rfl rfl) rfl) (by omega)]
    rfl
  obtain ⟨acc, S', l1, la, lS⟩ := lc_rngM (h := none) (vs := [5]) (g := gNm 5) (tt := yesM) (te := binM addD (varM 4) (tupM (consM (varM 5) nilM))) im
    (fun k S' acc => acc = ((List.range k).map fun (m : Nat) => row ++ [(m : Int)]).map rowD ∧ S' = S) ⟨rfl, rfl⟩ (fun k S1 acc hk ⟨q1, q2⟩ => by
      subst q2
      have em : (0 : Int) + (k : Nat) * 1 = (k : Nat) := by omega
      rw [em]
      refine ⟨[some st, some f, some (.int (p : Nat)), some (.cell L), some (rowD row), some (.int (k : Nat))], true, S1, rfl, rfl, ?_⟩
      rw [if_pos rfl]
      refine ⟨rowD (row ++ [(k : Int)]), S1, ?_, by rw [q1, List.length_map, List.length_map, List.length_range]; omega, by rw [q1, List.range_succ, List.map_append, List.map_append]; rfl, rfl⟩
      refine binM_eq (x := rowD row) (y := .tup [.int (k : Nat)]) rfl rfl ?_
      show (if (row.map D.int).length + 1 ≤ sizeLine then some (D.tup (row.map D.int ++ [D.int k])) else none) = _
      rw [if_pos (sz_small (by rw [List.length_map]; omega))]
      unfold rowD
      rw [List.map_append]
      rfl)
  subst lS
  have hg : extG (.cell L) [.lst acc] S' = some (.non, S'.set L (.lst ((old ++ ext p row).map rowD))) := by
    have e : old.map rowD ++ acc = (old ++ ext p row).map rowD := by
      rw [la, List.map_append]
      rfl
    have l : (old.map rowD).length + acc.length < 1000000 := by
      rw [← List.length_append, e, List.length_map]
      omega
    simp only [extG, hL]
    rw [if_pos l, e]
  unfold kChB
  rw [expr_ok (bm_eq (x := .cell L) rfl (by simp only [tyIs, hL]) (consM_ok (x := .lst acc) l1 rfl) hg)]
  rfl
theorem chO_ok {G : Fn} {S : Sto} {f : D} {w : Int} {p n : Nat} {x3 x4 x5 : Option D} (hS : S.Ok) (hz : zs[n]? = some (w, p)) (hp : p < 1000) (hl : zs.length ≤ 10) (hR : (rowsP (pre zs (n + 1))).length ≤ 10000) (hf : Holds S f ((rowsP (pre zs n)).map rowD)) :
    ∃ f' y3 y4 y5 S', kChO G [some (pilesD zs), some f, some (.int (p : Nat)), x3, x4, x5] S = .nx [some (pilesD zs), some f', some (.int (p : Nat)), y3, y4, y5] S' ∧ Holds S' f' ((rowsP (pre zs (n + 1))).map rowD) ∧ S'.Ok ∧ Fr [] S S' := by
  obtain ⟨L, eL⟩ : ∃ L, L = Pyx.Id.obj 0 S.nx := ⟨_, rfl⟩
  obtain ⟨T, eT⟩ : ∃ T, T = S.bump.set L (.lst []) := ⟨_, rfl⟩
  have hT : T.Ok := by rw [eT, eL]; exact alloc_k hS
  have frT : Fr [] S T := by rw [eT, eL]; exact alloc_fr hS
  have al : lstC none nilM [some (pilesD zs), some f, some (.int (p : Nat)), x3, x4, x5] S = .ok (.cell L) T := by
    show alloc none (.lst []) S = _
    rw [alloc_eq hS, eT, eL]
  have hL0 : T.at_ L = some (.lst []) := by rw [eT]; exact Sto.set_same
  have hfT : HoldsN L T f ((rowsP (pre zs n)).map rowD) := by
    rcases hf with h | ⟨i, h1, h2⟩
    · exact .inl h
    · exact .inr ⟨i, by rw [eL]; exact hS.ne (by rw [h2]; exact fun z => by cases z), h1, frT.get h2 (by simp)⟩
  rw [rows_succ hz] at hR ⊢
  obtain ⟨e', S', l1, y4, y5, le, lh, lL, lk, lf⟩ := for_seq (a := varM 1) (x := f) (ds := (rowsP (pre zs n)).map rowD) (g := gNm 4) (body := kChB G) (r := seqM (asgM (gNm 1) (varM 3)) skipM) (e := [some (pilesD zs), some f, some (.int (p : Nat)), some (.cell L), x4, x5]) (S := T) (S1 := T) rfl
    (fun i e S' => ∃ y4 y5, e = [some (pilesD zs), some f, some (.int (p : Nat)), some (.cell L), y4, y5] ∧ HoldsN L S' f ((rowsP (pre zs n)).map rowD) ∧ S'.at_ L = some (.lst ((((rowsP (pre zs n)).take i).flatMap (ext p)).map rowD)) ∧ S'.Ok ∧ Fr [] S S')
    ⟨x4, x5, rfl, hfT, hL0, hT, frT⟩ (fun i e S' ⟨_, _, _, h, _⟩ => h.h) (fun i e S1 d hd ⟨y4, y5, q1, q2, q3, q4, q5⟩ => by
      subst q1
      rw [List.getElem?_map] at hd
      obtain ⟨row, hr, rfl⟩ := Option.map_eq_some_iff.mp hd
      have hrl := row_len (List.mem_of_getElem? hr)
      have hpl : (pre zs n).length ≤ 100 := by
        unfold pre
        rw [List.length_reverse, List.length_take]
        omega
      have et : ((rowsP (pre zs n)).take i).flatMap (ext p) ++ ext p row = ((rowsP (pre zs n)).take (i + 1)).flatMap (ext p) := by
        rw [List.take_succ, hr, List.flatMap_append]
        simp
      have hlen : (((rowsP (pre zs n)).take i).flatMap (ext p) ++ ext p row).length ≤ 100000 := by
        rw [et]
        have := flat_take (l := rowsP (pre zs n)) (p := p) (i := i + 1)
        omega
      refine ⟨_, _, _, rfl, .inl (chB_ok q3 hp (by omega) hlen), _, _, rfl, ?_, ?_, q4.set (by rw [q3]; exact fun z => by cases z), ?_⟩
      · rcases q2 with h | ⟨i', h1, h2, h3⟩
        · exact .inl h
        · exact .inr ⟨i', h1, h2, by rw [Sto.set_ne h1]; exact h3⟩
      · rw [Sto.set_same, et]
      · rw [eL]
        exact fr_obj hS q5)
  rw [List.length_map, List.take_length] at lL
  subst le
  refine ⟨.cell L, some (.cell L), y4, y5, S', ?_, .inr ⟨L, rfl, lL⟩, lk, lf⟩
  unfold kChO
  rw [asg_ok al rfl]
  show seqM (forM (seqI (varM 1)) (gNm 4) (kChB G)) (seqM (asgM (gNm 1) (varM 3)) skipM) [some (pilesD zs), some f, some (.int (p : Nat)), some (.cell L), x4, x5] T = _
  rw [l1, asg_ok (d := .cell L) rfl rfl]
  rfl
theorem choices_c {j : Nat} {S : Sto} (hS : S.Ok) (hl : zs.length ≤ 10) (hp : ∀ z ∈ zs, z.2 < 1000) (hR : ∀ n, n ≤ zs.length → (rowsP (pre zs n)).length ≤ 10000) :
    ∃ x S', tl.mean (j + 1) 11 [pilesD zs] S = .ok x S' ∧ Holds S' x ((rowsP zs.reverse).map rowD) ∧ S'.Ok ∧ Fr [] S S' := by
  obtain ⟨e', S', l1, f, y2, y3, y4, y5, le, lh, lk, lf⟩ := loop_fix (ds := zs.map fun z => D.int (z.2 : Nat)) (g := gNm 2) (body := kChO (tl.mean j)) (e := [some (pilesD zs), some (.lst [.tup []]), none, none, none, none]) (S := S)
    (fun k e S' => ∃ f y2 y3 y4 y5, e = [some (pilesD zs), some f, y2, y3, y4, y5] ∧ Holds S' f ((rowsP (pre zs k)).map rowD) ∧ S'.Ok ∧ Fr [] S S')
    ⟨_, _, _, _, _, rfl, .inl rfl, hS, Fr.refl _ _⟩ (fun k e S1 d hd ⟨f, y2, y3, y4, y5, q1, q2, q3, q4⟩ => by
      subst q1
      rw [List.getElem?_map] at hd
      obtain ⟨z, hz, rfl⟩ := Option.map_eq_some_iff.mp hd
      obtain ⟨w, p⟩ := z
      have hk := (List.getElem?_eq_some_iff.mp hz).1
      obtain ⟨f', z3, z4, z5, S2, r1, r2, r3, r4⟩ := chO_ok (G := tl.mean j) (x3 := y3) (x4 := y4) (x5 := y5) q3 hz (hp (w, p) (List.mem_of_getElem? hz)) hl (hR (k + 1) hk) q2
      exact ⟨_, _, S2, rfl, .inl r1, f', _, z3, z4, z5, rfl, r2, r3, q4.trans r4⟩)
  rw [List.length_map, pre_all] at lh
  subst le
  refine ⟨f, S', ?_, lh, lk, lf⟩
  rw [mn__law_all_choices]
  refine defX_rt ?_
  show kCh (tl.mean j) [some (pilesD zs), none, none, none, none, none] S = _
  unfold kCh
  rw [asg_ok (d := .lst [.tup []]) rfl rfl]
  show seqM (forM (seqI (varM 0)) (gNm 2) (kChO (tl.mean j))) (seqM (retM (varM 1)) skipM) [some (pilesD zs), some (.lst [.tup []]), none, none, none, none] S = _
  rw [for_ok (src := .fix (zs.map fun z => D.int (z.2 : Nat))) rfl l1]
  exact ret_ok rfl
/-- how many rows -/
theorem rows_len {M : Nat} : ∀ {wps : List (Int × Nat)}, (∀ z ∈ wps, z.2 < M) → (rowsP wps).length ≤ M ^ wps.length
  | [], _ => Nat.le_refl _
  | (w, p) :: r, h => by
    have ih := rows_len (M := M) (wps := r) fun z hz => h z (List.mem_cons_of_mem _ hz)
    have hp := h (w, p) (List.mem_cons_self ..)
    have : ∀ l : List (List Int), (l.flatMap (ext p)).length = l.length * (p + 1) := fun l => by
      induction l with
      | nil => simp
      | cons x l ih =>
        rw [List.flatMap_cons, List.length_append, ih, List.length_cons, Nat.succ_mul]
        show ((List.range (p + 1)).map fun (m : Nat) => x ++ [(m : Int)]).length + _ = _
        rw [List.length_map, List.length_range]
        omega
    show ((rowsP r).flatMap (ext p)).length ≤ _
    rw [this, List.length_cons, Nat.pow_succ]
    exact Nat.mul_le_mul ih hp
end K5
namespace K5
open PySem PySem.Spec PyProof.Rows L2 Pyx Hd
theorem top_holds {S : Sto} {x : D} {ds : List D} (h : Holds S x ds) : top1 S x = .lst ds := by
  rcases h with rfl | ⟨i, rfl, hi⟩
  · rfl
  · exact top1_cel hi
theorem len_holds {S : Sto} {x : D} {ds : List D} (h : Holds S x ds) : lenF [x] S = some (.int ds.length) := by
  have e : itemsD S x = some ds := by
    simp only [itemsD, top_holds h]
  rcases h with rfl | ⟨i, rfl, hi⟩
  · rfl
  · simp only [lenF, e, Option.map_some]
theorem sub_holds {a b : EM} {e : Env'} {S S1 S2 : Sto} {x d : D} {ds : List D} {k : Int} (ha : a e S = .ok x S1) (hb : b e S1 = .ok (.int k) S2) (h : Holds S2 x ds) (hd : atI ds k = some d) : subM a b e S = .ok d S2 := by
  rcases h with rfl | ⟨i, rfl, hi⟩
  · exact subM_lst ha hb hd
  · exact subM_cel ha hb hi hd
theorem Holds.fr {S S' : Sto} {ch : List Pyx.Id} {x : D} {ds : List D} (h : Holds S x ds) (f : Fr ch S S') (hn : ∀ i, x = .cell i → i ∉ ch) : Holds S' x ds := by
  rcases h with h | ⟨i, h1, h2⟩
  · exact .inl h
  · exact .inr ⟨i, h1, f.get h2 (hn i h1)⟩
theorem row_ent {M : Nat} : ∀ {wps : List (Int × Nat)}, (∀ z ∈ wps, z.2 < M) → ∀ row ∈ rowsP wps, ∀ v ∈ row, 0 ≤ v ∧ v < M
  | [], _, row, hr, v, hv => by
    cases List.mem_singleton.mp hr
    cases hv
  | (w, p) :: r, h, row, hr, v, hv => by
    obtain ⟨row', h1, k, hk, rfl⟩ := mem_rows.mp hr
    have hp := h (w, p) (List.mem_cons_self ..)
    rcases List.mem_append.mp hv with hv | hv
    · exact row_ent (fun z hz => h z (List.mem_cons_of_mem _ hz)) row' h1 v hv
    · cases List.mem_singleton.mp hv
      have hp' : p < M := hp
      omega
variable {zs : List (Int × Nat)}
def kAt (zs : List (Int × Nat)) (k : Nat) : Int := (zs[k]?.map (·.1)).getD 0
def prodAt (zs : List (Int × Nat)) (row : List Int) (k : Nat) : Int := kAt zs k * row.getD k 0
theorem worth_sum (zs : List (Int × Nat)) : ∀ (n : Nat), n ≤ zs.length → ∀ row ∈ rowsP (pre zs n), ((List.range n).map (prodAt zs row)).sum = worth (pre zs n) row
  | 0, _, row, h => rfl
  | n + 1, hn, row, h => by
    have hzn : zs[n]? = some zs[n] := List.getElem?_eq_getElem (by omega)
    obtain ⟨w, p, hwp⟩ : ∃ w p, zs[n] = (w, p) := ⟨_, _, rfl⟩
    rw [hwp] at hzn
    rw [pre_succ hzn] at h ⊢
    obtain ⟨row', h1, k, hk, rfl⟩ := mem_rows.mp h
    have hl := row_len h1
    have hpl : (pre zs n).length = n := by
      unfold pre
      rw [List.length_reverse, List.length_take]
      omega
    rw [List.range_succ, List.map_append, List.sum_append, worth_app]
    have e1 : (List.range n).map (prodAt zs (row' ++ [(k : Int)])) = (List.range n).map (prodAt zs row') := List.map_congr_left fun i hi => by
      have hi' := List.mem_range.mp hi
      unfold prodAt
      rw [List.getD_eq_getElem?_getD, List.getD_eq_getElem?_getD, List.getElem?_append_left (by omega)]
    rw [e1, worth_sum zs n (by omega) row' h1]
    have e2 : prodAt zs (row' ++ [(k : Int)]) n = w * k := by
      unfold prodAt kAt
      rw [hzn, List.getD_eq_getElem?_getD, List.getElem?_append_right (by omega), show n - row'.length = 0 by omega]
      rfl
    rw [List.map_singleton, List.sum_singleton, e2]
theorem kind_int {k : Nat} (hk : k < zs.length) : atI (zs.map fun z => D.int z.1) (k : Nat) = some (.int (kAt zs k)) := by
  have hz : zs[k]? = some zs[k] := List.getElem?_eq_getElem hk
  refine Pyx.atI_nat ?_
  rw [List.getElem?_map, hz]
  unfold kAt
  rw [hz]
  rfl
theorem row_int {row : List Int} {k : Nat} (hk : k < row.length) : atI (row.map D.int) (k : Nat) = some (.int (row.getD k 0)) := by
  have hz : row[k]? = some row[k] := List.getElem?_eq_getElem hk
  refine Pyx.atI_nat ?_
  rw [List.getElem?_map, hz, List.getD_eq_getElem?_getD, hz]
  rfl
theorem len_kinds {S : Sto} : lenF [kindsD zs] S = some (.int (zs.length : Nat)) := by
  unfold kindsD
  rw [len_tup, List.length_map]
theorem endL_none {ds : List D} {S : Sto} : endL none ds S = .ok (.lst ds) S := rfl
/-- sum([kinds[k] * row[k] for k in range(len(kinds))]) at places 4, 10 -/
theorem sum_row {S : Sto} {e : Env'} {row : List Int} (hw : ∀ z ∈ zs, 0 < z.1 ∧ z.1 < 1000) (hlen : row.length = zs.length) (hz : zs.length ≤ 10) (h4 : e[4]? = some (some (kindsD zs))) (h10 : e[10]? = some (some (rowD row))) (h8 : e.length = 15) :
    calM sumF (consM (lcM none ([8]) (rng1I (consM (calM lenF (consM (varM 4) nilM)) nilM)) (gNm 8) yesM (binM mulD (subM (varM 4) (varM 8)) (subM (varM 10) (varM 8)))) nilM) e S = .ok (.int ((List.range zs.length).map (prodAt zs row)).sum) S := by
  have im : rng1I (consM (calM lenF (consM (varM 4) nilM)) nilM) e S = .ok (.rng 0 1 zs.length) S := by
    rw [rng1_ok (consM_ok (cal_eq (consM_ok (varM_ok h4) rfl) len_kinds) rfl) (by omega)]
    rfl
  obtain ⟨acc, S', l1, la, lS⟩ := lc_rngM (h := none) (vs := [8]) (g := gNm 8) (tt := yesM) (te := binM mulD (subM (varM 4) (varM 8)) (subM (varM 10) (varM 8))) im
    (fun k S' acc => acc = ((List.range k).map (prodAt zs row)).map D.int ∧ S' = S) ⟨rfl, rfl⟩ (fun k S1 acc hk ⟨q1, q2⟩ => by
      subst q2
      have em : (0 : Int) + (k : Nat) * 1 = (k : Nat) := by omega
      rw [em]
      refine ⟨(wipeE e [8]).set 8 (some (.int (k : Nat))), true, S1, rfl, rfl, ?_⟩
      rw [if_pos rfl]
      have v4 : varM 4 ((wipeE e [8]).set 8 (some (.int (k : Nat)))) S1 = .ok (kindsD zs) S1 := varM_ok (by
        show ((e.set 8 none).set 8 _)[4]? = _
        rw [List.getElem?_set_ne (by decide), List.getElem?_set_ne (by decide)]
        exact h4)
      have v10 : varM 10 ((wipeE e [8]).set 8 (some (.int (k : Nat)))) S1 = .ok (rowD row) S1 := varM_ok (by
        show ((e.set 8 none).set 8 _)[10]? = _
        rw [List.getElem?_set_ne (by decide), List.getElem?_set_ne (by decide)]
        exact h10)
      have v8 : varM 8 ((wipeE e [8]).set 8 (some (.int (k : Nat)))) S1 = .ok (.int (k : Nat)) S1 := varM_ok (by
        show ((e.set 8 none).set 8 _)[8]? = _
        rw [List.getElem?_set_self (by rw [List.length_set]; omega)])
      have hk1 : -1000000000 < kAt zs k ∧ kAt zs k < 1000000000 := by
        have hz' : zs[k]? = some zs[k] := List.getElem?_eq_getElem hk
        have := hw zs[k] (List.mem_of_getElem? hz')
        unfold kAt
        rw [hz']
        show -1000000000 < zs[k].1 ∧ zs[k].1 < 1000000000
        omega
      refine ⟨.int (prodAt zs row k), S1, ?_, by rw [q1, List.length_map, List.length_map, List.length_range]; omega, by rw [q1, List.range_succ, List.map_append, List.map_append]; rfl, rfl⟩
      exact binM_eq (subM_tup v4 v8 (kind_int hk)) (subM_tup v10 v8 (row_int (by omega))) (mulD_int (mulOk_l hk1)))
  subst lS
  exact cal_eq (consM_ok (x := .lst acc) l1 rfl) (by rw [la, sum_lst])
/-- the good rows -/
theorem good_c {S : Sto} {x2 x6 x8 x9 x10 x11 x12 x13 x14 x5 : Option D} {s b x : D} {a : Int} (hw : ∀ z ∈ zs, 0 < z.1 ∧ z.1 < 1000) (hz : zs.length ≤ 10) (hx : Holds S x ((rowsP zs.reverse).map rowD)) (hr : (rowsP zs.reverse).length ≤ 10000) :
    lcM none ([10]) (seqI (varM 3)) (gNm 10) (tstM (binM eqD (calM sumF (consM (lcM none ([8]) (rng1I (consM (calM lenF (consM (varM 4) nilM)) nilM)) (gNm 8) yesM (binM mulD (subM (varM 4) (varM 8)) (subM (varM 10) (varM 8)))) nilM)) (varM 7))) (varM 10) [some s, some b, x2, some x, some (kindsD zs), x5, x6, some (.int a), x8, x9, x10, x11, x12, x13, x14] S = .ok (.lst ((good zs.reverse a).map rowD)) S := by
  obtain ⟨acc, S', l1, la, lS⟩ := lc_seq (h := none) (vs := [10]) (a := varM 3) (x := x) (ds := (rowsP zs.reverse).map rowD) (g := gNm 10) (tt := tstM (binM eqD (calM sumF (consM (lcM none ([8]) (rng1I (consM (calM lenF (consM (varM 4) nilM)) nilM)) (gNm 8) yesM (binM mulD (subM (varM 4) (varM 8)) (subM (varM 10) (varM 8)))) nilM)) (varM 7))) (te := varM 10)
    (e := [some s, some b, x2, some x, some (kindsD zs), x5, x6, some (.int a), x8, x9, x10, x11, x12, x13, x14]) (S := S) (S1 := S) rfl
    (fun k S' acc => acc = (((rowsP zs.reverse).take k).filter fun row => decide (worth zs.reverse row = a)).map rowD ∧ S' = S) ⟨rfl, rfl⟩ (fun k S' acc ⟨_, h⟩ => by rw [h]; exact hx) (fun k S1 acc d hd ⟨q1, q2⟩ => by
      subst q2
      rw [List.getElem?_map] at hd
      obtain ⟨row, hrow, rfl⟩ := Option.map_eq_some_iff.mp hd
      have hmem := List.mem_of_getElem? hrow
      have hk := (List.getElem?_eq_some_iff.mp hrow).1
      have hlen : row.length = zs.length := by
        rw [row_len hmem, List.length_reverse]
      have hsum : ((List.range zs.length).map (prodAt zs row)).sum = worth zs.reverse row := by
        have := worth_sum zs zs.length (Nat.le_refl _) row (by rw [pre_all]; exact hmem)
        rw [pre_all] at this
        exact this
      have ht := sum_row (S := S1) (e := [some s, some b, x2, some x, some (kindsD zs), x5, x6, some (.int a), x8, x9, some (rowD row), x11, x12, x13, x14]) hw hlen hz rfl rfl rfl
      rw [hsum] at ht
      refine ⟨[some s, some b, x2, some x, some (kindsD zs), x5, x6, some (.int a), x8, x9, some (rowD row), x11, x12, x13, x14], decide (worth zs.reverse row = a), S1, rfl, tst_eq (binM_eq ht (y := .int a) rfl eqD_int), ?_⟩
      have tk : (rowsP zs.reverse).take (k + 1) = (rowsP zs.reverse).take k ++ [row] := by
        rw [List.take_succ, hrow]
        rfl
      cases hd : decide (worth zs.reverse row = a) with
      | true =>
        rw [if_pos rfl]
        refine ⟨rowD row, S1, rfl, ?_, ?_, rfl⟩
        · rw [q1, List.length_map]
          have := List.length_filter_le (fun row => decide (worth zs.reverse row = a)) ((rowsP zs.reverse).take k)
          rw [List.length_take] at this
          omega
        · rw [q1, tk, List.filter_append, List.map_append]
          simp [hd]
      | false =>
        rw [if_neg Bool.false_ne_true]
        refine ⟨?_, rfl⟩
        rw [q1, tk, List.filter_append, List.map_append]
        simp [hd])
  subst lS
  rw [l1, la, List.length_map, List.take_length]
  rfl
/-- their keys -/
theorem keys_c {S : Sto} {x2 x3 x4 x5 x6 x7 x8 x10 x11 x12 x13 x14 : Option D} {s b : D} {rows : List (List Int)} (hr : rows.length ≤ 10000) (hl : ∀ row ∈ rows, row.length ≤ 100) :
    lcM none ([10]) (seqI (varM 9)) (gNm 10) yesM (tupM (consM (calM sumF (consM (varM 10) nilM)) (consM (lcM none ([12]) (seqI (revT (varM 10))) (gNm 12) yesM (binM subD (cM (.int 0)) (varM 12))) (consM (varM 10) nilM)))) [some s, some b, x2, x3, x4, x5, x6, x7, x8, some (.lst (rows.map rowD)), x10, x11, x12, x13, x14] S = .ok (.lst (rows.map keyOf)) S := by
  obtain ⟨acc, S', l1, la, lS⟩ := lc_seq (h := none) (vs := [10]) (a := varM 9) (x := .lst (rows.map rowD)) (ds := rows.map rowD) (g := gNm 10) (tt := yesM) (te := tupM (consM (calM sumF (consM (varM 10) nilM)) (consM (lcM none ([12]) (seqI (revT (varM 10))) (gNm 12) yesM (binM subD (cM (.int 0)) (varM 12))) (consM (varM 10) nilM))))
    (e := [some s, some b, x2, x3, x4, x5, x6, x7, x8, some (.lst (rows.map rowD)), x10, x11, x12, x13, x14]) (S := S) (S1 := S) rfl
    (fun k S' acc => acc = (rows.take k).map keyOf ∧ S' = S) ⟨rfl, rfl⟩ (fun k S' acc _ => .inl rfl) (fun k S1 acc d hd ⟨q1, q2⟩ => by
      subst q2
      rw [List.getElem?_map] at hd
      obtain ⟨row, hrow, rfl⟩ := Option.map_eq_some_iff.mp hd
      have hk := (List.getElem?_eq_some_iff.mp hrow).1
      have hlr := hl row (List.mem_of_getElem? hrow)
      refine ⟨[some s, some b, x2, x3, x4, x5, x6, x7, x8, some (.lst (rows.map rowD)), some (rowD row), x11, x12, x13, x14], true, S1, rfl, rfl, ?_⟩
      rw [if_pos rfl]
      refine ⟨keyOf row, S1, ?_, ?_, ?_, rfl⟩
      · obtain ⟨acc2, S2, m1, ma, mS⟩ := lc_fixM (h := none) (vs := [12]) (im := seqI (revT (varM 10))) (ds := row.reverse.map D.int) (g := gNm 12) (tt := yesM) (te := binM subD (cM (.int 0)) (varM 12)) (e := [some s, some b, x2, x3, x4, x5, x6, x7, x8, some (.lst (rows.map rowD)), some (rowD row), x11, x12, x13, x14]) (S := S1) (S1 := S1) (by
            show Out.ok (Src.fix (row.map D.int).reverse) S1 = _
            rw [← List.map_reverse])
          (fun k S' acc => acc = (negs (row.reverse.take k)).map D.int ∧ S' = S1) ⟨rfl, rfl⟩ (fun i S3 acc3 d hd ⟨r1, r2⟩ => by
            subst r2
            rw [List.getElem?_map] at hd
            obtain ⟨v, hv, rfl⟩ := Option.map_eq_some_iff.mp hd
            have hi := (List.getElem?_eq_some_iff.mp hv).1
            refine ⟨_, true, S3, rfl, rfl, ?_⟩
            rw [if_pos rfl]
            refine ⟨.int (0 - v), S3, rfl, ?_, ?_, rfl⟩
            · rw [r1, List.length_map]
              unfold negs
              rw [List.length_map, List.length_take]
              rw [List.length_reverse] at hi
              omega
            · rw [r1, List.take_succ, hv]
              unfold negs
              rw [List.map_append, List.map_append]
              rfl)
        subst mS
        have hsum : sumF [rowD row] S2 = some (.int row.sum) := by
          have : itemsD S2 (rowD row) = some (row.map D.int) := rfl
          simp only [sumF, this, Option.bind_some, ints_map, Option.map_some]
        have h3 : consM (varM 10) nilM [some s, some b, x2, x3, x4, x5, x6, x7, x8, some (.lst (rows.map rowD)), some (rowD row), x11, x12, x13, x14] S2 = .ok [rowD row] S2 := rfl
        have ht := tupM_ok (consM_ok (cal_eq h3 hsum) (consM_ok (x := .lst acc2) m1 h3)) (show (3 : Nat) ≤ 1000 by decide)
        rw [ma, List.length_map, List.take_length] at ht
        exact ht
      · rw [q1, List.length_map, List.length_take]
        omega
      · rw [q1, List.take_succ, hrow, List.map_append]
        rfl)
  subst lS
  rw [l1, la, List.length_map, List.take_length]
  rfl
end K5
namespace K5
open PySem PySem.Spec PyProof.Rows L2 Pyx Hd
def kTab : List (List Int) := [[1, 5, 6, 9], [1, 3, 4], [20, 50], [5, 10, 20, 50], [3, 7, 10], [499, 500], [2, 4, 6, 8], [1, 3, 8, 11]]
def tupI (ks : List Int) : D := .tup (ks.map .int)
def kindsB (ks : List Int) : Bool := !ks.isEmpty && decide (ks.length ≤ 4) && (List.range ks.length).all fun k => decide (ks.getD k 0 ≤ 500) && decide (1 ≤ ks.getD k 0) && (decide (k = 0) || decide (ks.getD (k - 1) 0 + 1 ≤ ks.getD k 0))
theorem kindsB_ok {ks : List Int} (h : kindsB ks = true) : KindsOk ks ∧ ks.length ≤ 4 ∧ ∀ w ∈ ks, 0 < w ∧ w ≤ 500 := by
  unfold kindsB at h
  simp only [Bool.and_eq_true, Bool.not_eq_true', decide_eq_true_eq] at h
  obtain ⟨⟨h1, h2⟩, h3⟩ := h
  have key : ∀ k v, ks[k]? = some v → v ≤ 500 ∧ 1 ≤ v ∧ (k = 0 ∨ ks.getD (k - 1) 0 + 1 ≤ v) := fun k v e => by
    have hk := (List.getElem?_eq_some_iff.mp e).1
    have := List.all_eq_true.mp h3 k (List.mem_range.mpr hk)
    simp only [Bool.and_eq_true, Bool.or_eq_true, decide_eq_true_eq] at this
    have ev : ks.getD k 0 = v := by
      rw [List.getD_eq_getElem?_getD, e]
      rfl
    rw [ev] at this
    exact ⟨this.1.1, this.1.2, this.2⟩
  refine ⟨⟨(fun z => by rw [z] at h1; cases h1), by omega, fun k v e => ?_⟩, h2, fun w hw => ?_⟩
  · obtain ⟨q1, q2, q3⟩ := key k v e
    refine ⟨q1, fun _ => q2, fun u hk hu => ?_⟩
    rcases q3 with q3 | q3
    · omega
    · rw [List.getD_eq_getElem?_getD, hu] at q3
      exact q3
  · obtain ⟨i, hi, e⟩ := List.mem_iff_getElem.mp hw
    obtain ⟨q1, q2, _⟩ := key i w (by rw [List.getElem?_eq_getElem hi, e])
    omega
theorem tab_ok : ∀ ks ∈ kTab, kindsB ks = true := by decide +kernel
def Mb (ks : List Int) : Nat := if ks.length = 2 then 100 else 6
/-- what is known of kinds and stacks together -/
theorem gr_le {zs : List (Int × Nat)} {M : Nat} (hp : ∀ z ∈ zs, z.2 < M) : ∀ n, n ≤ zs.length → Gr zs n ≤ n * M ^ n
  | 0, _ => Nat.le_refl _
  | n + 1, hn => by
    have hzn : zs[n]? = some zs[n] := List.getElem?_eq_getElem (by omega)
    have ih := gr_le hp n (by omega)
    have hpn := hp zs[n] (List.mem_of_getElem? hzn)
    have e : Gr zs (n + 1) = 1 + (zs[n].2 + 1) * Gr zs n := by
      show 1 + ((zs[n]?.map (·.2)).getD 0 + 1) * Gr zs n = _
      rw [hzn]
      rfl
    rw [e]
    have h1 : (zs[n].2 + 1) * Gr zs n ≤ M * (n * M ^ n) := Nat.mul_le_mul hpn ih
    have h2 : M * (n * M ^ n) = n * M ^ (n + 1) := by
      rw [Nat.pow_succ, Nat.mul_comm M, Nat.mul_assoc]
    have h3 : 1 ≤ M ^ (n + 1) := Nat.one_le_pow _ _ (by omega)
    have h4 : (n + 1) * M ^ (n + 1) = n * M ^ (n + 1) + M ^ (n + 1) := Nat.succ_mul _ _
    rw [h4, ← h2]
    generalize (zs[n].2 + 1) * Gr zs n = q at *
    generalize M * (n * M ^ n) = u at *
    generalize M ^ (n + 1) = v at *
    omega
theorem fit_of {ks : List Int} {ps : List Nat} (hk : kindsB ks = true) (hl : ps.length = ks.length) (hp : ∀ p ∈ ps, p < Mb ks) :
    Fit (ks.zip ps) ∧ kindsD (ks.zip ps) = tupI ks ∧ pilesD (ks.zip ps) = .tup (ps.map fun p => .int (p : Nat)) ∧ (ks.zip ps).length = ks.length ∧ (∀ z ∈ ks.zip ps, z.2 < Mb ks) ∧ (∀ n, n ≤ (ks.zip ps).length → (rowsP (pre (ks.zip ps) n)).length ≤ 10000) := by
  obtain ⟨k1, k2, k3⟩ := kindsB_ok hk
  have f1 : (ks.zip ps).map (·.1) = ks := List.map_fst_zip (by omega)
  have f2 : (ks.zip ps).map (·.2) = ps := List.map_snd_zip (by omega)
  have hz : (ks.zip ps).length = ks.length := by
    rw [List.length_zip]
    omega
  have hM : ∀ z ∈ ks.zip ps, z.2 < Mb ks := fun z hm => hp z.2 (by rw [← f2]; exact List.mem_map.mpr ⟨z, hm, rfl⟩)
  have hM100 : Mb ks ≤ 100 := by
    unfold Mb
    split <;> omega
  have pw : ∀ n, n ≤ ks.length → n * Mb ks ^ n ≤ 900000 ∧ Mb ks ^ n ≤ 10000 := fun n hn => by
    unfold Mb
    split
    · have : n = 0 ∨ n = 1 ∨ n = 2 := by omega
      rcases this with rfl | rfl | rfl <;> decide
    · have : n = 0 ∨ n = 1 ∨ n = 2 ∨ n = 3 ∨ n = 4 := by omega
      rcases this with rfl | rfl | rfl | rfl | rfl <;> decide
  refine ⟨⟨by rw [f1]; exact k1, fun z hm => ?_, fun z hm => by have := hM z hm; omega, by omega, ?_⟩, ?_, ?_, hz, hM, fun n hn => ?_⟩
  · have := k3 z.1 (by rw [← f1]; exact List.mem_map.mpr ⟨z, hm, rfl⟩)
    omega
  · exact Nat.le_trans (gr_le hM _ (Nat.le_refl _)) (pw _ (by omega)).1
  · rw [kindsD_eq, f1]
    rfl
  · rw [pilesD_eq, f2]
  · have hlen : (pre (ks.zip ps) n).length = n := by
      unfold pre
      rw [List.length_reverse, List.length_take]
      omega
    have := rows_len (M := Mb ks) (wps := pre (ks.zip ps) n) fun z hm => hM z (List.mem_of_mem_take (List.mem_reverse.mp hm))
    rw [hlen] at this
    exact Nat.le_trans this (pw n (by omega)).2
theorem rows_pos : ∀ wps : List (Int × Nat), ∃ row, row ∈ rowsP wps
  | [] => ⟨[], List.mem_singleton.mpr rfl⟩
  | (w, p) :: r => by
    obtain ⟨row, h⟩ := rows_pos r
    exact ⟨row ++ [((0 : Nat) : Int)], mem_rows.mpr ⟨row, h, 0, Nat.zero_le _, rfl⟩⟩
theorem take_call {j : Nat} {S : Sto} {b c : Pyx.Id} {m : Int} {e : Env'} {a1 : EM} {a2 : EM} (hS : S.Ok) (h : Box S b c) (hm : 0 < m ∧ m < 1073741824) (h1 : a1 e S = .ok (.cell b) S) (h2 : a2 e S = .ok (.int m) S) :
    ∃ r S', callM 2 [] (tl.mean (j + 1) 9) (consM a1 (consM a2 nilM)) e S = .ok (.int r) S' ∧ 0 ≤ r ∧ r < m ∧ Box S' b c ∧ S'.Ok ∧ Fr [b, c] S S' := by
  obtain ⟨r, S', t1, t2, t3, t4, t5, t6, _⟩ := take_c (j := j) hS h hm
  exact ⟨r, S', call_eq (consM_ok h1 (consM_ok h2 rfl)) rfl t1, t2, t3, t4, t5, t6⟩
section
variable {s : D} {x2 x3 x4 x5 x6 x7 x8 x9 x10 x11 x12 x13 x14 : Option D} {b c : Pyx.Id}
/-- the stacks drawn -/
theorem stacks_c {j : Nat} {S : Sto} {ks : List Int} (hS : S.Ok) (hB : Box S b c) (hl : ks.length ≤ 4) :
    ∃ (ps : List Nat) (S' : Sto), calM tupF (consM (lcM none ([6]) (seqI (varM 4)) (gNm 6) yesM (callM 2 ([]) (tl.mean (j + 1) 9) (consM (varM 1) (consM (subM (lstM (consM (cM (.int 6)) (consM (cM (.int 100)) nilM))) (calM intF (consM (binM eqD (calM lenF (consM (varM 4) nilM)) (cM (.int 2))) nilM))) nilM)))) nilM) [some s, some (.cell b), x2, x3, some (tupI ks), x5, x6, x7, x8, x9, x10, x11, x12, x13, x14] S = .ok (.tup (ps.map fun p => .int (p : Nat))) S' ∧
      ps.length = ks.length ∧ (∀ p ∈ ps, p < Mb ks) ∧ Box S' b c ∧ S'.Ok := by
  obtain ⟨acc, S', l1, ps, la, ll, lp, lB, lk⟩ := lc_fixM (h := none) (vs := [6]) (im := seqI (varM 4)) (ds := ks.map D.int) (g := gNm 6) (tt := yesM) (te := callM 2 ([]) (tl.mean (j + 1) 9) (consM (varM 1) (consM (subM (lstM (consM (cM (.int 6)) (consM (cM (.int 100)) nilM))) (calM intF (consM (binM eqD (calM lenF (consM (varM 4) nilM)) (cM (.int 2))) nilM))) nilM)))
    (e := [some s, some (.cell b), x2, x3, some (tupI ks), x5, x6, x7, x8, x9, x10, x11, x12, x13, x14]) (S := S) (S1 := S) rfl
    (fun k S' acc => ∃ ps : List Nat, acc = (ps.map fun p => D.int (p : Nat)) ∧ ps.length = k ∧ (∀ p ∈ ps, p < Mb ks) ∧ Box S' b c ∧ S'.Ok) ⟨[], rfl, rfl, fun p h => (by cases h), hB, hS⟩ (fun k S1 acc d hd ⟨ps, q1, q2, q3, q4, q5⟩ => by
      have hk := (List.getElem?_eq_some_iff.mp hd).1
      rw [List.length_map] at hk
      have hlen : lenF [tupI ks] S1 = some (.int (ks.length : Nat)) := by
        unfold tupI
        rw [len_tup, List.length_map]
      have hm : subM (lstM (consM (cM (.int 6)) (consM (cM (.int 100)) nilM))) (calM intF (consM (binM eqD (calM lenF (consM (varM 4) nilM)) (cM (.int 2))) nilM)) [some s, some (.cell b), x2, x3, some (tupI ks), x5, some d, x7, x8, x9, x10, x11, x12, x13, x14] S1 = .ok (.int (Mb ks : Nat)) S1 := by
        refine subM_lst (ds := [.int 6, .int 100]) (k := if decide ((ks.length : Int) = 2) then 1 else 0) rfl (cal_eq (consM_ok (binM_eq (cal_eq (consM_ok (x := tupI ks) rfl rfl) hlen) (y := .int 2) rfl eqD_int) rfl) int_bl) ?_
        unfold Mb
        by_cases h2 : ks.length = 2
        · rw [if_pos h2, decide_eq_true (by omega)]
          exact atI_one
        · rw [if_neg h2, decide_eq_false (by omega)]
          exact atI_zero
      have hMb : 0 < (Mb ks : Int) ∧ (Mb ks : Int) < 1073741824 := by
        unfold Mb
        split <;> decide
      obtain ⟨r, S2, t1, t2, t3, t4, t5, t6⟩ := take_call (j := j) (a1 := varM 1) q5 q4 hMb (e := [some s, some (.cell b), x2, x3, some (tupI ks), x5, some d, x7, x8, x9, x10, x11, x12, x13, x14]) rfl hm
      refine ⟨[some s, some (.cell b), x2, x3, some (tupI ks), x5, some d, x7, x8, x9, x10, x11, x12, x13, x14], true, S1, rfl, rfl, ?_⟩
      rw [if_pos rfl]
      refine ⟨_, S2, t1, by rw [q1, List.length_map]; omega, ps ++ [r.toNat], ?_, by rw [List.length_append, q2]; rfl, fun p hp => ?_, t4, t5⟩
      · rw [q1, List.map_append]
        show _ = _ ++ [D.int ((r.toNat : Nat) : Int)]
        rw [Int.toNat_of_nonneg t2]
      · rcases List.mem_append.mp hp with hp | hp
        · exact q3 p hp
        · cases List.mem_singleton.mp hp
          omega)
  rw [List.length_map] at ll
  exact ⟨ps, S', cal_eq (consM_ok (x := .lst acc) l1 rfl) (by rw [la]; rfl), ll, lp, lB, lk⟩
theorem sum_le {B : Int} : ∀ {l : List Int}, (∀ v ∈ l, 0 ≤ v ∧ v ≤ B) → 0 ≤ l.sum ∧ l.sum ≤ l.length * B
  | [], _ => by simp
  | x :: l, h => by
    have h1 := sum_le (l := l) fun v hv => h v (List.mem_cons_of_mem _ hv)
    have h2 := h x (List.mem_cons_self ..)
    rw [List.sum_cons, List.length_cons]
    have : ((l.length + 1 : Nat) : Int) * B = l.length * B + B := by
      rw [Int.natCast_add, Int.add_mul]
      omega
    omega
/-- a list of rows is none of the draws' own lists -/
theorem rows_apart {S : Sto} {rows : List (List Int)} {x : D} (hB : Box S b c) (hx : Holds S x (rows.map rowD)) (hne : rows ≠ []) : ∀ i, x = .cell i → i ∉ [b, c] := by
  intro i hi hm
  subst hi
  obtain ⟨_, st, ms, hb, hc, _⟩ := hB
  rcases hx with h | ⟨i', h, hx⟩
  · cases h
  · cases h
    obtain ⟨r, rs, rfl⟩ := List.exists_cons_of_ne_nil hne
    rcases List.mem_cons.mp hm with rfl | hm
    · rw [hb] at hx
      cases hx
    · cases List.mem_singleton.mp hm
      rw [hc] at hx
      cases ms with
      | nil => cases hx
      | cons m ms => cases hx
/-- the amount's first part -/
theorem amount_c {j : Nat} {S : Sto} {zs : List (Int × Nat)} {x : D} {M : Nat} (hS : S.Ok) (hB : Box S b c) (hx : Holds S x ((rowsP zs.reverse).map rowD)) (hw : ∀ z ∈ zs, 0 < z.1 ∧ z.1 ≤ 500) (hM : ∀ z ∈ zs, z.2 < M) (hMp : 0 < M ∧ M ≤ 100) (hl : zs.length ≤ 10) (hr : (rowsP zs.reverse).length ≤ 10000) :
    ∃ (a : Int) (S' : Sto), calM sumF (consM (lcM none ([8]) (rng1I (consM (calM lenF (consM (varM 4) nilM)) nilM)) (gNm 8) yesM (binM mulD (subM (varM 4) (varM 8)) (subM (subM (varM 3) (callM 2 ([]) (tl.mean (j + 1) 9) (consM (varM 1) (consM (calM lenF (consM (varM 3) nilM)) nilM)))) (varM 8)))) nilM) [some s, some (.cell b), x2, some x, some (kindsD zs), x5, x6, x7, x8, x9, x10, x11, x12, x13, x14] S = .ok (.int a) S' ∧
      0 ≤ a ∧ a ≤ zs.length * (500 * ((M : Int) - 1)) ∧ Box S' b c ∧ S'.Ok ∧ Holds S' x ((rowsP zs.reverse).map rowD) := by
  have hne : rowsP zs.reverse ≠ [] := fun z => by
    obtain ⟨row, h⟩ := rows_pos zs.reverse
    rw [z] at h
    cases h
  have im : rng1I (consM (calM lenF (consM (varM 4) nilM)) nilM) [some s, some (.cell b), x2, some x, some (kindsD zs), x5, x6, x7, x8, x9, x10, x11, x12, x13, x14] S = .ok (.rng 0 1 zs.length) S := by
    rw [rng1_ok (consM_ok (cal_eq (consM_ok (x := kindsD zs) rfl rfl) len_kinds) rfl) (by omega)]
    rfl
  obtain ⟨acc, S', l1, vs, la, ll, lv, lB, lk, lh⟩ := lc_rngM (h := none) (vs := [8]) (g := gNm 8) (tt := yesM) (te := binM mulD (subM (varM 4) (varM 8)) (subM (subM (varM 3) (callM 2 ([]) (tl.mean (j + 1) 9) (consM (varM 1) (consM (calM lenF (consM (varM 3) nilM)) nilM)))) (varM 8))) im
    (fun k S' acc => ∃ vs : List Int, acc = vs.map D.int ∧ vs.length = k ∧ (∀ v ∈ vs, 0 ≤ v ∧ v ≤ 500 * ((M : Int) - 1)) ∧ Box S' b c ∧ S'.Ok ∧ Holds S' x ((rowsP zs.reverse).map rowD)) ⟨[], rfl, rfl, fun v h => (by cases h), hB, hS, hx⟩ (fun k S1 acc hk ⟨vs, q1, q2, q3, q4, q5, q6⟩ => by
      have em : (0 : Int) + (k : Nat) * 1 = (k : Nat) := by omega
      rw [em]
      generalize hE : [some s, some (D.cell b), x2, some x, some (kindsD zs), x5, x6, x7, some (.int (k : Nat)), x9, x10, x11, x12, x13, x14] = e
      have v4 : ∀ T, varM 4 e T = .ok (kindsD zs) T := fun T => by rw [← hE]; rfl
      have v3 : ∀ T, varM 3 e T = .ok x T := fun T => by rw [← hE]; rfl
      have v1 : ∀ T, varM 1 e T = .ok (.cell b) T := fun T => by rw [← hE]; rfl
      have v8 : ∀ T, varM 8 e T = .ok (.int (k : Nat)) T := fun T => by rw [← hE]; rfl
      have hm : calM lenF (consM (varM 3) nilM) e S1 = .ok (.int ((rowsP zs.reverse).length : Nat)) S1 := cal_eq (consM_ok (v3 S1) rfl) (by rw [len_holds q6, List.length_map])
      have hpos : 0 < (rowsP zs.reverse).length := by
        cases h : rowsP zs.reverse with
        | nil => exact (hne h).elim
        | cons a l => exact Nat.succ_pos _
      obtain ⟨r, S2, t1, t2, t3, t4, t5, t6⟩ := take_call (j := j) (a1 := varM 1) q5 q4 (m := ((rowsP zs.reverse).length : Nat)) (by omega) (v1 S1) hm
      have hx2 := K5.Holds.fr q6 t6 (rows_apart q4 q6 hne)
      have hrr : (rowsP zs.reverse)[r.toNat]? = some (rowsP zs.reverse)[r.toNat] := List.getElem?_eq_getElem (by omega)
      obtain ⟨row, hrow⟩ : ∃ row, (rowsP zs.reverse)[r.toNat]? = some row := ⟨_, hrr⟩
      have hmem := List.mem_of_getElem? hrow
      have hlen : row.length = zs.length := by rw [row_len hmem, List.length_reverse]
      have ha : atI ((rowsP zs.reverse).map rowD) r = some (rowD row) := by
        rw [← Int.toNat_of_nonneg t2]
        exact Pyx.atI_nat (by rw [List.getElem?_map, hrow]; rfl)
      have hent : 0 ≤ row.getD k 0 ∧ row.getD k 0 < M := by
        have hk' : k < row.length := by omega
        have := row_ent (M := M) (fun z hz => hM z (List.mem_reverse.mp hz)) row hmem row[k] (List.getElem_mem hk')
        rw [List.getD_eq_getElem?_getD, List.getElem?_eq_getElem hk']
        exact this
      have hkk : 0 < kAt zs k ∧ kAt zs k ≤ 500 := by
        have hz' : zs[k]? = some zs[k] := List.getElem?_eq_getElem hk
        have := hw zs[k] (List.mem_of_getElem? hz')
        unfold kAt
        rw [hz']
        exact this
      refine ⟨e, true, S1, by rw [← hE]; rfl, rfl, ?_⟩
      rw [if_pos rfl]
      refine ⟨.int (kAt zs k * row.getD k 0), S2, ?_, by rw [q1, List.length_map]; omega, vs ++ [kAt zs k * row.getD k 0], by rw [q1, List.map_append]; rfl, by rw [List.length_append, q2]; rfl, fun v hv => ?_, t4, t5, hx2⟩
      · exact binM_eq (subM_tup (v4 S1) (v8 S1) (kind_int hk)) (subM_tup (ds := row.map D.int) (sub_holds (v3 S1) t1 hx2 ha) (v8 S2) (row_int (by omega))) (mulD_int (mulOk_l (by omega)))
      · rcases List.mem_append.mp hv with hv | hv
        · exact q3 v hv
        · cases List.mem_singleton.mp hv
          refine ⟨Int.mul_nonneg (by omega) hent.1, ?_⟩
          exact Int.mul_le_mul hkk.2 (by omega) hent.1 (by omega))
  have hs := sum_le lv
  rw [ll] at hs
  exact ⟨vs.sum, S', cal_eq (consM_ok (x := .lst acc) l1 rfl) (by rw [la, sum_lst]), hs.1, hs.2, lB, lk, lh⟩
end
end K5
namespace K5
open PySem PySem.Spec PyProof.Rows L2 Pyx Hd
def st3 : SM := asgM (gNm 3) (lstM (consM (tupM (consM (cM (.int 1)) (consM (cM (.int 5)) (consM (cM (.int 6)) (consM (cM (.int 9)) nilM))))) (consM (tupM (consM (cM (.int 1)) (consM (cM (.int 3)) (consM (cM (.int 4)) nilM)))) (consM (tupM (consM (cM (.int 20)) (consM (cM (.int 50)) nilM))) (consM (tupM (consM (cM (.int 5)) (consM (cM (.int 10)) (consM (cM (.int 20)) (consM (cM (.int 50)) nilM))))) (consM (tupM (consM (cM (.int 3)) (consM (cM (.int 7)) (consM (cM (.int 10)) nilM)))) (consM (tupM (consM (cM (.int 499)) (consM (cM (.int 500)) nilM))) (consM (tupM (consM (cM (.int 2)) (consM (cM (.int 4)) (consM (cM (.int 6)) (consM (cM (.int 8)) nilM))))) nilM))))))))
def st4 (G : Fn) : SM := asgM (gNm 4) (subM (binM addD (varM 3) (lstM (consM (tupM (consM (cM (.int 1)) (consM (cM (.int 3)) (consM (cM (.int 8)) (consM (cM (.int 11)) nilM))))) nilM))) (callM 2 ([]) (G 9) (consM (varM 1) (consM (cM (.int 8)) nilM))))
def st5 (G : Fn) : SM := asgM (gNm 5) (calM tupF (consM (lcM none ([6]) (seqI (varM 4)) (gNm 6) yesM (callM 2 ([]) (G 9) (consM (varM 1) (consM (subM (lstM (consM (cM (.int 6)) (consM (cM (.int 100)) nilM))) (calM intF (consM (binM eqD (calM lenF (consM (varM 4) nilM)) (cM (.int 2))) nilM))) nilM)))) nilM))
def st3b (G : Fn) : SM := asgM (gNm 3) (callM 1 ([]) (G 11) (consM (varM 5) nilM))
def st7 (G : Fn) : SM := asgM (gNm 7) (calM sumF (consM (lcM none ([8]) (rng1I (consM (calM lenF (consM (varM 4) nilM)) nilM)) (gNm 8) yesM (binM mulD (subM (varM 4) (varM 8)) (subM (subM (varM 3) (callM 2 ([]) (G 9) (consM (varM 1) (consM (calM lenF (consM (varM 3) nilM)) nilM)))) (varM 8)))) nilM))
def st7b (G : Fn) : SM := asgM (gNm 7) (binM addD (varM 7) (binM mulD (callM 2 ([]) (G 9) (consM (varM 1) (consM (cM (.int 4)) nilM))) (calM intF (consM (binM eqD (callM 2 ([]) (G 9) (consM (varM 1) (consM (cM (.int 3)) nilM))) (cM (.int 0))) nilM))))
def st9 : SM := asgM (gNm 9) (lcM none ([10]) (seqI (varM 3)) (gNm 10) (tstM (binM eqD (calM sumF (consM (lcM none ([8]) (rng1I (consM (calM lenF (consM (varM 4) nilM)) nilM)) (gNm 8) yesM (binM mulD (subM (varM 4) (varM 8)) (subM (varM 10) (varM 8)))) nilM)) (varM 7))) (varM 10))
def st11 : SM := asgM (gNm 11) (calM sortF (consM (lcM none ([10]) (seqI (varM 9)) (gNm 10) yesM (tupM (consM (calM sumF (consM (varM 10) nilM)) (consM (lcM none ([12]) (seqI (revT (varM 10))) (gNm 12) yesM (binM subD (cM (.int 0)) (varM 12))) (consM (varM 10) nilM))))) nilM))
def st13 : SM := asgM (gNm 13) (ifM (tstM (binM neD (varM 11) (lstM nilM))) (subM (subM (varM 11) (cM (.int 0))) (cM (.int 2))) (cM .non))
def kAgain (G : Fn) : SM := seqM (ifS (notM (tstM (callM 2 ([]) (G 10) (consM (lstM (consM (callM 3 ([]) (G 6) (consM (varM 4) (consM (varM 5) (consM (varM 7) nilM)))) (consM (callM 3 ([]) (G 7) (consM (varM 4) (consM (varM 5) (consM (varM 7) nilM)))) nilM))) (consM (lstM (consM (varM 13) (consM (calM lenF (consM (varM 9) nilM)) nilM))) nilM))))) (seqM (retM (cM (.bl false))) skipM) skipM) skipM
def stL (G : Fn) : SM := forM (rng1I (consM (cM (.int 2)) nilM)) (gNm 14) (kAgain G)
def kTurn (G : Fn) : SM := seqM st3 (seqM (st4 G) (seqM (st5 G) (seqM (st3b G) (seqM (st7 G) (seqM (st7b G) (seqM st9 (seqM st11 (seqM st13 (seqM (stL G) skipM)))))))))
def kLaw (G : Fn) : SM := seqM (asgM (gNm 1) (callM 1 ([]) (G 8) (consM (varM 0) nilM))) (seqM (forM (rng1I (consM (cM (.int 3)) nilM)) (gNm 2) (kTurn G)) (seqM (retM (binM eqD (callM 3 ([]) (G 6) (consM (tupM (consM (cM (.int 1)) (consM (cM (.int 3)) (consM (cM (.int 8)) (consM (cM (.int 11)) nilM))))) (consM (tupM (consM (cM (.int 5)) (consM (cM (.int 5)) (consM (cM (.int 5)) (consM (cM (.int 5)) nilM))))) (consM (cM (.int 40)) nilM)))) (tupM (consM (cM (.int 0)) (consM (cM (.int 0)) (consM (cM (.int 5)) (consM (cM (.int 0)) nilM))))))) skipM))
theorem law_eq (j : Nat) (d : List D) (S : Sto) : tl.mean (j + 1) 12 d S = defX 15 (kLaw (tl.mean j)) d S := by
  rw [mn_law]
  rfl
theorem asg_nx {g : GM} {a : EM} {e e' : Env'} {S S1 : Sto} {d : D} (ha : a e S = .ok d S1) (hg : g d e = some e') : asgM g a e S = .nx e' S1 := by
  simp only [asgM, ha, liftS_ok, hg]
theorem alike_hG (j : Nat) (d : List D) (S : Sto) : tl.mean (j + 1) 10 d S = defX 3 (kAlike 10 (tl.mean j)) d S := by
  rw [mn__law_alike]
  rfl
theorem neD_keys {S : Sto} {x : D} {l : List D} (h : noCells (x :: l) = true) : neD (.lst (x :: l)) (.lst []) S = some (.bl true) := by
  have hc : (noCell (.lst (x :: l)) && noCell (.lst []) && decide (min (py (.lst (x :: l))).depth (py (.lst [])).depth ≤ 64)) = true := by
    rw [Bool.and_eq_true, Bool.and_eq_true]
    refine ⟨⟨h, rfl⟩, decide_eq_true ?_⟩
    have h2 : (py (.lst [])).depth = 1 := rfl
    omega
  show eqRaw true (.lst (x :: l)) (.lst []) = _
  unfold eqRaw
  rw [if_pos hc]
  rfl
theorem noCells_sub : ∀ {l m : List D}, (∀ d ∈ l, noCell d = true) → noCells l = true
  | [], _, _ => rfl
  | x :: l, m, h => by
    show (noCell x && noCells l) = true
    rw [h x (List.mem_cons_self ..), noCells_sub (m := m) fun d hd => h d (List.mem_cons_of_mem _ hd)]
    rfl
theorem ans_pl {o : Option (Int × List Int)} (h : ∀ c row, o = some (c, row) → row.length ≤ 100) : Pl 1 (ans o) := by
  cases o with
  | none => exact .non
  | some q =>
    refine .tup (fun d hd => ?_) (by rw [List.length_map]; have := h q.1 q.2 rfl; omega)
    obtain ⟨v, _, rfl⟩ := List.mem_map.mp hd
    exact .int
section
variable {s : D} {x2 x3 x4 x5 x6 x7 x8 x9 x10 x11 x12 x13 x14 : Option D} {b c : Pyx.Id}
/-- asked, twice -/
theorem again_c {j : Nat} {S : Sto} {zs : List (Int × Nat)} {a : Int} {x3 : Option D} (hj : 25 ≤ j) (hS : S.Ok) (hB : Box S b c) (F : Fit zs) (ha : 0 ≤ a ∧ a ≤ 99999) (hg : (good zs.reverse a).length ≤ 10000) :
    ∃ y S', stL (tl.mean j) [some s, some (.cell b), x2, x3, some (kindsD zs), some (pilesD zs), x6, some (.int a), x8, some (.lst ((good zs.reverse a).map rowD)), x10, x11, x12, some (ans (bestP zs.reverse a)), x14] S = .nx [some s, some (.cell b), x2, x3, some (kindsD zs), some (pilesD zs), x6, some (.int a), x8, some (.lst ((good zs.reverse a).map rowD)), x10, x11, x12, some (ans (bestP zs.reverse a)), y] S' ∧ S'.Ok ∧ Box S' b c := by
  have hpos : Pos zs.reverse := fun z hz => (F.w z (List.mem_reverse.mp hz)).1
  obtain ⟨e', S', l1, y, le, lk, lB⟩ := loop_rng (lo := 0) (c := 1) (n := 2) (g := gNm 14) (body := kAgain (tl.mean j)) (e := [some s, some (.cell b), x2, x3, some (kindsD zs), some (pilesD zs), x6, some (.int a), x8, some (.lst ((good zs.reverse a).map rowD)), x10, x11, x12, some (ans (bestP zs.reverse a)), x14]) (S := S)
    (fun _ e S' => ∃ y, e = [some s, some (.cell b), x2, x3, some (kindsD zs), some (pilesD zs), x6, some (.int a), x8, some (.lst ((good zs.reverse a).map rowD)), x10, x11, x12, some (ans (bestP zs.reverse a)), y] ∧ S'.Ok ∧ Box S' b c) ⟨x14, rfl, hS, hB⟩ (fun k e S1 hk ⟨y, q1, q2, q3⟩ => by
      subst q1
      obtain ⟨S2, f1, f2, f3⟩ := fewest_c (j := j) q2 F ha (by omega)
      obtain ⟨S3, w1, w2, w3⟩ := ways_c (j := j) f2 F ha (by omega)
      generalize hE : [some s, some (D.cell b), x2, x3, some (kindsD zs), some (pilesD zs), x6, some (.int a), x8, some (.lst ((good zs.reverse a).map rowD)), x10, x11, x12, some (ans (bestP zs.reverse a)), some (.int (0 + (k : Nat) * 1))] = e
      have v4 : ∀ T, varM 4 e T = .ok (kindsD zs) T := fun T => by rw [← hE]; rfl
      have v5 : ∀ T, varM 5 e T = .ok (pilesD zs) T := fun T => by rw [← hE]; rfl
      have v7 : ∀ T, varM 7 e T = .ok (.int a) T := fun T => by rw [← hE]; rfl
      have v9 : ∀ T, varM 9 e T = .ok (.lst ((good zs.reverse a).map rowD)) T := fun T => by rw [← hE]; rfl
      have v13 : ∀ T, varM 13 e T = .ok (ans (bestP zs.reverse a)) T := fun T => by rw [← hE]; rfl
      have a3 : ∀ T, consM (varM 4) (consM (varM 5) (consM (varM 7) nilM)) e T = .ok [kindsD zs, pilesD zs, .int a] T := fun T => consM_ok (v4 T) (consM_ok (v5 T) (consM_ok (v7 T) rfl))
      have c6 : callM 3 [] (tl.mean j 6) (consM (varM 4) (consM (varM 5) (consM (varM 7) nilM))) e S1 = .ok (ans (bestP zs.reverse a)) S2 := call_eq (a3 S1) rfl f1
      have c7 : callM 3 [] (tl.mean j 7) (consM (varM 4) (consM (varM 5) (consM (varM 7) nilM))) e S2 = .ok (.int (countP zs.reverse a)) S3 := call_eq (a3 S2) rfl w1
      have l1 := lstM_ok (consM_ok c6 (consM_ok c7 nilM_ok)) (show (2 : Nat) ≤ 1000 by decide)
      have hlen : calM lenF (consM (varM 9) nilM) e S3 = .ok (.int (countP zs.reverse a)) S3 := cal_eq (consM_ok (v9 S3) rfl) (by
        rw [len_holds (.inl rfl), List.length_map, good_len hpos])
      have l2 := lstM_ok (consM_ok (v13 S3) (consM_ok hlen nilM_ok)) (show (2 : Nat) ≤ 1000 by decide)
      have al := alike_ok (f := 10) (G := tl.mean) alike_hG (n := 2) (d := .lst [ans (bestP zs.reverse a), .int (countP zs.reverse a)]) S3 (.lst (fun d hd => by
        rcases List.mem_cons.mp hd with rfl | hd
        · refine ans_pl fun c row h => ?_
          rw [best_len hpos h, List.length_reverse]
          have := F.l
          omega
        · cases List.mem_singleton.mp hd
          exact .int) (show (2 : Nat) < 1000000 by decide)) j (by omega)
      have cal := call_eq (np := 2) (dd := []) (g := tl.mean j 10) (consM_ok l1 (consM_ok l2 nilM_ok)) rfl al
      refine ⟨e, e, S3, by rw [← hE]; rfl, .inl ?_, _, hE.symm, w2, ?_⟩
      · unfold kAgain
        rw [if_no (b := skipM) (not_eq' (tst_eq cal)) (show skipM e S3 = .nx e S3 from rfl)]
        rfl
      · exact (q3.fr f3 (by simp) (by simp)).fr w3 (by simp) (by simp))
  subst le
  refine ⟨y, S', ?_, lk, lB⟩
  unfold stL
  simp only [Pyx.forM, show rng1I (consM (cM (.int 2)) nilM) [some s, some (.cell b), x2, x3, some (kindsD zs), some (pilesD zs), x6, some (.int a), x8, some (.lst ((good zs.reverse a).map rowD)), x10, x11, x12, some (ans (bestP zs.reverse a)), x14] S = .ok (.rng 0 1 2) S from rfl, liftS_ok, l1]
/-- one turn of the law -/
theorem turn_c {j : Nat} {S : Sto} (hj : 25 ≤ j) (hS : S.Ok) (hB : Box S b c) :
    ∃ y3 y4 y5 y7 y9 y11 y13 y14 S', kTurn (tl.mean j) [some s, some (.cell b), x2, x3, x4, x5, x6, x7, x8, x9, x10, x11, x12, x13, x14] S = .nx [some s, some (.cell b), x2, y3, y4, y5, x6, y7, x8, y9, x10, y11, x12, y13, y14] S' ∧ S'.Ok ∧ Box S' b c := by
  obtain ⟨i, rfl⟩ : ∃ i, j = i + 1 := ⟨j - 1, by omega⟩
  have h3 : st3 [some s, some (.cell b), x2, x3, x4, x5, x6, x7, x8, x9, x10, x11, x12, x13, x14] S = .nx [some s, some (.cell b), x2, some (.lst ((kTab.take 7).map tupI)), x4, x5, x6, x7, x8, x9, x10, x11, x12, x13, x14] S := rfl
  -- kinds
  obtain ⟨r, S1, t1, t2, t3, t4, t5, t6⟩ := take_call (j := i) (a1 := varM 1) (a2 := cM (.int 8)) (m := 8) (e := [some s, some (.cell b), x2, some (.lst ((kTab.take 7).map tupI)), x4, x5, x6, x7, x8, x9, x10, x11, x12, x13, x14]) hS hB (by decide) rfl rfl
  obtain ⟨ks, hks⟩ : ∃ ks, kTab[r.toNat]? = some ks := ⟨_, List.getElem?_eq_getElem (by show r.toNat < 8; omega)⟩
  have hk := tab_ok ks (List.mem_of_getElem? hks)
  obtain ⟨k1, k2, k3⟩ := kindsB_ok hk
  have h4 : st4 (tl.mean (i + 1)) [some s, some (.cell b), x2, some (.lst ((kTab.take 7).map tupI)), x4, x5, x6, x7, x8, x9, x10, x11, x12, x13, x14] S = .nx [some s, some (.cell b), x2, some (.lst ((kTab.take 7).map tupI)), some (tupI ks), x5, x6, x7, x8, x9, x10, x11, x12, x13, x14] S1 := by
    refine asg_nx (d := tupI ks) (subM_lst (ds := kTab.map tupI) (k := r) (binM_eq (x := .lst ((kTab.take 7).map tupI)) (y := .lst [tupI [1, 3, 8, 11]]) rfl rfl ?_) t1 ?_) rfl
    · show (if ((kTab.take 7).map tupI).length + 1 ≤ sizeLine then some (D.lst ((kTab.take 7).map tupI ++ [tupI [1, 3, 8, 11]])) else none) = _
      rw [if_pos (sz_small (by decide))]
      rfl
    · rw [← Int.toNat_of_nonneg t2]
      exact Pyx.atI_nat (by rw [List.getElem?_map, hks]; rfl)
  -- stacks
  obtain ⟨ps, S2, s1, s2, s3, s4, s5⟩ := stacks_c (j := i) (s := s) (b := b) (c := c) (x2 := x2) (x3 := some (.lst ((kTab.take 7).map tupI))) (x5 := x5) (x6 := x6) (x7 := x7) (x8 := x8) (x9 := x9) (x10 := x10) (x11 := x11) (x12 := x12) (x13 := x13) (x14 := x14) t5 t4 k2
  have h5 := asg_nx (g := gNm 5) s1 rfl
  obtain ⟨F, z1, z2, z3, z4, z5⟩ := fit_of hk s2 s3
  have hMb : 0 < Mb ks ∧ Mb ks ≤ 100 := by
    unfold Mb
    split <;> decide
  generalize hzs : ks.zip ps = zs at *
  -- rows
  obtain ⟨x, S3, c1, c2, c3, c4⟩ := choices_c (j := i) s5 F.l (fun z hz => by have := F.p z hz; omega) z5
  have hB3 := s4.fr c4 (by simp) (by simp)
  rw [← z2] at h5
  have h3b : st3b (tl.mean (i + 1)) [some s, some (.cell b), x2, some (.lst ((kTab.take 7).map tupI)), some (tupI ks), some (pilesD zs), x6, x7, x8, x9, x10, x11, x12, x13, x14] S2 = .nx [some s, some (.cell b), x2, some x, some (kindsD zs), some (pilesD zs), x6, x7, x8, x9, x10, x11, x12, x13, x14] S3 := by
    rw [z1]
    exact asg_nx (d := x) (call_eq (consM_ok (x := pilesD zs) rfl rfl) rfl c1) rfl
  -- the amount
  have hrl : (rowsP zs.reverse).length ≤ 10000 := by
    have := z5 zs.length (Nat.le_refl _)
    rw [pre_all] at this
    exact this
  have hw500 : ∀ z ∈ zs, 0 < z.1 ∧ z.1 ≤ 500 := fun z hz => by
    rw [← hzs] at hz
    have := k3 z.1 (List.of_mem_zip hz).1
    omega
  obtain ⟨a1, S4, m1, m2, m3, m4, m5, m6⟩ := amount_c (j := i) (s := s) (b := b) (c := c) (x2 := x2) (x5 := some (pilesD zs)) (x6 := x6) (x7 := x7) (x8 := x8) (x9 := x9) (x10 := x10) (x11 := x11) (x12 := x12) (x13 := x13) (x14 := x14) c3 hB3 c2 hw500 z4 hMb F.l hrl
  have h7 := asg_nx (g := gNm 7) m1 rfl
  have hne : rowsP zs.reverse ≠ [] := fun z => by
    obtain ⟨row, h⟩ := rows_pos zs.reverse
    rw [z] at h
    cases h
  obtain ⟨r4, S5, p1, p2, p3, p4, p5, p6⟩ := take_call (j := i) (a1 := varM 1) (a2 := cM (.int 4)) (m := 4) (e := [some s, some (.cell b), x2, some x, some (kindsD zs), some (pilesD zs), x6, some (.int a1), x8, x9, x10, x11, x12, x13, x14]) m5 m4 (by decide) rfl rfl
  have hx5 := K5.Holds.fr m6 p6 (rows_apart m4 m6 hne)
  obtain ⟨r3, S6, o1, o2, o3, o4, o5, o6⟩ := take_call (j := i) (a1 := varM 1) (a2 := cM (.int 3)) (m := 3) (e := [some s, some (.cell b), x2, some x, some (kindsD zs), some (pilesD zs), x6, some (.int a1), x8, x9, x10, x11, x12, x13, x14]) p5 p4 (by decide) rfl rfl
  have hx6 := K5.Holds.fr hx5 o6 (rows_apart p4 hx5 hne)
  obtain ⟨a, ea⟩ : ∃ a, a = a1 + r4 * (if decide (r3 = 0) then 1 else 0) := ⟨_, rfl⟩
  have hab : a1 ≤ a ∧ a ≤ a1 + 3 := by
    rw [ea]
    cases decide (r3 = 0)
    · show a1 ≤ a1 + r4 * 0 ∧ a1 + r4 * 0 ≤ a1 + 3
      omega
    · show a1 ≤ a1 + r4 * 1 ∧ a1 + r4 * 1 ≤ a1 + 3
      omega
  have ha : 0 ≤ a ∧ a ≤ 99999 := by
    refine ⟨by omega, ?_⟩
    have hM : (zs.length : Int) * (500 * ((Mb ks : Int) - 1)) ≤ 99000 := by
      rw [z3]
      unfold Mb
      split
      · rename_i h
        rw [h]
        decide
      · have : ks.length = 0 ∨ ks.length = 1 ∨ ks.length = 2 ∨ ks.length = 3 ∨ ks.length = 4 := by omega
        rcases this with h | h | h | h | h <;> (rw [h]; decide)
    omega
  have h7b : st7b (tl.mean (i + 1)) [some s, some (.cell b), x2, some x, some (kindsD zs), some (pilesD zs), x6, some (.int a1), x8, x9, x10, x11, x12, x13, x14] S4 = .nx [some s, some (.cell b), x2, some x, some (kindsD zs), some (pilesD zs), x6, some (.int a), x8, x9, x10, x11, x12, x13, x14] S6 := by
    refine asg_nx (d := .int a) (binM_eq (x := .int a1) rfl (binM_eq p1 (cal_eq (consM_ok (binM_eq o1 (y := .int 0) rfl eqD_int) rfl) int_bl) (mulD_int (mulOk_l (by omega)))) ?_) rfl
    rw [ea]
    rfl
  -- the good ones
  have g9 := good_c (s := s) (b := .cell b) (x := x) (x2 := x2) (x5 := some (pilesD zs)) (x6 := x6) (x8 := x8) (x9 := x9) (x10 := x10) (x11 := x11) (x12 := x12) (x13 := x13) (x14 := x14) (a := a) F.w F.l hx6 hrl
  have h9 := asg_nx (g := gNm 9) g9 rfl
  have hgl : (good zs.reverse a).length ≤ 10000 := Nat.le_trans (List.length_filter_le _ _) hrl
  have hgr : ∀ row ∈ good zs.reverse a, row.length ≤ 100 := fun row hm => by
    rw [row_len (List.mem_filter.mp hm).1, List.length_reverse]
    have := F.l
    omega
  have g11 := keys_c (S := S6) (s := s) (b := .cell b) (x2 := x2) (x3 := some x) (x4 := some (kindsD zs)) (x5 := some (pilesD zs)) (x6 := x6) (x7 := some (.int a)) (x8 := x8) (x10 := x10) (x11 := x11) (x12 := x12) (x13 := x13) (x14 := x14) hgl hgr
  have h11 := asg_nx (g := gNm 11) (cal_eq (consM_ok g11 nilM_ok) (sort_keys _)) rfl
  have hpos : Pos zs.reverse := fun z hz => (F.w z (List.mem_reverse.mp hz)).1
  generalize hO : ((good zs.reverse a).map keyOf).mergeSort (PySem.W.dataLe false py) = od at *
  have h13 : st13 [some s, some (.cell b), x2, some x, some (kindsD zs), some (pilesD zs), x6, some (.int a), x8, some (.lst ((good zs.reverse a).map rowD)), x10, some (.lst od), x12, x13, x14] S6 = .nx [some s, some (.cell b), x2, some x, some (kindsD zs), some (pilesD zs), x6, some (.int a), x8, some (.lst ((good zs.reverse a).map rowD)), x10, some (.lst od), x12, some (ans (bestP zs.reverse a)), x14] S6 := by
    refine asg_nx (d := ans (bestP zs.reverse a)) ?_ rfl
    cases hb : bestP zs.reverse a with
    | none =>
      have : od = [] := by
        rw [← hO, good_none hpos hb, List.map_nil, List.mergeSort_nil]
      subst this
      exact ifM_no (tst_eq (binM_eq (x := .lst []) (y := .lst []) rfl rfl rfl)) rfl
    | some q =>
      obtain ⟨cc, row⟩ := q
      obtain ⟨t, ht⟩ := good_some hpos hb
      rw [hO] at ht
      subst ht
      have hnc : noCells (keyOf row :: t) = true := noCells_sub (m := []) fun d hd => by
        rw [← hO] at hd
        obtain ⟨r, _, rfl⟩ := List.mem_map.mp ((List.mergeSort_perm _ _).mem_iff.mp hd)
        have := noCells_keys [r]
        have h2 : (noCell (keyOf r) && true) = true := this
        rw [Bool.and_true] at h2
        exact h2
      exact ifM_yes (tst_eq (binM_eq (x := .lst (keyOf row :: t)) (y := .lst []) rfl rfl (neD_keys hnc))) (subM_tup (ds := [.int row.sum, .lst ((negs row.reverse).map .int), rowD row]) (subM_lst (ds := keyOf row :: t) (k := 0) rfl rfl atI_zero) (k := 2) rfl atI_two)
  obtain ⟨y14, S7, hL, e1, e2⟩ := again_c (j := i + 1) (s := s) (b := b) (c := c) (x2 := x2) (x3 := some x) (x6 := x6) (x8 := x8) (x10 := x10) (x11 := some (.lst od)) (x12 := x12) (x14 := x14) hj o5 o4 F ha hgl
  refine ⟨some x, some (kindsD zs), some (pilesD zs), some (.int a), some (.lst ((good zs.reverse a).map rowD)), some (.lst od), some (ans (bestP zs.reverse a)), y14, S7, ?_, e1, e2⟩
  unfold kTurn
  refine (seqM_nx h3).trans ?_
  refine (seqM_nx h4).trans ?_
  refine (seqM_nx h5).trans ?_
  refine (seqM_nx h3b).trans ?_
  refine (seqM_nx h7).trans ?_
  refine (seqM_nx h7b).trans ?_
  refine (seqM_nx h9).trans ?_
  refine (seqM_nx h11).trans ?_
  refine (seqM_nx h13).trans ?_
  exact seqM_nx hL
end
/-- the law holds -/
theorem fit_last : Fit [(1, 5), (3, 5), (8, 5), (11, 5)] := ⟨(kindsB_ok (ks := [1, 3, 8, 11]) (by decide)).1, by decide, by decide, by decide, by decide⟩
theorem best_last : bestP [(11, 5), (8, 5), (3, 5), (1, 5)] 40 = some (5, [0, 0, 5, 0]) := by decide +kernel
theorem law_true (ns : List Int) (h : ns.length ≤ 63) : ∃ S, tl.mean 40 12 [.scr ns] sto0 = .ok (.bl true) S := by
  obtain ⟨b, c, S1, b1, b2, b3, b4, _, _⟩ := begun_ok (G := tl.mean 38) (S := sto0) (ns := ns) sto0_ok (by omega)
  have hb : callM 1 [] (tl.mean 39 8) (consM (varM 0) nilM) [some (D.scr ns), none, none, none, none, none, none, none, none, none, none, none, none, none, none] sto0 = .ok (.cell b) S1 := call_eq (consM_ok (x := .scr ns) rfl rfl) rfl (by
    rw [mn__law_begun]
    exact b1)
  obtain ⟨e', S2, l1, y2, y3, y4, y5, y6, y7, y8, y9, y10, y11, y12, y13, y14, le, lk, lB⟩ := loop_rng (lo := 0) (c := 1) (n := 3) (g := gNm 2) (body := kTurn (tl.mean 39)) (e := [some (D.scr ns), some (.cell b), none, none, none, none, none, none, none, none, none, none, none, none, none]) (S := S1)
    (fun _ e S' => ∃ y2 y3 y4 y5 y6 y7 y8 y9 y10 y11 y12 y13 y14, e = [some (D.scr ns), some (.cell b), y2, y3, y4, y5, y6, y7, y8, y9, y10, y11, y12, y13, y14] ∧ S'.Ok ∧ Box S' b c)
    ⟨none, none, none, none, none, none, none, none, none, none, none, none, none, rfl, b3, b2⟩ (fun k e S1 hk ⟨y2, y3, y4, y5, y6, y7, y8, y9, y10, y11, y12, y13, y14, q1, q2, q3⟩ => by
      subst q1
      obtain ⟨z3, z4, z5, z7, z9, z11, z13, z14, S2, r1, r2, r3⟩ := turn_c (j := 39) (s := .scr ns) (b := b) (c := c) (x2 := some (.int (0 + (k : Nat) * 1))) (x3 := y3) (x4 := y4) (x5 := y5) (x6 := y6) (x7 := y7) (x8 := y8) (x9 := y9) (x10 := y10) (x11 := y11) (x12 := y12) (x13 := y13) (x14 := y14) (by omega) q2 q3
      exact ⟨_, _, S2, rfl, .inl r1, _, _, _, _, _, _, _, _, _, _, _, _, _, rfl, r2, r3⟩)
  subst le
  obtain ⟨S3, f1, f2, f3⟩ := fewest_c (j := 39) (zs := [(1, 5), (3, 5), (8, 5), (11, 5)]) (a := 40) lk fit_last (by decide) (by omega)
  refine ⟨S3, ?_⟩
  rw [law_eq]
  refine defX_rt ?_
  show kLaw (tl.mean 39) [some (D.scr ns), none, none, none, none, none, none, none, none, none, none, none, none, none, none] sto0 = _
  unfold kLaw
  rw [asg_ok hb rfl]
  refine (for_ok (src := .rng 0 1 3) (S1 := S1) rfl l1).trans ?_
  have e40 : bestP ([(1, 5), (3, 5), (8, 5), (11, 5)] : List (Int × Nat)).reverse 40 = some (5, [0, 0, 5, 0]) := best_last
  rw [e40] at f1
  refine ret_ok (binM_eq (x := rowD [0, 0, 5, 0]) (y := .tup [.int 0, .int 0, .int 5, .int 0]) (call_eq (consM_ok (x := kindsD [(1, 5), (3, 5), (8, 5), (11, 5)]) rfl (consM_ok (x := pilesD [(1, 5), (3, 5), (8, 5), (11, 5)]) rfl (consM_ok (x := .int 40) rfl rfl))) rfl f1) rfl ?_)
  rfl
end K5
namespace Hd
open PySem PySem.Spec PyProof.Rows L2 Pyx
theorem facts {P : Program} {w : World} {K : PySem.W.Frag} {h : Heap} {mg : Str → Option Value} {f : Addr} (X : K.In h) (G : h.Ns mainGlobals mg) (hfa : mg ("law" : Str) = some (.ref f)) (c : He.SaysD fa fn K) :
    ∃ fd : FuncData, (∀ (s : Shared) (v : Value), BindsTo s fd ⟨[v], []⟩ [("_law_script", v)]) ∧ ∀ base : Heap, K.In base → base.Ns mainGlobals mg → FnOk P w K mg base (CXe P) 80 f fd ["_law_script"] (spM (tl.ctx K) 1 (tl.mean 40 12)) := by
  obtain ⟨fd, F⟩ := c.def_ 12 rfl
  have eg : mg ("law" : Str) = some (.ref (He.ga K "law")) := He.glo_ok X G (c.facts (f := .glo "law") (List.mem_of_getElem? (i := 24) rfl))
  have e := hfa.symm.trans eg
  cases e
  refine ⟨fd, fun s v => FunD.bindsA (ps := ["_law_script"]) F (fun _ _ _ _ _ _ us hl => match us, hl with | [_], _ => rfl) s [v] rfl, fun base KB GB => ?_⟩
  exact fn_cxe (keeps_all (t := tl) tlGood KB GB c binding 40 12 _ (["_law_script", "_law_box", "_law_turn", "_law_some", "_law_kinds", "_law_stacks", "_law_worth", "_law_amount", "_law_k", "_law_good", "_law_row", "_law_order", "_law_many", "_law_due", "_law_again"], ["_law_script"]) fd rfl rfl F)
end Hd
open PySem PySem.W PySem.Calls PyProof.Rows
theorem PySem.Challenge.cw_noteboxes_k05_fewest_and_ways_holds : PySem.Challenge.rw_noteboxes_k05_fewest_and_ways.Holds := by
  w_on; o_law
  refine HandSHeadRun.head_any (r := OpenLaw.row PySem.Challenge.rw_noteboxes_k05_fewest_and_ways) (q := view (OpenLaw.row PySem.Challenge.rw_noteboxes_k05_fewest_and_ways).prog [25]) (H := Hd.hk) (ob := Hd.ob) (M := 20000) (loose := Hd.loose) (d := HandSHeadRun.topDef (OpenLaw.row PySem.Challenge.rw_noteboxes_k05_fewest_and_ways).prog 25) (kwd := []) Hd.ob_eq
    (by kernel_rfl) (fun s => by kernel_rfl) Hd.run (by kernel_rfl) (by kernel_rfl) (by kernel_rfl) (by rfl) (by first | assumption | decide +kernel) (by decide +kernel) ⟨rfl, rfl, rfl, rfl, rfl, by decide +kernel⟩ ?hw ?hc
  case hw => w_witness2
  case hc =>
    refine L2.walk_ofE (l := PySem.Challenge.rw_noteboxes_k05_fewest_and_ways) (n := 63) (k := 80) (x := "_law_script") (CX := Pyx.CXe PySem.Challenge.rw_noteboxes_k05_fewest_and_ways.prog) rfl (by decide) (by kernel_rfl) ⟨rfl, by decide, by decide⟩ ?F Pyx.cxe_no
    intro w mg fa h Y G hmg0
    obtain ⟨K, KX, c⟩ := Y
    have hmg : mg ("law" : PySem.Str) = some (.ref fa) := by
      have e : (HandSHeadRun.topDef (OpenLaw.row PySem.Challenge.rw_noteboxes_k05_fewest_and_ways).prog 25).name = ("law" : PySem.Str) := by kernel_rfl
      rw [← e]
      exact hmg0
    obtain ⟨fd, hb, hF⟩ := Hd.facts (P := (PySem.Challenge.rw_noteboxes_k05_fewest_and_ways).prog) (w := w) KX G hmg c
    refine ⟨K, fd, _, KX, hb, fun H a ns hl _ hS => ?_, hF⟩
    obtain ⟨S, hS'⟩ := K5.law_true ns hl
    exact Pyx.law_sp hS hS'

