import PyProof.Rows.All
import Wide.All
import OpenK.AllK
import Wide.FinOn
import HandS.ForMost
import HandS.Flow
import HandS.Deep
import HandS.Wide
import HandS.Exc
import HandS.HeadHook2
import HandS.HeadEnd
import HandS.Head3
import KE.KExcInit
import PySem.Challenge.RW_snuglay_k00_errors
import HandS.TupAny
import HandS.CallSlots
import HandS.NoneIn
import HandS.IsInst
import HandS.Gcd
import HandS.SortRule
import HandS.TupSets
import KE.DatumOrd
import HandS.Strs
import HandS.TupMul
import KE.SortData
import HandS.Style
import HandS.Zip
import KE.GoesMore
import HandS.ExcOwn
import HandS.ExcField
import HandS.WordsExc
import PyProof.StrOps2
import HandS.RaiseMore
import HandS.Iter
import HandS.ExcIs
import HandS.ExcValue
set_option Elab.async false
set_option linter.all false
set_option maxRecDepth 100000
set_option maxHeartbeats 4000000
namespace Dm
open PySem PySem.Spec L2

inductive D where
  | non | bl (b : Bool) | int (i : Int) | str (s : Str) | tup (xs : List D) | lst (xs : List D)
  /-- an object of the store; a list that a slot of the frame holds alone -/
  | ref (n : Nat) | own (i : Nat)
  /-- a tuple of ints that the written part holds (a constant of a module) -/
  | con (ns : List Int)
  deriving Inhabited

mutual
def D.noOwn : D → Bool
  | .tup xs => D.noOwns xs
  | .lst xs => D.noOwns xs
  | .own _ => false
  | _ => true
def D.noOwns : List D → Bool
  | [] => true
  | x :: xs => x.noOwn && D.noOwns xs
end
mutual
/-- no object of the store, no own list within -/
def D.pure : D → Bool
  | .tup xs => D.pures xs
  | .lst xs => D.pures xs
  | .own _ => false
  | .ref _ => false
  | _ => true
def D.pures : List D → Bool
  | [] => true
  | x :: xs => x.pure && D.pures xs
end

inductive Ob where
  | lst (xs : List D)
  | dK (kvs : List (Key × D))
  | dT (kvs : List (List Key × D))
  | ins (C : Nat) (fs : List (Str × D))
  /-- an exception as a value: its class, its dict if it has one; the dict of an exception -/
  | exc (C : Nat) (m : Option Nat)
  | xd (fs : List (Str × D))

inductive SV where
  | val (d : D) | own (xs : List D)

structure Sd where
  σ : List (Option SV)
  S : List Ob

/-- an exception: its class (by number), its fields -/
structure Ex where
  cls : Nat
  fs : List (Str × D)

inductive Rs (α : Type) where
  | ok (a : α) (s : Sd) | ex (e : Ex) (s : Sd)
abbrev M (α : Type) := Sd → Option (Rs α)
def ret {α : Type} (a : α) : M α := fun s => some (.ok a s)
def bnd {α β : Type} (m : M α) (k : α → M β) : M β := fun s => match m s with
  | some (.ok a s') => k a s'
  | some (.ex e s') => some (.ex e s')
  | none => none
def stuck {α : Type} : M α := fun _ => none
def liftO {α : Type} : Option α → M α
  | some a => ret a
  | none => stuck
/-- guarded -/
def grd {α : Type} (b : Bool) (m : M α) : M α := if b then m else stuck

structure Gx where
  K : PySem.W.Frag
  cl : Nat → Addr

/-- a tuple that the written part holds -/
def SqW (K : PySem.W.Frag) (a : Addr) (xs : List V) : Prop := ∃ (o : Obj) (its : Array Value) (n : Nat), K.lookup a = some o ∧ o.cls = .type "tuple" ∧ o.data = .seq its n ∧ its.size ≤ sizeLine ∧ Vals xs its.toList
theorem SqW.t {K : PySem.W.Frag} {a : Addr} {xs : List V} {H : Hp} (h : SqW K a xs) : SqT K H a xs := .inr h
mutual
inductive Den (K : PySem.W.Frag) (F : Hp) (ρ : List Addr) (O : Nat → Option Addr) : V → D → Prop
  | non : Den K F ρ O .non .non
  | bl (b : Bool) : Den K F ρ O (.bl b) (.bl b)
  | int (i : Int) : Den K F ρ O (.int i) (.int i)
  | str (x : Str) : Den K F ρ O (.str x) (.str x)
  | tup {a : Addr} {vs : List V} {ds : List D} : F a = some (.tup vs) → DenL K F ρ O vs ds → Den K F ρ O (.ref a) (.tup ds)
  | lst {a : Addr} {vs : List V} {ds : List D} : SqL K F a vs → DenL K F ρ O vs ds → Den K F ρ O (.ref a) (.lst ds)
  | ref {a : Addr} {n : Nat} : ρ[n]? = some a → Den K F ρ O (.ref a) (.ref n)
  | own {a : Addr} {i : Nat} : O i = some a → Den K F ρ O (.ref a) (.own i)
  | con {a : Addr} {ns : List Int} : SqW K a (ns.map V.int) → Den K F ρ O (.ref a) (.con ns)
inductive DenL (K : PySem.W.Frag) (F : Hp) (ρ : List Addr) (O : Nat → Option Addr) : List V → List D → Prop
  | nil : DenL K F ρ O [] []
  | cons {v : V} {vs : List V} {d : D} {ds : List D} : Den K F ρ O v d → DenL K F ρ O vs ds → DenL K F ρ O (v :: vs) (d :: ds)
end

def Sub (F F' : Hp) : Prop := ∀ a o, F a = some o → F' a = some o
theorem Sub.refl (F : Hp) : Sub F F := fun _ _ h => h
theorem Sub.trans {F F1 F2 : Hp} (a : Sub F F1) (b : Sub F1 F2) : Sub F F2 := fun x o h => b x o (a x o h)
theorem Sub.sqT {K : PySem.W.Frag} {F F' : Hp} (h : Sub F F') {a : Addr} {xs : List V} (q : F a = some (.tup xs)) : SqT K F' a xs := SqT.of (h _ _ q)
theorem Sub.sqL {K : PySem.W.Frag} {F F' : Hp} (h : Sub F F') {a : Addr} {xs : List V} (q : SqL K F a xs) : SqL K F' a xs := by
  rcases q with (q | ⟨o, q⟩) | q
  · exact .inl (.inl (h _ _ q))
  · exact .inl (.inr ⟨o, h _ _ q⟩)
  · exact .inr q
def Pre (ρ ρ' : List Addr) : Prop := ∃ t, ρ' = ρ ++ t
theorem Pre.refl (ρ : List Addr) : Pre ρ ρ := ⟨[], by simp⟩
theorem Pre.trans {a b c : List Addr} (x : Pre a b) (y : Pre b c) : Pre a c := by
  obtain ⟨t, rfl⟩ := x
  obtain ⟨u, rfl⟩ := y
  exact ⟨t ++ u, by simp⟩
theorem Pre.get {ρ ρ' : List Addr} (h : Pre ρ ρ') {n : Nat} {a : Addr} (e : ρ[n]? = some a) : ρ'[n]? = some a := by
  obtain ⟨t, rfl⟩ := h
  rw [List.getElem?_append_left (List.getElem?_eq_some_iff.mp e).1]
  exact e
section
variable {K : PySem.W.Frag} {F F' : Hp} {ρ ρ' : List Addr} {O O' : Nat → Option Addr}
mutual
theorem Den.mono (hF : Sub F F') (hρ : Pre ρ ρ') : ∀ {v : V} {d : D}, Den K F ρ O v d → Den K F' ρ' O v d
  | _, _, .non => .non
  | _, _, .bl b => .bl b
  | _, _, .int i => .int i
  | _, _, .str x => .str x
  | _, _, .tup q r => .tup (hF _ _ q) (DenL.mono hF hρ r)
  | _, _, .lst q r => .lst (hF.sqL q) (DenL.mono hF hρ r)
  | _, _, .ref e => .ref (hρ.get e)
  | _, _, .own e => .own e
  | _, _, .con h => .con h
theorem DenL.mono (hF : Sub F F') (hρ : Pre ρ ρ') : ∀ {vs : List V} {ds : List D}, DenL K F ρ O vs ds → DenL K F' ρ' O vs ds
  | _, _, .nil => .nil
  | _, _, .cons a b => .cons (Den.mono hF hρ a) (DenL.mono hF hρ b)
end
mutual
theorem Den.reown : ∀ {v : V} {d : D}, Den K F ρ O v d → d.noOwn = true → Den K F ρ O' v d
  | _, _, .non, _ => .non
  | _, _, .bl b, _ => .bl b
  | _, _, .int i, _ => .int i
  | _, _, .str x, _ => .str x
  | _, _, .tup q r, h => .tup q (DenL.reown r (by simpa [D.noOwn] using h))
  | _, _, .lst q r, h => .lst q (DenL.reown r (by simpa [D.noOwn] using h))
  | _, _, .ref e, _ => .ref e
  | _, _, .own _, h => by simp [D.noOwn] at h
  | _, _, .con h, _ => .con h
theorem DenL.reown : ∀ {vs : List V} {ds : List D}, DenL K F ρ O vs ds → D.noOwns ds = true → DenL K F ρ O' vs ds
  | _, _, .nil, _ => .nil
  | _, _, .cons a b, h => by
    simp only [D.noOwns, Bool.and_eq_true] at h
    exact .cons (Den.reown a h.1) (DenL.reown b h.2)
end
theorem DenL.length : ∀ {vs : List V} {ds : List D}, DenL K F ρ O vs ds → vs.length = ds.length
  | _, _, .nil => rfl
  | _, _, .cons _ b => by simp [DenL.length b]
theorem DenL.get : ∀ {vs : List V} {ds : List D} {i : Nat} {d : D}, DenL K F ρ O vs ds → ds[i]? = some d → ∃ v, vs[i]? = some v ∧ Den K F ρ O v d
  | _, _, _, _, .nil, e => by simp at e
  | _, _, 0, _, .cons a _, e => by simp at e; subst e; exact ⟨_, rfl, a⟩
  | _, _, i + 1, _, .cons _ b, e => by
    obtain ⟨v, h1, h2⟩ := DenL.get (i := i) b (by simpa using e)
    exact ⟨v, by simpa using h1, h2⟩
theorem DenL.append : ∀ {vs ws : List V} {ds es : List D}, DenL K F ρ O vs ds → DenL K F ρ O ws es → DenL K F ρ O (vs ++ ws) (ds ++ es)
  | _, _, _, _, .nil, h => h
  | _, _, _, _, .cons a b, h => .cons a (DenL.append b h)
theorem DenL.take : ∀ {vs : List V} {ds : List D} (n : Nat), DenL K F ρ O vs ds → DenL K F ρ O (vs.take n) (ds.take n)
  | _, _, 0, _ => by simp; exact .nil
  | _, _, _ + 1, .nil => by simp; exact .nil
  | _, _, n + 1, .cons a b => by simp only [List.take_succ_cons]; exact .cons a (DenL.take n b)
theorem DenL.drop : ∀ {vs : List V} {ds : List D} (n : Nat), DenL K F ρ O vs ds → DenL K F ρ O (vs.drop n) (ds.drop n)
  | _, _, 0, h => by simpa using h
  | _, _, _ + 1, .nil => by simp; exact .nil
  | _, _, n + 1, .cons _ b => by simp only [List.drop_succ_cons]; exact DenL.drop n b
theorem DenL.set {v : V} {d : D} (h : Den K F ρ O v d) : ∀ {vs : List V} {ds : List D} (n : Nat), DenL K F ρ O vs ds → DenL K F ρ O (vs.set n v) (ds.set n d)
  | _, _, _, .nil => by simp; exact .nil
  | _, _, 0, .cons _ b => by simp only [List.set_cons_zero]; exact .cons h b
  | _, _, n + 1, .cons a b => by simp only [List.set_cons_succ]; exact .cons a (DenL.set h n b)
theorem DenL.dropLast {vs : List V} {ds : List D} (h : DenL K F ρ O vs ds) : DenL K F ρ O vs.dropLast ds.dropLast := by
  rw [List.dropLast_eq_take, List.dropLast_eq_take, h.length]
  exact h.take _
theorem DenL.reverse : ∀ {vs : List V} {ds : List D}, DenL K F ρ O vs ds → DenL K F ρ O vs.reverse ds.reverse
  | _, _, .nil => .nil
  | _, _, .cons a b => by
    rw [List.reverse_cons, List.reverse_cons]
    exact (DenL.reverse b).append (.cons a .nil)
end

/-- a frame's entry: what stood still, the objects of the store, the heap -/
structure Bs where
  F : Hp
  ρ : List Addr
  H : Hp
structure Cc where
  F : Hp
  ρ : List Addr
  O : Nat → Option Addr
  B : Bs

abbrev Den' (G : Gx) (c : Cc) : V → D → Prop := Den G.K c.F c.ρ c.O
abbrev DenL' (G : Gx) (c : Cc) : List V → List D → Prop := DenL G.K c.F c.ρ c.O

def KvD {κ : Type} (G : Gx) (c : Cc) : List (κ × V) → List (κ × D) → Prop := Paired fun p q => p.1 = q.1 ∧ Den' G c p.2 q.2
/-- an exception object of the class C at a, its dict at od -/
def ExcH (C : Addr) (od : Option Addr) (a : Addr) : HO := .ext fun h => ∃ (oe : Obj) (vs : Array Value), h.get? a = some oe ∧ Zc (.ref C) od oe ∧ oe.data = .fields vs
inductive ObDen (G : Gx) (c : Cc) (H : Hp) (a : Addr) : Ob → Prop
  | lst {vs : List V} {xs : List D} : H a = some (.lst vs) → DenL' G c vs xs → D.noOwns xs = true → ObDen G c H a (.lst xs)
  | dK {kvs : List (Key × V)} {kds : List (Key × D)} : H a = some (.dK kvs) → KvD G c kvs kds → D.noOwns (kds.map (·.2)) = true → ObDen G c H a (.dK kds)
  | dT {kvs : List (List Key × V)} {kds : List (List Key × D)} : H a = some (.dT kvs) → KvD G c kvs kds → D.noOwns (kds.map (·.2)) = true → ObDen G c H a (.dT kds)
  | ins {C : Nat} {dx : Addr} {fs : List (Str × V)} {fds : List (Str × D)} : H a = some (.ins (G.cl C) dx fs) → KvD G c fs fds → D.noOwns (fds.map (·.2)) = true → ObDen G c H a (.ins C fds)
  | exc0 {C : Nat} : H a = some (ExcH (G.cl C) none a) → ObDen G c H a (.exc C none)
  | exc1 {C : Nat} {d : Addr} {m : Nat} : H a = some (ExcH (G.cl C) (some d) a) → Den' G c (.ref d) (.ref m) → ObDen G c H a (.exc C (some m))
  | xd {fs : List (Str × V)} {fds : List (Str × D)} : H a = some (.xd fs) → KvD G c fs fds → D.noOwns (fds.map (·.2)) = true → ObDen G c H a (.xd fds)

structure Base (G : Gx) (c : Cc) (H : Hp) (S : List Ob) : Prop where
  sub : Sub c.F H
  len : S.length = c.ρ.length
  ob : ∀ (n : Nat) (o : Ob), S[n]? = some o → ∃ a, c.ρ[n]? = some a ∧ ObDen G c H a o
  dis : ∀ a ∈ c.ρ, c.F a = none
  nd : c.ρ.Nodup

structure Step (F : Hp) (ρ : List Addr) (H F' : Hp) (ρ' : List Addr) (H' : Hp) : Prop where
  sub : Sub F F'
  fn : ∀ a o, F' a = some o → F a = some o ∨ H a = none ∨ ∃ vs, H a = some (.tup vs) ∧ a ∉ ρ
  more : ∃ t, ρ' = ρ ++ t ∧ ∀ a ∈ t, H a = none
  keep : ∀ b o, H b = some o → b ∉ ρ → H' b = some o
  there : ∀ b o, H b = some o → ∃ o', H' b = some o'
theorem Step.refl (F : Hp) (ρ : List Addr) (H : Hp) : Step F ρ H F ρ H :=
  ⟨Sub.refl F, fun _ _ h => .inl h, ⟨[], by simp, fun _ h => by cases h⟩, fun _ _ h _ => h, fun _ o h => ⟨o, h⟩⟩
theorem Step.free {F F' H H' : Hp} {ρ ρ' : List Addr} (x : Step F ρ H F' ρ' H') {a : Addr} (h : H' a = none) : H a = none := by
  cases e : H a with
  | none => rfl
  | some o =>
    obtain ⟨o', e'⟩ := x.there a o e
    rw [h] at e'; cases e'
theorem Step.trans {F F1 F2 H H1 H2 : Hp} {ρ ρ1 ρ2 : List Addr} (x : Step F ρ H F1 ρ1 H1) (y : Step F1 ρ1 H1 F2 ρ2 H2) : Step F ρ H F2 ρ2 H2 := by
  refine ⟨x.sub.trans y.sub, fun a o h => ?_, ?_, fun b o h hb => ?_, fun b o h => ?_⟩
  · rcases y.fn a o h with h | h | ⟨vs, h, hn⟩
    · exact x.fn a o h
    · exact .inr (.inl (x.free h))
    · have hr : a ∉ ρ := fun hm => hn (by
        obtain ⟨t, e, _⟩ := x.more
        rw [e]
        exact List.mem_append_left _ hm)
      cases e : H a with
      | none => exact .inr (.inl rfl)
      | some u =>
        have := x.keep a u e hr
        rw [h] at this
        cases this
        exact .inr (.inr ⟨vs, rfl, hr⟩)
  · obtain ⟨t, rfl, ht⟩ := x.more
    obtain ⟨u, rfl, hu⟩ := y.more
    refine ⟨t ++ u, by simp, fun a ha => ?_⟩
    rcases List.mem_append.mp ha with h | h
    · exact ht a h
    · exact x.free (hu a h)
  · refine y.keep b o (x.keep b o h hb) fun hm => ?_
    obtain ⟨t, rfl, ht⟩ := x.more
    rcases List.mem_append.mp hm with hm | hm
    · exact hb hm
    · rw [ht b hm] at h; cases h
  · obtain ⟨o1, h1⟩ := x.there b o h
    exact y.there b o1 h1
theorem Step.pre {F F' H H' : Hp} {ρ ρ' : List Addr} (x : Step F ρ H F' ρ' H') : Pre ρ ρ' := let ⟨t, h, _⟩ := x.more; ⟨t, h⟩

structure Rel (G : Gx) (c : Cc) (σ : St) (H : Hp) (s : Sd) : Prop where
  base : Base G c H s.S
  step : Step c.B.F c.B.ρ c.B.H c.F c.ρ H
  len : s.σ.length = σ.length
  val : ∀ (i : Nat) (d : D), s.σ[i]? = some (some (.val d)) → d.noOwn = true ∧ ∃ v, σ[i]? = some (some v) ∧ Den' G c v d
  own : ∀ (i : Nat) (xs : List D), s.σ[i]? = some (some (.own xs)) → D.noOwns xs = true ∧ ∃ a vs, c.O i = some a ∧ σ[i]? = some (some (.ref a)) ∧ H a = some (.lst vs) ∧ c.F a = none ∧ a ∉ c.ρ ∧ c.B.H a = none ∧ DenL' G c vs xs
  inj : ∀ (i j : Nat) (xs ys : List D) (a : Addr), s.σ[i]? = some (some (.own xs)) → s.σ[j]? = some (some (.own ys)) → c.O i = some a → c.O j = some a → i = j
  oth : ∀ (i : Nat) (a : Addr), c.O i = some a → ∃ o, H a = some o

/-- from one state to a later one: what stands still grows, the store grows, all else that is tracked stays -/
structure Ext (c : Cc) (H : Hp) (c' : Cc) (H' : Hp) : Prop where
  sub : Sub c.F c'.F
  fn : ∀ a o, c'.F a = some o → c.F a = some o ∨ H a = none ∨ (∃ i, c.O i = some a) ∨ ∃ vs, H a = some (.tup vs) ∧ a ∉ c.ρ
  more : ∃ t, c'.ρ = c.ρ ++ t ∧ ∀ a ∈ t, H a = none
  keep : ∀ b o, H b = some o → b ∉ c.ρ → H' b = some o
  there : ∀ b o, H b = some o → ∃ o', H' b = some o'
  O : c'.O = c.O
  B : c'.B = c.B
theorem Ext.refl (c : Cc) (H : Hp) : Ext c H c H := ⟨Sub.refl _, fun _ _ h => .inl h, ⟨[], by simp, fun _ h => by cases h⟩, fun _ _ h _ => h, fun _ o h => ⟨o, h⟩, rfl, rfl⟩
theorem Ext.free {c c' : Cc} {H H' : Hp} (x : Ext c H c' H') {a : Addr} (h : H' a = none) : H a = none := by
  cases e : H a with
  | none => rfl
  | some o =>
    obtain ⟨o', e'⟩ := x.there a o e
    rw [h] at e'; cases e'
theorem Ext.trans {c c1 c2 : Cc} {H H1 H2 : Hp} (x : Ext c H c1 H1) (y : Ext c1 H1 c2 H2) : Ext c H c2 H2 := by
  refine ⟨x.sub.trans y.sub, fun a o h => ?_, ?_, fun b o h hb => ?_, fun b o h => ?_, y.O.trans x.O, y.B.trans x.B⟩
  · rcases y.fn a o h with h | h | ⟨i, h⟩ | ⟨vs, h, hn⟩
    · exact x.fn a o h
    · exact .inr (.inl (x.free h))
    · exact .inr (.inr (.inl ⟨i, by rw [← x.O]; exact h⟩))
    · have hr : a ∉ c.ρ := fun hm => hn (by
        obtain ⟨t, e, _⟩ := x.more
        rw [e]
        exact List.mem_append_left _ hm)
      cases e : H a with
      | none => exact .inr (.inl rfl)
      | some u =>
        have := x.keep a u e hr
        rw [h] at this
        cases this
        exact .inr (.inr (.inr ⟨vs, rfl, hr⟩))
  · obtain ⟨t, h1, ht⟩ := x.more
    obtain ⟨u, h2, hu⟩ := y.more
    refine ⟨t ++ u, by rw [h2, h1, List.append_assoc], fun a ha => ?_⟩
    rcases List.mem_append.mp ha with h | h
    · exact ht a h
    · exact x.free (hu a h)
  · refine y.keep b o (x.keep b o h hb) fun hm => ?_
    obtain ⟨t, h1, ht⟩ := x.more
    rw [h1] at hm
    rcases List.mem_append.mp hm with hm | hm
    · exact hb hm
    · rw [ht b hm] at h; cases h
  · obtain ⟨o1, h1⟩ := x.there b o h
    exact y.there b o1 h1
theorem Ext.pre {c c' : Cc} {H H' : Hp} (x : Ext c H c' H') : Pre c.ρ c'.ρ := let ⟨t, h, _⟩ := x.more; ⟨t, h⟩
theorem Ext.den {G : Gx} {c c' : Cc} {H H' : Hp} (m : Ext c H c' H') {v : V} {d : D} (h : Den' G c v d) : Den' G c' v d := by
  have q := Den.mono m.sub m.pre h
  show Den G.K c'.F c'.ρ c'.O v d
  rw [m.O]; exact q
theorem Ext.denL {G : Gx} {c c' : Cc} {H H' : Hp} (m : Ext c H c' H') {v : List V} {d : List D} (h : DenL' G c v d) : DenL' G c' v d := by
  have q := DenL.mono m.sub m.pre h
  show DenL G.K c'.F c'.ρ c'.O v d
  rw [m.O]; exact q

/-- an exception's own dict -/
def ExDen (G : Gx) (c : Cc) (H : Hp) (e : Ex) (dx : Option Addr) : Prop :=
  (e.fs = [] ∧ dx = none) ∨ ∃ a fs, dx = some a ∧ H a = some (.xd fs) ∧ KvD G c fs e.fs

/-- what is wanted of an exception (WX of HandS.Exc, without importing it) -/
abbrev WXd := Value → Option Addr → St → Hp → Prop

section
variable {α β : Type}
/-- m runs from the state told by c, s -/
def Run (G : Gx) (W : WXd) (c : Cc) (s : Sd) (m : M α) (σ : St) (H : Hp) (R : α → Cc → Hp → Prop) : Prop :=
  Rel G c σ H s ∧ match m s with
    | some (.ok a s') => ∀ H' c', Rel G c' σ H' s' → Ext c H c' H' → R a c' H'
    | some (.ex e s') => ∀ dx H' c', Rel G c' σ H' s' → Ext c H c' H' → ExDen G c' H' e dx → W (.ref (G.cl e.cls)) dx σ H'
    | none => False
variable {G : Gx} {W : WXd} {c : Cc} {s : Sd} {σ : St} {H : Hp}
theorem Run.mono {m : M α} {R R' : α → Cc → Hp → Prop} (h : Run G W c s m σ H R) (k : ∀ a c' H', Ext c H c' H' → R a c' H' → R' a c' H') : Run G W c s m σ H R' := by
  obtain ⟨r, h⟩ := h
  refine ⟨r, ?_⟩
  cases e : m s with
  | none => rw [e] at h; exact h
  | some q =>
    rw [e] at h
    cases q with
    | ok a s' => exact fun H' c' r' mo => k a c' H' mo (h H' c' r' mo)
    | ex x s' => exact h
/-- THE RULE of sequence -/
theorem Run.bind {m : M α} {k : α → M β} {R : β → Cc → Hp → Prop} (h : Run G W c s (bnd m k) σ H R) :
    Run G W c s m σ H fun a c1 H1 => ∃ s1, Run G W c1 s1 (k a) σ H1 R := by
  obtain ⟨r, h⟩ := h
  refine ⟨r, ?_⟩
  unfold bnd at h
  cases e : m s with
  | none => rw [e] at h; exact h
  | some q =>
    rw [e] at h
    cases q with
    | ex x s' => exact h
    | ok a s' =>
      intro H1 c1 r1 m1
      refine ⟨s', r1, ?_⟩
      have h : match k a s' with
        | some (.ok a s') => ∀ H' c', Rel G c' σ H' s' → Ext c H c' H' → R a c' H'
        | some (.ex e s') => ∀ dx H' c', Rel G c' σ H' s' → Ext c H c' H' → ExDen G c' H' e dx → W (.ref (G.cl e.cls)) dx σ H'
        | none => False := h
      cases e2 : k a s' with
      | none => rw [e2] at h; exact h
      | some q2 =>
        rw [e2] at h
        cases q2 with
        | ok b s2 => exact fun H' c' r' m' => h H' c' r' (m1.trans m')
        | ex x s2 => exact fun dx H' c' r' m' => h dx H' c' r' (m1.trans m')
theorem Run.ret {a : α} {R : α → Cc → Hp → Prop} (h : Run G W c s (ret a) σ H R) : R a c H := h.2 H c h.1 (Ext.refl c H)
theorem Run.rel {m : M α} {R : α → Cc → Hp → Prop} (h : Run G W c s m σ H R) : Rel G c σ H s := h.1
theorem Run.no {R : α → Cc → Hp → Prop} (h : Run G W c s (stuck : M α) σ H R) {P : Prop} : P := False.elim h.2
theorem Run.grd {b : Bool} {m : M α} {R : α → Cc → Hp → Prop} (h : Run G W c s (grd b m) σ H R) : b = true ∧ Run G W c s m σ H R := by
  cases b with
  | false => exact Run.no h
  | true => exact ⟨rfl, h⟩
theorem Run.lift {o : Option α} {R : α → Cc → Hp → Prop} (h : Run G W c s (liftO o) σ H R) : ∃ a, o = some a ∧ R a c H := by
  cases o with
  | none => exact Run.no h
  | some a => exact ⟨a, rfl, Run.ret h⟩
end

section
variable (G : Gx) (W : WXd)
def tD (m : M D) : TE := fun σ H Q => ∃ c s, Run G W c s m σ H fun d c' H' => ∀ v, Den' G c' v d → Q v H'
def tBo (m : M Bool) : TT := fun σ H Q => ∃ c s, Run G W c s m σ H fun b _ H' => Q b H'
def tLs (m : M (List D)) : TA := fun σ H Q => ∃ c s, Run G W c s m σ H fun ds c' H' => ∀ vs, DenL' G c' vs ds → Q vs H'
end
theorem PE.imp {X : Cx} {e : Expr} {t t' : TE} (h : PE X e t) (k : ∀ σ H Q, t' σ H Q → t σ H Q) : PE X e t' := ⟨fun pins s σ H Q I q => h.run pins s σ H Q I (k σ H Q q)⟩
theorem PT.imp {X : Cx} {e : Expr} {t t' : TT} (h : PT X e t) (k : ∀ σ H Q, t' σ H Q → t σ H Q) : PT X e t' := ⟨fun pins s σ H Q I q => h.run pins s σ H Q I (k σ H Q q)⟩
theorem PW.imp {X : Cx} {e : Expr} {t t' : TT} (h : PW X e t) (k : ∀ σ H Q, t' σ H Q → t σ H Q) : PW X e t' := ⟨fun wh pins s σ H Q I q => h.run wh pins s σ H Q I (k σ H Q q)⟩
theorem PA.imp {X : Cx} {e : List Expr} {t t' : TA} (h : PA X e t) (k : ∀ σ H Q, t' σ H Q → t σ H Q) : PA X e t' := ⟨fun pos pins s σ H Q I q => h.run pos pins s σ H Q I (k σ H Q q)⟩
theorem PS.imp {X : Cx} {e : Stmt} {t t' : TS} (h : PS X e t) (k : ∀ D σ H, t' D σ H → t D σ H) : PS X e t' := ⟨fun pins s σ H D I q => h.run pins s σ H D I (k D σ H q)⟩
theorem PSs.imp {X : Cx} {e : List Stmt} {t t' : TS} (h : PSs X e t) (k : ∀ D σ H, t' D σ H → t D σ H) : PSs X e t' := ⟨fun pins s σ H D I q => h.run pins s σ H D I (k D σ H q)⟩

section
variable {G : Gx} {W : WXd} {c : Cc} {s : Sd} {σ : St} {H : Hp} {β : Type}
/-- an expression first -/
theorem Run.fst {m : M D} {k : D → M β} {R : β → Cc → Hp → Prop} (h : Run G W c s (bnd m k) σ H R) :
    tD G W m σ H fun v H1 => ∃ c1 s1 d, Ext c H c1 H1 ∧ Den' G c1 v d ∧ Run G W c1 s1 (k d) σ H1 R := by
  refine ⟨c, s, Run.mono (Run.bind h) (fun a c1 H1 m1 q => ?_)⟩
  obtain ⟨s1, q⟩ := q
  exact fun v hv => ⟨c1, s1, a, m1, hv, q⟩
theorem Run.fstB {m : M Bool} {k : Bool → M β} {R : β → Cc → Hp → Prop} (h : Run G W c s (bnd m k) σ H R) :
    tBo G W m σ H fun b H1 => ∃ c1 s1, Ext c H c1 H1 ∧ Run G W c1 s1 (k b) σ H1 R := by
  refine ⟨c, s, Run.mono (Run.bind h) (fun a c1 H1 m1 q => ?_)⟩
  obtain ⟨s1, q⟩ := q
  exact ⟨c1, s1, m1, q⟩
theorem Run.fstL {m : M (List D)} {k : List D → M β} {R : β → Cc → Hp → Prop} (h : Run G W c s (bnd m k) σ H R) :
    tLs G W m σ H fun vs H1 => ∃ c1 s1 ds, Ext c H c1 H1 ∧ DenL' G c1 vs ds ∧ Run G W c1 s1 (k ds) σ H1 R := by
  refine ⟨c, s, Run.mono (Run.bind h) (fun a c1 H1 m1 q => ?_)⟩
  obtain ⟨s1, q⟩ := q
  exact fun v hv => ⟨c1, s1, a, m1, hv, q⟩
end
end Dm
namespace Dm
open PySem PySem.Spec L2
def clsBody : Stmt → List Stmt
  | .ClassDef _ _ _ b _ _ _ _ _ _ _ => b
  | _ => []
def exTl : List Value := [.type "Exception", .type "BaseException", .type "object"]
/-- the classes by number -/
def exNm : Nat → Str
  | 0 => "BadValue" | 1 => "BadText" | 2 => "BadPaper" | 3 => "NoPiece" | 4 => "TakenName" | 5 => "TooMany" | 6 => "JobReader" | 7 => "Lines" | 8 => "Case" | 9 => "Search" | 10 => "Checker" | 11 => "Total" | 12 => "Sheet" | 13 => "LayError" | _ => "Sheet"
inductive Fm where
  | fa (f : He.Fa)
  | blt (x : Str) (n : String)
  | tup (x : Str) (ns : List Int)
  /-- an own error with one field f, its __init__ a def -/
  | xf (x f : Str)
  /-- a class with these fields and methods -/
  | cls (x : Str) (fs ms : List Str)
  /-- the six errors of the program: what isinstance and except say of them -/
  | errs
/-- an own error's class at C, its __init__ at fI: the parts -/
def xfL (K : PySem.W.Frag) (C fI : Addr) (f : Str) : List Bool :=
  [PySem.W.excInitIn K C exTl "Exception.__new__", PySem.W.excOver K C exTl, He.eqO (PySem.W.takerIn K C f) (some none),
   He.eqO (PySem.W.findIn K (.ref C) "__setattr__") (some (some (.builtin "object.__setattr__"))), He.eqO (PySem.W.findIn K (.ref C) "__getattribute__") (some (some (.builtin "BaseException.__getattribute__"))),
   He.eqO (PySem.W.findIn K (.ref C) "__getattr__") (some none), He.eqO (PySem.W.findIn K (.ref C) f) (some none),
   decide (PySem.W.typeIn K (.ref fI) = some (.type "function")), PySem.W.keepIn K (.ref C), decide (PySem.W.subIn K (.ref C) (.type "BaseException") = some true),
   decide (PySem.W.typeIn K (.ref C) = some (.type "type")), PySem.W.hasDictIn K C, decide (PySem.W.exmOne K (.ref C) (.ref C) = some true)]
def xfB (K : PySem.W.Frag) (x f : Str) : Bool := match PySem.W.nsIn K mainGlobals x with
  | some (some (.ref C)) => (match PySem.W.findIn K (.ref C) "__init__" with
    | some (some (.ref fI)) => (xfL K C fI f).all id
    | _ => false)
  | _ => false
def clsL (K : PySem.W.Frag) (C : Addr) (fs ms : List Str) : List Bool :=
  [PySem.W.plainGet K C Str.empty, PySem.W.hasDictIn K C, PySem.W.plainOver K C, He.eqO (PySem.W.findIn K (.ref C) "__setattr__") (some (some (.builtin "object.__setattr__"))), PySem.W.makesIn K C, PySem.W.keepIn K (.ref C),
   fs.all fun f => He.eqO (PySem.W.findIn K (.ref C) f) (some none), ms.all fun m => match PySem.W.findIn K (.ref C) m with
    | some (some (.ref f)) => PySem.W.isFn K (.ref f)
    | _ => false]
def clsB (K : PySem.W.Frag) (x : Str) (fs ms : List Str) : Bool := match PySem.W.nsIn K mainGlobals x with
  | some (some (.ref C)) => (clsL K C fs ms).all id
  | _ => false
def errAd (K : PySem.W.Frag) (C : Nat) : Addr := He.ga K (exNm C)
def errL0 (K : PySem.W.Frag) : List Bool := [He.eqO (PySem.W.specialIn K (.builtin "object.__class__") "__get__") (some (some (.builtin "getset_descriptor.__get__"))), decide (PySem.W.takesIn K (.builtin "object.__class__") = some true),
  PySem.W.excIn K (errAd K 5) exTl "Exception.__new__", He.eqO (PySem.W.nsIn K mainGlobals (exNm 13)) (some (some (.ref (errAd K 13))))]
def errL1 (K : PySem.W.Frag) (C : Nat) : List Bool := [He.eqO (PySem.W.nsIn K mainGlobals (exNm C)) (some (some (.ref (errAd K C)))),
  He.eqO (PySem.W.findIn K (.ref (errAd K C)) "__getattribute__") (some (some (.builtin "BaseException.__getattribute__"))), He.eqO (PySem.W.findIn K (.ref (errAd K C)) "__getattr__") (some none),
  decide (PySem.W.subIn K (.ref (errAd K C)) (.type "BaseException") = some true), PySem.W.hasDictIn K (errAd K C), He.eqO (PySem.W.findIn K (.ref (errAd K C)) "__class__") (some (some (.builtin "object.__class__"))),
  PySem.W.keepIn K (.ref (errAd K C)), decide (PySem.W.mroIn K (errAd K C) (.type "object") = some true), decide (PySem.W.typeIn K (.ref (errAd K C)) = some (.type "type")),
  decide (PySem.W.kitOne K (.ref (errAd K C)) (.ref (errAd K 13)) = some true), decide (PySem.W.exmOne K (.ref (errAd K C)) (.ref (errAd K 13)) = some true),
  decide (PySem.W.kitOne K (.ref (errAd K C)) (.type "ValueError") = some false), decide (PySem.W.kitOne K (.ref (errAd K C)) (.type "LookupError") = some false), decide (PySem.W.kitOne K (.ref (errAd K C)) (.type "ArithmeticError") = some false), decide (PySem.W.kitOne K (.ref (errAd K C)) (.type "Exception") = some true),
  (List.range 6).all fun T => decide (PySem.W.kitOne K (.ref (errAd K C)) (.ref (errAd K T)) = some (decide (C = T)))]
def Fm.ok (K : PySem.W.Frag) : Fm → Bool
  | .fa f => f.ok K
  | .blt x n => He.eqO (PySem.W.nsIn K mainGlobals x) (some (some (.builtin n)))
  | .tup x ns => He.eqO (PySem.W.nsIn K mainGlobals x) (some (some (.ref (He.ga K x)))) && He.tupB K x (ns.map He.Dv.int)
  | .xf x f => xfB K x f
  | .cls x fs ms => clsB K x fs ms
  | .errs => ((errL0 K) ++ (List.range 6).flatMap (errL1 K)).all id
/-- a def, or the def m of the class x; its qualified name -/
structure Df where
  x : Str
  m : Option Str
  q : Str
  st : Stmt
def Df.fnd (d : Df) : He.FnD := ⟨(d.x, d.m), d.m.getD d.x, d.q, defArgs d.st, defBody d.st, defScope d.st⟩
def fnRow (K : PySem.W.Frag) (q : Str) (a : Addr) : Bool × He.FnV := match K.lookup a with
  | some ⟨_, _, .func fd, _⟩ => (PySem.W.codeIn K fd.code q, some (fd.name, fd.qualname, fd.params, fd.body, fd.scope, fd.globals, fd.closure, fd.defaults, fd.builtins))
  | _ => (false, none)
def Df.row (K : PySem.W.Frag) (d : Df) : Bool × He.FnV := match PySem.W.nsIn K mainGlobals d.x with
  | some (some (.ref a)) => (match d.m with
    | none => fnRow K d.q a
    | some m => match PySem.W.findIn K (.ref a) m with
      | some (some (.ref f)) => fnRow K d.q f
      | _ => (false, none))
  | _ => (false, none)
abbrev AlM : Type := Bool × List (Bool × He.FnV)
def obsM (fm : List Fm) (fs : List Df) (K : PySem.W.Frag) : AlM := (fm.all fun f => f.ok K, fs.map fun d => d.row K)
def valM (fs : List Df) : AlM := (true, fs.map fun d => (true, d.fnd.val))
def SaysM (fm : List Fm) (fs : List Df) (K : PySem.W.Frag) : Prop := obsM fm fs K = valM fs
/-- the objects that the module's names stand for, and what these name -/
def asM (g : Addr → Option Obj) : List Addr := mainGlobals :: match g mainGlobals with
  | some ⟨_, _, .dict es _, _⟩ => es.toList.flatMap fun e => (match e.val with
    | .ref a => a :: (match g a with
      | some o => (match o.data with
        | .cls _ => He.growG g (He.growG g (He.growG g [a]))
        | _ => He.refsO o)
      | none => [])
    | _ => [])
  | _ => []
def obsMG (fm : List Fm) (fs : List Df) (g : Addr → Option Obj) : AlM := obsM fm fs (He.frG g (asM g))
def hookM (fm : List Fm) (fs : List Df) : PySem.W.Hook where
  α := AlM
  obs := fun s => obsMG fm fs s.heap.get?
  val := fun _ => valM fs
  says := fun _ h => ∃ K : PySem.W.Frag, K.In h ∧ SaysM fm fs K
  of := fun _ _ e => ⟨_, He.frG_in, e⟩
  keeps := fun _ _ _ ⟨K, hK, c⟩ k => ⟨K, PySem.W.Frag.In.keeps hK k, c⟩
theorem obsMG_eq {fm : List Fm} {fs : List Df} {g : Addr → Option Obj} {s : Shared} (h : ∀ a, g a = s.heap.get? a) : obsMG fm fs g = (hookM fm fs).obs s := by
  have e : g = s.heap.get? := funext h
  rw [e] <;> rfl
end Dm
namespace Dm
open PySem PySem.Spec L2
noncomputable section

def top (i : Nat) : Stmt := PySem.Challenge.pw_snuglay_k00_errors.main.body.getD i (.Pass ⟨0, 0, 0, 0⟩)
abbrev s__law_so : Stmt := top 9
abbrev s__law_numbers : Stmt := top 10
abbrev s__law_draw : Stmt := top 11
abbrev s__law_take : Stmt := top 12
abbrev s__law_of : Stmt := top 13
abbrev s__law_foreign : Stmt := top 14
abbrev s__law_caught : Stmt := top 15
abbrev s_law : Stmt := top 16
abbrev s_NoPiece_init : Stmt := (clsBody (top 5)).getD 0 (.Pass ⟨0, 0, 0, 0⟩)
abbrev s_BadPaper_init : Stmt := (clsBody (top 4)).getD 0 (.Pass ⟨0, 0, 0, 0⟩)
abbrev s_BadText_init : Stmt := (clsBody (top 3)).getD 0 (.Pass ⟨0, 0, 0, 0⟩)
abbrev s_BadValue_init : Stmt := (clsBody (top 2)).getD 0 (.Pass ⟨0, 0, 0, 0⟩)
abbrev s_TakenName_init : Stmt := (clsBody (top 6)).getD 0 (.Pass ⟨0, 0, 0, 0⟩)
end
end Dm
namespace Dm
open PySem PySem.Spec L2

namespace Hd
def fm1 : List Fm := [.fa (.free "isinstance"), .fa (.free "tuple"), .fa (.free "len"), .fa (.free "range"), .fa (.free "bool"), .fa (.free "int"), .fa (.free "str"), .errs, .fa (.free "ValueError"), .fa (.free "LookupError"), .fa (.free "ArithmeticError"), .fa (.free "Exception"), .xf "NoPiece" "name", .xf "BadPaper" "at", .xf "BadText" "at", .xf "BadValue" "at", .xf "TakenName" "name"]
def fm : List Fm := fm1
def df1 : List Df := [⟨"_law_so", none, "_law_so", s__law_so⟩, ⟨"_law_numbers", none, "_law_numbers", s__law_numbers⟩, ⟨"_law_draw", none, "_law_draw", s__law_draw⟩, ⟨"_law_take", none, "_law_take", s__law_take⟩, ⟨"_law_of", none, "_law_of", s__law_of⟩, ⟨"_law_foreign", none, "_law_foreign", s__law_foreign⟩, ⟨"_law_caught", none, "_law_caught", s__law_caught⟩, ⟨"law", none, "law", s_law⟩, ⟨"NoPiece", some "__init__", "NoPiece.__init__", s_NoPiece_init⟩, ⟨"BadPaper", some "__init__", "BadPaper.__init__", s_BadPaper_init⟩, ⟨"BadText", some "__init__", "BadText.__init__", s_BadText_init⟩, ⟨"BadValue", some "__init__", "BadValue.__init__", s_BadValue_init⟩, ⟨"TakenName", some "__init__", "TakenName.__init__", s_TakenName_init⟩]
def df : List Df := df1
def loose1 : List Str := [("LayError" : Str), ("BadValue" : Str), ("BadText" : Str), ("BadPaper" : Str), ("NoPiece" : Str), ("TakenName" : Str), ("TooMany" : Str), ("_law_so" : Str), ("_law_numbers" : Str), ("_law_draw" : Str), ("_law_take" : Str), ("_law_of" : Str), ("_law_foreign" : Str), ("_law_caught" : Str)]
def loose : List Str := loose1
abbrev R : PySem.W.OpenRow := PySem.W.OpenLaw.row PySem.Challenge.rw_snuglay_k00_errors
abbrev hk : PySem.W.Hook := hookM fm df
def ob (s : PySem.W.SharedT) : AlM := obsMG fm df (HandSHeadRun.getT s)
theorem ob_eq (s : PySem.W.SharedT) : ob s = hk.obs s.abs := obsMG_eq (HandSHeadRun.getT_eq s)
set_option maxHeartbeats 0 in
theorem run (w : World) : HandSHeadRun.RunEq R (PySem.W.view R.prog [16]) hk ob 6000 loose w := by
  intro os
  kernel_rfl
end Hd
end Dm
namespace Dm
open PySem PySem.Spec L2

namespace Hd
abbrev Q : PySem.Program := PySem.W.view R.prog [16]
abbrev dl : PySem.DefRec := HandSHeadRun.topDef R.prog 16
theorem most63 : PySem.Challenge.rw_snuglay_k00_errors.most = some 63 := by kernel_rfl
theorem noDefaults : dl.params.defaults = [] := by kernel_rfl
theorem itsName : dl.name = ("law" : PySem.Str) := by kernel_rfl
open PySem.Calls PyProof.Rows in
set_option maxHeartbeats 0 in
theorem top (call : PySem.W.WalkO Q loose (PySem.W.XL Q []) hk.says R.toRowW dl [] fun f vs => PySem.call f vs) : PySem.Challenge.rw_snuglay_k00_errors.Holds := by
  w_on; o_law
  refine HandSHeadRun.head_any (r := R) (q := Q) (H := hk) (ob := ob) (M := 6000) (loose := loose) (d := dl) (kwd := []) ob_eq
    (by kernel_rfl) (fun s => by kernel_rfl) run (by kernel_rfl) (by kernel_rfl) (by kernel_rfl) (by kernel_rfl) (by first | assumption | decide +kernel) (by decide +kernel) ⟨by kernel_rfl, by kernel_rfl, by kernel_rfl, by kernel_rfl, by kernel_rfl, by decide +kernel⟩ ?hw call
  case hw => w_witness2
end Hd
end Dm
namespace Dm
open PySem PySem.Spec L2

section
variable {G : Gx} {c c' : Cc} {σ : L2.St} {H H' : Hp} {s : Sd} {S : List Ob} {a p : Addr} {o : Ob}
theorem KvD.mono {κ : Type} {kvs : List (κ × V)} {kds : List (κ × D)} (h : KvD G c kvs kds) (f : ∀ v d, Den' G c v d → Den' G c' v d) : KvD G c' kvs kds := Paired.mapP h fun _ _ q => ⟨q.1, f _ _ q.2⟩
theorem ObDen.mono (h : ObDen G c H a o) (f : ∀ v d, Den' G c v d → Den' G c' v d) (fl : ∀ v d, DenL' G c v d → DenL' G c' v d) (e : ∀ u, H a = some u → H' a = some u) : ObDen G c' H' a o := by
  cases h with
  | lst h1 h2 h3 => exact .lst (e _ h1) (fl _ _ h2) h3
  | dK h1 h2 h3 => exact .dK (e _ h1) (h2.mono f) h3
  | dT h1 h2 h3 => exact .dT (e _ h1) (h2.mono f) h3
  | ins h1 h2 h3 => exact .ins (e _ h1) (h2.mono f) h3
  | exc0 h1 => exact .exc0 (e _ h1)
  | exc1 h1 h2 => exact .exc1 (e _ h1) (f _ _ h2)
  | xd h1 h2 h3 => exact .xd (e _ h1) (h2.mono f) h3
theorem ObDen.there (h : ObDen G c H a o) : ∃ u, H a = some u := by
  cases h with
  | lst h1 => exact ⟨_, h1⟩
  | dK h1 => exact ⟨_, h1⟩
  | dT h1 => exact ⟨_, h1⟩
  | ins h1 => exact ⟨_, h1⟩
  | exc0 h1 => exact ⟨_, h1⟩
  | exc1 h1 => exact ⟨_, h1⟩
  | xd h1 => exact ⟨_, h1⟩
theorem Base.get (b : Base G c H S) {n : Nat} (h : c.ρ[n]? = some a) : ∃ o, S[n]? = some o ∧ ObDen G c H a o := by
  have hn : n < S.length := by rw [b.len]; exact (List.getElem?_eq_some_iff.mp h).1
  obtain ⟨a', h1, h2⟩ := b.ob n S[n] (List.getElem?_eq_getElem hn)
  rw [h] at h1; cases h1
  exact ⟨_, List.getElem?_eq_getElem hn, h2⟩
theorem Base.there (b : Base G c H S) (h : a ∈ c.ρ) : ∃ u, H a = some u := by
  obtain ⟨n, hn⟩ := List.mem_iff_getElem?.mp h
  obtain ⟨o, _, q⟩ := b.get hn
  exact q.there
/-- the heap grows, what stands still grows by new things -/
theorem Rel.grow (r : Rel G c σ H s) {F' : Hp} (hH : ∀ b o, H b = some o → H' b = some o) (hF : Sub c.F F') (hF' : Sub F' H') (fn : ∀ a o, F' a = some o → c.F a = some o ∨ H a = none) :
    Rel G { c with F := F' } σ H' s ∧ Ext c H { c with F := F' } H' := by
  have den : ∀ v d, Den' G c v d → Den' G { c with F := F' } v d := fun v d h => Den.mono hF (Pre.refl _) h
  have denL : ∀ v d, DenL' G c v d → DenL' G { c with F := F' } v d := fun v d h => DenL.mono hF (Pre.refl _) h
  have off : ∀ a u, H a = some u → c.F a = none → F' a = none := fun a u h1 h2 => by
    cases e : F' a with
    | none => rfl
    | some o =>
      rcases fn a o e with z | z
      · rw [h2] at z; cases z
      · rw [h1] at z; cases z
  refine ⟨⟨⟨hF', r.base.len, fun n o h => ?_, fun a ha => ?_, r.base.nd⟩, ?_, r.len, fun i d h => ?_, fun i xs h => ?_, r.inj, fun i a h => let ⟨o, e⟩ := r.oth i a h; ⟨o, hH _ _ e⟩⟩, ?_⟩
  · obtain ⟨a, h1, h2⟩ := r.base.ob n o h
    exact ⟨a, h1, h2.mono den denL fun u e => hH _ _ e⟩
  · obtain ⟨u, hu⟩ := r.base.there ha
    exact off a u hu (r.base.dis a ha)
  · exact r.step.trans ⟨hF, fun a o h => (fn a o h).elim .inl fun z => .inr (.inl z), ⟨[], by simp, fun _ h => by cases h⟩, fun b o h _ => hH b o h, fun b o h => ⟨o, hH b o h⟩⟩
  · obtain ⟨h1, v, h2, h3⟩ := r.val i d h
    exact ⟨h1, v, h2, den _ _ h3⟩
  · obtain ⟨h0, a, vs, ha, h1, h2, h3, h4, h5, h6⟩ := r.own i xs h
    exact ⟨h0, a, vs, ha, h1, hH _ _ h2, off _ _ h2 h3, h4, h5, denL _ _ h6⟩
  · exact ⟨hF, fun a o h => (fn a o h).elim .inl fun z => .inr (.inl z), ⟨[], by simp, fun _ h => by cases h⟩, fun b o h _ => hH b o h, fun b o h => ⟨o, hH b o h⟩, rfl, rfl⟩
theorem Rel.off (r : Rel G c σ H s) (h : H p = none) : c.F p = none := by
  cases e : c.F p with
  | none => rfl
  | some o => rw [r.base.sub _ _ e] at h; cases h
theorem keep_upd {o : HO} (h : H p = none) : ∀ b u, H b = some u → upd H p o b = some u := fun b u e => by rw [upd_ne (ne_of_none e h)]; exact e
/-- a new thing that will stand still -/
theorem Rel.new (r : Rel G c σ H s) (h : H p = none) (o : HO) : Rel G { c with F := upd c.F p o } σ (upd H p o) s ∧ Ext c H { c with F := upd c.F p o } (upd H p o) := by
  refine r.grow (keep_upd h) (fun b u e => keep_upd (r.off h) b u e) (fun b u e => ?_) (fun b u e => ?_)
  · by_cases hb : b = p
    · subst hb; rw [upd_same] at e ⊢; exact e
    · rw [upd_ne hb] at e ⊢; exact r.base.sub _ _ e
  · by_cases hb : b = p
    · subst hb; exact .inr h
    · rw [upd_ne hb] at e; exact .inl e
/-- a new thing, not told -/
theorem Rel.add (r : Rel G c σ H s) (hH : ∀ b o, H b = some o → H' b = some o) : Rel G c σ H' s ∧ Ext c H c H' :=
  r.grow hH (Sub.refl _) (fun b u e => hH _ _ (r.base.sub b u e)) fun _ _ h => .inl h
end

def asL (s : Sd) : D → Option (List D)
  | .lst xs => some xs
  | .own i => match s.σ[i]? with
    | some (some (.own xs)) => some xs
    | _ => none
  | .ref n => match s.S[n]? with
    | some (.lst xs) => some xs
    | _ => none
  | _ => none
theorem asL_den {G : Gx} {c : Cc} {σ : L2.St} {H : Hp} {s : Sd} (r : Rel G c σ H s) {d : D} {v : V} {xs : List D} (h : asL s d = some xs) (hd : Den' G c v d) : ∃ a vs, v = .ref a ∧ SqL G.K H a vs ∧ DenL' G c vs xs := by
  cases hd with
  | lst q l =>
    have e : _ = xs := Option.some.inj h
    subst e
    exact ⟨_, _, rfl, r.base.sub.sqL q, l⟩
  | @own a i ea =>
    simp only [asL] at h
    split at h
    · rename_i ys e
      have e' : ys = xs := Option.some.inj h
      subst e'
      obtain ⟨_, b, vs, hb, _, h2, _, _, _, h6⟩ := r.own i ys e
      rw [ea] at hb; cases hb
      exact ⟨_, vs, rfl, SqL.of h2, h6⟩
    · cases h
  | @ref a n e =>
    simp only [asL] at h
    split at h
    · rename_i ys e2
      have e' : ys = xs := Option.some.inj h
      subst e'
      obtain ⟨a', h1, h2⟩ := r.base.ob n _ e2
      rw [e] at h1; cases h1
      cases h2 with
      | lst h3 h4 _ => exact ⟨_, _, rfl, SqL.of h3, h4⟩
    · cases h
  | non => cases h
  | bl => cases h
  | int => cases h
  | str => cases h
  | tup => cases h
  | con => cases h
/-- a list's or a tuple's items -/
def asS (s : Sd) : D → Option (List D)
  | .tup xs => some xs
  | .con ns => some (ns.map .int)
  | d => asL s d
def getS (d : D) : M (List D) := fun s => match asS s d with
  | some xs => some (.ok xs s)
  | none => none
def getL (d : D) : M (List D) := fun s => match asL s d with
  | some xs => some (.ok xs s)
  | none => none
theorem denL_ints {K F ρ O} : ∀ ns : List Int, DenL K F ρ O (ns.map V.int) (ns.map D.int)
  | [] => .nil
  | n :: ns => .cons (.int n) (denL_ints ns)
section
variable {G : Gx} {W : WXd} {c : Cc} {σ : L2.St} {H : Hp} {s : Sd} {β : Type}
theorem Run.getL {d : D} {k : List D → M β} {R : β → Cc → Hp → Prop} (h : Run G W c s (bnd (getL d) k) σ H R) {v : V} (hd : Den' G c v d) :
    ∃ a vs xs, v = .ref a ∧ SqL G.K H a vs ∧ DenL' G c vs xs ∧ Run G W c s (k xs) σ H R := by
  obtain ⟨r, h⟩ := h
  unfold bnd Dm.getL at h
  cases e : asL s d with
  | none => simp only [e] at h
  | some xs =>
    simp only [e] at h
    obtain ⟨a, vs, h1, h2, h3⟩ := asL_den r e hd
    exact ⟨a, vs, xs, h1, h2, h3, r, h⟩
theorem asS_den {d : D} {v : V} {xs : List D} (r : Rel G c σ H s) (h : asS s d = some xs) (hd : Den' G c v d) : ∃ a vs, v = .ref a ∧ (SqL G.K H a vs ∨ SqT G.K H a vs) ∧ DenL' G c vs xs := by
  have other : asL s d = some xs → ∃ a vs, v = .ref a ∧ (SqL G.K H a vs ∨ SqT G.K H a vs) ∧ DenL' G c vs xs := fun h => by
    obtain ⟨a, vs, h1, h2, h3⟩ := asL_den r h hd
    exact ⟨a, vs, h1, .inl h2, h3⟩
  cases d with
  | tup ys =>
    have e : ys = xs := Option.some.inj h
    subst e
    cases hd with
    | tup q l => exact ⟨_, _, rfl, .inr (r.base.sub.sqT q), l⟩
  | non => exact other h
  | bl => exact other h
  | int => exact other h
  | str => exact other h
  | lst => exact other h
  | ref => exact other h
  | own => exact other h
  | con ns =>
    have e : ns.map D.int = xs := Option.some.inj h
    subst e
    cases hd with
    | con q => exact ⟨_, _, rfl, .inr q.t, denL_ints ns⟩
theorem Run.getS {d : D} {k : List D → M β} {R : β → Cc → Hp → Prop} (h : Run G W c s (bnd (getS d) k) σ H R) {v : V} (hd : Den' G c v d) :
    ∃ a vs xs, v = .ref a ∧ (SqL G.K H a vs ∨ SqT G.K H a vs) ∧ DenL' G c vs xs ∧ Run G W c s (k xs) σ H R := by
  obtain ⟨r, h⟩ := h
  unfold bnd Dm.getS at h
  cases e : asS s d with
  | none => simp only [e] at h
  | some xs =>
    simp only [e] at h
    obtain ⟨a, vs, h1, h2, h3⟩ := asS_den r e hd
    exact ⟨a, vs, xs, h1, h2, h3, r, h⟩
end

abbrev gx (X : Cx) (cl : Nat → Addr) : Gx := ⟨X.K, cl⟩
def eVar (i : Nat) : M D := fun s => match s.σ[i]? with
  | some (some (.val d)) => some (.ok d s)
  | some (some (.own _)) => some (.ok (.own i) s)
  | _ => none
section
variable {X : Cx} {cl : Nat → Addr} {W : WXd} {a b e : Expr} {pos : Pos}
theorem pd_var {i : Nat} {x : Str} (hN : X.N[i]? = some x) (hv : Vis X.env.scope x) (hd : (x == ("__debug__" : Str)) = false := by decide) (hcd : (x == ("__classdict__" : Str)) = false := by decide) :
    PE X (.Name x pos) (tD (gx X cl) W (eVar i)) := by
  refine PE.imp (pe_var hN hv hd hcd) fun σ H Q h => ?_
  obtain ⟨c, s, r, h⟩ := h
  unfold eVar at h
  split at h
  · rename_i d' s' he
    split at he
    · rename_i d e2
      cases he
      obtain ⟨_, v, h2, h3⟩ := r.val i _ e2
      exact ⟨v, h2, h H c r (Ext.refl _ _) v h3⟩
    · rename_i xs e2
      cases he
      obtain ⟨_, a, vs, ha, h1, _⟩ := r.own i _ e2
      exact ⟨_, h1, h H c r (Ext.refl _ _) _ (.own ha)⟩
    · cases he
  · rename_i he
    split at he <;> cases he
  · exact h.elim
/-- the name in the i-th slot -/
theorem pdv (i : Nat) {x : Str} {pos : Pos} (hN : X.N[i]? = some x := by rfl) (hv : Vis X.env.scope x := by first | exact Or.inl rfl | exact Or.inr (Or.inl rfl) | exact Or.inr (Or.inr rfl)) (hd : (x == ("__debug__" : Str)) = false := by decide)
    (hcd : (x == ("__classdict__" : Str)) = false := by decide) : PE X (.Name x pos) (tD (gx X cl) W (eVar i)) := pd_var hN hv hd hcd
theorem tD_ret {G : Gx} {d : D} {σ : L2.St} {H : Hp} {Q : VK} (h : tD G W (ret d) σ H Q) : ∃ c s, Rel G c σ H s ∧ ∀ v, Den' G c v d → Q v H := by
  obtain ⟨c, s, h⟩ := h
  exact ⟨c, s, h.1, Run.ret h⟩
theorem pd_int {i j} : PE X (.Constant (.int i) j pos) (tD (gx X cl) W (ret (.int i))) := PE.imp pe_int fun _ _ _ h => let ⟨_, _, _, q⟩ := tD_ret h; q _ (.int i)
theorem pd_bl {b j} : PE X (.Constant (.bool b) j pos) (tD (gx X cl) W (ret (.bl b))) := PE.imp pe_bl fun _ _ _ h => let ⟨_, _, _, q⟩ := tD_ret h; q _ (.bl b)
theorem pd_non {j} : PE X (.Constant .none j pos) (tD (gx X cl) W (ret .non)) := PE.imp pe_non fun _ _ _ h => let ⟨_, _, _, q⟩ := tD_ret h; q _ .non
theorem pd_str {x j} : PE X (.Constant (.str x) j pos) (tD (gx X cl) W (ret (.str x))) := PE.imp pe_str fun _ _ _ h => let ⟨_, _, _, q⟩ := tD_ret h; q _ (.str x)
theorem pd_op {op : Operator} {r : R2} {f : D → D → M D} {ma mb : M D} (ho : OpR X (binaryOp op) r)
    (hr : ∀ c s σ H x y d e Q, Den' (gx X cl) c x d → Den' (gx X cl) c y e → Run (gx X cl) W c s (f d e) σ H (fun d' c' H' => ∀ v, Den' (gx X cl) c' v d' → Q v H') → r x y H Q)
    (ha : PE X a (tD (gx X cl) W ma)) (hb : PE X b (tD (gx X cl) W mb)) : PE X (.BinOp a op b pos) (tD (gx X cl) W (bnd ma fun d => bnd mb fun e => f d e)) := by
  refine PE.imp (pe_op ho ha hb) fun σ H Q h => ?_
  obtain ⟨c, s, h⟩ := h
  obtain ⟨c0, s0, h1⟩ := Run.fst h
  refine ⟨c0, s0, h1.mono fun d c1 H1 _ q v hv => ?_⟩
  obtain ⟨c1', s1, d', m1, hd, h2⟩ := q v hv
  obtain ⟨c2, s2, h3⟩ := Run.fst h2
  refine ⟨c2, s2, h3.mono fun e c3 H3 _ q2 u hu => ?_⟩
  obtain ⟨c3', s3, e', m3, he, h4⟩ := q2 u hu
  exact hr c3' s3 σ H3 v u d' e' Q (m3.den hd) he h4
theorem pd_un {op : UnaryOp} {r : V → Hp → VK → Prop} {f : D → M D} {ma : M D} (ho : UnR X (unaryOp op) r)
    (hr : ∀ c s σ H x d Q, Den' (gx X cl) c x d → Run (gx X cl) W c s (f d) σ H (fun d' c' H' => ∀ v, Den' (gx X cl) c' v d' → Q v H') → r x H Q)
    (ha : PE X a (tD (gx X cl) W ma)) : PE X (.UnaryOp op a pos) (tD (gx X cl) W (bnd ma f)) := by
  refine PE.imp (pe_un ho ha) fun σ H Q h => ?_
  obtain ⟨c, s, h⟩ := h
  obtain ⟨c0, s0, h1⟩ := Run.fst h
  refine ⟨c0, s0, h1.mono fun d c1 H1 _ q v hv => ?_⟩
  obtain ⟨c1', s1, d', m1, hd, h2⟩ := q v hv
  exact hr c1' s1 σ H1 v d' Q hd h2
/-- a comparison, as a value and as a test -/
def asV (m : M Bool) : M D := bnd m fun b => ret (.bl b)
def cmp2 (f : D → D → M Bool) (ma mb : M D) : M Bool := bnd ma fun d => bnd mb fun e => f d e
abbrev CmpOk (X : Cx) (cl : Nat → Addr) (W : WXd) (r : R2) (f : D → D → M Bool) : Prop :=
  ∀ c s σ H x y d e Q, Den' (gx X cl) c x d → Den' (gx X cl) c y e → Run (gx X cl) W c s (f d e) σ H (fun b _ H' => Q (.bl b) H') → r x y H Q
theorem cmp_walk {r : R2} {f : D → D → M Bool} {ma mb : M D} (hr : CmpOk X cl W r f) {σ : L2.St} {H : Hp} {Q : VK}
    (h : ∃ c s, Run (gx X cl) W c s (cmp2 f ma mb) σ H fun b _ H' => Q (.bl b) H') : tOp r (tD (gx X cl) W ma) (tD (gx X cl) W mb) σ H Q := by
  obtain ⟨c, s, h⟩ := h
  obtain ⟨c0, s0, h1⟩ := Run.fst h
  refine ⟨c0, s0, h1.mono fun d c1 H1 _ q v hv => ?_⟩
  obtain ⟨c1', s1, d', m1, hd, h2⟩ := q v hv
  obtain ⟨c2, s2, h3⟩ := Run.fst h2
  refine ⟨c2, s2, h3.mono fun e c3 H3 _ q2 u hu => ?_⟩
  obtain ⟨c3', s3, e', m3, he, h4⟩ := q2 u hu
  exact hr c3' s3 σ H3 v u d' e' Q (m3.den hd) he h4
theorem asV_run {G : Gx} {m : M Bool} {σ : L2.St} {H : Hp} {Q : VK} (h : tD G W (asV m) σ H Q) : ∃ c s, Run G W c s m σ H fun b _ H' => Q (.bl b) H' := by
  obtain ⟨c, s, h⟩ := h
  refine ⟨c, s, (Run.bind h).mono fun b c1 H1 _ q => ?_⟩
  obtain ⟨s1, q⟩ := q
  exact Run.ret q _ (.bl b)
theorem pd_cmp {op : CmpOp} {r : R2} {f : D → D → M Bool} {ma mb : M D} (ho : OpR X (compareOp op) r) (hr : CmpOk X cl W r f)
    (ha : PE X a (tD (gx X cl) W ma)) (hb : PE X b (tD (gx X cl) W mb)) (hm : behindInMarks op b = false := by first | exact nomark _ | rfl) : PE X (.Compare a [op] [b] pos) (tD (gx X cl) W (asV (cmp2 f ma mb))) :=
  PE.imp (pe_cmpR ho ha hb hm) fun _ _ _ h => cmp_walk hr (asV_run h)
theorem ptd_cmp {op : CmpOp} {r : R2} {f : D → D → M Bool} {ma mb : M D} (ho : OpR X (compareOp op) r) (hr : CmpOk X cl W r f)
    (ha : PE X a (tD (gx X cl) W ma)) (hb : PE X b (tD (gx X cl) W mb)) (hm : behindInMarks op b = false := by first | exact nomark _ | rfl) : PT X (.Compare a [op] [b] pos) (tBo (gx X cl) W (cmp2 f ma mb)) :=
  PT.imp (pt_cmpR ho ha hb hm) fun σ H Q h => cmp_walk hr (by
    obtain ⟨c, s, h⟩ := h
    exact ⟨c, s, h.mono fun b c1 H1 _ q => ⟨b, rfl, q⟩⟩)
/-- a op1 b op2 c -/
def chain3 (f g : D → D → M Bool) (ma mb mc : M D) : M Bool := bnd ma fun d => bnd mb fun e => bnd (f d e) fun k => if k then bnd mc fun z => g e z else ret false
variable {rest : List Expr}
def mAnd (m n : M Bool) : M Bool := bnd m fun b => if b then n else ret false
def mOr (m n : M Bool) : M Bool := bnd m fun b => if b then ret true else n
def mNot (m : M Bool) : M Bool := bnd m fun b => ret (!b)
theorem pwd_or1 {m : M Bool} (ha : PT X a (tBo (gx X cl) W m)) : PW X (.BoolOp .Or [a] pos) (tBo (gx X cl) W m) := pw_or1 ha
theorem pwd_or {m n : M Bool} (ha : PT X a (tBo (gx X cl) W m)) (hb : PW X (.BoolOp .Or (b :: rest) pos) (tBo (gx X cl) W n)) : PW X (.BoolOp .Or (a :: b :: rest) pos) (tBo (gx X cl) W (mOr m n)) := by
  refine PW.imp (pw_or ha hb) fun σ H Q h => ?_
  obtain ⟨c, s, h⟩ := h
  refine ⟨c, s, (Run.bind h).mono fun k c1 H1 _ q => ?_⟩
  obtain ⟨s1, q⟩ := q
  cases k with
  | false => exact ⟨c1, s1, q⟩
  | true => exact Run.ret q
theorem ptd_not {m : M Bool} (ha : PT X a (tBo (gx X cl) W m)) : PT X (.UnaryOp .Not a pos) (tBo (gx X cl) W (mNot m)) := by
  refine PT.imp (pt_not ha) fun σ H Q h => ?_
  obtain ⟨c, s, h⟩ := h
  refine ⟨c, s, (Run.bind h).mono fun k c1 H1 _ q => ?_⟩
  obtain ⟨s1, q⟩ := q
  exact Run.ret q
/-- as values: all but the last True or False -/
def vAnd (m n : M D) : M D := bnd m fun d => match d with
  | .bl true => n
  | .bl false => ret (.bl false)
  | _ => stuck
def vOr (m n : M D) : M D := bnd m fun d => match d with
  | .bl true => ret (.bl true)
  | .bl false => n
  | _ => stuck
def vNot (m : M D) : M D := bnd m fun d => match d with
  | .bl b => ret (.bl (!b))
  | _ => stuck
theorem Den.bl_of {K F ρ O v b} (h : Den K F ρ O v (.bl b)) : v = .bl b := by cases h; rfl
theorem Den.int_of {K F ρ O v i} (h : Den K F ρ O v (.int i)) : v = .int i := by cases h; rfl
theorem Den.str_of {K F ρ O v i} (h : Den K F ρ O v (.str i)) : v = .str i := by cases h; rfl
theorem Den.non_of {K F ρ O v} (h : Den K F ρ O v .non) : v = .non := by cases h; rfl
theorem pdo_one {op} {m : M D} (h : PE X a (tD (gx X cl) W m)) : PE X (.BoolOp op [a] pos) (tD (gx X cl) W m) := pe_one h
theorem pdo_and {m n : M D} (ha : PE X a (tD (gx X cl) W m)) (hb : PE X (.BoolOp .And (b :: rest) pos) (tD (gx X cl) W n)) : PE X (.BoolOp .And (a :: b :: rest) pos) (tD (gx X cl) W (vAnd m n)) := by
  refine PE.imp (pe_and ha hb) fun σ H Q h => ?_
  obtain ⟨c, s, h⟩ := h
  obtain ⟨c0, s0, h1⟩ := Run.fst h
  refine ⟨c0, s0, h1.mono fun d c1 H1 _ q v hv => ?_⟩
  obtain ⟨c1', s1, d', m1, hd, h2⟩ := q v hv
  cases d' with
  | bl k =>
    obtain rfl := hd.bl_of
    refine ⟨k, rfl, ?_⟩
    cases k with
    | true => exact ⟨c1', s1, h2⟩
    | false => exact Run.ret h2 _ (.bl _)
  | _ => exact Run.no h2
theorem pdo_or {m n : M D} (ha : PE X a (tD (gx X cl) W m)) (hb : PE X (.BoolOp .Or (b :: rest) pos) (tD (gx X cl) W n)) : PE X (.BoolOp .Or (a :: b :: rest) pos) (tD (gx X cl) W (vOr m n)) := by
  refine PE.imp (pe_or ha hb) fun σ H Q h => ?_
  obtain ⟨c, s, h⟩ := h
  obtain ⟨c0, s0, h1⟩ := Run.fst h
  refine ⟨c0, s0, h1.mono fun d c1 H1 _ q v hv => ?_⟩
  obtain ⟨c1', s1, d', m1, hd, h2⟩ := q v hv
  cases d' with
  | bl k =>
    obtain rfl := hd.bl_of
    refine ⟨k, rfl, ?_⟩
    cases k with
    | false => exact ⟨c1', s1, h2⟩
    | true => exact Run.ret h2 _ (.bl _)
  | _ => exact Run.no h2
theorem pdo_not {m : M D} (ha : PE X a (tD (gx X cl) W m)) : PE X (.UnaryOp .Not a pos) (tD (gx X cl) W (vNot m)) := by
  refine PE.imp (pe_not ha) fun σ H Q h => ?_
  obtain ⟨c, s, h⟩ := h
  obtain ⟨c0, s0, h1⟩ := Run.fst h
  refine ⟨c0, s0, h1.mono fun d c1 H1 _ q v hv => ?_⟩
  obtain ⟨c1', s1, d', m1, hd, h2⟩ := q v hv
  cases d' with
  | bl k =>
    obtain rfl := hd.bl_of
    exact ⟨k, rfl, Run.ret h2 _ (.bl _)⟩
  | _ => exact Run.no h2
def eIf (t : M Bool) (m n : M D) : M D := bnd t fun b => if b then m else n
/-- a value's truth -/
def truM (d : D) : M Bool := match d with
  | .non => ret false
  | .bl b => ret b
  | .int i => ret (i != 0)
  | .str y => grd (decide (y.length ≤ sizeLine)) (ret ((y.length : Int) != 0))
  | d => bnd (getS d) fun xs => ret (!xs.isEmpty)
theorem DenL.empty {K F ρ O} {vs : List V} {ds : List D} (h : DenL K F ρ O vs ds) : (!vs.isEmpty) = !ds.isEmpty := by cases h <;> rfl
theorem tru_den {G : Gx} {c : Cc} {s : Sd} {σ : L2.St} {H : Hp} {v : V} {d : D} {R : Bool → Cc → Hp → Prop} (hd : Den' G c v d) (h : Run G W c s (truM d) σ H R) : ∃ k, TruV G.K v H k ∧ R k c H := by
  have seq : ∀ {d : D} {v : V}, Den' G c v d → Run G W c s (bnd (getS d) fun xs => ret (!xs.isEmpty)) σ H R → ∃ k, TruV G.K v H k ∧ R k c H := by
    intro d v hd h
    obtain ⟨a, vs, xs, rfl, hq, hl, h2⟩ := Run.getS h hd
    refine ⟨!xs.isEmpty, ?_, Run.ret h2⟩
    rcases hq with hq | hq
    · exact .inl ⟨vs, hq, hl.empty.symm⟩
    · exact .inr (.inl ⟨vs, hq, hl.empty.symm⟩)
  cases hd with
  | non => exact ⟨false, rfl, Run.ret h⟩
  | bl b => exact ⟨b, rfl, Run.ret h⟩
  | int i => exact ⟨_, rfl, Run.ret h⟩
  | str x =>
    obtain ⟨hz, h⟩ := Run.grd (show Run G W c s (grd _ _) σ H R from h)
    exact ⟨_, ⟨of_decide_eq_true hz, rfl⟩, Run.ret h⟩
  | tup q l => exact seq (.tup q l) h
  | lst q l => exact seq (.lst q l) h
  | ref e => exact seq (.ref e) h
  | own e => exact seq (.own e) h
  | con e => exact seq (.con e) h
/-- any expression whose test is its value's truth (a name, a call, a subscript, a field: he by fun _ => rfl) -/
theorem ptd_truth {m : M D} (ha : PE X a (tD (gx X cl) W m)) (he : ∀ whole, isTrue a X.env whole = (do let v ← whole; standAt a.pos; holding [v] (truthy v)) := by intro _; rfl) :
    PT X a (tBo (gx X cl) W (bnd m truM)) := by
  refine PT.imp (pt_truth ha he) fun σ H Q h => ?_
  obtain ⟨c, s, h⟩ := h
  obtain ⟨c0, s0, h1⟩ := Run.fst h
  refine ⟨c0, s0, h1.mono fun d c1 H1 _ q v hv => ?_⟩
  obtain ⟨c1', s1, d', m1, hd, h2⟩ := q v hv
  exact tru_den hd h2
end
end Dm
namespace Dm
open PySem PySem.Spec L2

mutual
def D.toPy : D → PyData
  | .non => .none
  | .bl b => .bool b
  | .int i => .int i
  | .str x => .str x
  | .tup xs => .tuple (D.toPys xs)
  | .lst xs => .list (D.toPys xs)
  | .ref _ => .none
  | .own _ => .none
  | .con ns => .tuple (ns.map .int)
def D.toPys : List D → List PyData
  | [] => []
  | x :: xs => x.toPy :: D.toPys xs
end
theorem dpAll_ints {K : PySem.W.Frag} {H : Hp} : ∀ ns : List Int, DpAll K H (ns.map V.int) (ns.map PyData.int)
  | [] => .nil
  | n :: ns => .cons (.int n) (dpAll_ints ns)
mutual
theorem Den.dp {K F ρ O} {H : Hp} (hs : Sub F H) : ∀ {v : V} {d : D}, Den K F ρ O v d → d.pure = true → Dp K H v d.toPy
  | _, _, .non, _ => .non
  | _, _, .bl b, _ => .bl b
  | _, _, .int i, _ => .int i
  | _, _, .str x, _ => .str x
  | _, _, .tup q r, h => .tup (hs.sqT q) (DenL.dp hs r (by simpa [D.pure] using h))
  | _, _, .lst q r, h => .lst (hs.sqL q) (DenL.dp hs r (by simpa [D.pure] using h))
  | _, _, .ref _, h => by simp [D.pure] at h
  | _, _, .own _, h => by simp [D.pure] at h
  | _, _, .con q, _ => .tup q.t (dpAll_ints _)
theorem DenL.dp {K F ρ O} {H : Hp} (hs : Sub F H) : ∀ {vs : List V} {ds : List D}, DenL K F ρ O vs ds → D.pures ds = true → DpAll K H vs (D.toPys ds)
  | _, _, .nil, _ => .nil
  | _, _, .cons a b, h => by
    simp only [D.pures, Bool.and_eq_true] at h
    exact .cons (Den.dp hs a h.1) (DenL.dp hs b h.2)
end
/-- an own list or one of the store by its items -/
def norm (s : Sd) (d : D) : D := match d with
  | .own _ | .ref _ => match asL s d with
    | some xs => .lst xs
    | none => d
  | d => d
theorem norm_dp {G : Gx} {c : Cc} {σ : L2.St} {H : Hp} {s : Sd} (r : Rel G c σ H s) {d : D} {v : V} (hd : Den' G c v d) (hp : (norm s d).pure = true) : Dp G.K H v (norm s d).toPy := by
  have case_l : ∀ {d : D} {v : V}, Den' G c v d → (match asL s d with | some xs => D.lst xs | none => d).pure = true → d.pure = false → Dp G.K H v (match asL s d with | some xs => D.lst xs | none => d).toPy := by
    intro d v hd hp hn
    cases e : asL s d with
    | none => rw [e] at hp; simp only at hp; rw [hn] at hp; cases hp
    | some xs =>
      rw [e] at hp
      obtain ⟨a, vs, rfl, h2, h3⟩ := asL_den r e hd
      exact .lst h2 (h3.dp r.base.sub (by simpa [D.pure] using hp))
  cases hd with
  | own e => exact case_l (.own e) hp rfl
  | ref e => exact case_l (.ref e) hp rfl
  | non => exact .non
  | bl b => exact .bl b
  | int i => exact .int i
  | str x => exact .str x
  | tup q l => exact Den.dp r.base.sub (.tup q l) hp
  | lst q l => exact Den.dp r.base.sub (.lst q l) hp
  | con q => exact Den.dp (ρ := c.ρ) (O := c.O) r.base.sub (.con q) hp
/-- == of data -/
def D.eqv (d e : D) : Bool := PyData.eqv d.toPy e.toPy
/-- what == is asked of: no objects within, not too deep -/
def D.eqOk (d : D) : Bool := d.pure && SeqAt.shaped d.toPy
def eqM (d e : D) : M Bool := fun s => if (norm s d).eqOk && (norm s e).eqOk then some (.ok ((norm s d).eqv (norm s e)) s) else none
def neM (d e : D) : M Bool := bnd (eqM d e) fun b => ret (!b)
section
variable {X : Cx} {cl : Nat → Addr} {W : WXd}
theorem eqM_run {G : Gx} {c : Cc} {σ : L2.St} {H : Hp} {s : Sd} {R : Bool → Cc → Hp → Prop} {x y : V} {d e : D} (hd : Den' G c x d) (he : Den' G c y e) (h : Run G W c s (eqM d e) σ H R) :
    ∃ p q, Dp G.K H x p ∧ Dp G.K H y q ∧ SeqAt.shaped p = true ∧ SeqAt.shaped q = true ∧ R (PyData.eqv p q) c H := by
  obtain ⟨r, h⟩ := h
  unfold eqM at h
  split at h
  · rename_i a s' e1
    split at e1
    · rename_i hc
      cases e1
      simp only [D.eqOk, Bool.and_eq_true] at hc
      obtain ⟨⟨h1, h2⟩, h3, h4⟩ := hc
      exact ⟨_, _, norm_dp r hd h1, norm_dp r he h3, h2, h4, h H c r (Ext.refl _ _)⟩
    · cases e1
  · rename_i e1
    split at e1 <;> cases e1
  · exact h.elim
theorem ok_eq : CmpOk X cl W (rEqD X.K) eqM := by
  intro c s σ H x y d e Q hd he h
  obtain ⟨p, q, h1, h2, h3, h4, h5⟩ := eqM_run hd he h
  exact ⟨p, q, h1, h2, h3, h4, h5⟩
theorem ok_ne : CmpOk X cl W (rNeD X.K) neM := by
  intro c s σ H x y d e Q hd he h
  have h' := (Run.bind h).mono (R' := fun b _ H' => Q (.bl (!b)) H') (fun b c1 H1 _ q => by
    obtain ⟨s1, q⟩ := q
    exact Run.ret q)
  obtain ⟨p, q, h1, h2, h3, h4, h5⟩ := eqM_run hd he h'
  exact ⟨p, q, h1, h2, h3, h4, h5⟩
end

def D.memv (d : D) (xs : List D) : Bool := xs.any fun z => z.eqv d
def strIn : D → D → Option Bool
  | .str a, .str b => some (!(Builtin.Str.occurrences b a 0 b.length 1).isEmpty)
  | _, _ => none
def inM (d e : D) : M Bool := fun s => match asS s e with
  | some xs => if (norm s d).eqOk && (D.lst xs).eqOk then some (.ok ((norm s d).memv xs) s) else none
  | none => match strIn d e with
    | some b => some (.ok b s)
    | none => none
def notInM (d e : D) : M Bool := bnd (inM d e) fun b => ret (!b)
section
variable {X : Cx} {cl : Nat → Addr} {W : WXd}
def isNM (d e : D) : M Bool := match d, e with
  | .non, .non => ret true
  | _, .non => ret false
  | _, _ => stuck
theorem isNM_run {G : Gx} {c : Cc} {σ : L2.St} {H : Hp} {s : Sd} {R : Bool → Cc → Hp → Prop} {x y : V} {d e : D} (hd : Den' G c x d) (he : Den' G c y e) (h : Run G W c s (isNM d e) σ H R) : y = .non ∧ R (decide (x = .non)) c H := by
  cases e with
  | non =>
    obtain rfl := he.non_of
    refine ⟨rfl, ?_⟩
    cases d with
    | non => obtain rfl := hd.non_of; exact Run.ret h
    | bl => obtain rfl := hd.bl_of; exact Run.ret h
    | int => obtain rfl := hd.int_of; exact Run.ret h
    | str => obtain rfl := hd.str_of; exact Run.ret h
    | tup => cases hd; exact Run.ret h
    | lst => cases hd; exact Run.ret h
    | ref => cases hd; exact Run.ret h
    | own => cases hd; exact Run.ret h
    | con => cases hd; exact Run.ret h
  | _ => cases d <;> exact Run.no h
theorem ok_isN : CmpOk X cl W (fun x y H Q => y = .non ∧ Q (.bl (decide (x = .non))) H) isNM := fun c s σ H x y d e Q hd he h => isNM_run hd he h
def ltM : D → D → M Bool
  | .int i, .int j => ret (decide (i < j))
  | .str a, .str b => ret (decide (a.cps.toList < b.cps.toList))
  | _, _ => stuck
def leM : D → D → M Bool
  | .int i, .int j => ret (decide (i ≤ j))
  | .str a, .str b => ret (!decide (b.cps.toList < a.cps.toList))
  | _, _ => stuck
def gtM : D → D → M Bool
  | .int i, .int j => ret (decide (j < i))
  | .str a, .str b => ret (decide (b.cps.toList < a.cps.toList))
  | _, _ => stuck
def geM : D → D → M Bool
  | .int i, .int j => ret (decide (j ≤ i))
  | .str a, .str b => ret (!decide (a.cps.toList < b.cps.toList))
  | _, _ => stuck
def rOrd (f : Int → Int → Bool) (g : Str → Str → Bool) : R2 := fun x y H Q => (∃ i j, x = .int i ∧ y = .int j ∧ Q (.bl (f i j)) H) ∨ ∃ i j, x = .str i ∧ y = .str j ∧ Q (.bl (g i j)) H
abbrev rLtA := rOrd (fun i j => decide (i < j)) fun a b => decide (a.cps.toList < b.cps.toList)
abbrev rGeA := rOrd (fun i j => decide (j ≤ i)) fun a b => !decide (a.cps.toList < b.cps.toList)
theorem op_ltA : OpR X (compareOp .Lt) rLtA := op_lt.or op_lt_str
theorem op_geA : OpR X (compareOp .GtE) rGeA := op_ge.or op_ge_str
theorem ord_ok {f : Int → Int → Bool} {g : Str → Str → Bool} {k : D → D → M Bool} (h1 : ∀ i j, k (.int i) (.int j) = ret (f i j)) (h2 : ∀ i j, k (.str i) (.str j) = ret (g i j))
    (h3 : ∀ d e, (∀ i j, ¬ (d = .int i ∧ e = .int j)) → (∀ i j, ¬ (d = .str i ∧ e = .str j)) → k d e = stuck) : CmpOk X cl W (rOrd f g) k := by
  intro c s σ H x y d e Q hd he h
  by_cases q1 : ∃ i j, d = .int i ∧ e = .int j
  · obtain ⟨i, j, rfl, rfl⟩ := q1
    rw [h1] at h
    exact .inl ⟨i, j, hd.int_of, he.int_of, Run.ret h⟩
  · by_cases q2 : ∃ i j, d = .str i ∧ e = .str j
    · obtain ⟨i, j, rfl, rfl⟩ := q2
      rw [h2] at h
      exact .inr ⟨i, j, hd.str_of, he.str_of, Run.ret h⟩
    · rw [h3 d e (fun i j q => q1 ⟨i, j, q⟩) (fun i j q => q2 ⟨i, j, q⟩)] at h
      exact Run.no h
theorem ok_lt : CmpOk X cl W rLtA ltM := ord_ok (fun _ _ => rfl) (fun _ _ => rfl) fun d e a b => by cases d <;> cases e <;> first | rfl | exact absurd ⟨rfl, rfl⟩ (a _ _) | exact absurd ⟨rfl, rfl⟩ (b _ _)
theorem ok_ge : CmpOk X cl W rGeA geM := ord_ok (fun _ _ => rfl) (fun _ _ => rfl) fun d e a b => by cases d <;> cases e <;> first | rfl | exact absurd ⟨rfl, rfl⟩ (a _ _) | exact absurd ⟨rfl, rfl⟩ (b _ _)
end

def addM : D → D → M D
  | .int i, .int j => ret (.int (i + j))
  | .str a, .str b => grd (decide (a.length + b.length ≤ sizeLine)) (ret (.str (a ++ b)))
  | .tup xs, .tup ys => grd (decide (xs.length + ys.length ≤ sizeLine)) (ret (.tup (xs ++ ys)))
  | _, _ => stuck
def subM : D → D → M D
  | .int i, .int j => ret (.int (i - j))
  | _, _ => stuck
def mulM : D → D → M D
  | .int i, .int j => grd (decide (((-(2 ^ 64) < i ∧ i < 2 ^ 64) ∨ (-(2 ^ 64) < j ∧ j < 2 ^ 64)) ∨ i.natAbs.log2 + j.natAbs.log2 < 1000000)) (ret (.int (i * j)))
  | _, _ => stuck
def fdivM : D → D → M D
  | .int i, .int j => if 0 < j then grd (decide (j.natAbs.log2 < 9000)) (ret (.int (i / j))) else grd (decide (j ≠ 0 ∧ j.natAbs.log2 < 9000)) (ret (.int (i.fdiv j)))
  | _, _ => stuck
def modM : D → D → M D
  | .int i, .int j => if 0 < j then ret (.int (i % j)) else grd (decide (j ≠ 0)) (ret (.int (i.fmod j)))
  | _, _ => stuck
def powM : D → D → M D
  | .int i, .int j => grd (decide (0 ≤ j ∧ j ≤ 1000000 ∧ i.natAbs < 2 ^ 64)) (ret (.int (i ^ j.toNat)))
  | _, _ => stuck
def negM : D → M D
  | .int i => ret (.int (-i))
  | _ => stuck
section
variable {X : Cx} {cl : Nat → Addr} {W : WXd} {a b e : Expr} {pos : Pos}
abbrev OpOk (X : Cx) (cl : Nat → Addr) (W : WXd) (r : R2) (f : D → D → M D) : Prop :=
  ∀ c s σ H x y d e Q, Den' (gx X cl) c x d → Den' (gx X cl) c y e → Run (gx X cl) W c s (f d e) σ H (fun d' c' H' => ∀ v, Den' (gx X cl) c' v d' → Q v H') → r x y H Q
/-- for ints alone -/
theorem int_ok {C : Int → Int → Prop} {g : Int → Int → V} {f : D → D → M D} {k : Int → Int → M D} (h1 : ∀ i j, f (.int i) (.int j) = k i j) (h2 : ∀ d e, (∀ i j, ¬ (d = .int i ∧ e = .int j)) → f d e = stuck)
    (h3 : ∀ i j c s σ H (R : D → Cc → Hp → Prop), Run (gx X cl) W c s (k i j) σ H R → C i j ∧ ∃ d, R d c H ∧ ∀ F ρ O, Den X.K F ρ O (g i j) d) : OpOk X cl W (rI C g) f := by
  intro c s σ H x y d e Q hd he h
  by_cases q1 : ∃ i j, d = .int i ∧ e = .int j
  · obtain ⟨i, j, rfl, rfl⟩ := q1
    rw [h1] at h
    obtain ⟨hc, d', q, q2⟩ := h3 i j c s σ H _ h
    exact ⟨i, j, hd.int_of, he.int_of, hc, q _ (q2 _ _ _)⟩
  · rw [h2 d e fun i j q => q1 ⟨i, j, q⟩] at h
    exact Run.no h
theorem ok_sub : OpOk X cl W (rI (fun _ _ => True) fun i j => .int (i - j)) subM := int_ok (k := fun i j => ret (.int (i - j))) (fun _ _ => rfl)
  (fun d e a => by cases d <;> cases e <;> first | rfl | exact absurd ⟨rfl, rfl⟩ (a _ _)) fun i j c s σ H R h => ⟨trivial, _, Run.ret h, fun _ _ _ => .int _⟩
theorem op_subT : OpR X (binaryOp .Sub) (rI (fun _ _ => True) fun i j => .int (i - j)) := opI fun _ _ _ _ _ _ _ _ q => PyProof.Rows.sub_int q
def rMu : R2 := fun x y H Q => rI CMul (fun i j => .int (i * j)) x y H Q ∨ rI CMulW (fun i j => .int (i * j)) x y H Q
theorem op_muA : OpR X (binaryOp .Mult) rMu := op_mul.or op_mulW
theorem ok_mul : OpOk X cl W rMu mulM := by
  intro c s σ H x y d e Q hd he h
  cases d with
  | int i =>
    cases e with
    | int j =>
      have g := of_decide_eq_true h.grd.1
      rcases g with g | g
      · exact .inl ⟨i, j, hd.int_of, he.int_of, g, Run.ret h.grd.2 _ (.int _)⟩
      · exact .inr ⟨i, j, hd.int_of, he.int_of, g, Run.ret h.grd.2 _ (.int _)⟩
    | _ => exact Run.no h
  | _ => exact Run.no h
theorem ok_pow : OpOk X cl W (rI CPow fun i j => .int (i ^ j.toNat)) powM := int_ok (k := fun i j => grd (decide (0 ≤ j ∧ j ≤ 1000000 ∧ i.natAbs < 2 ^ 64)) (ret (.int (i ^ j.toNat)))) (fun _ _ => rfl)
  (fun d e a => by cases d <;> cases e <;> first | rfl | exact absurd ⟨rfl, rfl⟩ (a _ _)) fun i j c s σ H R h => ⟨by have q := of_decide_eq_true h.grd.1; exact q, _, Run.ret h.grd.2, fun _ _ _ => .int _⟩
/-- // by a negative divisor of any size -/
theorem op_fdivM : OpR X (binaryOp .FloorDiv) (rI (fun _ j => j ≠ 0 ∧ j.natAbs.log2 < 9000) fun i j => .int (i.fdiv j)) := opI fun _ _ _ _ _ _ _ hc q => PyProof.Rows.floordiv_int hc.1 q (.inl (PyProof.noPylong_of_log2 hc.2))
def rFd : R2 := fun x y H Q => rI CDivW (fun i j => .int (i / j)) x y H Q ∨ rI (fun _ j => j ≠ 0 ∧ j.natAbs.log2 < 9000) (fun i j => .int (i.fdiv j)) x y H Q
theorem op_fdA : OpR X (binaryOp .FloorDiv) rFd := op_fdivW.or op_fdivM
theorem ok_fdiv : OpOk X cl W rFd fdivM := by
  intro c s σ H x y d e Q hd he h
  cases d with
  | int i =>
    cases e with
    | int j =>
      by_cases hj : 0 < j
      · have e1 : fdivM (.int i) (.int j) = grd (decide (j.natAbs.log2 < 9000)) (ret (.int (i / j))) := if_pos hj
        rw [e1] at h
        exact .inl ⟨i, j, hd.int_of, he.int_of, ⟨hj, of_decide_eq_true h.grd.1⟩, Run.ret h.grd.2 _ (.int _)⟩
      · have e1 : fdivM (.int i) (.int j) = grd (decide (j ≠ 0 ∧ j.natAbs.log2 < 9000)) (ret (.int (i.fdiv j))) := if_neg hj
        rw [e1] at h
        exact .inr ⟨i, j, hd.int_of, he.int_of, by have q := of_decide_eq_true h.grd.1; exact q, Run.ret h.grd.2 _ (.int _)⟩
    | _ => exact Run.no h
  | _ => exact Run.no h
def rMd : R2 := fun x y H Q => rI (fun _ j => 0 < j) (fun i j => .int (i % j)) x y H Q ∨ rI (fun _ j => j ≠ 0) (fun i j => .int (i.fmod j)) x y H Q
theorem op_mdA : OpR X (binaryOp .Mod) rMd := op_mod.or op_modN
theorem ok_mod : OpOk X cl W rMd modM := by
  intro c s σ H x y d e Q hd he h
  cases d with
  | int i =>
    cases e with
    | int j =>
      by_cases hj : 0 < j
      · have e1 : modM (.int i) (.int j) = ret (.int (i % j)) := if_pos hj
        rw [e1] at h
        exact .inl ⟨i, j, hd.int_of, he.int_of, hj, Run.ret h _ (.int _)⟩
      · have e1 : modM (.int i) (.int j) = grd (decide (j ≠ 0)) (ret (.int (i.fmod j))) := if_neg hj
        rw [e1] at h
        exact .inr ⟨i, j, hd.int_of, he.int_of, by have q := of_decide_eq_true h.grd.1; exact q, Run.ret h.grd.2 _ (.int _)⟩
    | _ => exact Run.no h
  | _ => exact Run.no h
theorem ok_neg : ∀ c s σ H x d Q, Den' (gx X cl) c x d → Run (gx X cl) W c s (negM d) σ H (fun d' c' H' => ∀ v, Den' (gx X cl) c' v d' → Q v H') → rU (fun i => .int (-i)) x H Q := by
  intro c s σ H x d Q hd h
  cases d with
  | int i => exact ⟨i, hd.int_of, Run.ret h _ (.int _)⟩
  | _ => exact Run.no h
/-- + of ints, texts, tuples -/
def rAddA (K : PySem.W.Frag) : R2 := fun x y H Q => (rI0 (fun i j => .int (i + j)) x y H Q ∨ ∃ i j, x = .str i ∧ y = .str j ∧ i.length + j.length ≤ sizeLine ∧ Q (.str (i ++ j)) H) ∨ rCatA K x y H Q
theorem op_addA : OpR X (binaryOp .Add) (rAddA X.K) := (op_add.or op_add_str).or op_catA
theorem ok_add : OpOk X cl W (rAddA X.K) addM := by
  intro c s σ H x y d e Q hd he h
  cases d with
  | int i =>
    cases e with
    | int j => exact .inl (.inl ⟨i, j, hd.int_of, he.int_of, Run.ret h _ (.int _)⟩)
    | _ => exact Run.no h
  | str i =>
    cases e with
    | str j =>
      have h := Run.grd (show Run (gx X cl) W c s (grd _ _) σ H _ from h)
      exact .inl (.inr ⟨i, j, hd.str_of, he.str_of, of_decide_eq_true h.1, Run.ret h.2 _ (.str _)⟩)
    | _ => exact Run.no h
  | tup xs =>
    cases e with
    | tup ys =>
      obtain ⟨hz, h⟩ := Run.grd (show Run (gx X cl) W c s (grd _ _) σ H _ from h)
      have hz := of_decide_eq_true hz
      cases hd with
      | @tup a vs _ q l =>
        cases he with
        | @tup b us _ q2 l2 =>
          have r := h.rel
          refine .inr ⟨a, b, vs, us, rfl, rfl, r.base.sub.sqT q, r.base.sub.sqT q2, by rw [l.length, l2.length]; exact hz, fun e => ?_, fun _ e => ?_, fun _ _ p hp => ?_⟩
          · subst e
            cases l
            exact Run.ret h _ (.tup q2 l2)
          · subst e
            cases l2
            have := Run.ret h
            rw [List.append_nil] at this
            exact this _ (.tup q l)
          · obtain ⟨r2, x2⟩ := r.new hp (.tup (vs ++ us))
            exact h.2 _ _ r2 x2 _ (.tup upd_same (x2.denL (l.append l2)))
    | _ => exact Run.no h
  | _ => exact Run.no h
end
end Dm
namespace Dm
open PySem PySem.Spec L2

/-- an expression that makes a new list of these items -/
def tN (G : Gx) (W : WXd) (m : M (List D)) : TE := fun σ H Q => ∃ c s, Run G W c s m σ H fun ds c' H' => ∀ p vs, H' p = none → DenL' G c' vs ds → Q (.ref p) (upd H' p (.lst vs))
def lenOk (m : M (List D)) : M (List D) := bnd m fun ds => grd (decide (ds.length ≤ sizeLine)) (ret ds)
/-- .. that stands still from then on -/
def eFz (m : M (List D)) : M D := bnd m fun ds => ret (.lst ds)
def eTup (m : M (List D)) : M D := bnd m fun ds => grd (decide (ds.length ≤ sizeLine)) (ret (.tup ds))
def consM (m : M D) (ms : M (List D)) : M (List D) := bnd m fun d => bnd ms fun ds => ret (d :: ds)
def nilM : M (List D) := ret []
section
variable {X : Cx} {cl : Nat → Addr} {W : WXd} {a b e : Expr} {es : List Expr} {pos : Pos}
theorem Run.newL {G : Gx} {c : Cc} {s : Sd} {σ : L2.St} {H : Hp} {Q : VK} {ds : List D} {vs : List V} {p : Addr} (h : Run G W c s (Dm.ret (.lst ds)) σ H fun d c' H' => ∀ v, Den' G c' v d → Q v H') (hp : H p = none) (hl : DenL' G c vs ds) : Q (.ref p) (upd H p (.lst vs)) := by
  obtain ⟨r2, x2⟩ := h.rel.new hp (.lst vs)
  exact h.2 _ _ r2 x2 _ (.lst (SqL.of upd_same) (x2.denL hl))
theorem Run.newT {G : Gx} {c : Cc} {s : Sd} {σ : L2.St} {H : Hp} {Q : VK} {ds : List D} {vs : List V} {p : Addr} (h : Run G W c s (Dm.ret (.tup ds)) σ H fun d c' H' => ∀ v, Den' G c' v d → Q v H') (hp : H p = none) (hl : DenL' G c vs ds) : Q (.ref p) (upd H p (.tup vs)) := by
  obtain ⟨r2, x2⟩ := h.rel.new hp (.tup vs)
  exact h.2 _ _ r2 x2 _ (.tup upd_same (x2.denL hl))
theorem pd_fz {m : M (List D)} (h : PE X e (tN (gx X cl) W m)) : PE X e (tD (gx X cl) W (eFz m)) := by
  refine PE.imp h fun σ H Q h => ?_
  obtain ⟨c, s, h⟩ := h
  refine ⟨c, s, (Run.bind h).mono fun ds c1 H1 _ q p vs hp hl => ?_⟩
  obtain ⟨s1, q⟩ := q
  exact q.newL hp hl
theorem pad_nil : PA X [] (tLs (gx X cl) W nilM) := PA.imp pa_nil fun σ H Q h => by
  obtain ⟨c, s, h⟩ := h
  exact Run.ret h [] .nil
theorem pad_cons {m : M D} {ms : M (List D)} (ha : PE X e (tD (gx X cl) W m)) (hr : PA X es (tLs (gx X cl) W ms)) (hs : starEach (e :: es) X.env = (false, eval e X.env) :: starEach es X.env := by rfl) :
    PA X (e :: es) (tLs (gx X cl) W (consM m ms)) := by
  refine PA.imp (pa_cons ha hr hs) fun σ H Q h => ?_
  obtain ⟨c, s, h⟩ := h
  obtain ⟨c0, s0, h1⟩ := Run.fst h
  refine ⟨c0, s0, h1.mono fun d c1 H1 _ q v hv => ?_⟩
  obtain ⟨c1', s1, d', m1, hd, h2⟩ := q v hv
  obtain ⟨c2, s2, h3⟩ := Run.fstL h2
  refine ⟨c2, s2, h3.mono fun ds c3 H3 _ q2 vs hvs => ?_⟩
  obtain ⟨c3', s3, ds', m3, hds, h4⟩ := q2 vs hvs
  exact Run.ret h4 _ (.cons (m3.den hd) hds)
theorem pn_lst {m : M (List D)} (h : PA X es (tLs (gx X cl) W m)) : PE X (.List es pos) (tN (gx X cl) W (lenOk m)) := by
  refine PE.imp (pe_lst h) fun σ H Q h => ?_
  obtain ⟨c, s, h⟩ := h
  obtain ⟨c2, s2, h3⟩ := Run.fstL h
  refine ⟨c2, s2, h3.mono fun ds c3 H3 _ q vs hvs => ?_⟩
  obtain ⟨c3', s3, ds', m3, hds, h4⟩ := q vs hvs
  obtain ⟨hz, h5⟩ := Run.grd h4
  refine ⟨by rw [hds.length]; exact of_decide_eq_true hz, fun p hp => Run.ret h5 p vs hp hds⟩
theorem pd_tup {k} {m : M (List D)} (h : PA X es (tLs (gx X cl) W m)) : PE X (.Tuple es k pos) (tD (gx X cl) W (eTup m)) := by
  refine PE.imp (pe_tup h) fun σ H Q h => ?_
  obtain ⟨c, s, h⟩ := h
  obtain ⟨c2, s2, h3⟩ := Run.fstL h
  refine ⟨c2, s2, h3.mono fun ds c3 H3 _ q vs hvs => ?_⟩
  obtain ⟨c3', s3, ds', m3, hds, h4⟩ := q vs hvs
  obtain ⟨hz, h5⟩ := Run.grd h4
  exact ⟨by rw [hds.length]; exact of_decide_eq_true hz, fun p hp => h5.newT hp hds⟩

def ixM (d i : D) : M D := match i with
  | .int i => match d with
    | .str z => grd (decide (z.length ≤ sizeLine)) (liftO ((atI z.cps.toList i).map fun c => .str ⟨#[c]⟩))
    | d => bnd (getS d) fun xs => liftO (atI xs i)
  | _ => stuck
theorem atI_den {K F ρ O} {vs : List V} {ds : List D} (h : DenL K F ρ O vs ds) {i : Int} {d : D} (e : atI ds i = some d) : ∃ v, atI vs i = some v ∧ Den K F ρ O v d := by
  unfold atI at e ⊢
  rw [h.length]
  cases e1 : ixN ds.length i with
  | none => rw [e1] at e; cases e
  | some j =>
    rw [e1] at e
    exact h.get e
theorem ixM_run {G : Gx} {c : Cc} {s : Sd} {σ : L2.St} {H : Hp} {R : D → Cc → Hp → Prop} {x y : V} {d e : D} (hd : Den' G c x d) (he : Den' G c y e) (h : Run G W c s (ixM d e) σ H R) :
    ∃ i, y = .int i ∧ ((∃ p vs v d', x = .ref p ∧ (SqL G.K H p vs ∨ SqT G.K H p vs) ∧ atI vs i = some v ∧ Den' G c v d' ∧ R d' c H) ∨ ∃ z ch, x = .str z ∧ z.length ≤ sizeLine ∧ atI z.cps.toList i = some ch ∧ R (.str ⟨#[ch]⟩) c H) := by
  cases e with
  | int i =>
    refine ⟨i, he.int_of, ?_⟩
    have seq : Run G W c s (bnd (getS d) fun xs => liftO (atI xs i)) σ H R → (∃ p vs v d', x = .ref p ∧ (SqL G.K H p vs ∨ SqT G.K H p vs) ∧ atI vs i = some v ∧ Den' G c v d' ∧ R d' c H) := fun h => by
      obtain ⟨a, vs, xs, rfl, hq, hl, h2⟩ := Run.getS h hd
      obtain ⟨d', e1, q⟩ := Run.lift h2
      obtain ⟨v, e2, hv⟩ := atI_den hl e1
      exact ⟨a, vs, v, d', rfl, hq, e2, hv, q⟩
    cases d with
    | str z =>
      obtain ⟨hz, h⟩ := Run.grd (show Run G W c s (grd _ _) σ H _ from h)
      obtain ⟨d', e1, q⟩ := Run.lift h
      cases e2 : atI z.cps.toList i with
      | none => rw [e2] at e1; cases e1
      | some ch =>
        rw [e2] at e1
        cases e1
        exact .inr ⟨z, ch, hd.str_of, of_decide_eq_true hz, e2, q⟩
    | non => exact .inl (seq h)
    | bl => exact .inl (seq h)
    | int => exact .inl (seq h)
    | tup => exact .inl (seq h)
    | lst => exact .inl (seq h)
    | ref => exact .inl (seq h)
    | own => exact .inl (seq h)
    | con => exact .inl (seq h)
  | _ => exact Run.no h
theorem pd_ix {ma mb : M D} (ha : PE X a (tD (gx X cl) W ma)) (hb : PE X b (tD (gx X cl) W mb)) (hs : PlainIx b := by exact fun _ _ => rfl) : PE X (.Subscript a b pos) (tD (gx X cl) W (bnd ma fun d => bnd mb fun e => ixM d e)) := by
  refine PE.imp (pe_ix ix_seq ha hb hs) fun σ H Q h => ?_
  obtain ⟨c, s, h⟩ := h
  obtain ⟨c0, s0, h1⟩ := Run.fst h
  refine ⟨c0, s0, h1.mono fun d c1 H1 _ q v hv => ?_⟩
  obtain ⟨c1', s1, d', m1, hd, h2⟩ := q v hv
  obtain ⟨c2, s2, h3⟩ := Run.fst h2
  refine ⟨c2, s2, h3.mono fun e c3 H3 _ q2 u hu => ?_⟩
  obtain ⟨c3', s3, e', m3, he, h4⟩ := q2 u hu
  obtain ⟨i, rfl, h5⟩ := ixM_run (m3.den hd) he h4
  rcases h5 with ⟨p, vs, v', d2, rfl, hq, e2, hv', q⟩ | ⟨z, ch, rfl, hz, e2, q⟩
  · rcases hq with hq | hq
    · exact .inl ⟨p, vs, i, v', rfl, rfl, hq, e2, q _ hv'⟩
    · exact .inr (.inl ⟨p, vs, i, v', rfl, rfl, hq, e2, q _ hv'⟩)
  · exact .inr (.inr ⟨z, i, ch, rfl, rfl, hz, e2, q _ (.str _)⟩)

def cutD {α : Type} (xs : List α) (lo hi : Option Int) : List α := (xs.drop (HT.sIx xs.length 0 lo)).take (HT.sIx xs.length xs.length hi - HT.sIx xs.length 0 lo)
theorem DenL.cut {K F ρ O} {vs : List V} {ds : List D} (h : DenL K F ρ O vs ds) (lo hi : Option Int) : DenL K F ρ O (cutV vs lo hi) (cutD ds lo hi) := by
  unfold cutV cutD
  rw [h.length]
  exact (h.drop _).take _
def partM : Option (M D) → M (Option Int)
  | none => ret none
  | some m => bnd m fun d => match d with
    | .int i => ret (some i)
    | _ => stuck
def slM (d : D) (lo hi : Option Int) : M D := match d with
  | .str z => grd (decide (z.length ≤ sizeLine)) (ret (.str (cutS z lo hi)))
  | .tup xs => ret (.tup (cutD xs lo hi))
  | d => bnd (getL d) fun xs => ret (.lst (cutD xs lo hi))
theorem pod_none : PO X none (fun σ H Q => ∃ c s, Run (gx X cl) W c s (partM none) σ H fun o _ H' => Q o H') := ⟨fun pins s σ H Q I h => po_none.run pins s σ H Q I (by
  obtain ⟨c, s, h⟩ := h
  exact Run.ret h)⟩
theorem pod_some {m : M D} (h : PE X e (tD (gx X cl) W m)) : PO X (some e) (fun σ H Q => ∃ c s, Run (gx X cl) W c s (partM (some m)) σ H fun o _ H' => Q o H') := ⟨fun pins s σ H Q I q => (po_some h).run pins s σ H Q I (by
  obtain ⟨c, s, q⟩ := q
  obtain ⟨c0, s0, h1⟩ := Run.fst q
  refine ⟨c0, s0, h1.mono fun d c1 H1 _ q v hv => ?_⟩
  obtain ⟨c1', s1, d', m1, hd, h2⟩ := q v hv
  cases d' with
  | int i => exact ⟨i, hd.int_of, Run.ret h2⟩
  | _ => exact Run.no h2)⟩
def rSlAny (K : PySem.W.Frag) : V → Option Int → Option Int → Hp → VK → Prop := fun x lo hi H Q => (rSlA K x lo hi H Q ∨ rSlL K x lo hi H Q) ∨ rSlS x lo hi H Q
theorem sl_any : SlR X (rSlAny X.K) := (sl_tupA.or sl_list).or sl_str
theorem HT_sIx_full {K F ρ O} {vs : List V} {ds : List D} (h : DenL K F ρ O vs ds) {lo hi : Option Int} (e : HT.sIx vs.length 0 lo = 0 ∧ HT.sIx vs.length vs.length hi = vs.length) : cutD ds lo hi = ds := by
  rw [h.length] at e
  unfold cutD
  rw [e.1, e.2]
  simp
theorem pd_slice {o : Expr} {lo hi : Option Expr} {p2 : Pos} {mo : M D} {ml mh : Option (M D)} (ho : PE X o (tD (gx X cl) W mo)) (hl : PO X lo (fun σ H Q => ∃ c s, Run (gx X cl) W c s (partM ml) σ H fun o _ H' => Q o H'))
    (hh : PO X hi (fun σ H Q => ∃ c s, Run (gx X cl) W c s (partM mh) σ H fun o _ H' => Q o H')) : PE X (.Subscript o (.Slice lo hi none p2) pos) (tD (gx X cl) W (bnd mo fun d => bnd (partM ml) fun l => bnd (partM mh) fun u => slM d l u)) := by
  refine PE.imp (pe_slice sl_any ho hl hh) fun σ H Q h => ?_
  obtain ⟨c, s, h⟩ := h
  obtain ⟨c0, s0, h1⟩ := Run.fst h
  refine ⟨c0, s0, h1.mono fun d c1 H1 _ q v hv => ?_⟩
  obtain ⟨c1', s1, d', m1, hd, h2⟩ := q v hv
  refine ⟨c1', s1, (Run.bind h2).mono fun l c2 H2 x2 q2 => ?_⟩
  obtain ⟨s2, h3⟩ := q2
  refine ⟨c2, s2, (Run.bind h3).mono fun u c3 H3 x3 q3 => ?_⟩
  obtain ⟨s3, h4⟩ := q3
  have hd3 := x3.den (x2.den hd)
  have lst : ∀ {d' : D}, Den' (gx X cl) c3 v d' → Run (gx X cl) W c3 s3 (bnd (getL d') fun xs => ret (α := D) (.lst (cutD xs l u))) σ H3 (fun d' c' H' => ∀ v, Den' (gx X cl) c' v d' → Q v H') → rSlAny X.K v l u H3 Q := fun hd h => by
    obtain ⟨a, vs, xs, rfl, hq, hl, h2⟩ := Run.getL h hd
    exact .inl (.inr ⟨a, vs, rfl, hq, fun p hp => h2.newL hp (hl.cut l u)⟩)
  cases d' with
  | str z =>
    obtain ⟨hz, h⟩ := Run.grd (show Run (gx X cl) W c3 s3 (grd _ _) σ H3 _ from h4)
    exact .inr ⟨z, hd3.str_of, of_decide_eq_true hz, Run.ret h _ (.str _)⟩
  | tup xs =>
    have h4 := (show Run (gx X cl) W c3 s3 (ret (α := D) (.tup (cutD xs l u))) σ H3 _ from h4)
    cases hd3 with
    | @tup a vs _ q l2 =>
      refine .inl (.inl ⟨a, vs, rfl, h4.rel.base.sub.sqT q, fun e => ?_, fun _ p hp => h4.newT hp (l2.cut l u)⟩)
      rw [HT_sIx_full l2 e] at h4
      exact Run.ret h4 _ (.tup q l2)
  | lst => exact lst hd3 h4
  | own => exact lst hd3 h4
  | con => exact lst hd3 h4
  | ref => exact lst hd3 h4
  | non => exact Run.no h4
  | bl => exact Run.no h4
  | int => exact Run.no h4
def rCatQ (K : PySem.W.Frag) : R2 := fun x y H Q => ∃ l b xs zs, x = .ref l ∧ y = .ref b ∧ SqL K H l xs ∧ SqL K H b zs ∧ xs.length + zs.length ≤ sizeLine ∧ ∀ p, H p = none → Q (.ref p) (upd H p (.lst (xs ++ zs)))
theorem op_catQ : OpR X (binaryOp .Add) (rCatQ X.K) := by
  intro pins s σ H x y v u Q I rx ry h
  obtain ⟨l, b, xs, zs, rfl, rfl, hH, hB, hz, q⟩ := h
  cases rx
  cases ry
  obtain ⟨its, r, ⟨⟨cls, dd, data, sl⟩, n, ho, hc, hdd, hd⟩, _⟩ := I.list hH
  obtain ⟨its2, r2, ⟨⟨cls2, dd2, data2, sl2⟩, n2, ho2, hc2, hdd2, hd2⟩, _⟩ := I.list hB
  simp only at hc hd hc2 hd2
  subst hc hd hc2 hd2
  have hl := r.length
  have hl2 := r2.length
  refine concat_meets ⟨_, ho, rfl⟩ ⟨_, ho2, rfl⟩ noFill_list_add seq_list_add PySem.F.slot_list_add PySem.F.entry_list_add (PySem.F.args_list_add_2 _ _) (PyProof.Rows.list_addW l b its.toArray its2.toArray n n2 dd dd2 sl sl2 (by simp only [List.size_toArray]; omega)) ⟨ho, ho2, ?_⟩
  have ea : its.toArray ++ its2.toArray = (its ++ its2).toArray := by simp
  rw [ea]
  exact ⟨.ref _, _, I.lnew (t' := s.toks) (r.append r2) (by rw [List.length_append]; omega), rfl, q _ I.fresh⟩
def catN (d e : D) : M (List D) := bnd (getL d) fun xs => bnd (getL e) fun ys => grd (decide (xs.length + ys.length ≤ sizeLine)) (ret (xs ++ ys))
theorem pn_cat {ma mb : M D} (ha : PE X a (tD (gx X cl) W ma)) (hb : PE X b (tD (gx X cl) W mb)) : PE X (.BinOp a .Add b pos) (tN (gx X cl) W (bnd ma fun d => bnd mb fun e => catN d e)) := by
  refine PE.imp (pe_op op_catQ ha hb) fun σ H Q h => ?_
  obtain ⟨c, s, h⟩ := h
  obtain ⟨c0, s0, h1⟩ := Run.fst h
  refine ⟨c0, s0, h1.mono fun d c1 H1 _ q v hv => ?_⟩
  obtain ⟨c1', s1, d', m1, hd, h2⟩ := q v hv
  obtain ⟨c2, s2, h3⟩ := Run.fst h2
  refine ⟨c2, s2, h3.mono fun e c3 H3 _ q2 u hu => ?_⟩
  obtain ⟨c3', s3, e', m3, he, h4⟩ := q2 u hu
  obtain ⟨a, vs, xs, rfl, hq, hl, h5⟩ := Run.getL h4 (m3.den hd)
  obtain ⟨b, us, ys, rfl, hq2, hl2, h6⟩ := Run.getL h5 he
  obtain ⟨hz, h7⟩ := Run.grd h6
  exact ⟨a, b, vs, us, rfl, rfl, hq, hq2, by rw [hl.length, hl2.length]; exact of_decide_eq_true hz, fun p hp => Run.ret h7 p _ hp (hl.append hl2)⟩

theorem sub_upd {F : Hp} {p : Addr} {o : HO} (h : F p = none) : Sub F (upd F p o) := fun b u e => by rw [upd_ne (ne_of_none e h)]; exact e
theorem Rel.frz {G : Gx} {c : Cc} {σ : L2.St} {H : Hp} {s : Sd} (r : Rel G c σ H s) {i : Nat} {xs : List D} (e : s.σ[i]? = some (some (.own xs))) {a : Addr} (ha : c.O i = some a) :
    ∃ vs c', H a = some (.lst vs) ∧ Den' G c' (.ref a) (.lst xs) ∧ Rel G c' σ H { s with σ := s.σ.set i (some (.val (.lst xs))) } ∧ Ext c H c' H := by
  obtain ⟨h0, a', vs, ha', h1, h2, h3, h4, h5, h6⟩ := r.own i xs e
  rw [ha] at ha'; cases ha'
  have sF : Sub c.F (upd c.F a (.lst vs)) := sub_upd h3
  have den : ∀ v d, Den' G c v d → Den' G { c with F := upd c.F a (.lst vs) } v d := fun v d h => Den.mono sF (Pre.refl _) h
  have denL : ∀ v d, DenL' G c v d → DenL' G { c with F := upd c.F a (.lst vs) } v d := fun v d h => DenL.mono sF (Pre.refl _) h
  have hi := (List.getElem?_eq_some_iff.mp e).1
  have hd : Den' G { c with F := upd c.F a (.lst vs) } (.ref a) (.lst xs) := .lst (SqL.of upd_same) (denL _ _ h6)
  refine ⟨vs, { c with F := upd c.F a (.lst vs) }, h2, hd, ⟨⟨fun b u q => ?_, r.base.len, fun n o h => ?_, fun b hb => ?_, r.base.nd⟩, ⟨r.step.sub.trans sF, fun b o q => ?_, r.step.more, r.step.keep, r.step.there⟩, by simpa using r.len, fun j d h => ?_, fun j ys h => ?_, fun j k ys zs b hj hk => ?_, r.oth⟩,
    ⟨sF, fun b o q => ?_, ⟨[], by simp, fun _ h => by cases h⟩, fun _ _ h _ => h, fun _ o h => ⟨o, h⟩, rfl, rfl⟩⟩
  · have q : upd c.F a (.lst vs) b = some u := q
    by_cases hb : b = a
    · subst hb; rw [upd_same] at q; rw [h2]; exact q
    · rw [upd_ne hb] at q; exact r.base.sub _ _ q
  · obtain ⟨b, q1, q2⟩ := r.base.ob n o h
    exact ⟨b, q1, q2.mono den denL fun _ z => z⟩
  · show upd c.F a (.lst vs) b = none
    rw [upd_ne (fun z : b = a => h4 (z ▸ hb))]
    exact r.base.dis b hb
  · have q : upd c.F a (.lst vs) b = some o := q
    by_cases hb : b = a
    · subst hb; exact .inr (.inl h5)
    · rw [upd_ne hb] at q; exact r.step.fn b o q
  · have h : (s.σ.set i (some (.val (.lst xs))))[j]? = some (some (.val d)) := h
    by_cases hj : j = i
    · subst hj
      rw [List.getElem?_set_self hi] at h
      cases h
      exact ⟨h0, _, h1, hd⟩
    · rw [List.getElem?_set_ne (Ne.symm hj)] at h
      obtain ⟨q1, v, q2, q3⟩ := r.val j d h
      exact ⟨q1, v, q2, den _ _ q3⟩
  · have h : (s.σ.set i (some (.val (.lst xs))))[j]? = some (some (.own ys)) := h
    by_cases hj : j = i
    · subst hj
      rw [List.getElem?_set_self hi] at h
      cases h
    · rw [List.getElem?_set_ne (Ne.symm hj)] at h
      obtain ⟨q0, b, us, qb, q1, q2, q3, q4, q5, q6⟩ := r.own j ys h
      refine ⟨q0, b, us, qb, q1, q2, ?_, q4, q5, denL _ _ q6⟩
      show upd c.F a (.lst vs) b = none
      rw [upd_ne (fun z : b = a => hj (r.inj j i ys xs a h e (z ▸ qb) ha))]
      exact q3
  · have hj : (s.σ.set i (some (.val (.lst xs))))[j]? = some (some (.own ys)) := hj
    have hk : (s.σ.set i (some (.val (.lst xs))))[k]? = some (some (.own zs)) := hk
    have nj : j ≠ i := fun z => by subst z; rw [List.getElem?_set_self hi] at hj; cases hj
    have nk : k ≠ i := fun z => by subst z; rw [List.getElem?_set_self hi] at hk; cases hk
    rw [List.getElem?_set_ne (Ne.symm nj)] at hj
    rw [List.getElem?_set_ne (Ne.symm nk)] at hk
    exact r.inj j k ys zs b hj hk
  · have q : upd c.F a (.lst vs) b = some o := q
    by_cases hb : b = a
    · subst hb; exact .inr (.inr (.inl ⟨i, ha⟩))
    · rw [upd_ne hb] at q; exact .inl q
inductive Fr where
  | ok (d : D) (S : List Ob) | ex (e : Ex) (S : List Ob)
/-- what a def computes, of its arguments and the store -/
abbrev Fn := List D → List Ob → Option Fr
/-- the promise of a def that computes F -/
def spD (G : Gx) (F : Fn) : Sp := fun vs H Q E => ∃ c ds S, Base G c H S ∧ DenL' G c vs ds ∧ D.noOwns ds = true ∧ match F ds S with
  | some (.ok d S') => ∀ v H' c', Base G c' H' S' → Step c.F c.ρ H c'.F c'.ρ H' → d.noOwn = true → Den' G c' v d → Q v H'
  | some (.ex e S') => ∀ dx H' c', Base G c' H' S' → Step c.F c.ρ H c'.F c'.ρ H' → D.noOwns (e.fs.map (·.2)) = true → ExDen G c' H' e dx → E (.ref (G.cl e.cls)) dx H'
  | none => False
def callF (F : Fn) (ds : List D) : M D := fun s => if D.noOwns ds then match F ds s.S with
  | some (.ok d S') => some (.ok d { s with S := S' })
  | some (.ex e S') => some (.ex e { s with S := S' })
  | none => none else none
theorem KvD.reown {κ : Type} {G : Gx} {c c' : Cc} (f : ∀ v d, Den' G c v d → d.noOwn = true → Den' G c' v d) {kvs : List (κ × V)} {kds : List (κ × D)} (h : KvD G c kvs kds) : D.noOwns (kds.map (·.2)) = true → KvD G c' kvs kds := by
  induction h with
  | nil => intro _; exact .nil
  | cons q _ ih =>
    intro z
    simp only [List.map_cons, D.noOwns, Bool.and_eq_true] at z
    exact .cons ⟨q.1, f _ _ q.2 z.1⟩ (ih z.2)
theorem ObDen.reown {G : Gx} {c : Cc} {H : Hp} {a : Addr} {o : Ob} {O : Nat → Option Addr} {B : Bs} (h : ObDen G c H a o) : ObDen G { c with O := O, B := B } H a o := by
  have den : ∀ {v d}, Den' G c v d → d.noOwn = true → Den' G { c with O := O, B := B } v d := fun h q => h.reown q
  cases h with
  | lst h1 h2 h3 => exact .lst h1 (h2.reown h3) h3
  | dK h1 h2 h3 => exact .dK h1 (h2.reown (fun _ _ => den) h3) h3
  | dT h1 h2 h3 => exact .dT h1 (h2.reown (fun _ _ => den) h3) h3
  | ins h1 h2 h3 => exact .ins h1 (h2.reown (fun _ _ => den) h3) h3
  | exc0 h1 => exact .exc0 h1
  | exc1 h1 h2 => exact .exc1 h1 (den h2 rfl)
  | xd h1 h2 h3 => exact .xd h1 (h2.reown (fun _ _ => den) h3) h3
theorem Base.reown {G : Gx} {c : Cc} {H : Hp} {S : List Ob} {O : Nat → Option Addr} {B : Bs} (b : Base G c H S) : Base G { c with O := O, B := B } H S :=
  ⟨b.sub, b.len, fun n o h => let ⟨a, h1, h2⟩ := b.ob n o h; ⟨a, h1, h2.reown⟩, b.dis, b.nd⟩
/-- behind a call -/
theorem Rel.call {G : Gx} {c c' : Cc} {σ : L2.St} {H H' : Hp} {s : Sd} {S' : List Ob} (r : Rel G c σ H s) (b : Base G c' H' S') (st : Step c.F c.ρ H c'.F c'.ρ H') :
    Rel G { c' with O := c.O, B := c.B } σ H' { s with S := S' } ∧ Ext c H { c' with O := c.O, B := c.B } H' := by
  have denL : ∀ v d, DenL' G c v d → DenL' G { c' with O := c.O, B := c.B } v d := fun v d h => DenL.mono st.sub st.pre h
  refine ⟨⟨b.reown, r.step.trans st, r.len, fun i d h => ?_, fun i xs h => ?_, r.inj, fun i a h => let ⟨o, e⟩ := r.oth i a h; st.there _ _ e⟩, ⟨st.sub, fun a o h => (st.fn a o h).elim .inl fun z => z.elim (fun z => .inr (.inl z)) fun z => .inr (.inr (.inr z)), st.more, st.keep, st.there, rfl, rfl⟩⟩
  · obtain ⟨h1, v, h2, h3⟩ := r.val i d h
    exact ⟨h1, v, h2, Den.mono st.sub st.pre h3⟩
  · obtain ⟨h0, a, vs, ha, h1, h2, h3, h4, h5, h6⟩ := r.own i xs h
    refine ⟨h0, a, vs, ha, h1, st.keep _ _ h2 h4, ?_, fun hm => ?_, h5, denL _ _ h6⟩
    · cases e : c'.F a with
      | none => rfl
      | some o =>
        rcases st.fn _ _ e with z | z | ⟨_, z, _⟩
        · rw [h3] at z; cases z
        · rw [h2] at z; cases z
        · rw [h2] at z; cases z
    · obtain ⟨t, e, ht⟩ := st.more
      have hm : a ∈ c'.ρ := hm
      rw [e] at hm
      rcases List.mem_append.mp hm with hm | hm
      · exact h4 hm
      · rw [ht _ hm] at h2; cases h2
/-- from a state: what the promise wants -/
theorem Run.spD {G : Gx} {c : Cc} {s : Sd} {σ : L2.St} {H : Hp} {F : Fn} {Q : VK} {vs : List V} {ds : List D} {E : XK} (hl : DenL' G c vs ds) (hE : ∀ cls d H', W cls d σ H' → E cls d H')
    (h : Run G W c s (callF F ds) σ H fun d c' H' => ∀ v, Den' G c' v d → Q v H') : spD G F vs H Q E := by
  obtain ⟨r, h⟩ := h
  unfold callF at h
  by_cases hn0 : D.noOwns ds = true
  · rw [if_pos hn0] at h
    refine ⟨c, ds, s.S, r.base, hl, hn0, ?_⟩
    cases e : F ds s.S with
    | none => rw [e] at h; exact h
    | some q =>
      rw [e] at h
      cases q with
      | ok d S' =>
        intro v H' c' b st nd hv
        obtain ⟨r2, x2⟩ := r.call b st
        exact h H' _ r2 x2 v (hv.reown nd)
      | ex x S' =>
        intro dx H' c' b st no hx
        obtain ⟨r2, x2⟩ := r.call b st
        refine hE _ _ _ (h dx H' _ r2 x2 ?_)
        rcases hx with hx | ⟨a, fs, h1, h2, h3⟩
        · exact .inl hx
        · exact .inr ⟨a, fs, h1, h2, KvD.reown (c := c') (c' := { c' with O := c.O, B := c.B }) (fun _ _ q z => Den.reown q z) h3 no⟩
  · rw [if_neg hn0] at h; exact h.elim

theorem pass0At {X : Cx} {σ : L2.St} {E : XK} : PassesAt CX0 X σ E := fun _ _ _ _ _ _ h => h.elim
/-- f(e, ..), f a def that computes F -/
theorem pd_call {CX : CXT} {k : Nat} {f : Addr} {fd : FuncData} {ps : List Str} {F : Fn} {x : Str} {p : Pos} {m : M (List D)} (G : FnOk X.prog X.w X.K X.mg X.base CX k f fd ps (spD (gx X cl) F)) (hr : Room k X.A) (hg : Gl X x) (hm : X.mg x = some (.ref f))
    (hk : PySem.W.keepIn X.K (.ref f) = true) (hb : Binds X.K fd ps []) (hx : ∀ σ, PassesAt CX X σ (fun c d H => W c d σ H)) (ha : PA X (e :: es) (tLs (gx X cl) W m))
    (hdb : (x == ("__debug__" : Str)) = false := by decide) (he : starEach (e :: es) X.env = (false, eval e X.env) :: starEach es X.env := by rfl) (hpl : (backTo pos (starEach es X.env)).any (·.1) = false := by rfl) :
    PE X (.Call (.Name x p) (e :: es) [] pos) (tD (gx X cl) W (bnd m (callF F))) := by
  refine PE.imp (pe_callSD (E := fun σ c d H => W c d σ H) (dvs := []) G hr hg hm hk hb .nil hx ha hdb he hpl) fun σ H Q h => ?_
  obtain ⟨c, s, h⟩ := h
  obtain ⟨c2, s2, h3⟩ := Run.fstL h
  refine ⟨c2, s2, h3.mono fun ds c3 H3 _ q vs hvs => ?_⟩
  obtain ⟨c3', s3, ds', m3, hds, h4⟩ := q vs hvs
  rw [List.append_nil]
  exact Run.spD hds (fun _ _ _ z => z) h4
end
end Dm
namespace Dm
open PySem PySem.Spec L2

inductive Out where
  | nx | rt (d : D) | bk | ct
abbrev SM := M Out

/-- from a statement's start to its end -/
structure Nxt (c c' : Cc) : Prop where
  B : c'.B = c.B
  F : Sub c.F c'.F
  ρ : Pre c.ρ c'.ρ
theorem Nxt.refl (c : Cc) : Nxt c c := ⟨rfl, Sub.refl _, Pre.refl _⟩
theorem Nxt.trans {a b c : Cc} (x : Nxt a b) (y : Nxt b c) : Nxt a c := ⟨y.B.trans x.B, x.F.trans y.F, x.ρ.trans y.ρ⟩
theorem Ext.nxt {c c' : Cc} {H H' : Hp} (x : Ext c H c' H') : Nxt c c' := ⟨x.B, x.sub, x.pre⟩

def OutP (G : Gx) (c : Cc) (D : Ends) (s' : Sd) : Out → Prop
  | .nx => ∀ σ' H' c', Rel G c' σ' H' s' → Nxt c c' → D.nx σ' H'
  | .bk => ∀ σ' H' c', Rel G c' σ' H' s' → Nxt c c' → D.bk σ' H'
  | .ct => ∀ σ' H' c', Rel G c' σ' H' s' → Nxt c c' → D.ct σ' H'
  | .rt d => ∀ v H' c', Base G c' H' s'.S → Step c.B.F c.B.ρ c.B.H c'.F c'.ρ H' → d.noOwn = true → Den' G c' v d → D.rt v H'
def ResP (G : Gx) (W : WXd) (c : Cc) (D : Ends) : Option (Rs Out) → Prop
  | some (.ok o s') => OutP G c D s' o
  | some (.ex e s') => ∀ dx σ' H' c', Rel G c' σ' H' s' → Nxt c c' → ExDen G c' H' e dx → W (.ref (G.cl e.cls)) dx σ' H'
  | none => False
def RunS (G : Gx) (W : WXd) (c : Cc) (s : Sd) (m : SM) (σ : L2.St) (H : Hp) (D : Ends) : Prop := Rel G c σ H s ∧ ResP G W c D (m s)
def tS (G : Gx) (W : WXd) (m : SM) : TS := fun D σ H => ∃ c s, RunS G W c s m σ H D

def sSeq (m n : SM) : SM := bnd m fun o => match o with
  | .nx => n
  | .rt d => ret (.rt d)
  | .bk => ret .bk
  | .ct => ret .ct
def sIf (t : M Bool) (m n : SM) : SM := bnd t fun b => if b then m else n
def sNop : SM := ret .nx
def sBreak : SM := ret .bk
def sCont : SM := ret .ct
def sExpr (m : M D) : SM := bnd m fun _ => ret .nx
/-- a value leaves the frame -/
def fin (d : D) : SM := fun s => match d with
  | .own i => match s.σ[i]? with
    | some (some (.own xs)) => some (.ok (.rt (.lst xs)) s)
    | _ => none
  | d => if d.noOwn then some (.ok (.rt d) s) else none
def sRet (m : M D) : SM := bnd m fin
def setU (i : Nat) (d : D) (s : Sd) : Option Sd := if d.noOwn then some { s with σ := s.σ.set i (some (.val d)) } else none
def upM (o : Sd → Option Sd) : SM := fun s => match o s with
  | some s' => some (.ok .nx s')
  | none => none
def sAsg (i : Nat) (m : M D) : SM := bnd m fun d => upM (setU i d)
def setO (i : Nat) (xs : List D) (s : Sd) : Option Sd := if D.noOwns xs && decide (i < s.σ.length) then some { s with σ := s.σ.set i (some (.own xs)) } else none
/-- name = a new list, held by this name alone -/
def sOwn (i : Nat) (m : M (List D)) : SM := bnd m fun xs => upM (setO i xs)

section
variable {G : Gx} {W : WXd} {c : Cc} {s : Sd} {σ : L2.St} {H : Hp} {D' : Ends}
theorem ResP.to {c1 : Cc} {r : Option (Rs Out)} (n : Nxt c c1) (h : ResP G W c D' r) : ResP G W c1 D' r := by
  cases r with
  | none => exact h
  | some r =>
    cases r with
    | ex e s' => exact fun dx σ' H' c' r n' => h dx σ' H' c' r (n.trans n')
    | ok o s' =>
      cases o with
      | nx => exact fun σ' H' c' r n' => (show OutP G c D' s' .nx from h) σ' H' c' r (n.trans n')
      | bk => exact fun σ' H' c' r n' => (show OutP G c D' s' .bk from h) σ' H' c' r (n.trans n')
      | ct => exact fun σ' H' c' r n' => (show OutP G c D' s' .ct from h) σ' H' c' r (n.trans n')
      | rt d => exact fun v H' c' b st => (show OutP G c D' s' (.rt d) from h) v H' c' b (by rw [← n.B]; exact st)
theorem RunS.no (h : RunS G W c s (stuck : SM) σ H D') {P : Prop} : P := False.elim h.2
theorem RunS.nx (h : RunS G W c s (ret .nx) σ H D') : D'.nx σ H := h.2 σ H c h.1 (Nxt.refl c)
/-- a part ahead of a statement's rest -/
theorem RunS.bind {α : Type} {m : M α} {k : α → SM} (h : RunS G W c s (bnd m k) σ H D') : Run G W c s m σ H fun a c1 H1 => ∃ s1, Nxt c c1 ∧ RunS G W c1 s1 (k a) σ H1 D' := by
  obtain ⟨r, h⟩ := h
  refine ⟨r, ?_⟩
  unfold bnd at h
  cases e : m s with
  | none => rw [e] at h; exact h
  | some q =>
    rw [e] at h
    cases q with
    | ex x s' => exact fun dx H' c' r' x' hx => h dx σ H' c' r' x'.nxt hx
    | ok a s' => exact fun H1 c1 r1 x1 => ⟨s', x1.nxt, r1, ResP.to x1.nxt h⟩
theorem RunS.fst {m : M D} {k : D → SM} (h : RunS G W c s (bnd m k) σ H D') : tD G W m σ H fun v H1 => ∃ c1 s1 d, Ext c H c1 H1 ∧ Den' G c1 v d ∧ RunS G W c1 s1 (k d) σ H1 D' := by
  refine ⟨c, s, Run.mono (RunS.bind h) fun a c1 H1 m1 q => ?_⟩
  obtain ⟨s1, _, q⟩ := q
  exact fun v hv => ⟨c1, s1, a, m1, hv, q⟩
theorem RunS.fstB {m : M Bool} {k : Bool → SM} (h : RunS G W c s (bnd m k) σ H D') : tBo G W m σ H fun b H1 => ∃ c1 s1, RunS G W c1 s1 (k b) σ H1 D' := by
  refine ⟨c, s, Run.mono (RunS.bind h) fun a c1 H1 m1 q => ?_⟩
  obtain ⟨s1, _, q⟩ := q
  exact ⟨c1, s1, q⟩
theorem RunS.fstN {m : M (List D)} {k : List D → SM} (h : RunS G W c s (bnd m k) σ H D') : ∃ c s, Run G W c s m σ H fun ds c1 H1 => ∃ s1, RunS G W c1 s1 (k ds) σ H1 D' := by
  refine ⟨c, s, Run.mono (RunS.bind h) fun a c1 H1 m1 q => ?_⟩
  obtain ⟨s1, _, q⟩ := q
  exact ⟨s1, q⟩
end

section
variable {G : Gx} {c : Cc} {σ : L2.St} {H : Hp} {s : Sd}
theorem Rel.setV (r : Rel G c σ H s) {i : Nat} {d : D} {v : V} (hn : d.noOwn = true) (hv : Den' G c v d) : Rel G c (σ.set i (some v)) H { s with σ := s.σ.set i (some (.val d)) } := by
  refine ⟨r.base, r.step, by simpa using r.len, fun j e h => ?_, fun j ys h => ?_, fun j k ys zs a hj hk => ?_, r.oth⟩
  · have h : (s.σ.set i (some (.val d)))[j]? = some (some (.val e)) := h
    by_cases hj : i = j
    · subst hj
      rw [List.getElem?_set] at h
      simp only [if_true] at h
      split at h
      · cases h
        refine ⟨hn, v, ?_, hv⟩
        rw [List.getElem?_set_self (by rw [← r.len]; assumption)]
      · cases h
    · rw [List.getElem?_set_ne hj] at h
      rw [List.getElem?_set_ne hj]
      exact r.val j e h
  · have h : (s.σ.set i (some (.val d)))[j]? = some (some (.own ys)) := h
    by_cases hj : i = j
    · subst hj
      rw [List.getElem?_set] at h
      simp only [if_true] at h
      split at h <;> cases h
    · rw [List.getElem?_set_ne hj] at h
      rw [List.getElem?_set_ne hj]
      exact r.own j ys h
  · have hj : (s.σ.set i (some (.val d)))[j]? = some (some (.own ys)) := hj
    have hk : (s.σ.set i (some (.val d)))[k]? = some (some (.own zs)) := hk
    have ne : ∀ {j : Nat} {ys : List D}, (s.σ.set i (some (.val d)))[j]? = some (some (.own ys)) → i ≠ j := fun {j ys} h z => by
      subst z
      rw [List.getElem?_set] at h
      simp only [if_true] at h
      split at h <;> cases h
    rw [List.getElem?_set_ne (ne hj)] at hj
    rw [List.getElem?_set_ne (ne hk)] at hk
    exact r.inj j k ys zs a hj hk
theorem Rel.rho (r : Rel G c σ H s) {p : Addr} (h : H p = none) : p ∉ c.ρ := fun hm => by
  obtain ⟨u, hu⟩ := r.base.there hm
  rw [h] at hu; cases hu
/-- the own list of slot i: another address -/
def setO' (c : Cc) (i : Nat) (p : Addr) : Cc := { c with O := fun j => if j = i then some p else c.O j }
theorem Rel.setO (r : Rel G c σ H s) {i : Nat} {xs : List D} {vs : List V} {p : Addr} (hp : H p = none) (hn : D.noOwns xs = true) (hv : DenL' G c vs xs) (hi : i < s.σ.length) :
    Rel G (setO' c i p) (σ.set i (some (.ref p))) (upd H p (.lst vs)) { s with σ := s.σ.set i (some (.own xs)) } := by
  obtain ⟨r1, x1⟩ := r.add (H' := upd H p (.lst vs)) (keep_upd hp)
  have hp0 : c.B.H p = none := r.step.free hp
  have den : ∀ {v d}, Den' G c v d → d.noOwn = true → Den' G (setO' c i p) v d := fun h q => Den.reown h q
  have hi' : i < σ.length := by rw [← r.len]; exact hi
  have e0 : (setO' c i p).O i = some p := if_pos rfl
  refine ⟨⟨r1.base.sub, r1.base.len, fun n o h => let ⟨a, h1, h2⟩ := r1.base.ob n o h; ⟨a, h1, h2.reown⟩, r1.base.dis, r1.base.nd⟩, r1.step, by simpa using r1.len, fun j e h => ?_, fun j ys h => ?_, fun j k ys zs a hj hk ea eb => ?_, fun j a h => ?_⟩
  · have h : (s.σ.set i (some (.own xs)))[j]? = some (some (.val e)) := h
    by_cases hj : i = j
    · subst hj
      rw [List.getElem?_set_self hi] at h
      cases h
    · rw [List.getElem?_set_ne hj] at h
      rw [List.getElem?_set_ne hj]
      obtain ⟨q1, v, q2, q3⟩ := r.val j e h
      exact ⟨q1, v, q2, den q3 q1⟩
  · have h : (s.σ.set i (some (.own xs)))[j]? = some (some (.own ys)) := h
    by_cases hj : i = j
    · subst hj
      rw [List.getElem?_set_self hi] at h
      cases h
      exact ⟨hn, p, vs, e0, List.getElem?_set_self hi', upd_same, r.off hp, r.rho hp, hp0, DenL.reown hv hn⟩
    · rw [List.getElem?_set_ne hj] at h
      rw [List.getElem?_set_ne hj]
      obtain ⟨q0, a, us, qa, q1, q2, q3, q4, q5, q6⟩ := r1.own j ys h
      have e : (setO' c i p).O j = c.O j := if_neg (Ne.symm hj)
      exact ⟨q0, a, us, e.trans qa, q1, q2, q3, q4, q5, DenL.reown q6 q0⟩
  · have hj : (s.σ.set i (some (.own xs)))[j]? = some (some (.own ys)) := hj
    have hk : (s.σ.set i (some (.own xs)))[k]? = some (some (.own zs)) := hk
    have at_ : ∀ {j : Nat} {ys : List D} {a : Addr}, i ≠ j → (s.σ.set i (some (.own xs)))[j]? = some (some (.own ys)) → (setO' c i p).O j = some a → s.σ[j]? = some (some (.own ys)) ∧ c.O j = some a ∧ a ≠ p := fun {j ys a} hne h ea => by
      rw [List.getElem?_set_ne hne] at h
      have e : (setO' c i p).O j = c.O j := if_neg (Ne.symm hne)
      rw [e] at ea
      obtain ⟨o, ho⟩ := r.oth j a ea
      exact ⟨h, ea, ne_of_none ho hp⟩
    by_cases h1 : i = j
    · by_cases h2 : i = k
      · exact h1.symm.trans h2
      · obtain ⟨_, a2, a3⟩ := at_ h2 hk eb
        rw [← h1, e0] at ea
        cases ea
        exact absurd rfl a3
    · obtain ⟨b1, b2, b3⟩ := at_ h1 hj ea
      by_cases h2 : i = k
      · rw [← h2, e0] at eb
        cases eb
        exact absurd rfl b3
      · obtain ⟨a1, a2, a3⟩ := at_ h2 hk eb
        exact r.inj j k ys zs a b1 a1 b2 a2
  · by_cases hj : j = i
    · subst hj
      rw [e0] at h
      cases h
      exact ⟨_, upd_same⟩
    · have e : (setO' c i p).O j = c.O j := if_neg hj
      rw [e] at h
      obtain ⟨o, ho⟩ := r.oth j a h
      exact ⟨o, keep_upd hp _ _ ho⟩
end

section
variable {X : Cx} {cl : Nat → Addr} {W : WXd} {e : Expr} {st : Stmt} {rest : List Stmt} {pos : Pos} {m n : SM}
theorem psd_nil : PSs X [] (tS (gx X cl) W sNop) := PSs.imp pss_nil fun D σ H h => let ⟨c, s, h⟩ := h; h.nx
theorem psd_cons (h1 : PS X st (tS (gx X cl) W m)) (h2 : PSs X rest (tS (gx X cl) W n)) : PSs X (st :: rest) (tS (gx X cl) W (sSeq m n)) := by
  refine PSs.imp (pss_cons h1 h2) fun D σ H h => ?_
  obtain ⟨c, s, r, h⟩ := h
  refine ⟨c, s, r, ?_⟩
  unfold sSeq bnd at h
  cases e : m s with
  | none => rw [e] at h; exact h
  | some q =>
    rw [e] at h
    cases q with
    | ex x s' => exact h
    | ok o s' =>
      cases o with
      | nx => exact fun σ' H' c' r' n' => ⟨c', s', r', ResP.to n' h⟩
      | rt d => exact h
      | bk => exact h
      | ct => exact h
theorem psd_one (h1 : PS X st (tS (gx X cl) W m)) : PSs X [st] (tS (gx X cl) W m) := pss_one h1
theorem psd_break : PS X (.Break pos) (tS (gx X cl) W sBreak) := PS.imp ps_break fun D σ H h => let ⟨c, s, h⟩ := h; h.2 σ H c h.1 (Nxt.refl c)
theorem fin_run {G : Gx} {c : Cc} {s : Sd} {σ : L2.St} {H : Hp} {D' : Ends} {v : V} {d : D} (hv : Den' G c v d) (h : RunS G W c s (fin d) σ H D') : D'.rt v H := by
  obtain ⟨r, h⟩ := h
  have other : ∀ {d : D}, Den' G c v d → ResP G W c D' (if d.noOwn then some (.ok (.rt d) s) else none) → D'.rt v H := fun {d} hv h => by
    by_cases hn : d.noOwn = true
    · rw [if_pos hn] at h
      exact (show OutP G c D' s (.rt d) from h) v H c r.base r.step hn hv
    · rw [if_neg hn] at h; exact h.elim
  cases d with
  | own i =>
    unfold fin at h
    simp only at h
    split at h
    · rename_i xs e
      obtain ⟨h0, _⟩ := r.own i xs e
      cases hv with
      | own ha =>
      obtain ⟨vs, c', h1, h2, h3, h4⟩ := r.frz e ha
      exact (show OutP G c D' s (.rt (.lst xs)) from h) _ H c' h3.base (by rw [← h4.B]; exact h3.step) (by simpa [D.noOwn] using h0) h2
    · exact h.elim
  | non => exact other hv h
  | bl => exact other hv h
  | int => exact other hv h
  | str => exact other hv h
  | tup => exact other hv h
  | lst => exact other hv h
  | ref => exact other hv h
  | con => exact other hv h
theorem psd_ret {me : M D} (he : PE X e (tD (gx X cl) W me)) : PS X (.Return (some e) pos) (tS (gx X cl) W (sRet me)) := by
  refine PS.imp (ps_ret he) fun D σ H h => ?_
  obtain ⟨c, s, h⟩ := h
  obtain ⟨c0, s0, h1⟩ := RunS.fst h
  refine ⟨c0, s0, h1.mono fun d c1 H1 _ q v hv => ?_⟩
  obtain ⟨c1', s1, d', _, hd, h2⟩ := q v hv
  exact fin_run hd h2
theorem psd_if {t : Expr} {a b : List Stmt} {mt : M Bool} (ht : PT X t (tBo (gx X cl) W mt)) (ha : PSs X a (tS (gx X cl) W m)) (hb : PSs X b (tS (gx X cl) W n)) : PS X (.If t a b pos) (tS (gx X cl) W (sIf mt m n)) := by
  refine PS.imp (ps_if ht ha hb) fun D σ H h => ?_
  obtain ⟨c, s, h⟩ := h
  obtain ⟨c0, s0, h1⟩ := RunS.fstB h
  refine ⟨c0, s0, h1.mono fun b c1 H1 _ q => ?_⟩
  obtain ⟨c1', s1, h2⟩ := q
  cases b with
  | true => exact ⟨c1', s1, h2⟩
  | false => exact ⟨c1', s1, h2⟩
theorem upM_run {G : Gx} {c : Cc} {s : Sd} {σ : L2.St} {H : Hp} {D' : Ends} {o : Sd → Option Sd} (h : RunS G W c s (upM o) σ H D') : ∃ s', o s = some s' ∧ Rel G c σ H s ∧ ∀ σ' H' c', Rel G c' σ' H' s' → Nxt c c' → D'.nx σ' H' := by
  obtain ⟨r, h⟩ := h
  unfold upM at h
  split at h
  · rename_i s' e
    exact ⟨s', e, r, h⟩
  · exact h.elim
theorem asg_run {G : Gx} {i : Nat} {me : M D} {D' : Ends} {σ : L2.St} {H : Hp} (h : tS G W (sAsg i me) D' σ H) : tAsg (tD G W me) (gName i) D' σ H := by
  obtain ⟨c, s, h⟩ := h
  obtain ⟨c0, s0, h1⟩ := RunS.fst h
  refine ⟨c0, s0, h1.mono fun d c1 H1 _ q v hv => ?_⟩
  obtain ⟨c1', s1, d', _, hd, h2⟩ := q v hv
  obtain ⟨s', e, r, k⟩ := upM_run h2
  unfold setU at e
  split at e
  · rename_i hn
    cases e
    exact k _ _ _ (r.setV hn hd) (Nxt.refl _)
  · cases e
theorem psd_set {i : Nat} {x : Str} {me : M D} {pos' : Pos} (hN : X.N.Nodup) (hi : X.N[i]? = some x) (hx : Loc X.env.scope x) (he : PE X e (tD (gx X cl) W me)) (hs : swapsWith e (some (.Name x pos')) pos.line X.env = pure false := by rfl) (hf : X.fn x = true ∨ X.env.scope.names.lookup x = some .local := by first | exact .inl rfl | exact .inr rfl | assumption) :
    PS X (.Assign [.Name x pos'] e pos) (tS (gx X cl) W (sAsg i me)) := PS.imp (ps_set hN hi hx he hs hf) fun D σ H h => asg_run h
theorem own_run {G : Gx} {i : Nat} {me : M (List D)} {D' : Ends} {σ : L2.St} {H : Hp} (h : tS G W (sOwn i me) D' σ H) : tAsg (tN G W me) (gName i) D' σ H := by
  obtain ⟨c, s, h⟩ := h
  obtain ⟨c0, s0, h1⟩ := RunS.fstN h
  refine ⟨c0, s0, h1.mono fun ds c1 H1 _ q p vs hp hl => ?_⟩
  obtain ⟨s1, h2⟩ := q
  obtain ⟨s', e, r, k⟩ := upM_run h2
  unfold setO at e
  split at e
  · rename_i hn
    cases e
    rw [Bool.and_eq_true] at hn
    exact k _ _ _ (r.setO hp hn.1 hl (of_decide_eq_true hn.2)) ⟨rfl, Sub.refl _, Pre.refl _⟩
  · cases e
theorem psd_own {i : Nat} {x : Str} {me : M (List D)} {pos' : Pos} (hN : X.N.Nodup) (hi : X.N[i]? = some x) (hx : Loc X.env.scope x) (he : PE X e (tN (gx X cl) W me)) (hs : swapsWith e (some (.Name x pos')) pos.line X.env = pure false := by rfl) (hf : X.fn x = true ∨ X.env.scope.names.lookup x = some .local := by first | exact .inl rfl | exact .inr rfl | assumption) :
    PS X (.Assign [.Name x pos'] e pos) (tS (gx X cl) W (sOwn i me)) := PS.imp (ps_set hN hi hx he hs hf) fun D σ H h => own_run h
/-- what may be changed: an own list, one of the store -/
def getM (d : D) : M (List D) := fun s => match d with
  | .lst _ => none
  | d => match asL s d with
    | some xs => some (.ok xs s)
    | none => none
def mutS (d : D) (ys : List D) (s : Sd) : Option Sd := if D.noOwns ys then match d with
  | .own i => some { s with σ := s.σ.set i (some (.own ys)) }
  | .ref n => some { s with S := s.S.set n (.lst ys) }
  | _ => none else none
/-- what stands at a list's address, and how it may change -/
structure Chg (G : Gx) (c : Cc) (σ : L2.St) (H : Hp) (s : Sd) (d : D) (a : Addr) (vs : List V) (xs : List D) : Prop where
  at_ : H a = some (.lst vs)
  items : DenL' G c vs xs
  to : ∀ (ws : List V) (ys : List D) (s' : Sd), DenL' G c ws ys → mutS d ys s = some s' → Rel G c σ (upd H a (.lst ws)) s'
theorem chg_of {G : Gx} {c : Cc} {s : Sd} {σ : L2.St} {H : Hp} {d : D} {v : V} {xs : List D} (r : Rel G c σ H s) (hd : Den' G c v d) (h : asL s d = some xs) (hl : ∀ ys, d ≠ .lst ys) : ∃ a vs, v = .ref a ∧ Chg G c σ H s d a vs xs := by
  cases hd with
  | @own a i ea =>
    simp only [asL] at h
    split at h
    · rename_i ys e
      have e' : ys = xs := Option.some.inj h
      subst e'
      obtain ⟨h0, a', vs, ha, h1, h2, h3, h4, h5, h6⟩ := r.own i ys e
      rw [ea] at ha; cases ha
      have hi := (List.getElem?_eq_some_iff.mp e).1
      refine ⟨a, vs, rfl, h2, h6, fun ws zs s' hw em => ?_⟩
      unfold mutS at em
      split at em
      · rename_i hn
        cases em
        have neF : ∀ b o, c.F b = some o → b ≠ a := fun b o q z => by subst z; rw [h3] at q; cases q
        have neR : ∀ b, b ∈ c.ρ → b ≠ a := fun b q z => h4 (z ▸ q)
        refine ⟨⟨fun b o q => by rw [upd_ne (neF b o q)]; exact r.base.sub b o q, r.base.len, fun n o q => ?_, r.base.dis, r.base.nd⟩, ⟨r.step.sub, r.step.fn, r.step.more, fun b o q hb => ?_, fun b o q => ?_⟩, by simpa using r.len, fun j e2 h => ?_, fun j us h => ?_, fun j k us ws2 b hj hk e3 e4 => ?_, fun j b h => ?_⟩
        · obtain ⟨b, q1, q2⟩ := r.base.ob n o q
          refine ⟨b, q1, q2.mono (fun _ _ z => z) (fun _ _ z => z) fun u z => ?_⟩
          rw [upd_ne (neR b (List.mem_of_getElem? q1))]
          exact z
        · rw [upd_ne (ne_of_none q h5)]
          exact r.step.keep b o q hb
        · by_cases hb : b = a
          · subst hb; exact ⟨_, upd_same⟩
          · rw [upd_ne hb]; exact r.step.there b o q
        · have h : (s.σ.set i (some (.own zs)))[j]? = some (some (.val e2)) := h
          have hj : i ≠ j := fun z => by subst z; rw [List.getElem?_set_self hi] at h; cases h
          rw [List.getElem?_set_ne hj] at h
          exact r.val j e2 h
        · have h : (s.σ.set i (some (.own zs)))[j]? = some (some (.own us)) := h
          by_cases hj : i = j
          · subst hj
            rw [List.getElem?_set_self hi] at h
            cases h
            exact ⟨hn, a, ws, ea, h1, upd_same, h3, h4, h5, hw⟩
          · rw [List.getElem?_set_ne hj] at h
            obtain ⟨q0, b, ws3, qb, q1, q2, q3, q4, q5, q6⟩ := r.own j us h
            refine ⟨q0, b, ws3, qb, q1, ?_, q3, q4, q5, q6⟩
            rw [upd_ne fun z : b = a => hj (r.inj j i us ys a h e (z ▸ qb) ea).symm]
            exact q2
        · have own_ : ∀ {j : Nat} {us : List D}, (s.σ.set i (some (.own zs)))[j]? = some (some (.own us)) → ∃ us', s.σ[j]? = some (some (.own us')) := fun {j us} h => by
            by_cases hj : i = j
            · subst hj; exact ⟨ys, e⟩
            · rw [List.getElem?_set_ne hj] at h; exact ⟨us, h⟩
          obtain ⟨_, a1⟩ := own_ hj
          obtain ⟨_, a2⟩ := own_ hk
          exact r.inj j k _ _ b a1 a2 e3 e4
        · by_cases hb : b = a
          · subst hb; exact ⟨_, upd_same⟩
          · rw [upd_ne hb]; exact r.oth j b h
      · cases em
    · cases h
  | @ref a n e =>
    simp only [asL] at h
    split at h
    · rename_i ys e2
      have e' : ys = xs := Option.some.inj h
      subst e'
      obtain ⟨a', h1, h2⟩ := r.base.ob n _ e2
      rw [e] at h1; cases h1
      cases h2 with
      | @lst vs _ h3 h4 h5 =>
        have hm : a ∈ c.ρ := List.mem_of_getElem? e
        refine ⟨a, vs, rfl, h3, h4, fun ws zs s' hw em => ?_⟩
        unfold mutS at em
        split at em
        · rename_i hn
          cases em
          have hF := r.base.dis a hm
          refine ⟨⟨fun b o q => ?_, by simpa using r.base.len, fun k o q => ?_, r.base.dis, r.base.nd⟩, r.step.trans ⟨Sub.refl _, fun _ _ z => .inl z, ⟨[], by simp, fun _ z => by cases z⟩, fun b o q hb => ?_, fun b o q => ?_⟩, r.len, r.val, fun j us q => ?_, r.inj, fun j b q => ?_⟩
          · rw [upd_ne fun z => by subst z; rw [hF] at q; cases q]
            exact r.base.sub b o q
          · have q : (s.S.set n (.lst zs))[k]? = some o := q
            by_cases hk : n = k
            · subst hk
              rw [List.getElem?_set_self (List.getElem?_eq_some_iff.mp e2).1] at q
              cases q
              exact ⟨a, e, .lst upd_same hw hn⟩
            · rw [List.getElem?_set_ne hk] at q
              obtain ⟨b, q1, q2⟩ := r.base.ob k o q
              refine ⟨b, q1, q2.mono (fun _ _ z => z) (fun _ _ z => z) fun u z => ?_⟩
              rw [upd_ne fun z => hk ?_]
              · exact z
              · subst z
                obtain ⟨g1, g2⟩ := List.getElem?_eq_some_iff.mp e
                obtain ⟨g3, g4⟩ := List.getElem?_eq_some_iff.mp q1
                exact (List.getElem_inj r.base.nd).mp (g2.trans g4.symm)
          · rw [upd_ne fun z : b = a => hb (z ▸ hm)]
            exact q
          · by_cases hb : b = a
            · subst hb; exact ⟨_, upd_same⟩
            · rw [upd_ne hb]; exact ⟨o, q⟩
          · obtain ⟨q0, b, ws3, qb, q1, q2, q3, q4, q5, q6⟩ := r.own j us q
            refine ⟨q0, b, ws3, qb, q1, ?_, q3, q4, q5, q6⟩
            rw [upd_ne fun z : b = a => q4 (z ▸ hm)]
            exact q2
          · by_cases hb : b = a
            · subst hb; exact ⟨_, upd_same⟩
            · rw [upd_ne hb]; exact r.oth j b q
        · cases em
    · cases h
  | lst => exact absurd rfl (hl _)
  | non => cases h
  | bl => cases h
  | int => cases h
  | str => cases h
  | tup => cases h
  | con => cases h
theorem getM_run {G : Gx} {c : Cc} {s : Sd} {σ : L2.St} {H : Hp} {d : D} {v : V} {D' : Ends} {k : List D → SM} (hd : Den' G c v d) (h : RunS G W c s (bnd (getM d) k) σ H D') : ∃ a vs xs, v = .ref a ∧ Chg G c σ H s d a vs xs ∧ RunS G W c s (k xs) σ H D' := by
  obtain ⟨r, h⟩ := h
  cases e : getM d s with
  | none => simp only [bnd, e] at h; exact h.elim
  | some q =>
    have e0 : ∃ xs, asL s d = some xs ∧ q = .ok xs s ∧ ∀ ys, d ≠ .lst ys := by
      unfold getM at e
      split at e
      · cases e
      · rename_i hne
        split at e
        · rename_i xs e1
          cases e
          exact ⟨xs, e1, rfl, hne⟩
        · cases e
    obtain ⟨xs, e1, rfl, hne⟩ := e0
    simp only [bnd, e] at h
    obtain ⟨a, vs, h1, h2⟩ := chg_of r hd e1 hne
    exact ⟨a, vs, xs, h1, h2, r, h⟩
theorem mut_run {G : Gx} {c : Cc} {s : Sd} {σ : L2.St} {H : Hp} {d : D} {a : Addr} {vs ws : List V} {xs ys : List D} {D' : Ends} (C : Chg G c σ H s d a vs xs) (hw : DenL' G c ws ys) (h : RunS G W c s (upM (mutS d ys)) σ H D') : D'.nx σ (upd H a (.lst ws)) := by
  obtain ⟨s', e, r, k⟩ := upM_run h
  exact k _ _ _ (C.to ws ys s' hw e) (Nxt.refl _)
def sAppend (mo me : M D) : SM := bnd mo fun l => bnd (getM l) fun _ => bnd me fun d => bnd (getM l) fun xs => grd (decide (xs.length < sizeLine)) (upM (mutS l (xs ++ [d])))
theorem RunS.grd {G : Gx} {c : Cc} {s : Sd} {σ : L2.St} {H : Hp} {D' : Ends} {b : Bool} {m : SM} (h : RunS G W c s (grd b m) σ H D') : b = true ∧ RunS G W c s m σ H D' := by
  cases b with
  | false => exact h.no
  | true => exact ⟨rfl, h⟩
/-- e.append(x) -/
theorem psd_append {o : Expr} {pos' apos : Pos} {mo me : M D} (ho : PE X o (tD (gx X cl) W mo)) (he : PE X e (tD (gx X cl) W me)) (hpe : ∀ {to te : TE}, PE X o to → PE X e te → PE X (.Call (.Attribute o "append" apos) [e] [] pos') (tBM X.K "list" rAppend to (tCons te tNil)) := by
      intro to te ho he; exact pe_bm PySem.F.plainAttrs_list PySem.F.slot_list_append PySem.F.type_list_append mt_append ho (pa_cons he pa_nil))
    (hs : swapsWith (.Call (.Attribute o "append" apos) [e] [] pos') none pos.line X.env = pure false := by rfl) : PS X (.Expr (.Call (.Attribute o "append" apos) [e] [] pos') pos) (tS (gx X cl) W (sAppend mo me)) := by
  refine PS.imp (ps_expr (hpe ho he) hs) fun D σ H h => ?_
  obtain ⟨c, s, h⟩ := h
  obtain ⟨c0, s0, h1⟩ := RunS.fst h
  refine ⟨c0, s0, h1.mono fun d c1 H1 _ q v hv => ?_⟩
  obtain ⟨c1', s1, l, x1, hl, h2⟩ := q v hv
  obtain ⟨a, vs, xs, rfl, C, h3⟩ := getM_run hl h2
  refine ⟨.inl ⟨rfl, _, SqL.of C.at_⟩, ?_⟩
  obtain ⟨c2, s2, h4⟩ := RunS.fst h3
  refine ⟨c2, s2, h4.mono fun b c3 H3 _ q2 u hu => ?_⟩
  obtain ⟨c3', s3, d', x3, hd, h5⟩ := q2 u hu
  obtain ⟨a', vs', xs', e', C', h6⟩ := getM_run (x3.den hl) h5
  cases e'
  obtain ⟨hz, h7⟩ := h6.grd
  exact ⟨a, vs', u, rfl, rfl, C'.at_, by rw [C'.items.length]; exact of_decide_eq_true hz, mut_run C' (C'.items.append (.cons hd .nil)) h7⟩
def sSetIx (mo mi me : M D) : SM := bnd me fun d => bnd mo fun l => bnd mi fun i => bnd (getM l) fun xs => match i with
  | .int i => match ixN xs.length i with
    | some j => upM (mutS l (xs.set j d))
    | none => stuck
  | _ => stuck
/-- e[i] = x, a list -/
theorem psd_setIx {o i : Expr} {p1 : Pos} {mo mi me : M D} (ho : PE X o (tD (gx X cl) W mo)) (hi : PE X i (tD (gx X cl) W mi)) (he : PE X e (tD (gx X cl) W me))
    (ha : ∀ v, assign (.Subscript o i p1) X.env v = (do
      let ov ← holding [v] (eval o X.env)
      let iv ← holding [v, ov] (eval i X.env)
      standAt p1
      holding [v, ov, iv] (setItem ov iv v)
      release [v, ov, iv] []) := by intro _; rfl) (hs : swapsWithSole [.Subscript o i p1] e pos.line X.env = pure false := by rfl) (hw : swappedStores [.Subscript o i p1] e X.env = pure none := by rfl)
    (h1 : (assignEach [.Subscript o i p1] X.env).map (·.2) = [assign (.Subscript o i p1) X.env] := by rfl) : PS X (.Assign [.Subscript o i p1] e pos) (tS (gx X cl) W (sSetIx mo mi me)) := by
  refine PS.imp (ps_asg he (pg_sub ho hi set_list ha) hs hw h1) fun D σ H h => ?_
  obtain ⟨c, s, h⟩ := h
  obtain ⟨c0, s0, h1⟩ := RunS.fst h
  refine ⟨c0, s0, h1.mono fun d c1 H1 _ q v hv => ?_⟩
  obtain ⟨c1', s1, d', x1, hd, h2⟩ := q v hv
  obtain ⟨c2, s2, h3⟩ := RunS.fst h2
  refine ⟨c2, s2, h3.mono fun l c3 H3 _ q2 u hu => ?_⟩
  obtain ⟨c3', s3, l', x3, hl, h4⟩ := q2 u hu
  obtain ⟨c4, s4, h5⟩ := RunS.fst h4
  refine ⟨c4, s4, h5.mono fun l c5 H5 _ q4 w hw => ?_⟩
  obtain ⟨c5', s5, i', x5, hi', h6⟩ := q4 w hw
  obtain ⟨a, vs, xs, rfl, C, h7⟩ := getM_run (x5.den hl) h6
  cases i' with
  | int k =>
    cases e1 : ixN xs.length k with
    | none => simp only [e1] at h7; exact h7.no
    | some j =>
      simp only [e1] at h7
      exact ⟨a, vs, k, j, rfl, hi'.int_of, C.at_, by rw [C.items.length]; exact e1, mut_run C (C.items.set (x5.den (x3.den hd)) j) h7⟩
  | _ => exact h7.no
end
end Dm
namespace Dm
open PySem PySem.Spec L2

def Only (ts : List Nat) (σ σ' : L2.St) : Prop := σ'.length = σ.length ∧ ∀ i, i ∉ ts → σ'[i]? = σ[i]?
theorem Only.refl (ts : List Nat) (σ : L2.St) : Only ts σ σ := ⟨rfl, fun _ _ => rfl⟩
theorem Only.trans {t u : List Nat} {a b c : L2.St} (x : Only t a b) (y : Only u b c) : Only (t ++ u) a c :=
  ⟨y.1.trans x.1, fun i h => by
    simp only [List.mem_append, not_or] at h
    exact (y.2 i h.2).trans (x.2 i h.1)⟩
theorem wipe_get {σ : L2.St} : ∀ {vs : List Nat} {i : Nat}, (wipe σ vs)[i]? = if i ∈ vs then (if i < σ.length then some none else none) else σ[i]?
  | [], i => by simp [wipe]
  | v :: vs, i => by
    unfold wipe
    by_cases h : v = i
    · subst h
      rw [List.getElem?_set]
      simp [wipe_length]
    · rw [List.getElem?_set_ne h, wipe_get]
      have h' : ¬ i = v := fun z => h z.symm
      simp [List.mem_cons, h']
theorem Only.wipe {ts vs : List Nat} {σ σ' : L2.St} (h : Only ts σ σ') (hs : ∀ i ∈ ts, i ∈ vs) : wipe σ' vs = wipe σ vs := by
  apply List.ext_getElem?
  intro i
  rw [wipe_get, wipe_get]
  by_cases hi : i ∈ vs
  · rw [if_pos hi, if_pos hi, h.1]
  · rw [if_neg hi, if_neg hi]
    exact h.2 i fun z => hi (hs i z)
abbrev TgM := D → Sd → Option Sd
def tG (G : Gx) (ts : List Nat) (g : TgM) : TG := fun v σ H Q => ∃ c s d s', Rel G c σ H s ∧ Den' G c v d ∧ g d s = some s' ∧ ∀ σ' c', Rel G c' σ' H s' → Ext c H c' H → Only ts σ σ' → Q σ' H
theorem PG.imp {X : Cx} {e : Expr} {t t' : TG} (h : PG X e t) (k : ∀ v σ H Q, t' v σ H Q → t v σ H Q) : PG X e t' := ⟨fun pins s σ H v u Q I r q => h.run pins s σ H v u Q I r (k v σ H Q q)⟩
theorem PGs.imp {X : Cx} {e : List Expr} {t t' : TGs} (h : PGs X e t) (k : ∀ v σ H Q, t' v σ H Q → t v σ H Q) : PGs X e t' := ⟨fun pins s σ H v u Q I r q => h.run pins s σ H v u Q I r (k v σ H Q q)⟩
section
variable {X : Cx} {cl : Nat → Addr} {W : WXd} {e : Expr} {es : List Expr} {pos : Pos}
theorem pgd_name {i : Nat} {x : Str} (hN : X.N.Nodup) (hi : X.N[i]? = some x) (hx : Loc X.env.scope x) (hf : X.fn x = true ∨ X.env.scope.names.lookup x = some .local := by first | exact .inl rfl | exact .inr rfl | assumption) :
    PG X (.Name x pos) (tG (gx X cl) [i] (setU i)) := by
  refine PG.imp (pg_name hN hi hx hf) fun v σ H Q h => ?_
  obtain ⟨c, s, d, s', r, hv, e, k⟩ := h
  unfold setU at e
  split at e
  · rename_i hn
    cases e
    exact k _ c (r.setV hn hv) (Ext.refl _ _) ⟨by simp, fun j hj => by
      rw [List.getElem?_set_ne]
      simpa using Ne.symm (by simpa using hj)⟩
  · cases e
/-- target = e, the target of names -/
def sAsgT (g : TgM) (me : M D) : SM := bnd me fun d => upM (g d)
/-- a, b = x, y: two local names -/
def sPar (i j : Nat) (ma mb : M D) : SM := bnd ma fun d => bnd mb fun e => bnd (upM (setU i d)) fun _ => upM (setU j e)
/-- an iterator gives these items, wherever what stands still has grown from c -/
structure ItOk (G : Gx) (c : Cc) (J : It) (ds : List D) : Prop where
  go : ∀ c' σ' H' s' (i : Nat) d, Rel G c' σ' H' s' → Sub c.F c'.F → Pre c.ρ c'.ρ → ds[i]? = some d → J.go i H' ∧ ∀ x H'', J.yld i H' x H'' → ∃ c'', Rel G c'' σ' H'' s' ∧ Ext c' H' c'' H'' ∧ Den' G c'' x d
  stop : ∀ c' σ' H' s' (i : Nat), Rel G c' σ' H' s' → Sub c.F c'.F → Pre c.ρ c'.ρ → ds.length ≤ i → J.stop i H'
/-- the reading of what is walked -/
def tI (G : Gx) (W : WXd) (m : M (List D)) : TI := fun σ H R => ∃ c s, Run G W c s m σ H fun ds c' H' => ∀ J, ItOk G c' J ds → R J H'
theorem PI.imp {X : Cx} {tg e : Expr} {t t' : TI} (h : PI X tg e t) (k : ∀ σ H Q, t' σ H Q → t σ H Q) : PI X tg e t' := ⟨fun pins s σ H Q I q => h.run pins s σ H Q I (k σ H Q q)⟩
/-- the same where, too, all that stood at the start (but the store) still stands -/
structure ItOkK (G : Gx) (c : Cc) (H1 : Hp) (J : It) (ds : List D) : Prop where
  go : ∀ c' σ' H' s' (i : Nat) d, Rel G c' σ' H' s' → Sub c.F c'.F → Pre c.ρ c'.ρ → (∀ b o, H1 b = some o → b ∉ c.ρ → H' b = some o) → ds[i]? = some d → J.go i H' ∧ ∀ x H'', J.yld i H' x H'' → ∃ c'', Rel G c'' σ' H'' s' ∧ Ext c' H' c'' H'' ∧ Den' G c'' x d
  stop : ∀ c' σ' H' s' (i : Nat), Rel G c' σ' H' s' → Sub c.F c'.F → Pre c.ρ c'.ρ → (∀ b o, H1 b = some o → b ∉ c.ρ → H' b = some o) → ds.length ≤ i → J.stop i H'
theorem ItOk.k {G : Gx} {c : Cc} {H1 : Hp} {J : It} {ds : List D} (h : ItOk G c J ds) : ItOkK G c H1 J ds := ⟨fun c' σ' H' s' i d r x y _ e => h.go c' σ' H' s' i d r x y e, fun c' σ' H' s' i r x y _ e => h.stop c' σ' H' s' i r x y e⟩
def tIK (G : Gx) (W : WXd) (m : M (List D)) : TI := fun σ H R => ∃ c s, Run G W c s m σ H fun ds c' H' => ∀ J, ItOkK G c' H' J ds → R J H'
theorem PI.k {X : Cx} {cl : Nat → Addr} {W : WXd} {tg e : Expr} {m : M (List D)} (h : PI X tg e (tI (gx X cl) W m)) : PI X tg e (tIK (gx X cl) W m) := PI.imp h fun σ H R h => by
  obtain ⟨c, s, h⟩ := h
  exact ⟨c, s, h.mono fun ds c1 H1 _ q J hJ => q J hJ.k⟩
/-- an own list's items -/
def itOwn (i : Nat) : M (List D) := fun s => match s.σ[i]? with
  | some (some (.own xs)) => some (.ok xs s)
  | _ => none
theorem itok_list {G : Gx} {c : Cc} {a : Addr} {vs : List V} {ds : List D} (hq : SqL G.K c.F a vs) (hl : DenL' G c vs ds) (hn : D.noOwns ds = true) : ItOk G c (Itl G.K a) ds where
  go := fun c' σ' H' s' i d r hF hρ e => by
    have hq' := r.base.sub.sqL (hF.sqL hq)
    obtain ⟨v, h1, h2⟩ := hl.get e
    refine ⟨⟨vs, v, hq', h1⟩, fun x H'' y => ?_⟩
    obtain ⟨e2, y⟩ := y
    subst e2
    have ex := y vs hq'
    rw [h1] at ex
    cases ex
    have nd : d.noOwn = true := by
      have : ∀ {ds : List D} {i : Nat}, D.noOwns ds = true → ds[i]? = some d → d.noOwn = true := by
        intro ds
        induction ds with
        | nil => intro i _ h; simp at h
        | cons z zs ih =>
          intro i h1 h2
          simp only [D.noOwns, Bool.and_eq_true] at h1
          cases i with
          | zero => simp at h2; subst h2; exact h1.1
          | succ i => exact ih h1.2 (by simpa using h2)
      exact this hn e
    exact ⟨c', r, Ext.refl _ _, (Den.mono hF hρ h2).reown nd⟩
  stop := fun c' σ' H' s' i r hF hρ e => ⟨vs, r.base.sub.sqL (hF.sqL hq), by rw [hl.length]; exact e⟩
theorem noOwns_get : ∀ {ds : List D} {i : Nat} {d : D}, D.noOwns ds = true → ds[i]? = some d → d.noOwn = true
  | [], _, _, _, h => by simp at h
  | z :: zs, 0, d, h1, h2 => by
    simp only [D.noOwns, Bool.and_eq_true] at h1
    simp at h2; subst h2; exact h1.1
  | z :: zs, i + 1, d, h1, h2 => by
    simp only [D.noOwns, Bool.and_eq_true] at h1
    exact noOwns_get h1.2 (by simpa using h2)
theorem itok_tup {G : Gx} {c : Cc} {a : Addr} {vs : List V} {ds : List D} (hq : c.F a = some (.tup vs)) (hl : DenL' G c vs ds) (hn : D.noOwns ds = true) : ItOk G c (Itt G.K a) ds where
  go := fun c' σ' H' s' i d r hF hρ e => by
    have hq' := r.base.sub.sqT (K := G.K) (hF _ _ hq)
    obtain ⟨v, h1, h2⟩ := hl.get e
    refine ⟨⟨vs, v, hq', h1⟩, fun x H'' y => ?_⟩
    obtain ⟨e2, y⟩ := y
    subst e2
    have ex := y vs hq'
    rw [h1] at ex
    cases ex
    exact ⟨c', r, Ext.refl _ _, (Den.mono hF hρ h2).reown (noOwns_get hn e)⟩
  stop := fun c' σ' H' s' i r hF hρ e => ⟨vs, r.base.sub.sqT (hF _ _ hq), by rw [hl.length]; exact e⟩
def rangeD (lo : Int) (n : Nat) : List D := (List.range n).map fun k : Nat => .int (lo + (k : Int))
theorem itok_range {G : Gx} {c : Cc} {lo : Int} {n : Nat} : ItOk G c (Itr lo n) (rangeD lo n) where
  go := fun c' σ' H' s' i d r hF hρ e => by
    unfold rangeD at e
    rw [List.getElem?_map] at e
    cases e1 : (List.range n)[i]? with
    | none => rw [e1] at e; cases e
    | some k =>
      rw [e1] at e
      cases e
      have hi := (List.getElem?_eq_some_iff.mp e1).1
      rw [List.length_range] at hi
      have hk : i = k := by
        rw [List.getElem?_range hi] at e1
        exact Option.some.inj e1
      subst hk
      refine ⟨hi, fun x H'' y => ?_⟩
      obtain ⟨rfl, rfl⟩ := y
      exact ⟨c', r, Ext.refl _ _, .int _⟩
  stop := fun c' σ' H' s' i r hF hρ e => by
    have : (rangeD lo n).length = n := by simp [rangeD]
    rw [this] at e
    exact e
/-- a text's signs -/
def sgnsD (z : Str) : List D := z.cps.toList.map fun c => .str ⟨#[c]⟩
theorem itok_str {G : Gx} {c : Cc} {z : Str} : ItOk G c (Its z) (sgnsD z) where
  go := fun c' σ' H' s' i d r hF hρ e => by
    unfold sgnsD at e
    rw [List.getElem?_map] at e
    obtain ⟨u, e1, rfl⟩ := Option.map_eq_some_iff.mp e
    rw [Array.getElem?_toList] at e1
    refine ⟨(Array.getElem?_eq_some_iff.mp e1).1, fun x H'' y => ?_⟩
    obtain ⟨rfl, k, e2, rfl⟩ := y
    rw [e1] at e2
    cases e2
    exact ⟨c', r, Ext.refl _ _, .str _⟩
  stop := fun c' σ' H' s' i r hF hρ e => by
    have : (sgnsD z).length = z.cps.size := by simp [sgnsD]
    rw [this] at e
    exact e
/-- a list or a tuple that stands still, a text -/
def itSeq (m : M D) : M (List D) := bnd m fun d => match d with
  | .lst xs => grd (D.noOwns xs) (ret xs)
  | .tup xs => grd (D.noOwns xs) (ret xs)
  | .str z => ret (sgnsD z)
  | _ => stuck
def iSeq (K : PySem.W.Frag) (tl : TE) : TI := fun σ H R => tl σ H fun x H1 => (∃ a, x = .ref a ∧ (((∃ xs, SqL K H1 a xs) ∧ R (Itl K a) H1) ∨ ((∃ xs, SqT K H1 a xs) ∧ R (Itt K a) H1))) ∨ ∃ z, x = .str z ∧ R (Its z) H1
theorem pi_seq {X : Cx} {tg l : Expr} {tl : TE} (hl : PE X l tl) : PI X tg l (iSeq X.K tl) := by
  refine ⟨fun pins s σ H R I h => ?_⟩
  refine thn (hl.run pins s σ H _ I h) fun v s1 ⟨x, H1, I1, r1, q1⟩ => ?_
  rcases q1 with ⟨a, e, q⟩ | ⟨z, e, q⟩
  · subst e
    cases r1
    rcases q with ⟨⟨xs, hq⟩, q⟩ | ⟨⟨xs, hq⟩, q⟩
    · obtain ⟨its, rv, p, hz⟩ := I1.list hq
      refine wpAny_pyIter_list p.isList ?_
      refine ⟨s1.heap.objs.size, [s1.heap.objs.size], _, _, H1, rfl, I1.kept (t' := s1.toks) fun b o e => Heap.get?_push_of_some _ e, turn_list a _, ⟨_, Heap.get?_push_size _ rfl, rfl, rfl⟩, fun b hb => ?_, q⟩
      have e : b = s1.heap.objs.size := by simpa using hb
      subst e
      exact I1.fpOk (Nat.le_refl _) (I1.hok.fresh (Nat.le_refl _))
    · obtain ⟨its, rv, p, hz⟩ := I1.tuple hq
      refine wpAny_pyIter_tuple (show s1.heap.IsTuple a its.toArray from p) ?_
      refine ⟨s1.heap.objs.size, [s1.heap.objs.size], _, _, H1, rfl, I1.kept (t' := s1.toks) fun b o e => Heap.get?_push_of_some _ e, turn_tuple a _, ⟨_, Heap.get?_push_size _ rfl, rfl, rfl⟩, fun b hb => ?_, q⟩
      have e : b = s1.heap.objs.size := by simpa using hb
      subst e
      exact I1.fpOk (Nat.le_refl _) (I1.hok.fresh (Nat.le_refl _))
  · subst e
    obtain ⟨t, rfl⟩ := r1
    cases ha : z.cps.all (· < 128)
    · exact wpAny_pyIter_wide ha (pi_one (tk := s1.toks) I1 _ (turn_str _ z t "str_iterator" (.inr rfl)) ⟨_, Heap.get?_push_size _ rfl, rfl, rfl⟩ q)
    · exact wpAny_pyIter_ascii ha (pi_one (tk := s1.toks) I1 _ (turn_str _ z t "str_ascii_iterator" (.inl rfl)) ⟨_, Heap.get?_push_size _ rfl, rfl, rfl⟩ q)
section
variable {X : Cx} {cl : Nat → Addr} {W : WXd} {e tg : Expr} {es : List Expr} {pos : Pos}
theorem pid_seq {m : M D} (h : PE X e (tD (gx X cl) W m)) : PI X tg e (tI (gx X cl) W (itSeq m)) := by
  refine PI.imp (pi_seq h) fun σ H R h => ?_
  obtain ⟨c, s, h⟩ := h
  obtain ⟨c0, s0, h1⟩ := Run.fst h
  refine ⟨c0, s0, h1.mono fun d c1 H1 _ q v hv => ?_⟩
  obtain ⟨c1', s1, d', _, hd, h2⟩ := q v hv
  cases hd with
  | @lst a vs ds hq hl =>
    obtain ⟨hn, h3⟩ := Run.grd (show Run (gx X cl) W c1' s1 (grd (D.noOwns ds) (ret ds)) σ H1 _ from h2)
    exact .inl ⟨a, rfl, .inl ⟨⟨vs, h3.rel.base.sub.sqL hq⟩, Run.ret h3 _ (itok_list hq hl hn)⟩⟩
  | @tup a vs ds hq hl =>
    obtain ⟨hn, h3⟩ := Run.grd (show Run (gx X cl) W c1' s1 (grd (D.noOwns ds) (ret ds)) σ H1 _ from h2)
    exact .inl ⟨a, rfl, .inr ⟨⟨vs, h3.rel.base.sub.sqT hq⟩, Run.ret h3 _ (itok_tup hq hl hn)⟩⟩
  | str z =>
    exact .inr ⟨z, rfl, Run.ret (show Run (gx X cl) W c1' s1 (ret (sgnsD z)) σ H1 _ from h2) _ itok_str⟩
  | _ => exact Run.no h2
def itRange1 (m : M (List D)) : M (List D) := bnd m fun ds => match ds with
  | [.int j] => grd (decide (-(2 ^ 62) ≤ j ∧ j < 2 ^ 62)) (ret (rangeD 0 j.toNat))
  | _ => stuck
theorem DenL.int1 {K F ρ O vs j} (h : DenL K F ρ O vs [.int j]) : vs = [.int j] := by
  cases h with
  | cons a b => cases b; cases a; rfl
theorem pid_range1 {a : Expr} {m : M (List D)} {p : Pos} (hg : Gl X "range") (hm : X.mg "range" = none) (ha : PA X [a] (tLs (gx X cl) W m)) (hs : starEach [a] X.env = [(false, eval a X.env)] := by rfl) : PI X tg (.Call (.Name "range" p) [a] [] pos) (tI (gx X cl) W (itRange1 m)) := by
  refine PI.imp (pi_range1 hg hm ha hs) fun σ H R h => ?_
  obtain ⟨c, s, h⟩ := h
  obtain ⟨c0, s0, h1⟩ := Run.fstL h
  refine ⟨c0, s0, h1.mono fun d c1 H1 _ q vs hvs => ?_⟩
  obtain ⟨c1', s1, ds, _, hd, h2⟩ := q vs hvs
  split at h2
  · rename_i j
    obtain ⟨hz, h3⟩ := Run.grd h2
    obtain ⟨z1, z2⟩ := of_decide_eq_true hz
    exact ⟨j, hd.int1, z1, z2, Run.ret h3 _ itok_range⟩
  · exact Run.no h2
def forD (g : TgM) (body : SM) : List D → SM
  | [] => ret .nx
  | d :: ds => bnd (upM (g d)) fun _ => bnd body fun o => match o with
    | .nx => forD g body ds
    | .ct => forD g body ds
    | .bk => ret .nx
    | .rt d => ret (.rt d)
def sFor (mi : M (List D)) (g : TgM) (body : SM) : SM := bnd mi fun ds => forD g body ds
theorem psd_for {iter : Expr} {body : List Stmt} {mi : M (List D)} {ts : List Nat} {g : TgM} {mb : SM} (hp : PassesOwn (model X.prog X.w) X.A X.env X.xe) (hc : X.calm = true) (hi : PI X tg iter (tI (gx X cl) W mi)) (hg : PG X tg (tG (gx X cl) ts g)) (hb : PSs X body (tS (gx X cl) W mb))
    (hs : ∀ x, foldedSetIterable iter X.env x = pure x := by intro _; rfl) : PS X (.For tg iter body [] pos) (tS (gx X cl) W (sFor mi g mb)) := by
  refine PS.imp (ps_for hp hc hi hg hb hs) fun E σ H h => ?_
  obtain ⟨c, s, h⟩ := h
  refine ⟨c, s, Run.mono (RunS.bind h) fun ds c1 H1 _ q J hJ => ?_⟩
  obtain ⟨s1, _, h1⟩ := q
  refine ⟨fun i m σ' H' => m = ds.length - i ∧ i ≤ ds.length ∧ ∃ c' s', Sub c1.F c'.F ∧ Pre c1.ρ c'.ρ ∧ RunS (gx X cl) W c' s' (forD g mb (ds.drop i)) σ' H' E, ⟨ds.length, by simp, Nat.zero_le _, c1, s1, Sub.refl _, Pre.refl _, by simpa using h1⟩, ?_⟩
  rintro i m σ' H' ⟨rfl, hi, c', s', hF, hρ, r, h2⟩
  by_cases hlt : i < ds.length
  · have hd : ds[i]? = some ds[i] := List.getElem?_eq_getElem hlt
    obtain ⟨g1, g2⟩ := hJ.go c' σ' H' s' i _ r hF hρ hd
    refine .inr ⟨g1, fun σ2 H2 => ∃ c2 s2, Sub c1.F c2.F ∧ Pre c1.ρ c2.ρ ∧ RunS (gx X cl) W c2 s2 (forD g mb (ds.drop (i + 1))) σ2 H2 E, fun σ2 H2 q => ⟨ds.length - (i + 1), by omega, rfl, hlt, q⟩, fun x H2 y => ?_⟩
    obtain ⟨c2, r2, x2, hv⟩ := g2 x H2 y
    rw [List.drop_eq_getElem_cons hlt] at h2
    unfold forD bnd upM at h2
    cases e1 : g ds[i] s' with
    | none => simp only [e1] at h2; exact h2.elim
    | some s3 =>
      simp only [e1] at h2
      refine ⟨c2, s', ds[i], s3, r2, hv, e1, fun σ3 c3 r3 x3 _ => ⟨c3, s3, r3, ?_⟩⟩
      have n3 : Nxt c' c3 := x2.nxt.trans x3.nxt
      have hF3 : Sub c1.F c3.F := hF.trans n3.F
      have hρ3 : Pre c1.ρ c3.ρ := hρ.trans n3.ρ
      cases e2 : mb s3 with
      | none => simp only [e2] at h2; exact h2
      | some q =>
        cases q with
        | ex x s4 =>
          simp only [e2] at h2
          exact ResP.to (D' := E) n3 h2
        | ok o s4 =>
          simp only [e2] at h2
          cases o with
          | nx => exact fun σ4 H4 c4 r4 n4 => ⟨c4, s4, hF3.trans n4.F, hρ3.trans n4.ρ, r4, ResP.to (n3.trans n4) h2⟩
          | ct => exact fun σ4 H4 c4 r4 n4 => ⟨c4, s4, hF3.trans n4.F, hρ3.trans n4.ρ, r4, ResP.to (n3.trans n4) h2⟩
          | bk => exact fun σ4 H4 c4 r4 n4 => (show OutP (gx X cl) c' E s4 .nx from h2) σ4 H4 c4 r4 (n3.trans n4)
          | rt d => exact ResP.to (D' := E) n3 h2
  · have e : i = ds.length := by omega
    subst e
    rw [List.drop_length] at h2
    exact .inl ⟨hJ.stop c' σ' H' s' _ r hF hρ (Nat.le_refl _), (show OutP (gx X cl) c' E s' .nx from h2) σ' H' c' r (Nxt.refl _)⟩

end
end
end Dm
namespace Dm
open PySem PySem.Spec L2

def isOwn : Option SV → Bool
  | some (.own _) => true
  | _ => false
def ownKept : List (Option SV) → List (Option SV) → Bool
  | [], _ => true
  | x :: xs, y :: ys => (!isOwn x || isOwn y) && ownKept xs ys
  | x :: xs, [] => !isOwn x && ownKept xs []
theorem ownKept_get : ∀ {a b : List (Option SV)} {i : Nat} {xs : List D}, ownKept a b = true → a[i]? = some (some (.own xs)) → ∃ ys, b[i]? = some (some (.own ys))
  | [], _, _, _, _, h => by simp at h
  | x :: a, y :: b, 0, xs, h1, h2 => by
    simp only [List.length_cons, Nat.zero_lt_succ, List.getElem?_eq_getElem, List.getElem_cons_zero, Option.some.injEq] at h2
    subst h2
    simp only [ownKept, isOwn, Bool.not_true, Bool.false_or, Bool.and_eq_true] at h1
    cases y with
    | none => simp [isOwn] at h1
    | some y =>
      cases y with
      | val d => simp [isOwn] at h1
      | own ys => exact ⟨ys, rfl⟩
  | x :: a, y :: b, i + 1, xs, h1, h2 => by
    simp only [ownKept, Bool.and_eq_true] at h1
    exact ownKept_get (i := i) (xs := xs) h1.2 (by simpa using h2)
  | x :: a, [], i, xs, h1, h2 => by
    have : ∀ {a : List (Option SV)} {i : Nat}, ownKept a [] = true → a[i]? = some (some (.own xs)) → False := by
      intro a
      induction a with
      | nil => intro i _ h; simp at h
      | cons z zs ih =>
        intro i h1 h2
        simp only [ownKept, Bool.and_eq_true] at h1
        cases i with
        | zero => simp at h2; subst h2; simp [isOwn] at h1
        | succ i => exact ih h1.2 (by simpa using h2)
    exact (this h1 h2).elim
def wipeD (σ : List (Option SV)) : List Nat → List (Option SV)
  | [] => σ
  | v :: vs => (wipeD σ vs).set v none
theorem wipeD_get {σ : List (Option SV)} : ∀ {vs : List Nat} {i : Nat} {x : SV}, (wipeD σ vs)[i]? = some (some x) → σ[i]? = some (some x) ∧ i ∉ vs
  | [], _, _, h => ⟨h, by simp⟩
  | v :: vs, i, x, h => by
    unfold wipeD at h
    by_cases hv : v = i
    · subst hv
      rw [List.getElem?_set] at h
      simp only [if_true] at h
      split at h <;> cases h
    · rw [List.getElem?_set_ne hv] at h
      obtain ⟨h1, h2⟩ := wipeD_get h
      exact ⟨h1, by simp only [List.mem_cons, not_or]; exact ⟨fun e => hv e.symm, h2⟩⟩
theorem wipeD_length {σ : List (Option SV)} : ∀ {vs : List Nat}, (wipeD σ vs).length = σ.length
  | [] => rfl
  | v :: vs => by unfold wipeD; rw [List.length_set, wipeD_length]
theorem wipe_out' {σ : L2.St} {vs : List Nat} {i : Nat} (h : i ∉ vs) : (wipe σ vs)[i]? = σ[i]? := by rw [wipe_get, if_neg h]
section
variable {G : Gx} {c c' : Cc} {σ σ' : L2.St} {H H' : Hp} {s s' : Sd}
theorem Rel.wipe (r : Rel G c σ H s) (vs : List Nat) : Rel G c (wipe σ vs) H { s with σ := wipeD s.σ vs } := by
  refine ⟨r.base, r.step, by rw [wipe_length, wipeD_length]; exact r.len, fun i d h => ?_, fun i xs h => ?_, fun i j xs ys a h1 h2 => ?_, r.oth⟩
  · obtain ⟨h1, h2⟩ := wipeD_get h
    obtain ⟨q1, v, q2, q3⟩ := r.val i d h1
    exact ⟨q1, v, (wipe_out' h2).trans q2, q3⟩
  · obtain ⟨h1, h2⟩ := wipeD_get h
    obtain ⟨q0, a, vs, qa, q1, q⟩ := r.own i xs h1
    exact ⟨q0, a, vs, qa, (wipe_out' h2).trans q1, q⟩
  · exact r.inj i j xs ys a (wipeD_get h1).1 (wipeD_get h2).1
/-- behind a block: the frame's own slots again -/
theorem Rel.back (r : Rel G c σ H s) (r' : Rel G c' σ' H' s') (x : Ext c H c' H') (hk : ∀ (i : Nat) (xs : List D), s.σ[i]? = some (some (SV.own xs)) → ∃ ys, s'.σ[i]? = some (some (SV.own ys))) : Rel G c' σ H' { s with S := s'.S } := by
  refine ⟨r'.base, r'.step, r.len, fun i d h => ?_, fun i xs h => ?_, fun i j xs ys a h1 h2 e1 e2 => r.inj i j xs ys a h1 h2 (by rw [← x.O]; exact e1) (by rw [← x.O]; exact e2), r'.oth⟩
  · obtain ⟨q1, v, q2, q3⟩ := r.val i d h
    exact ⟨q1, v, q2, x.den q3⟩
  · obtain ⟨q0, a, vs, qa, q1, q2, q3, q4, q5, q6⟩ := r.own i xs h
    obtain ⟨ys, h'⟩ := hk i xs h
    obtain ⟨_, a', _, qa', _, _, p3, p4, _, _⟩ := r'.own i ys h'
    rw [x.O, qa] at qa'
    cases qa'
    exact ⟨q0, a, vs, by rw [x.O]; exact qa, q1, x.keep _ _ q2 q4, p3, p4, by rw [x.B]; exact q5, x.denL q6⟩
/-- a thing that is not told is taken away -/
def rem (H : Hp) (p : Addr) : Hp := fun b => if b = p then none else H b
theorem rem_ne {H : Hp} {p b : Addr} (h : b ≠ p) : rem H p b = H b := if_neg h
theorem rem_same {H : Hp} {p : Addr} : rem H p p = none := if_pos rfl
theorem upd_rem {H : Hp} {p : Addr} {o : HO} (h : H p = some o) : upd (rem H p) p o = H := by
  funext b
  by_cases hb : b = p
  · subst hb; rw [upd_same, h]
  · rw [upd_ne hb, rem_ne hb]
theorem Rel.rem (r : Rel G c σ H s) {p : Addr} (h1 : c.F p = none) (h2 : p ∉ c.ρ) (h3 : c.B.H p = none) (h4 : ∀ i, c.O i ≠ some p) : Rel G c σ (rem H p) s := by
  refine ⟨⟨fun b o e => ?_, r.base.len, fun n o h => ?_, r.base.dis, r.base.nd⟩, ⟨r.step.sub, r.step.fn, r.step.more, fun b o e hb => ?_, fun b o e => ?_⟩, r.len, r.val, fun i xs h => ?_, r.inj, fun i a h => ?_⟩
  · rw [rem_ne (fun z => by subst z; rw [h1] at e; cases e)]
    exact r.base.sub b o e
  · obtain ⟨a, q1, q2⟩ := r.base.ob n o h
    refine ⟨a, q1, q2.mono (fun _ _ z => z) (fun _ _ z => z) fun u z => ?_⟩
    rw [rem_ne fun z2 : a = p => h2 (z2 ▸ List.mem_of_getElem? q1)]
    exact z
  · rw [rem_ne (ne_of_none e h3)]
    exact r.step.keep b o e hb
  · rw [rem_ne (ne_of_none e h3)]
    exact r.step.there b o e
  · obtain ⟨q0, a, vs, qa, q1, q2, q⟩ := r.own i xs h
    refine ⟨q0, a, vs, qa, q1, ?_, q⟩
    rw [rem_ne fun z : a = p => h4 i (z ▸ qa)]
    exact q2
  · rw [rem_ne fun z : a = p => h4 i (z ▸ h)]
    exact r.oth i a h
end

theorem Ext.rem {c c' : Cc} {H H' : Hp} {p : Addr} (x : Ext c H c' H') : Ext c (rem H p) c' (rem H' p) := by
  refine ⟨x.sub, fun a o h => ?_, ?_, fun b o h hb => ?_, fun b o h => ?_, x.O, x.B⟩
  · rcases x.fn a o h with h | h | h | ⟨vs, h, hr⟩
    · exact .inl h
    · refine .inr (.inl ?_)
      by_cases ha : a = p
      · subst ha; exact rem_same
      · rw [rem_ne ha]; exact h
    · exact .inr (.inr (.inl h))
    · by_cases ha : a = p
      · subst ha; exact .inr (.inl rem_same)
      · exact .inr (.inr (.inr ⟨vs, by rw [rem_ne ha]; exact h, hr⟩))
  · obtain ⟨t, h1, h2⟩ := x.more
    refine ⟨t, h1, fun a ha => ?_⟩
    by_cases hp : a = p
    · subst hp; exact rem_same
    · rw [rem_ne hp]; exact h2 a ha
  · have hp : b ≠ p := fun z => by subst z; rw [rem_same] at h; cases h
    rw [rem_ne hp] at h ⊢
    exact x.keep b o h hb
  · have hp : b ≠ p := fun z => by subst z; rw [rem_same] at h; cases h
    rw [rem_ne hp] at h ⊢
    exact x.there b o h
theorem rem_upd {H : Hp} {p : Addr} {o : HO} : rem (upd H p o) p = rem H p := by
  funext b
  by_cases hb : b = p
  · subst hb; rw [rem_same, rem_same]
  · rw [rem_ne hb, rem_ne hb, upd_ne hb]
theorem rem_none {H : Hp} {p : Addr} (h : H p = none) : rem H p = H := by
  funext b
  by_cases hb : b = p
  · subst hb; rw [rem_same, h]
  · rw [rem_ne hb]

/-- a turn of the block: its own names at vs are forgotten ahead and behind -/
def compT (vs : List Nat) (g : TgM) (test : M Bool) (elt : M D) (d : D) (s : Sd) : Option (List D × Sd) := match g d { s with σ := wipeD s.σ vs } with
  | some s1 => match (bnd test fun b => if b then bnd elt fun e => ret [e] else ret []) s1 with
    | some (.ok a s2) => if ownKept s.σ s2.σ then some (a, { s with S := s2.S }) else none
    | _ => none
  | none => none
def compL (vs : List Nat) (g : TgM) (test : M Bool) (elt : M D) : List D → Sd → Option (List D × Sd)
  | [], s => some ([], s)
  | d :: ds, s => match compT vs g test elt d s with
    | some (o, s1) => match compL vs g test elt ds s1 with
      | some (es, s2) => some (o ++ es, s2)
      | none => none
    | none => none
def compM (vs : List Nat) (g : TgM) (test : M Bool) (elt : M D) (ds : List D) : M (List D) := fun s => match compL vs g test elt ds s with
  | some (es, s') => some (.ok es s')
  | none => none
def eLc (vs : List Nat) (mi : M (List D)) (g : TgM) (test : M Bool) (elt : M D) : M (List D) := bnd mi fun ds => grd (decide (ds.length ≤ sizeLine)) (compM vs g test elt ds)
abbrev W0 : WXd := fun _ _ _ _ => False
theorem Run.of {α : Type} {G : Gx} {c : Cc} {s s' : Sd} {σ : L2.St} {H : Hp} {m : M α} {a : α} (r : Rel G c σ H s) (e : m s = some (.ok a s')) : Run G W0 c s m σ H fun a' c' H' => a' = a ∧ Rel G c' σ H' s' ∧ Ext c H c' H' :=
  ⟨r, by rw [e]; exact fun H' c' r' x' => ⟨rfl, r', x'⟩⟩
theorem wipe_wipe {σ : L2.St} {vs : List Nat} : wipe (wipe σ vs) vs = wipe σ vs := by
  apply List.ext_getElem?
  intro i
  rw [wipe_get]
  by_cases h : i ∈ vs
  · rw [if_pos h, wipe_get, if_pos h, wipe_length]
  · rw [if_neg h]
theorem lc_run {G : Gx} {W : WXd} {vs ts : List Nat} {mi : M (List D)} {g : TgM} {test : M Bool} {elt : M D} {σ : L2.St} {H : Hp} {Q : VK} (hts : ∀ i ∈ ts, i ∈ vs) (h : tN G W (eLc vs mi g test elt) σ H Q) :
    tLc (tIK G W mi) (tG G ts g) (tBo G W0 test) (tD G W0 elt) vs σ H Q := by
  obtain ⟨c, s, h⟩ := h
  refine ⟨c, s, Run.mono (Run.bind h) fun ds c1 H1 _ q J hJ p hp => ?_⟩
  obtain ⟨s1, q⟩ := q
  obtain ⟨hz, q⟩ := Run.grd q
  have hz := of_decide_eq_true hz
  obtain ⟨r0, q⟩ := q
  cases eL : compL vs g test elt ds s1 with
  | none =>
    have e2 : compM vs g test elt ds s1 = none := by unfold compM; rw [eL]
    rw [e2] at q
    exact q.elim
  | some z =>
  obtain ⟨es, s2⟩ := z
  have e2 : compM vs g test elt ds s1 = some (.ok es s2) := by unfold compM; rw [eL]
  rw [e2] at q
  have q : ∀ H' c', Rel G c' σ H' s2 → Ext c1 H1 c' H' → ∀ p vs, H' p = none → DenL' G c' vs es → Q (.ref p) (upd H' p (.lst vs)) := q
  refine ⟨fun i m H' => m = ds.length - i ∧ i ≤ ds.length ∧ ∃ c' s' acc done es', Rel G c' σ (rem H' p) s' ∧ Ext c1 H1 c' (rem H' p) ∧ H' p = some (.lst acc) ∧ acc.length ≤ i ∧ DenL' G c' acc done ∧ compL vs g test elt (ds.drop i) s' = some (es', s2) ∧ done ++ es' = es,
    ⟨ds.length, by simp, Nat.zero_le _, c1, s1, [], [], es, by rw [rem_upd, rem_none hp]; exact r0, by rw [rem_upd, rem_none hp]; exact Ext.refl _ _, upd_same, Nat.le_refl _, .nil, by rw [List.drop_zero]; exact eL, by simp⟩, ?_⟩
  rintro i m H' ⟨rfl, hi, c', s', acc, done, es', r', x', hH, hlen, hacc, eC, eE⟩
  have np : (rem H' p) p = none := rem_same
  have hF' : c'.F p = none := r'.off np
  have hρ' : p ∉ c'.ρ := r'.rho np
  have hO' : ∀ i, c'.O i ≠ some p := fun i e => by
    obtain ⟨o, ho⟩ := r'.oth i p e
    rw [np] at ho; cases ho
  have hB' : c'.B.H p = none := r'.step.free np
  have rH : Rel G c' σ H' s' := by
    have := (r'.add (H' := upd (rem H' p) p (.lst acc)) (keep_upd np)).1
    rw [upd_rem hH] at this
    exact this
  have subs : Sub c1.F c'.F := x'.sub
  have keepH : ∀ b o, H1 b = some o → b ∉ c1.ρ → H' b = some o := fun b o e hb => by
    have z := x'.keep b o e hb
    unfold rem at z
    split at z
    · cases z
    · exact z
  by_cases hlt : i < ds.length
  · have hd : ds[i]? = some ds[i] := List.getElem?_eq_getElem hlt
    have rW := rH.wipe vs
    obtain ⟨g1, g2⟩ := hJ.go c' _ H' _ i _ rW subs x'.pre keepH hd
    refine .inr ⟨g1, fun H3 => ∃ c' s' acc done es', Rel G c' σ (rem H3 p) s' ∧ Ext c1 H1 c' (rem H3 p) ∧ H3 p = some (.lst acc) ∧ acc.length ≤ i + 1 ∧ DenL' G c' acc done ∧ compL vs g test elt (ds.drop (i + 1)) s' = some (es', s2) ∧ done ++ es' = es,
      fun H3 w => ⟨ds.length - (i + 1), by omega, rfl, hlt, w⟩, fun x H2 y => ?_⟩
    obtain ⟨c2, r2, x2, hv⟩ := g2 x H2 y
    rw [List.drop_eq_getElem_cons hlt] at eC
    unfold compL at eC
    cases eT : compT vs g test elt ds[i] s' with
    | none => simp only [eT] at eC; cases eC
    | some z =>
    obtain ⟨o, s3⟩ := z
    simp only [eT] at eC
    cases eR : compL vs g test elt (ds.drop (i + 1)) s3 with
    | none => simp only [eR] at eC; cases eC
    | some z =>
    obtain ⟨es2, s4⟩ := z
    simp only [eR] at eC
    cases eC
    unfold compT at eT
    cases eG : g ds[i] { s' with σ := wipeD s'.σ vs } with
    | none => simp only [eG] at eT; cases eT
    | some sg =>
    simp only [eG] at eT
    cases eB : (bnd test fun b => if b then bnd elt fun e => ret [e] else ret []) sg with
    | none => simp only [eB] at eT; cases eT
    | some z =>
    cases z with
    | ex xx s5 => simp only [eB] at eT; cases eT
    | ok a s5 =>
    simp only [eB] at eT
    by_cases hk : ownKept s'.σ s5.σ = true
    · rw [if_pos hk] at eT
      cases eT
      refine ⟨c2, _, ds[i], sg, r2, hv, eG, fun σ3 c3 r3 x3 on => ⟨(on.wipe hts).trans wipe_wipe, ?_⟩⟩
      -- what a turn's end leaves
      have back : ∀ {c4 : Cc} {H4 : Hp} {ws : List V}, Rel G c4 σ3 H4 s5 → Ext c3 H2 c4 H4 → DenL' G c4 ws o → ws.length ≤ 1 → ∀ H5, (H4 p = some (.lst acc) → H5 = upd H4 p (.lst (acc ++ ws))) →
          ∃ c' s' acc done es', Rel G c' σ (rem H5 p) s' ∧ Ext c1 H1 c' (rem H5 p) ∧ H5 p = some (.lst acc) ∧ acc.length ≤ i + 1 ∧ DenL' G c' acc done ∧ compL vs g test elt (ds.drop (i + 1)) s' = some (es', s2) ∧ done ++ es' = es := fun {c4 H4 ws} r4 x4 hws hw1 H5 h5 => by
        have xx : Ext c' H' c4 H4 := (x2.trans x3).trans x4
        have hp4 : H4 p = some (.lst acc) := xx.keep p _ hH hρ'
        have e5 := h5 hp4
        subst e5
        have r4b := rH.back r4 xx fun i ys h => ownKept_get hk h
        have n1 : c4.F p = none := by
          cases e : c4.F p with
          | none => rfl
          | some o =>
            rcases xx.fn _ _ e with z | z | ⟨j, z⟩ | ⟨_, z, _⟩
            · rw [hF'] at z; cases z
            · rw [hH] at z; cases z
            · exact absurd z (hO' j)
            · rw [hH] at z; cases z
        have n2 : p ∉ c4.ρ := fun hm => by
          obtain ⟨t, e, ht⟩ := xx.more
          rw [e] at hm
          rcases List.mem_append.mp hm with hm | hm
          · exact hρ' hm
          · rw [ht _ hm] at hH; cases hH
        refine ⟨c4, _, acc ++ ws, done ++ o, es2, ?_, ?_, upd_same, ?_, (xx.denL hacc).append hws, eR, ?_⟩
        · rw [rem_upd]
          exact r4b.rem n1 n2 (by rw [xx.B]; exact hB') (fun i => by rw [xx.O]; exact hO' i)
        · rw [rem_upd]
          exact x'.trans (xx.rem (p := p))
        · rw [List.length_append]; omega
        · rw [List.append_assoc]; exact eE
      have RB := Run.bind (Run.of r3 eB)
      refine ⟨c3, sg, RB.mono fun b c4 H4 x4 q4 => ?_⟩
      obtain ⟨s6, q4⟩ := q4
      cases b with
      | false =>
        obtain ⟨ea, r5, x5⟩ := Run.ret (show Run G W0 c4 s6 (ret []) σ3 H4 _ from q4)
        exact back (ws := []) r5 x5 (by rw [← ea]; exact .nil) (by simp) H4 fun e => by rw [List.append_nil]; funext b; by_cases hb : b = p; subst hb; rw [upd_same, e]; rw [upd_ne hb]
      | true =>
        obtain ⟨c5, s7, q5⟩ := Run.fst (show Run G W0 c4 s6 (bnd elt fun e => ret [e]) σ3 H4 _ from q4)
        refine ⟨c5, s7, q5.mono fun e c6 H6 x6 q6 v hv => ?_⟩
        obtain ⟨c7, s8, e', x7, hv', q7⟩ := q6 v hv
        obtain ⟨ea, r5, x5⟩ := Run.ret q7
        have xx : Ext c' H' c7 H6 := (x2.trans x3).trans x5
        have hp6 := xx.keep p _ hH hρ'
        refine ⟨acc, hp6, by omega, back (ws := [v]) r5 x5 (by rw [← ea]; exact .cons hv' .nil) (by simp) _ fun _ => rfl⟩
    · rw [if_neg hk] at eT; cases eT
  · have e : i = ds.length := by omega
    subst e
    rw [List.drop_length] at eC
    have eC : some (([] : List D), s') = some (es', s2) := eC
    cases eC
    rw [List.append_nil] at eE
    subst eE
    refine .inl ⟨hJ.stop c' σ H' _ _ rH subs x'.pre keepH (Nat.le_refl _), ?_⟩
    have := q (rem H' p) c' r' x' p acc np hacc
    rw [upd_rem hH] at this
    exact this

theorem ptsd_nil {X : Cx} {cl : Nat → Addr} {W : WXd} : PTs X [] (tBo (gx X cl) W (ret true)) := ⟨fun pins s σ H Q I h => pts_nil.run pins s σ H Q I (by
  obtain ⟨c, s, h⟩ := h
  exact Run.ret h)⟩
section
variable {X : Cx} {cl : Nat → Addr} {W : WXd} {elt tg iter : Expr} {ifs : List Expr} {scope : Scope} {own : List (Str × Nat)} {pos : Pos} {mi : M (List D)} {ts : List Nat} {g : TgM} {mt : M Bool} {me : M D}
theorem pn_lc (hc : X.calm = true) (hN : X.N.Nodup) (hi : PI X tg iter (tIK (gx X cl) W mi)) (ok : BlkOk X.N X.env.scope scope own) (hts : ∀ i ∈ ts, i ∈ own.map (·.2))
    (hg : ∀ (s : Shared) (H : Hp) (C : Addr) (cl' : List (Str × Addr)) (fp : List Addr), PG (X.blk s H scope (compEnvC scope cl' C X.env) fp) tg (tG (gx X cl) ts g)) (ht : ∀ (s : Shared) (H : Hp) (C : Addr) (cl' : List (Str × Addr)) (fp : List Addr), PTs (X.blk s H scope (compEnvC scope cl' C X.env) fp) ifs (tBo (gx X cl) W0 mt))
    (he : ∀ (s : Shared) (H : Hp) (C : Addr) (cl' : List (Str × Addr)) (fp : List Addr), PE (X.blk s H scope (compEnvC scope cl' C X.env) fp) elt (tD (gx X cl) W0 me)) (hs : ∀ x, foldedSetIterable iter X.env x = pure x := by intro _; rfl) :
    PE X (.ListComp elt [⟨tg, iter, ifs, 0⟩] scope pos) (tN (gx X cl) W (eLc (own.map (·.2)) mi g mt me)) :=
  PE.imp (pe_lc hc hN hi ok hg ht he hs) fun σ H Q h => lc_run hts h
end

/-- what a def computes by its body: np parameters, nl names in all -/
def mkFn (np nl : Nat) (m : SM) : Fn := fun ds S => if ds.length = np then match m ⟨ds.map (fun d => some (.val d)) ++ List.replicate (nl - np) none, S⟩ with
  | some (.ok (.rt d) s') => some (.ok d s'.S)
  | some (.ok .nx s') => some (.ok .non s'.S)
  | some (.ex e s') => if D.noOwns (e.fs.map (·.2)) then some (.ex e s'.S) else none
  | _ => none else none
theorem rel_start {G : Gx} {c : Cc} {H : Hp} {S : List Ob} {vs : List V} {ds : List D} {N : List Str} {np : Nat} (b : Base G c H S) (hl : DenL' G c vs ds) (hn : D.noOwns ds = true) (hp : ds.length = np) :
    Rel G ⟨c.F, c.ρ, fun _ => none, ⟨c.F, c.ρ, H⟩⟩ (L2.start N vs) H ⟨ds.map (fun d => some (.val d)) ++ List.replicate (N.length - np) none, S⟩ := by
  have hvs : vs.length = ds.length := hl.length
  refine ⟨b.reown, Step.refl _ _ _, ?_, fun i d h => ?_, fun i xs h => ?_, fun i j xs ys a h => ?_, fun i a h => by cases h⟩
  · unfold L2.start
    simp only [List.length_append, List.length_map, List.length_replicate]
    omega
  · have h : (ds.map (fun d => some (SV.val d)) ++ List.replicate (N.length - np) none)[i]? = some (some (.val d)) := h
    by_cases hi : i < ds.length
    · rw [List.getElem?_append_left (by simpa using hi), List.getElem?_map] at h
      cases e : ds[i]? with
      | none => rw [e] at h; cases h
      | some d' =>
        rw [e] at h
        cases h
        obtain ⟨v, h1, h2⟩ := hl.get e
        have nd := noOwns_get hn e
        refine ⟨nd, v, ?_, h2.reown nd⟩
        unfold L2.start
        rw [List.getElem?_append_left (by simp; omega), List.getElem?_map, h1]
        rfl
    · rw [List.getElem?_append_right (by simpa using hi), List.getElem?_replicate] at h
      split at h <;> cases h
  · have h : (ds.map (fun d => some (SV.val d)) ++ List.replicate (N.length - np) none)[i]? = some (some (.own xs)) := h
    by_cases hi : i < ds.length
    · rw [List.getElem?_append_left (by simpa using hi), List.getElem?_map] at h
      cases e : ds[i]? with
      | none => rw [e] at h; cases h
      | some d' => rw [e] at h; cases h
    · rw [List.getElem?_append_right (by simpa using hi), List.getElem?_replicate] at h
      split at h <;> cases h
  · have h : (ds.map (fun d => some (SV.val d)) ++ List.replicate (N.length - np) none)[i]? = some (some (.own xs)) := h
    by_cases hi : i < ds.length
    · rw [List.getElem?_append_left (by simpa using hi), List.getElem?_map] at h
      cases e : ds[i]? with
      | none => rw [e] at h; cases h
      | some d' => rw [e] at h; cases h
    · rw [List.getElem?_append_right (by simpa using hi), List.getElem?_replicate] at h
      split at h <;> cases h
theorem spD_len {G : Gx} {np nl : Nat} {m : SM} {vs : List V} {H : Hp} {Q : VK} {E : XK} (h : spD G (mkFn np nl m) vs H Q E) : vs.length = np := by
  obtain ⟨c, ds, S, b, hl, hn, h⟩ := h
  by_cases hp : ds.length = np
  · rw [hl.length]; exact hp
  · have e : mkFn np nl m ds S = none := if_neg hp
    rw [e] at h
    exact h.elim
/-- a body's run from its promise -/
theorem spD_run {G : Gx} {W : WXd} {np : Nat} {N : List Str} {m : SM} {vs : List V} {H : Hp} {Q : VK} {E : XK} (hW : ∀ cls d σ H', E cls d H' → W cls d σ H') (h : spD G (mkFn np N.length m) vs H Q E) : tS G W m { nx := fun _ H' => Q .non H', rt := Q } (L2.start N vs) H := by
  obtain ⟨c, ds, S, b, hl, hn, h⟩ := h
  by_cases hp : ds.length = np
  · have r := rel_start (N := N) b hl hn hp
    refine ⟨_, _, r, ?_⟩
    unfold mkFn at h
    rw [if_pos hp] at h
    cases e : m ⟨ds.map (fun d => some (.val d)) ++ List.replicate (N.length - np) none, S⟩ with
    | none => rw [e] at h; exact h
    | some q =>
      rw [e] at h
      cases q with
      | ex x s' =>
        simp only at h
        by_cases no : D.noOwns (x.fs.map (·.2)) = true
        · rw [if_pos no] at h
          intro dx σ' H' c' r' n' hx
          have st : Step c.F c.ρ H c'.F c'.ρ H' := by
            have := r'.step
            rw [n'.B] at this
            exact this
          exact hW _ _ _ _ (h dx H' c' r'.base st no hx)
        · rw [if_neg no] at h; exact h.elim
      | ok o s' =>
        cases o with
        | nx =>
          intro σ' H' c' r' n'
          have st : Step c.F c.ρ H c'.F c'.ρ H' := by
            have := r'.step
            rw [n'.B] at this
            exact this
          exact h .non H' c' r'.base st rfl .non
        | rt d => exact fun v H' c' b' st nd hv => h v H' c' b' st nd hv
        | bk => exact h.elim
        | ct => exact h.elim
  · have e : mkFn np N.length m ds S = none := if_neg hp
    rw [e] at h
    exact h.elim
/-- a def that raises nothing -/
def noEx (F : Fn) : Fn := fun ds S => match F ds S with
  | some (.ok d S') => some (.ok d S')
  | _ => none
section
variable {P : Program} {w : World} {K : PySem.W.Frag} {mg : Str → Option Value} {base : Heap} {cl : Nat → Addr}
theorem fn_okD {x qual : Str} {st : Stmt} {f : Addr} {fd : FuncData} {N ps : List Str} {k : Nat} {m : SM} (F : Fun K x qual st f fd) (S : FnScope N ps (defScope st))
    (hbody : ∀ (cdv : Value) (A : Around) (outer : List Env) (s : Shared) (H : Hp) (E : XK), Room k (A.deeper (PyProof.Rows.envOfC qual (defScope st) s.heap.objs.size f cdv)) →
      PSs (cxOf CX0 P w K mg base N qual (defScope st) f cdv A outer s H E).nox (defBody st) (tS ⟨K, cl⟩ W0 m)) : FnOk P w K mg base CX0 (k + 1) f fd ps (spD ⟨K, cl⟩ (noEx (mkFn ps.length N.length m))) := by
  have imp : ∀ vs H Q E, spD ⟨K, cl⟩ (noEx (mkFn ps.length N.length m)) vs H Q E → spD ⟨K, cl⟩ (mkFn ps.length N.length m) vs H Q (fun _ _ _ => False) := fun vs H Q E h => by
    obtain ⟨c, ds, S, b, hl, hn, h⟩ := h
    refine ⟨c, ds, S, b, hl, hn, ?_⟩
    unfold noEx at h
    cases e : mkFn ps.length N.length m ds S with
    | none => rw [e] at h; exact h
    | some q =>
      rw [e] at h
      cases q with
      | ok d S' => exact h
      | ex x S' => exact h.elim
  refine F.ok S (fun vs H Q E h => spD_len (imp _ _ _ _ h)) fun cdv A outer s H vs Q E hr h => ⟨_, hbody cdv A outer s H E hr, ?_⟩
  exact spD_run (E := fun _ _ _ => False) (fun _ _ _ _ z => z) (imp _ _ _ _ h)
end
end Dm
namespace Dm
open PySem PySem.Spec L2

abbrev CallOk (X : Cx) (cl : Nat → Addr) (W : WXd) (r : List V → Hp → VK → Prop) (f : List D → M D) : Prop :=
  ∀ c s σ H vs ds Q, DenL' (gx X cl) c vs ds → Run (gx X cl) W c s (f ds) σ H (fun d' c' H' => ∀ v, Den' (gx X cl) c' v d' → Q v H') → r vs H Q
section
variable {X : Cx} {cl : Nat → Addr} {W : WXd} {e : Expr} {es : List Expr} {p pos : Pos} {m : M (List D)} {x : Str}
theorem callD_run {r : List V → Hp → VK → Prop} {f : List D → M D} (hr : CallOk X cl W r f) {σ : L2.St} {H : Hp} {Q : VK} (h : tD (gx X cl) W (bnd m f) σ H Q) : tCB r (tLs (gx X cl) W m) σ H Q := by
  obtain ⟨c, s, h⟩ := h
  obtain ⟨c0, s0, h1⟩ := Run.fstL h
  refine ⟨c0, s0, h1.mono fun ds c1 H1 _ q vs hvs => ?_⟩
  obtain ⟨c1', s1, ds', m1, hd, h2⟩ := q vs hvs
  exact hr c1' s1 σ H1 vs ds' Q hd h2
theorem pd_callB {id : String} {r : List V → Hp → VK → Prop} {f : List D → M D} (hc : CallR X (.builtin id) r) (hr : CallOk X cl W r f) (hg : Gl X x) (hm : X.mg x = none) (hv : bootBuiltins x = some (.builtin id)) (ha : PA X (e :: es) (tLs (gx X cl) W m)) (hn : x ≠ "__name__" := by decide) (hdb : (x == ("__debug__" : Str)) = false := by decide)
    (he : starEach (e :: es) X.env = (false, eval e X.env) :: starEach es X.env := by rfl) (hpl : (backTo pos (starEach es X.env)).any (·.1) = false := by rfl) : PE X (.Call (.Name x p) (e :: es) [] pos) (tD (gx X cl) W (bnd m f)) :=
  PE.imp (pe_callB hc hg hm hv ha hn hdb he hpl) fun _ _ _ h => callD_run hr h
theorem pd_callTy {T : String} {r : List V → Hp → VK → Prop} {f : List D → M D} (hc : CallR X (.type T) r) (hr : CallOk X cl W r f) (hg : Gl X x) (hm : X.mg x = none) (hv : bootBuiltins x = some (.type T)) (ha : PA X (e :: es) (tLs (gx X cl) W m)) (hn : x ≠ "__name__" := by decide) (hdb : (x == ("__debug__" : Str)) = false := by decide)
    (he : starEach (e :: es) X.env = (false, eval e X.env) :: starEach es X.env := by rfl) (hpl : (backTo pos (starEach es X.env)).any (·.1) = false := by rfl) : PE X (.Call (.Name x p) (e :: es) [] pos) (tD (gx X cl) W (bnd m f)) :=
  PE.imp (pe_callTy hc hg hm hv ha hn hdb he hpl) fun _ _ _ h => callD_run hr h
def lenM (ds : List D) : M D := match ds with
  | [.str z] => grd (decide (z.length ≤ sizeLine)) (ret (.int z.length))
  | [d] => bnd (getS d) fun xs => ret (.int xs.length)
  | _ => stuck
theorem DenL.one {K F ρ O vs d} (h : DenL K F ρ O vs [d]) : ∃ v, vs = [v] ∧ Den K F ρ O v d := by
  cases h with
  | cons a b => cases b; exact ⟨_, rfl, a⟩
theorem lenM_seq {d : D} (h : ∀ z, d ≠ .str z) : lenM [d] = bnd (getS d) fun xs => ret (.int xs.length) := by
  cases d <;> first | rfl | exact absurd rfl (h _)
theorem ok_len : CallOk X cl W (fun xs H Q => ∃ x n, xs = [x] ∧ LenV X.K x H n ∧ Q (.int n) H) lenM := by
  intro c s σ H vs ds Q hd h
  match ds, h with
  | [d], h =>
    obtain ⟨v, rfl, hv⟩ := hd.one
    by_cases hs : ∃ z, d = .str z
    · obtain ⟨z, rfl⟩ := hs
      obtain ⟨hz, h⟩ := Run.grd (show Run (gx X cl) W c s (grd _ _) σ H _ from h)
      obtain rfl := hv.str_of
      exact ⟨_, z.length, rfl, ⟨of_decide_eq_true hz, rfl⟩, Run.ret h _ (.int _)⟩
    · rw [lenM_seq fun z e => hs ⟨z, e⟩] at h
      obtain ⟨a, vs, xs, rfl, hq, hl, h2⟩ := Run.getS h hv
      have q := Run.ret h2 _ (.int _)
      rw [← hl.length] at q
      exact ⟨_, vs.length, rfl, hq.elim (fun z => .inl ⟨vs, z, rfl⟩) (fun z => .inr ⟨vs, z, rfl⟩), q⟩
  | [], h => exact Run.no h
  | _ :: _ :: _, h => exact Run.no (by first | exact h | simpa [lenM] using h)
def absM (ds : List D) : M D := match ds with
  | [.int i] => ret (.int (if i < 0 then -i else i))
  | _ => stuck
def gcdM (ds : List D) : M D := match ds with
  | [.int i, .int j] => ret (.int (Nat.gcd i.natAbs j.natAbs : Nat))
  | _ => stuck
def intM (ds : List D) : M D := match ds with
  | [.int i] => ret (.int i)
  | [.bl k] => ret (.int (if k then 1 else 0))
  | _ => stuck
theorem DenL.bl1 {K F ρ O vs j} (h : DenL K F ρ O vs [.bl j]) : vs = [.bl j] := by
  obtain ⟨v, rfl, hv⟩ := h.one
  rw [hv.bl_of]
theorem ok_int : CallOk X cl W (fun xs H Q => (∃ i, xs = [.int i] ∧ Q (.int i) H) ∨ ∃ k, xs = [.bl k] ∧ Q (.int (if k then 1 else 0)) H) intM := by
  intro c s σ H vs ds Q hd h
  unfold intM at h
  split at h
  · exact .inl ⟨_, hd.int1, Run.ret h _ (.int _)⟩
  · exact .inr ⟨_, hd.bl1, Run.ret h _ (.int _)⟩
  · exact Run.no h
end
end Dm
namespace DmS
open PySem PySem.W PySem.Calls PyProof.Rows SrtO
section
variable {prog : Program} {w : World} {A : Around} {E : Value → Shared → Prop} {s : Shared}
end
end DmS
namespace Dm
open PySem PySem.Spec L2

def tyD (s : Sd) : D → Option String
  | .non => some "NoneType"
  | .bl _ => some "bool"
  | .int _ => some "int"
  | .str _ => some "str"
  | .tup _ => some "tuple"
  | .con _ => some "tuple"
  | d => match asL s d with
    | some _ => some "list"
    | none => none
def isiB (t T : String) : Option Bool :=
  if t ∈ ["NoneType", "bool", "int", "str", "tuple", "list"] ∧ T ∈ ["bool", "int", "str", "tuple", "list"] then some (decide (t = T) || (decide (t = "bool") && decide (T = "int"))) else none
def isiM (T : String) (d : D) : M Bool := fun s => match (tyD s d).bind fun t => isiB t T with
  | some b => some (.ok b s)
  | none => none
theorem isiB_kit {t T : String} {b : Bool} (h : isiB t T = some b) : kitB t T = some b := by
  unfold isiB at h
  split at h
  · rename_i hc
    obtain ⟨h1, h2⟩ := hc
    simp only [List.mem_cons, List.not_mem_nil, or_false] at h1 h2
    have e := Option.some.inj h
    subst e
    rcases h1 with rfl | rfl | rfl | rfl | rfl | rfl <;> rcases h2 with rfl | rfl | rfl | rfl | rfl <;> decide +kernel
  · cases h
theorem tyD_ok {G : Gx} {c : Cc} {σ : L2.St} {H : Hp} {s : Sd} (r : Rel G c σ H s) {d : D} {v : V} {t : String} (hd : Den' G c v d) (h : tyD s d = some t) : TyX G.K H v (.type t) := by
  have lst : ∀ {d : D} {v : V}, Den' G c v d → (∃ xs, asL s d = some xs) → TyX G.K H v (.type "list") := fun hd ⟨xs, e⟩ => by
    obtain ⟨a, vs, rfl, hq, _⟩ := asL_den r e hd
    rcases hq with (hq | ⟨o, hq⟩) | ⟨o, its, n, hk, hc, _⟩
    · exact .base (.lst hq)
    · exact .base (.frz hq)
    · exact .kList hk hc
  have lst' : ∀ {d : D} {v : V}, Den' G c v d → (match asL s d with | some _ => some "list" | none => none) = some t → TyX G.K H v (.type t) := fun {d v} hd h => by
    cases e : asL s d with
    | none => rw [e] at h; cases h
    | some xs => rw [e] at h; cases h; exact lst hd ⟨xs, e⟩
  cases hd with
  | non => cases h; exact .base .non
  | bl b => cases h; exact .base (.bl b)
  | int b => cases h; exact .base (.int b)
  | str b => cases h; exact .base (.str b)
  | tup q l =>
    cases h
    rcases r.base.sub.sqT q with (hq | ⟨o, hq⟩) | ⟨o, its, n, hk, hc, _⟩
    · exact .base (.tup hq)
    · exact .fTuple hq
    · exact .kTuple hk hc
  | lst q l => exact lst' (.lst q l) h
  | ref e => exact lst' (.ref e) h
  | own e => exact lst' (.own e) h
  | con q => cases h; exact (let ⟨_, _, _, hk, hc, _⟩ := q; .kTuple hk hc)
section
variable {X : Cx} {cl : Nat → Addr} {W : WXd} {e : Expr} {es : List Expr} {p q pos : Pos} {x T : Str}
/-- isinstance(e, T) -/
def eIsi (n : String) (m : M D) : M Bool := bnd m (isiM n)
theorem isi_walk {n : String} {m : M D} {σ : L2.St} {H : Hp} {Q : VK} (h : ∃ c s, Run (gx X cl) W c s (eIsi n m) σ H fun b _ H' => Q (.bl b) H') : tCB (rIsi X.K) (tCons (tD (gx X cl) W m) (tCons (tC (.ty n)) tNil)) σ H Q := by
  obtain ⟨c, s, h⟩ := h
  obtain ⟨c0, s0, h1⟩ := Run.fst h
  refine ⟨c0, s0, h1.mono fun d c1 H1 _ q v hv => ?_⟩
  obtain ⟨c1', s1, d', _, hd, r, h2⟩ := q v hv
  unfold isiM at h2
  cases e1 : tyD s1 d' with
  | none => simp only [e1, Option.bind_none] at h2
  | some t =>
    simp only [e1, Option.bind_some] at h2
    cases e2 : isiB t n with
    | none => simp only [e2] at h2
    | some b =>
      simp only [e2] at h2
      exact ⟨v, .ty n, .type t, .type n, b, rfl, .ty n, tyD_ok r hd e1, kit_ty (isiB_kit e2), h2 _ _ r (Ext.refl _ _)⟩
theorem pd_isi {n : String} {m : M D} (hg : Gl X "isinstance") (hm : X.mg "isinstance" = none) (hgT : Gl X T) (hmT : X.mg T = none) (hvT : bootBuiltins T = some (.type n)) (he : PE X e (tD (gx X cl) W m))
    (hT : T ≠ "__name__" := by decide) (hTd : (T == ("__debug__" : Str)) = false := by decide)
    (hs : starEach [e, .Name T q] X.env = (false, eval e X.env) :: starEach [.Name T q] X.env := by rfl) (hpl : (backTo pos (starEach [.Name T q] X.env)).any (·.1) = false := by rfl) :
    PE X (.Call (.Name "isinstance" p) [e, .Name T q] [] pos) (tD (gx X cl) W (asV (eIsi n m))) :=
  PE.imp (pe_callB call_isi hg hm (by decide +kernel) (pa_cons he (pa_cons (pe_bltn (v := .ty n) hgT hmT hvT rfl hT hTd) pa_nil) hs) (by decide) (by decide) hs hpl) fun σ H Q h => isi_walk (asV_run h)
/-- isinstance(e, (T, U)) -/
def isiM2 (n k : String) (d : D) : M Bool := fun s => match (tyD s d).bind fun t => (isiB t n).bind fun b => (isiB t k).map fun b' => b || b' with
  | some b => some (.ok b s)
  | none => none
def eIsi2 (n k : String) (m : M D) : M Bool := bnd m (isiM2 n k)
end

def pairD (p : Int × Int) : D := .tup [.int p.1, .int p.2]
def ltP (p q : Int × Int) : Bool := SrtO.lexB p q
def minP : List (Int × Int) → Int × Int
  | [] => (0, 0)
  | x :: xs => xs.foldl (fun a y => if ltP y a then y else a) x
section
variable {X : Cx} {cl : Nat → Addr} {W : WXd} {e : Expr} {es : List Expr} {p q pos : Pos}
end
end Dm
namespace Dm
open PySem PySem.Spec L2

def insP (p : Int × Int) : List (Int × Int) → List (Int × Int)
  | [] => [p]
  | q :: r => if ltP q p then q :: insP p r else p :: q :: r
def sortP (ps : List (Int × Int)) : List (Int × Int) := ps.foldr insP []
section
variable {X : Cx} {cl : Nat → Addr} {W : WXd} {e : Expr} {es : List Expr} {p q pos : Pos} {m : M (List D)}
end
end Dm
namespace Dm
open PySem PySem.Spec L2

def ObNo : Ob → Bool
  | .lst xs => D.noOwns xs
  | .dK kvs => D.noOwns (kvs.map (·.2))
  | .dT kvs => D.noOwns (kvs.map (·.2))
  | .ins _ fs => D.noOwns (fs.map (·.2))
  | .exc _ _ => true
  | .xd fs => D.noOwns (fs.map (·.2))
theorem Rel.alloc {G : Gx} {c : Cc} {σ : L2.St} {H H' : Hp} {s : Sd} {p : Addr} {o : Ob} (r : Rel G c σ H s) (hp : H p = none) (hH : ∀ b u, H b = some u → H' b = some u) (ho : ObDen G { c with ρ := c.ρ ++ [p] } H' p o) :
    Rel G { c with ρ := c.ρ ++ [p] } σ H' { s with S := s.S ++ [o] } ∧ Ext c H { c with ρ := c.ρ ++ [p] } H' := by
  have pre : Pre c.ρ (c.ρ ++ [p]) := ⟨[p], rfl⟩
  have den : ∀ v d, Den' G c v d → Den' G { c with ρ := c.ρ ++ [p] } v d := fun v d h => Den.mono (Sub.refl _) pre h
  have denL : ∀ v d, DenL' G c v d → DenL' G { c with ρ := c.ρ ++ [p] } v d := fun v d h => DenL.mono (Sub.refl _) pre h
  have hF := r.off hp
  have hρ := r.rho hp
  have more : ∃ t, c.ρ ++ [p] = c.ρ ++ t ∧ ∀ a ∈ t, H a = none := ⟨[p], rfl, fun a ha => by simp at ha; subst ha; exact hp⟩
  refine ⟨⟨⟨fun a u e => hH _ _ (r.base.sub a u e), by simp [r.base.len], fun n o' e => ?_, fun a ha => ?_, ?_⟩, r.step.trans ⟨Sub.refl _, fun _ _ z => .inl z, more, fun b u e _ => hH b u e, fun b u e => ⟨u, hH b u e⟩⟩, r.len, fun i d h => ?_, fun i xs h => ?_, r.inj, fun i a h => let ⟨u, e⟩ := r.oth i a h; ⟨u, hH _ _ e⟩⟩,
    ⟨Sub.refl _, fun _ _ z => .inl z, more, fun b u e _ => hH b u e, fun b u e => ⟨u, hH b u e⟩, rfl, rfl⟩⟩
  · have e : (s.S ++ [o])[n]? = some o' := e
    by_cases hn : n < s.S.length
    · rw [List.getElem?_append_left hn] at e
      obtain ⟨a, h1, h2⟩ := r.base.ob n o' e
      exact ⟨a, pre.get h1, h2.mono den denL fun u z => hH _ _ z⟩
    · rw [List.getElem?_append_right (by omega)] at e
      have hn2 : n - s.S.length = 0 := by
        have := (List.getElem?_eq_some_iff.mp e).1
        simp at this
        omega
      rw [hn2] at e
      cases e
      refine ⟨p, ?_, ho⟩
      show (c.ρ ++ [p])[n]? = some p
      rw [List.getElem?_append_right (by rw [← r.base.len]; omega), ← r.base.len, hn2]
      rfl
  · have ha : a ∈ c.ρ ++ [p] := ha
    rcases List.mem_append.mp ha with ha | ha
    · exact r.base.dis a ha
    · simp at ha; subst ha; exact hF
  · show (c.ρ ++ [p]).Nodup
    rw [List.nodup_append]
    refine ⟨r.base.nd, by simp, fun a ha b hb e => ?_⟩
    simp at hb
    subst hb
    subst e
    exact hρ ha
  · obtain ⟨q1, v, q2, q3⟩ := r.val i d h
    exact ⟨q1, v, q2, den _ _ q3⟩
  · obtain ⟨q0, a, vs, qa, q1, q2, q3, q4, q5, q6⟩ := r.own i xs h
    refine ⟨q0, a, vs, qa, q1, hH _ _ q2, q3, fun hm => ?_, q5, denL _ _ q6⟩
    have hm : a ∈ c.ρ ++ [p] := hm
    rcases List.mem_append.mp hm with hm | hm
    · exact q4 hm
    · simp at hm; subst hm; rw [hp] at q2; cases q2
def newM (o : Ob) : M D := fun s => if ObNo o then some (.ok (.ref s.S.length) { s with S := s.S ++ [o] }) else none
/-- a new list, an object of the store -/
def eRef (m : M (List D)) : M D := bnd m fun ds => newM (.lst ds)
section
variable {X : Cx} {cl : Nat → Addr} {W : WXd} {e : Expr} {es : List Expr} {p q pos : Pos} {m : M (List D)} {x : Str}
theorem newM_run {G : Gx} {c : Cc} {s : Sd} {σ : L2.St} {H H' : Hp} {o : Ob} {R : D → Cc → Hp → Prop} {p : Addr} (h : Run G W c s (newM o) σ H R) (hp : H p = none) (hH : ∀ b u, H b = some u → H' b = some u)
    (ho : ObNo o = true → ObDen G { c with ρ := c.ρ ++ [p] } H' p o) : ∃ c', R (.ref s.S.length) c' H' ∧ Den' G c' (.ref p) (.ref s.S.length) := by
  obtain ⟨r, h⟩ := h
  unfold newM at h
  by_cases hn : ObNo o = true
  · rw [if_pos hn] at h
    obtain ⟨r2, x2⟩ := r.alloc hp hH (ho hn)
    refine ⟨_, h _ _ r2 x2, .ref ?_⟩
    show (c.ρ ++ [p])[s.S.length]? = some p
    rw [List.getElem?_append_right (by rw [r.base.len]; exact Nat.le_refl _), r.base.len]
    simp
  · rw [if_neg hn] at h; exact h.elim
theorem pd_ref (h : PE X e (tN (gx X cl) W m)) : PE X e (tD (gx X cl) W (eRef m)) := by
  refine PE.imp h fun σ H Q h => ?_
  obtain ⟨c, s, h⟩ := h
  refine ⟨c, s, (Run.bind h).mono fun ds c1 H1 _ q p vs hp hl => ?_⟩
  obtain ⟨s1, q⟩ := q
  obtain ⟨c', q1, q2⟩ := newM_run (H' := upd H1 p (.lst vs)) q hp (keep_upd hp) fun hn => .lst upd_same (DenL.mono (Sub.refl _) ⟨[p], rfl⟩ hl) hn
  exact q1 _ q2
structure KwAll (K : PySem.W.Frag) (fd : FuncData) (ps : List Str) : Prop where
  to : ∀ (ws : List Value), ws.length = ps.length → bindArgs fd ⟨[], ps.zip ws⟩ = pure (ps.zip ws)
variable {k : Nat} {f : Addr} {fd : FuncData} {ps : List Str} {kws : List Keyword} {CX : CXT}
theorem pkd_nil : PK X [] (tLs (gx X cl) W nilM) := ⟨fun pos pins s σ H Q I h => pk_nil.run pos pins s σ H Q I (by
  obtain ⟨c, s, h⟩ := h
  exact Run.ret h [] .nil)⟩
theorem pkd_cons {nm : Option Str} {kpos : Pos} {me : M D} {ms : M (List D)} (ha : PE X e (tD (gx X cl) W me)) (hr : PK X kws (tLs (gx X cl) W ms)) : PK X (⟨nm, e, kpos⟩ :: kws) (tLs (gx X cl) W (consM me ms)) :=
  ⟨fun pos pins s σ H Q I h => (pk_cons ha hr).run pos pins s σ H Q I (by
    obtain ⟨c, s, h⟩ := h
    obtain ⟨c0, s0, h1⟩ := Run.fst h
    refine ⟨c0, s0, h1.mono fun d c1 H1 _ q v hv => ?_⟩
    obtain ⟨c1', s1, d', m1, hd, h2⟩ := q v hv
    obtain ⟨c2, s2, h3⟩ := Run.fstL h2
    refine ⟨c2, s2, h3.mono fun ds c3 H3 _ q2 vs hvs => ?_⟩
    obtain ⟨c3', s3, ds', m3, hds, h4⟩ := q2 vs hvs
    exact Run.ret h4 _ (.cons (m3.den hd) hds))⟩
end

abbrev eOp (f : D → D → M D) (ma mb : M D) : M D := bnd ma fun d => bnd mb fun e => f d e
abbrev eUn (f : D → M D) (ma : M D) : M D := bnd ma f
abbrev eIx (ma mb : M D) : M D := bnd ma fun d => bnd mb fun e => ixM d e
abbrev eSl (mo : M D) (ml mh : Option (M D)) : M D := bnd mo fun d => bnd (partM ml) fun l => bnd (partM mh) fun u => slM d l u
abbrev nCat (ma mb : M D) : M (List D) := bnd ma fun d => bnd mb fun e => catN d e
abbrev eCall (F : Fn) (m : M (List D)) : M D := bnd m (callF F)
abbrev eB (f : List D → M D) (m : M (List D)) : M D := bnd m f
abbrev tru (m : M D) : M Bool := bnd m truM

/-- the def x stands in the module, computes F -/
structure DefOk (P : Program) (w : World) (K : PySem.W.Frag) (mg : Str → Option Value) (base : Heap) (cl : Nat → Addr) (CX : CXT) (k : Nat) (x : Str) (ps : List Str) (F : Fn) : Prop where
  ex : ∃ (a : Addr) (fd : FuncData), FnOk P w K mg base CX k a fd ps (spD ⟨K, cl⟩ F) ∧ mg x = some (.ref a) ∧ PySem.W.keepIn K (.ref a) = true ∧ Binds K fd ps [] ∧ KwAll K fd ps
/-- where a def's object stands -/
structure DefAt (K : PySem.W.Frag) (mg : Str → Option Value) (x qual : Str) (st : Stmt) (ps : List Str) : Prop where
  ex : ∃ (a : Addr) (fd : FuncData), Fun K x qual st a fd ∧ mg x = some (.ref a) ∧ Binds K fd ps [] ∧ KwAll K fd ps
theorem DefAt.ok {P : Program} {w : World} {K : PySem.W.Frag} {mg : Str → Option Value} {base : Heap} {cl : Nat → Addr} {x qual : Str} {st : Stmt} {ps N : List Str} {k : Nat} {m : SM} (F : DefAt K mg x qual st ps) (S : FnScope N ps (defScope st))
    (hbody : ∀ (f : Addr) (cdv : Value) (A : Around) (outer : List Env) (s : Shared) (H : Hp) (E : XK), Room k (A.deeper (PyProof.Rows.envOfC qual (defScope st) s.heap.objs.size f cdv)) →
      PSs (cxOf CX0 P w K mg base N qual (defScope st) f cdv A outer s H E).nox (defBody st) (tS ⟨K, cl⟩ W0 m)) : DefOk P w K mg base cl CX0 (k + 1) x ps (noEx (mkFn ps.length N.length m)) := by
  obtain ⟨a, fd, F, h1, h2, h3⟩ := F.ex
  exact ⟨a, fd, fn_okD F S (hbody a), h1, F.kp, h2, h3⟩
theorem DefAt.ok2 {P : Program} {w : World} {K : PySem.W.Frag} {mg : Str → Option Value} {base : Heap} {cl : Nat → Addr} {x qual : Str} {st : Stmt} {ps N : List Str} {k k' np nl : Nat} {m : SM} {F0 : Fn} (hF : F0 = noEx (mkFn np nl m)) (hp : ps.length = np) (hn : N.length = nl) (hk : k' = k + 1) (F : DefAt K mg x qual st ps) (S : FnScope N ps (defScope st))
    (hbody : ∀ (f : Addr) (cdv : Value) (A : Around) (outer : List Env) (s : Shared) (H : Hp) (E : XK), Room k (A.deeper (PyProof.Rows.envOfC qual (defScope st) s.heap.objs.size f cdv)) →
      PSs (cxOf CX0 P w K mg base N qual (defScope st) f cdv A outer s H E).nox (defBody st) (tS ⟨K, cl⟩ W0 m)) : DefOk P w K mg base cl CX0 k' x ps F0 := by
  subst hF
  subst hp
  subst hn
  subst hk
  exact DefAt.ok F S hbody
theorem fnOk2 {P : Program} {w : World} {K : PySem.W.Frag} {mg : Str → Option Value} {base : Heap} {cl : Nat → Addr} {x qual : Str} {st : Stmt} {ps N : List Str} {k np nl : Nat} {m : SM} {F0 : Fn} {f : Addr} {fd : FuncData} (hF : F0 = noEx (mkFn np nl m)) (hp : ps.length = np) (hn : N.length = nl) (F : Fun K x qual st f fd) (S : FnScope N ps (defScope st))
    (hbody : ∀ (cdv : Value) (A : Around) (outer : List Env) (s : Shared) (H : Hp) (E : XK), Room k (A.deeper (PyProof.Rows.envOfC qual (defScope st) s.heap.objs.size f cdv)) →
      PSs (cxOf CX0 P w K mg base N qual (defScope st) f cdv A outer s H E).nox (defBody st) (tS ⟨K, cl⟩ W0 m)) : FnOk P w K mg base CX0 (k + 1) f fd ps (spD ⟨K, cl⟩ F0) := by
  subst hF
  subst hp
  subst hn
  exact fn_okD F S hbody
theorem DefOk.mono {P : Program} {w : World} {K : PySem.W.Frag} {mg : Str → Option Value} {base : Heap} {cl : Nat → Addr} {CX : CXT} {j k : Nat} {x : Str} {ps : List Str} {F : Fn} (h : DefOk P w K mg base cl CX j x ps F) (hj : j ≤ k) : DefOk P w K mg base cl CX k x ps F := by
  obtain ⟨a, fd, h1, h2⟩ := h.ex
  exact ⟨a, fd, h1.mono hj, h2⟩
section
variable {X : Cx} {cl : Nat → Addr} {W : WXd} {e : Expr} {es : List Expr} {p pos : Pos} {m : M (List D)} {x : Str} {k : Nat} {ps : List Str} {kws : List Keyword} {F : Fn}
/-- f(e, ..) by what is known of f -/
theorem pd_fn (G : DefOk X.prog X.w X.K X.mg X.base cl CX0 k x ps F) (hr : Room k X.A) (hg : Gl X x) (ha : PA X (e :: es) (tLs (gx X cl) W m))
    (hdb : (x == ("__debug__" : Str)) = false := by decide) (he : starEach (e :: es) X.env = (false, eval e X.env) :: starEach es X.env := by rfl) (hpl : (backTo pos (starEach es X.env)).any (·.1) = false := by rfl) : PE X (.Call (.Name x p) (e :: es) [] pos) (tD (gx X cl) W (eCall F m)) := by
  obtain ⟨a, fd, h1, h2, h3, h4, _⟩ := G.ex
  exact pd_call h1 hr hg h2 h3 h4 (fun _ => pass0At) ha hdb he hpl
end
end Dm
namespace Dm
open PySem PySem.Spec L2
variable {K : PySem.W.Frag} {h : Heap} {mg : Str → Option Value}
theorem defAt_mk {x qual : Str} {st : Stmt} {ps : List Str} {f : Addr} (X : K.In h) (G : h.Ns mainGlobals mg) (a : PySem.W.nsIn K mainGlobals x = some (some (.ref f)))
    {oc : Value} {od an : Option Addr} {osl : Array (Option Value)} {kV doc pm cdv ct : Value} (l : K.lookup f = some ⟨oc, od, .func (PySem.W.fnOf x qual (defArgs st) (defBody st) (defScope st) .none kV doc pm an cdv ct), osl⟩)
    (c : PySem.W.codeIn K cdv qual = true) (k : PySem.W.keepIn K (.ref f) = true)
    (hb : ∀ (kV doc pm : Value) (an : Option Addr) (cdv ct : Value) (us : List Value), us.length = ps.length → bindArgs (PySem.W.fnOf x qual (defArgs st) (defBody st) (defScope st) .none kV doc pm an cdv ct) ⟨us, []⟩ = pure (ps.zip us))
    (hk : ∀ (kV doc pm : Value) (an : Option Addr) (cdv ct : Value) (us : List Value), us.length = ps.length → bindArgs (PySem.W.fnOf x qual (defArgs st) (defBody st) (defScope st) .none kV doc pm an cdv ct) ⟨[], ps.zip us⟩ = pure (ps.zip us)) : DefAt K mg x qual st ps := by
  have F := fun_mk (st := st) l c k
  exact ⟨f, _, F, PySem.W.mg_of X G a, F.binds hb, ⟨fun ws hl => hk _ _ _ _ _ _ ws hl⟩⟩
/-- the law's own promise -/
theorem start_sp {cl : Nat → Addr} {F : Fn} {H : Hp} {a : Addr} {ns : List Int} {E : XK} (hS : SqL K H a (ns.map V.int)) (h : ∃ S', F [.lst (ns.map D.int)] [] = some (.ok (.bl true) S')) : spD ⟨K, cl⟩ F [.ref a] H (fun v _ => v = .bl true) E := by
  obtain ⟨S', h⟩ := h
  have hl : ∀ ns : List Int, DenL K H [] (fun _ => none) (ns.map V.int) (ns.map D.int) := fun ns => by
    induction ns with
    | nil => exact .nil
    | cons n ns ih => exact .cons (.int n) ih
  refine ⟨⟨H, [], fun _ => none, ⟨H, [], H⟩⟩, [.lst (ns.map D.int)], [], ⟨Sub.refl _, rfl, fun n o e => by simp at e, fun a ha => by simp at ha, List.nodup_nil⟩, .cons (.lst hS (hl ns)) .nil, ?_, ?_⟩
  · have : ∀ ns : List Int, D.noOwns (ns.map D.int) = true := fun ns => by
      induction ns with
      | nil => rfl
      | cons n ns ih => simp [D.noOwns, D.noOwn, ih]
    simp [D.noOwns, D.noOwn, this]
  · rw [h]
    intro v H' c' _ _ _ hd
    cases hd
    rfl
end Dm
namespace Dm
open PySem PySem.Spec L2
theorem noOwns_ints : ∀ ns : List Int, D.noOwns (ns.map D.int) = true
  | [] => rfl
  | n :: ns => by simp [D.noOwns, D.noOwn, noOwns_ints ns]
theorem noOwns_pairs : ∀ ns : List (Int × Int), D.noOwns (ns.map pairD) = true
  | [] => rfl
  | n :: ns => by simp [D.noOwns, D.noOwn, pairD, noOwns_pairs ns]
theorem noOwns_app : ∀ {xs ys : List D}, D.noOwns (xs ++ ys) = (D.noOwns xs && D.noOwns ys)
  | [], ys => by simp [D.noOwns]
  | x :: xs, ys => by simp [D.noOwns, noOwns_app (xs := xs), Bool.and_assoc]
theorem noOwns_map {τ : Type} {f : τ → D} (h : ∀ x, (f x).noOwn = true) : ∀ xs : List τ, D.noOwns (xs.map f) = true
  | [] => rfl
  | x :: xs => by simp [D.noOwns, h x, noOwns_map h xs]
def wp {α : Type} (m : M α) (E : Ex → Sd → Prop) (Q : α → Sd → Prop) (s : Sd) : Prop := match m s with
  | some (.ok a s') => Q a s'
  | some (.ex e s') => E e s'
  | none => False
/-- F computes d, leaves S' -/
def FnS (F : Fn) (ds : List D) (S : List Ob) (P : D → List Ob → Prop) : Prop := ∃ d S', F ds S = some (.ok d S') ∧ P d S'
section
variable {α β : Type} {E : Ex → Sd → Prop} {s : Sd}
theorem wp_of {m : M α} {Q : α → Sd → Prop} {a : α} {s' : Sd} (h : m s = some (.ok a s')) (q : Q a s') : wp m E Q s := by unfold wp; rw [h]; exact q
theorem wp.mono {m : M α} {Q Q' : α → Sd → Prop} (h : wp m E Q s) (k : ∀ a s', Q a s' → Q' a s') : wp m E Q' s := by
  unfold wp at h ⊢
  cases e : m s with
  | none => rw [e] at h; exact h
  | some r =>
    rw [e] at h
    cases r with
    | ok a s' => exact k _ _ h
    | ex e s' => exact h
theorem wp_bnd {m : M α} {k : α → M β} {Q : β → Sd → Prop} (h : wp m E (fun a s' => wp (k a) E Q s') s) : wp (bnd m k) E Q s := by
  unfold wp at h
  unfold wp bnd
  cases e : m s with
  | none => rw [e] at h; exact h
  | some r =>
    rw [e] at h
    cases r with
    | ok a s' => exact h
    | ex e s' => exact h
theorem wp_ret {a : α} {Q : α → Sd → Prop} (h : Q a s) : wp (ret a) E Q s := h
theorem wp_grd {b : Bool} {m : M α} {Q : α → Sd → Prop} (hb : b = true) (h : wp m E Q s) : wp (grd b m) E Q s := by subst hb; exact h
theorem wp_var {i : Nat} {d : D} {Q : D → Sd → Prop} (h : s.σ[i]? = some (some (.val d))) (q : Q d s) : wp (eVar i) E Q s := by unfold wp eVar; rw [h]; exact q
theorem wp_varO {i : Nat} {xs : List D} {Q : D → Sd → Prop} (h : s.σ[i]? = some (some (.own xs))) (q : Q (.own i) s) : wp (eVar i) E Q s := by unfold wp eVar; rw [h]; exact q
theorem wp_asV {m : M Bool} {Q : D → Sd → Prop} (h : wp m E (fun b s' => Q (.bl b) s') s) : wp (asV m) E Q s := wp_bnd h
theorem wp_cmp2 {f : D → D → M Bool} {ma mb : M D} {Q : Bool → Sd → Prop} (h : wp ma E (fun d s1 => wp mb E (fun e s2 => wp (f d e) E Q s2) s1) s) : wp (cmp2 f ma mb) E Q s :=
  wp_bnd (h.mono fun _ _ q => wp_bnd q)
theorem wp_chain3 {f g : D → D → M Bool} {ma mb mc : M D} {Q : Bool → Sd → Prop} (h : wp ma E (fun d s1 => wp mb E (fun e s2 => wp (f d e) E (fun k s3 => if k then wp mc E (fun z s4 => wp (g e z) E Q s4) s3 else Q false s3) s2) s1) s) : wp (chain3 f g ma mb mc) E Q s :=
  wp_bnd (h.mono fun _ _ q => wp_bnd (q.mono fun _ _ q => wp_bnd (q.mono fun b _ q => by cases b with | true => exact wp_bnd q | false => exact q)))
theorem wp_mAnd {m n : M Bool} {Q : Bool → Sd → Prop} (h : wp m E (fun b s' => if b then wp n E Q s' else Q false s') s) : wp (mAnd m n) E Q s :=
  wp_bnd (h.mono fun b _ q => by cases b <;> exact q)
theorem wp_mOr {m n : M Bool} {Q : Bool → Sd → Prop} (h : wp m E (fun b s' => if b then Q true s' else wp n E Q s') s) : wp (mOr m n) E Q s :=
  wp_bnd (h.mono fun b _ q => by cases b <;> exact q)
theorem wp_mNot {m : M Bool} {Q : Bool → Sd → Prop} (h : wp m E (fun b s' => Q (!b) s') s) : wp (mNot m) E Q s := wp_bnd h
theorem wp_vAnd {m n : M D} {Q : D → Sd → Prop} (h : wp m E (fun d s' => ∃ b, d = .bl b ∧ if b then wp n E Q s' else Q (.bl false) s') s) : wp (vAnd m n) E Q s :=
  wp_bnd (h.mono fun d _ q => by
    obtain ⟨b, rfl, q⟩ := q
    cases b <;> exact q)
theorem wp_vOr {m n : M D} {Q : D → Sd → Prop} (h : wp m E (fun d s' => ∃ b, d = .bl b ∧ if b then Q (.bl true) s' else wp n E Q s') s) : wp (vOr m n) E Q s :=
  wp_bnd (h.mono fun d _ q => by
    obtain ⟨b, rfl, q⟩ := q
    cases b <;> exact q)
theorem wp_vNot {m : M D} {Q : D → Sd → Prop} (h : wp m E (fun d s' => ∃ b, d = .bl b ∧ Q (.bl (!b)) s') s) : wp (vNot m) E Q s :=
  wp_bnd (h.mono fun d _ q => by
    obtain ⟨b, rfl, q⟩ := q
    exact q)
theorem wp_eIf {t : M Bool} {m n : M D} {Q : D → Sd → Prop} (h : wp t E (fun b s' => if b then wp m E Q s' else wp n E Q s') s) : wp (eIf t m n) E Q s :=
  wp_bnd (h.mono fun b _ q => by cases b <;> exact q)
theorem wp_sIf {t : M Bool} {m n : SM} {Q : Out → Sd → Prop} (h : wp t E (fun b s' => if b then wp m E Q s' else wp n E Q s') s) : wp (sIf t m n) E Q s :=
  wp_bnd (h.mono fun b _ q => by cases b <;> exact q)
theorem wp_tru {d : D} {Q : Bool → Sd → Prop} {b : Bool} (h : d = .bl b) (q : Q b s) : wp (truM d) E Q s := by subst h; exact q
theorem ite_t {b : Bool} {p q : Prop} (hb : b = true) (h : p) : if b then p else q := by subst hb; exact h
theorem ite_f {b : Bool} {p q : Prop} (hb : b = false) (h : q) : if b then p else q := by subst hb; exact h
theorem wp_add {i j : Int} {Q : D → Sd → Prop} (q : Q (.int (i + j)) s) : wp (addM (.int i) (.int j)) E Q s := q
theorem wp_sub {i j : Int} {Q : D → Sd → Prop} (q : Q (.int (i - j)) s) : wp (subM (.int i) (.int j)) E Q s := q
theorem wp_neg {i : Int} {Q : D → Sd → Prop} (q : Q (.int (-i)) s) : wp (negM (.int i)) E Q s := q
def sm (i : Int) : Prop := -(2 ^ 64) < i ∧ i < 2 ^ 64
theorem wp_mul {i j : Int} {Q : D → Sd → Prop} (h : sm i ∨ sm j) (q : Q (.int (i * j)) s) : wp (mulM (.int i) (.int j)) E Q s :=
  wp_grd (decide_eq_true (.inl h)) q
theorem wp_fdiv {i j : Int} {Q : D → Sd → Prop} (h : 0 < j) (h2 : j.natAbs.log2 < 9000) (q : Q (.int (i / j)) s) : wp (fdivM (.int i) (.int j)) E Q s := by
  unfold fdivM
  simp only [if_pos h]
  exact wp_grd (decide_eq_true h2) q
theorem wp_mod {i j : Int} {Q : D → Sd → Prop} (h : 0 < j) (q : Q (.int (i % j)) s) : wp (modM (.int i) (.int j)) E Q s := by
  unfold modM
  simp only [if_pos h]
  exact q
theorem wp_pow {i j : Int} {Q : D → Sd → Prop} (h : 0 ≤ j ∧ j ≤ 1000000 ∧ i.natAbs < 2 ^ 64) (q : Q (.int (i ^ j.toNat)) s) : wp (powM (.int i) (.int j)) E Q s := wp_grd (decide_eq_true h) q
theorem wp_lt {i j : Int} {Q : Bool → Sd → Prop} (q : Q (decide (i < j)) s) : wp (ltM (.int i) (.int j)) E Q s := q
theorem wp_le {i j : Int} {Q : Bool → Sd → Prop} (q : Q (decide (i ≤ j)) s) : wp (leM (.int i) (.int j)) E Q s := q
theorem wp_gt {i j : Int} {Q : Bool → Sd → Prop} (q : Q (decide (j < i)) s) : wp (gtM (.int i) (.int j)) E Q s := q
theorem wp_ge {i j : Int} {Q : Bool → Sd → Prop} (q : Q (decide (j ≤ i)) s) : wp (geM (.int i) (.int j)) E Q s := q
theorem wp_isN {d : D} {b : Bool} {Q : Bool → Sd → Prop} (h : b = (match d with | .non => true | _ => false)) (q : Q b s) : wp (isNM d .non) E Q s := by
  subst h
  cases d <;> exact q
theorem wp_eqI {i j : Int} {Q : Bool → Sd → Prop} (q : Q (decide (i = j)) s) : wp (eqM (.int i) (.int j)) E Q s := by
  refine wp_of (a := decide (i = j)) (s' := s) ?_ q
  have : (D.int i).eqv (.int j) = decide (i = j) := by
    show PyData.eqv (.int i) (.int j) = _
    have e : PyData.eqv (.int i) (.int j) = (i == j) := by simp only [PyData.eqv]
    rw [e]
    by_cases h : i = j
    · subst h; simp
    · rw [decide_eq_false h]; simpa using h
  unfold eqM
  simp only [norm]
  rw [this]
  rfl
theorem wp_eqB {i j : Bool} {Q : Bool → Sd → Prop} (q : Q (i == j) s) : wp (eqM (.bl i) (.bl j)) E Q s := by
  refine wp_of (a := i == j) (s' := s) ?_ q
  have e : PyData.eqv (.bool i) (.bool j) = (i == j) := by simp only [PyData.eqv]
  rw [← e]
  rfl
theorem wp_ne {d e : D} {Q : Bool → Sd → Prop} (h : wp (eqM d e) E (fun b s' => Q (!b) s') s) : wp (neM d e) E Q s := wp_bnd h
theorem wp_notIn {d e : D} {Q : Bool → Sd → Prop} (h : wp (inM d e) E (fun b s' => Q (!b) s') s) : wp (notInM d e) E Q s := wp_bnd h
theorem wp_nil {Q : List D → Sd → Prop} (q : Q [] s) : wp nilM E Q s := q
theorem wp_cons {m : M D} {ms : M (List D)} {Q : List D → Sd → Prop} (h : wp m E (fun d s1 => wp ms E (fun ds s2 => Q (d :: ds) s2) s1) s) : wp (consM m ms) E Q s := wp_bnd (h.mono fun _ _ q => wp_bnd q)
theorem sl_le {n : Nat} (h : n ≤ 100000) : n ≤ sizeLine := by rw [PySem.sizeLine_eq]; omega
theorem wp_lenOk {m : M (List D)} {Q : List D → Sd → Prop} (h : wp m E (fun ds s1 => ds.length ≤ 100000 ∧ Q ds s1) s) : wp (lenOk m) E Q s := wp_bnd (h.mono fun _ _ q => wp_grd (decide_eq_true (sl_le q.1)) q.2)
theorem wp_eFz {m : M (List D)} {Q : D → Sd → Prop} (h : wp m E (fun ds s1 => Q (.lst ds) s1) s) : wp (eFz m) E Q s := wp_bnd h
theorem wp_eTup {m : M (List D)} {Q : D → Sd → Prop} (h : wp m E (fun ds s1 => ds.length ≤ 100000 ∧ Q (.tup ds) s1) s) : wp (eTup m) E Q s := wp_bnd (h.mono fun _ _ q => wp_grd (decide_eq_true (sl_le q.1)) q.2)
theorem wp_getS {d : D} {xs : List D} {Q : List D → Sd → Prop} (h : asS s d = some xs) (q : Q xs s) : wp (getS d) E Q s := by unfold wp getS; rw [h]; exact q
theorem wp_getL {d : D} {xs : List D} {Q : List D → Sd → Prop} (h : asL s d = some xs) (q : Q xs s) : wp (getL d) E Q s := by unfold wp getL; rw [h]; exact q
theorem wp_getM {d : D} {xs : List D} {Q : List D → Sd → Prop} (hn : ∀ ys, d ≠ .lst ys) (h : asL s d = some xs) (q : Q xs s) : wp (getM d) E Q s := by
  have key : getM d s = (match asL s d with | some xs => some (Rs.ok xs s) | none => none) := by
    cases d with
    | lst ys => exact absurd rfl (hn ys)
    | _ => rfl
  unfold wp
  rw [key, h]
  exact q
theorem wp_ix {d e : D} {xs : List D} {i : Int} {Q : D → Sd → Prop} (hd : asS s d = some xs) (h : atI xs i = some e) (q : Q e s) : wp (ixM d (.int i)) E Q s := by
  have key : wp (bnd (getS d) fun xs => liftO (atI xs i)) E Q s := wp_bnd (wp_getS hd (by rw [h]; exact q))
  cases d with
  | str z => unfold asS asL at hd; cases hd
  | _ => exact key
theorem atI_nat {α : Type} {xs : List α} {k : Nat} {e : α} (h : xs[k]? = some e) : atI xs (k : Int) = some e := by
  have := (List.getElem?_eq_some_iff.mp h).1
  unfold atI ixN
  rw [if_pos (by omega), if_pos (by omega)]
  simpa using h
theorem atI_nonneg {α : Type} {xs : List α} {i : Int} {e : α} (h0 : 0 ≤ i) (h : xs[i.toNat]? = some e) : atI xs i = some e := by
  have := atI_nat h
  rwa [Int.toNat_of_nonneg h0] at this
theorem wp_len {d : D} {xs : List D} {Q : D → Sd → Prop} (h : asS s d = some xs) (q : Q (.int xs.length) s) : wp (lenM [d]) E Q s := by
  have key : wp (bnd (getS d) fun xs => ret (.int xs.length)) E Q s := wp_bnd (wp_getS h q)
  cases d with
  | str z => unfold asS asL at h; cases h
  | _ => exact key
theorem wp_int1 {i : Int} {Q : D → Sd → Prop} (q : Q (.int i) s) : wp (intM [.int i]) E Q s := q
theorem wp_abs {i : Int} {Q : D → Sd → Prop} (q : Q (.int (if i < 0 then -i else i)) s) : wp (absM [.int i]) E Q s := q
theorem wp_gcd {i j : Int} {Q : D → Sd → Prop} (q : Q (.int (Nat.gcd i.natAbs j.natAbs : Nat)) s) : wp (gcdM [.int i, .int j]) E Q s := q
theorem wp_catN {d e : D} {xs ys : List D} {Q : List D → Sd → Prop} (h1 : asL s d = some xs) (h2 : asL s e = some ys) (hl : xs.length + ys.length ≤ 100000) (q : Q (xs ++ ys) s) : wp (catN d e) E Q s :=
  wp_bnd (wp_getL h1 (wp_bnd (wp_getL h2 (wp_grd (decide_eq_true (sl_le hl)) q))))
theorem cut_take {α : Type} (xs : List α) (k : Nat) : cutD xs none (some (k : Int)) = xs.take k := by
  unfold cutD
  simp only [HT.sIx]
  rw [if_neg (by omega)]
  simp only [Int.toNat_natCast, List.drop_zero, Nat.sub_zero]
  exact (List.take_eq_take_min ..).symm
theorem cut_takeI {α : Type} (xs : List α) (i : Int) (h : 0 ≤ i) : cutD xs none (some i) = xs.take i.toNat := by
  have := cut_take xs i.toNat
  rwa [Int.toNat_of_nonneg h] at this
theorem wp_slM {d : D} {xs : List D} {lo hi : Option Int} {Q : D → Sd → Prop} (h : asL s d = some xs) (q : Q (.lst (cutD xs lo hi)) s) : wp (slM d lo hi) E Q s := by
  have key : ∀ d, asL s d = some xs → wp (bnd (getL d) fun xs => ret (.lst (cutD xs lo hi))) E Q s := fun d h => wp_bnd (wp_getL h q)
  cases d with
  | tup ys => cases h
  | str z => cases h
  | _ => exact key _ h
theorem wp_partN {Q : Option Int → Sd → Prop} (q : Q none s) : wp (partM none) E Q s := q
theorem wp_partS {m : M D} {Q : Option Int → Sd → Prop} (h : wp m E (fun d s' => ∃ i, d = .int i ∧ Q (some i) s') s) : wp (partM (some m)) E Q s :=
  wp_bnd (h.mono fun d _ q => by
    obtain ⟨i, rfl, q⟩ := q
    exact q)
theorem wp_call {F : Fn} {ds : List D} {Q : D → Sd → Prop} (hn : D.noOwns ds = true) (h : FnS F ds s.S fun d S' => Q d ⟨s.σ, S'⟩) : wp (callF F ds) E Q s := by
  obtain ⟨d, S', e, q⟩ := h
  unfold wp callF
  rw [if_pos hn, e]
  exact q
theorem wp_callE {F : Fn} {ds : List D} {S' : List Ob} {d : D} {Q : D → Sd → Prop} (h : F ds s.S = some (.ok d S')) (q : Q d ⟨s.σ, S'⟩) (hn : D.noOwns ds = true := by with_unfolding_all first | rfl | simp [D.noOwns, D.noOwn, noOwns_pairs, noOwns_ints]) : wp (callF F ds) E Q s := wp_call hn ⟨_, _, h, q⟩
theorem FnS.eq {F : Fn} {ds : List D} {S S' : List Ob} {d : D} (h : FnS F ds S fun e S1 => e = d ∧ S1 = S') : F ds S = some (.ok d S') := by
  obtain ⟨_, _, h, rfl, rfl⟩ := h
  exact h
theorem FnS.mono {F : Fn} {ds : List D} {S : List Ob} {P P' : D → List Ob → Prop} (h : FnS F ds S P) (k : ∀ d S', P d S' → P' d S') : FnS F ds S P' := by
  obtain ⟨d, S', h, q⟩ := h
  exact ⟨d, S', h, k _ _ q⟩
theorem fn_wp {np nl : Nat} {m : SM} {ds : List D} {S : List Ob} {P : D → List Ob → Prop} (hl : ds.length = np) (h : wp m (fun _ _ => False) (fun o s' => match o with | .rt d => P d s'.S | .nx => P .non s'.S | _ => False) ⟨ds.map (fun d => some (.val d)) ++ List.replicate (nl - np) none, S⟩) : FnS (noEx (mkFn np nl m)) ds S P := by
  unfold wp at h
  unfold FnS noEx mkFn
  rw [if_pos hl]
  split at h
  · rename_i o s' e
    cases o with
    | rt d => exact ⟨d, s'.S, by rw [e], h⟩
    | nx => exact ⟨.non, s'.S, by rw [e], h⟩
    | bk => exact h.elim
    | ct => exact h.elim
  · exact h.elim
  · exact h.elim
theorem wp_seq {m n : SM} {Q : Out → Sd → Prop} (h : wp m E (fun o s' => match o with | .nx => wp n E Q s' | o => Q o s') s) : wp (sSeq m n) E Q s :=
  wp_bnd (h.mono fun o _ q => by cases o <;> exact q)
theorem wp_nop {Q : Out → Sd → Prop} (q : Q .nx s) : wp sNop E Q s := q
theorem wp_break {Q : Out → Sd → Prop} (q : Q .bk s) : wp sBreak E Q s := q
theorem wp_cont {Q : Out → Sd → Prop} (q : Q .ct s) : wp sCont E Q s := q
theorem wp_sExpr {m : M D} {Q : Out → Sd → Prop} (h : wp m E (fun _ s' => Q .nx s') s) : wp (sExpr m) E Q s := wp_bnd h
theorem wp_fin {d : D} {Q : Out → Sd → Prop} (hn : d.noOwn = true) (q : Q (.rt d) s) : wp (fin d) E Q s := by
  have key : wp (fun s => if d.noOwn then some (Rs.ok (Out.rt d) s) else none : SM) E Q s := wp_of (a := .rt d) (s' := s) (if_pos hn) q
  cases d with
  | own i => cases hn
  | _ => exact key
theorem wp_finO {i : Nat} {xs : List D} {Q : Out → Sd → Prop} (h : s.σ[i]? = some (some (.own xs))) (q : Q (.rt (.lst xs)) s) : wp (fin (.own i)) E Q s := by
  refine wp_of (a := .rt (.lst xs)) (s' := s) ?_ q
  unfold fin
  simp only [h]
theorem wp_sRet {m : M D} {Q : Out → Sd → Prop} (h : wp m E (fun d s' => wp (fin d) E Q s') s) : wp (sRet m) E Q s := wp_bnd h
theorem wp_setU {i : Nat} {d : D} {Q : Out → Sd → Prop} (hn : d.noOwn = true) (q : Q .nx ⟨s.σ.set i (some (.val d)), s.S⟩) : wp (upM (setU i d)) E Q s := by
  refine wp_of (a := .nx) ?_ q
  unfold upM setU
  rw [if_pos hn]
theorem wp_setO {i : Nat} {xs : List D} {Q : Out → Sd → Prop} (hn : D.noOwns xs = true) (hi : i < s.σ.length) (q : Q .nx ⟨s.σ.set i (some (.own xs)), s.S⟩) : wp (upM (setO i xs)) E Q s := by
  refine wp_of (a := .nx) ?_ q
  unfold upM setO
  rw [if_pos (by rw [hn]; simpa using hi)]
theorem wp_sAsg {i : Nat} {m : M D} {Q : Out → Sd → Prop} (h : wp m E (fun d s' => d.noOwn = true ∧ Q .nx ⟨s'.σ.set i (some (.val d)), s'.S⟩) s) : wp (sAsg i m) E Q s := wp_bnd (h.mono fun _ _ q => wp_setU q.1 q.2)
theorem wp_sOwn {i : Nat} {m : M (List D)} {Q : Out → Sd → Prop} (h : wp m E (fun xs s' => D.noOwns xs = true ∧ i < s'.σ.length ∧ Q .nx ⟨s'.σ.set i (some (.own xs)), s'.S⟩) s) : wp (sOwn i m) E Q s := wp_bnd (h.mono fun _ _ q => wp_setO q.1 q.2.1 q.2.2)
theorem wp_sPar {i j : Nat} {ma mb : M D} {Q : Out → Sd → Prop} (h : wp ma E (fun d s1 => wp mb E (fun e s2 => d.noOwn = true ∧ e.noOwn = true ∧ Q .nx ⟨(s2.σ.set i (some (.val d))).set j (some (.val e)), s2.S⟩) s1) s) : wp (sPar i j ma mb) E Q s :=
  wp_bnd (h.mono fun _ _ q => wp_bnd (q.mono fun _ _ q => wp_bnd (wp_setU q.1 (wp_setU q.2.1 q.2.2))))
theorem wp_mutO {i : Nat} {ys : List D} {Q : Out → Sd → Prop} (hn : D.noOwns ys = true) (q : Q .nx ⟨s.σ.set i (some (.own ys)), s.S⟩) : wp (upM (mutS (.own i) ys)) E Q s := by
  refine wp_of (a := .nx) ?_ q
  unfold upM mutS
  rw [if_pos hn]
theorem wp_mutR {n : Nat} {ys : List D} {Q : Out → Sd → Prop} (hn : D.noOwns ys = true) (q : Q .nx ⟨s.σ, s.S.set n (.lst ys)⟩) : wp (upM (mutS (.ref n) ys)) E Q s := by
  refine wp_of (a := .nx) ?_ q
  unfold upM mutS
  rw [if_pos hn]
/-- name.append(e), an own list -/
theorem asL_own {i : Nat} {xs : List D} (h : s.σ[i]? = some (some (.own xs))) : asL s (.own i) = some xs := by
  show (match s.σ[i]? with
    | some (some (SV.own xs)) => some xs
    | _ => none) = _
  rw [h]
theorem asL_ref {n : Nat} {xs : List D} (h : s.S[n]? = some (.lst xs)) : asL s (.ref n) = some xs := by
  show (match s.S[n]? with
    | some (.lst xs) => some xs
    | _ => none) = _
  rw [h]
theorem asS_own {i : Nat} {xs : List D} (h : s.σ[i]? = some (some (.own xs))) : asS s (.own i) = some xs := asL_own h
theorem asS_ref {n : Nat} {xs : List D} (h : s.S[n]? = some (.lst xs)) : asS s (.ref n) = some xs := asL_ref h
theorem wp_appendO {i : Nat} {me : M D} {xs : List D} {Q : Out → Sd → Prop} (h0 : s.σ[i]? = some (some (.own xs)))
    (h : wp me E (fun d s' => ∃ ys, s'.σ[i]? = some (some (.own ys)) ∧ ys.length < 100000 ∧ D.noOwns (ys ++ [d]) = true ∧ Q .nx ⟨s'.σ.set i (some (.own (ys ++ [d]))), s'.S⟩) s) : wp (sAppend (eVar i) me) E Q s :=
  wp_bnd (wp_varO h0 (wp_bnd (wp_getM (fun _ => by simp) (asL_own h0) (wp_bnd (h.mono fun d s' q => by
    obtain ⟨ys, e, hl, hn, q⟩ := q
    refine wp_bnd (wp_getM (fun _ => by simp) (asL_own e) (wp_grd (decide_eq_true ?_) (wp_mutO hn q)))
    rw [PySem.sizeLine_eq]; omega)))))
theorem wp_sFor {mi : M (List D)} {g : TgM} {body : SM} {Q : Out → Sd → Prop} (h : wp mi E (fun ds s' => wp (forD g body ds) E Q s') s) : wp (sFor mi g body) E Q s := wp_bnd h
theorem wp_for {g : TgM} {body : SM} {Q : Out → Sd → Prop} (I : List D → Sd → Prop) (hs : ∀ d ds s, I (d :: ds) s → wp (upM (g d)) E (fun _ s1 => wp body E (fun o s' => match o with | .nx => I ds s' | .ct => I ds s' | .bk => Q .nx s' | .rt r => Q (.rt r) s') s1) s)
    (he : ∀ s, I [] s → Q .nx s) : ∀ {ds : List D} {s : Sd}, I ds s → wp (forD g body ds) E Q s
  | [], s, h => he s h
  | d :: ds, s, h => by
    unfold forD
    refine wp_bnd ((hs d ds s h).mono fun _ s1 q => wp_bnd (q.mono fun o s' q => ?_))
    cases o with
    | nx => exact wp_for I hs he q
    | ct => exact wp_for I hs he q
    | bk => exact q
    | rt r => exact q
/-- over the data of a typed list -/
theorem wp_forT {τ : Type} {f : τ → D} {g : TgM} {body : SM} {Q : Out → Sd → Prop} (I : List τ → Sd → Prop) {xs : List τ} (hI : I xs s) (hs : ∀ x xs s, I (x :: xs) s → wp (upM (g (f x))) E (fun _ s1 => wp body E (fun o s' => match o with | .nx => I xs s' | .ct => I xs s' | .bk => Q .nx s' | .rt r => Q (.rt r) s') s1) s)
    (he : ∀ s, I [] s → Q .nx s) : wp (forD g body (xs.map f)) E Q s := by
  refine wp_for (fun ds s => ∃ ys : List τ, ds = ys.map f ∧ I ys s) (fun d ds s h => ?_) (fun s h => ?_) ⟨xs, rfl, hI⟩
  · obtain ⟨ys, e, h⟩ := h
    cases ys with
    | nil => cases e
    | cons y ys =>
      cases e
      refine (hs y ys s h).mono fun _ s1 q => q.mono fun o s' q => ?_
      cases o with
      | nx => exact ⟨ys, rfl, q⟩
      | ct => exact ⟨ys, rfl, q⟩
      | bk => exact q
      | rt r => exact q
  · obtain ⟨ys, e, h⟩ := h
    cases ys with
    | nil => exact he s h
    | cons y ys => cases e
theorem wp_itSeqL {m : M D} {Q : List D → Sd → Prop} (h : wp m E (fun d s' => ∃ xs, (d = .lst xs ∨ d = .tup xs) ∧ D.noOwns xs = true ∧ Q xs s') s) : wp (itSeq m) E Q s :=
  wp_bnd (h.mono fun d s' q => by
    obtain ⟨xs, e, hn, q⟩ := q
    rcases e with rfl | rfl
    · exact wp_grd hn q
    · exact wp_grd hn q)
theorem wp_itOwn {i : Nat} {xs : List D} {Q : List D → Sd → Prop} (h : s.σ[i]? = some (some (.own xs))) (q : Q xs s) : wp (itOwn i) E Q s := by
  unfold wp itOwn
  rw [h]
  exact q
theorem wp_itR1 {m : M (List D)} {Q : List D → Sd → Prop} (h : wp m E (fun ds s' => ∃ n : Nat, ds = [.int n] ∧ (n : Int) < 2 ^ 62 ∧ Q (rangeD 0 n) s') s) : wp (itRange1 m) E Q s := by
  unfold itRange1
  refine wp_bnd (h.mono fun d s' q => ?_)
  obtain ⟨n, e0, hn, q⟩ := q
  subst e0
  generalize hj : (n : Int) = j at hn
  have h0 : 0 ≤ j := by omega
  have e : j.toNat = n := by omega
  have q2 : Q (rangeD 0 j.toNat) s' := by rw [e]; exact q
  exact wp_grd (decide_eq_true ⟨by omega, hn⟩) q2
theorem rangeD_cons (i : Int) (n : Nat) : rangeD i (n + 1) = .int i :: rangeD (i + 1) n := by
  unfold rangeD
  rw [List.range_succ_eq_map, List.map_cons, List.map_map]
  refine congr (congrArg _ (by simp)) (List.map_congr_left fun k _ => ?_)
  show D.int (i + ((k + 1 : Nat) : Int)) = _
  rw [show i + ((k + 1 : Nat) : Int) = i + 1 + (k : Int) by omega]
/-- over a range: the invariant by how many are left -/
theorem wp_forR {g : TgM} {body : SM} {Q : Out → Sd → Prop} (I : Int → Nat → Sd → Prop) (hs : ∀ i n s, I i (n + 1) s → wp (upM (g (.int i))) E (fun _ s1 => wp body E (fun o s' => match o with | .nx => I (i + 1) n s' | .ct => I (i + 1) n s' | .bk => Q .nx s' | .rt r => Q (.rt r) s') s1) s)
    (he : ∀ i s, I i 0 s → Q .nx s) {i : Int} {n : Nat} (hI : I i n s) : wp (forD g body (rangeD i n)) E Q s := by
  refine wp_for (fun ds s => ∃ i n, ds = rangeD i n ∧ I i n s) (fun d ds s h => ?_) (fun s h => ?_) ⟨i, n, rfl, hI⟩
  · obtain ⟨i, n, e, h⟩ := h
    cases n with
    | zero => cases e
    | succ n =>
      rw [rangeD_cons] at e
      cases e
      refine (hs i n s h).mono fun _ s1 q => q.mono fun o s' q => ?_
      cases o with
      | nx => exact ⟨_, _, rfl, q⟩
      | ct => exact ⟨_, _, rfl, q⟩
      | bk => exact q
      | rt r => exact q
  · obtain ⟨i, n, e, h⟩ := h
    cases n with
    | zero => exact he i s h
    | succ n => rw [rangeD_cons] at e; cases e
theorem compL_eq {vs : List Nat} {g : TgM} {test : M Bool} {elt : M D} {τ : Type} {f : τ → D} {F : τ → List D} : ∀ (xs : List τ) (s : Sd), (∀ x ∈ xs, compT vs g test elt (f x) s = some (F x, s)) → compL vs g test elt (xs.map f) s = some (xs.flatMap F, s)
  | [], s, _ => rfl
  | x :: xs, s, h => by
    show (match compT vs g test elt (f x) s with
      | some (o, s1) => match compL vs g test elt (xs.map f) s1 with
        | some (es, s2) => some (o ++ es, s2)
        | none => none
      | none => none) = _
    rw [h x (List.mem_cons_self ..)]
    simp only
    rw [compL_eq xs s fun y hy => h y (List.mem_cons_of_mem _ hy)]
    rfl
/-- one pass, no test, the store unchanged -/
theorem compT_one {vs : List Nat} {g : TgM} {elt : M D} {d e : D} {σ : List (Option SV)} {S : List Ob} {s1 : Sd} (h1 : g d ⟨wipeD σ vs, S⟩ = some s1) (h2 : wp elt (fun _ _ => False) (fun r s' => r = e ∧ ownKept σ s'.σ = true ∧ s'.S = S) s1) : compT vs g (ret true) elt d ⟨σ, S⟩ = some ([e], ⟨σ, S⟩) := by
  unfold compT
  simp only [h1]
  unfold wp at h2
  have e1 : (bnd (ret true) fun b => if b then bnd elt fun e => ret [e] else ret []) s1 = (bnd elt fun e => ret [e]) s1 := rfl
  rw [e1]
  unfold bnd
  cases e2 : elt s1 with
  | none => rw [e2] at h2; exact h2.elim
  | some r =>
    rw [e2] at h2
    cases r with
    | ex e s' => exact h2.elim
    | ok a s' =>
      obtain ⟨rfl, h3, h4⟩ := h2
      show (if ownKept σ s'.σ = true then some ([a], (⟨σ, s'.S⟩ : Sd)) else none) = _
      rw [if_pos h3, h4]
/-- [elt for x in xs], typed -/
theorem wp_lcMap {τ : Type} {f h : τ → D} {vs : List Nat} {mi : M (List D)} {g : TgM} {elt : M D} {Q : List D → Sd → Prop}
    (hi : wp mi E (fun ds s' => ∃ xs : List τ, ds = xs.map f ∧ xs.length ≤ 100000 ∧ (∀ x ∈ xs, compT vs g (ret true) elt (f x) s' = some ([h x], s')) ∧ Q (xs.map h) s') s) : wp (eLc vs mi g (ret true) elt) E Q s :=
  wp_bnd (hi.mono fun ds s' q => by
    obtain ⟨xs, rfl, hl, hc, q⟩ := q
    refine wp_grd (decide_eq_true (by rw [List.length_map]; exact sl_le hl)) ?_
    refine wp_of (a := xs.map h) (s' := s') ?_ q
    unfold compM
    rw [compL_eq (F := fun x => [h x]) xs s' hc]
    have : xs.flatMap (fun x => [h x]) = xs.map h := by
      clear q hc hl
      induction xs with
      | nil => rfl
      | cons x xs ih => rw [List.flatMap_cons, ih]; rfl
    rw [this])
theorem rangeD_typed (i : Int) (n : Nat) : rangeD i n = (List.range n).map fun k : Nat => .int (i + (k : Int)) := rfl
end
theorem wp_sSetIx {E : Ex → Sd → Prop} {s : Sd} {mo mi me : M D} {Q : Out → Sd → Prop} (h : wp me E (fun d s1 => wp mo E (fun l s2 => wp mi E (fun z s3 => ∃ (i : Int) (xs : List D) (j : Nat), z = .int i ∧ (∀ ys, l ≠ .lst ys) ∧ asL s3 l = some xs ∧ ixN xs.length i = some j ∧ wp (upM (mutS l (xs.set j d))) E Q s3) s2) s1) s) : wp (sSetIx mo mi me) E Q s :=
  wp_bnd (h.mono fun d s1 q => wp_bnd (q.mono fun l s2 q => wp_bnd (q.mono fun z s3 q => by
    obtain ⟨i, xs, j, rfl, hl, e, ej, q⟩ := q
    refine wp_bnd (wp_getM hl e ?_)
    simp only [ej]
    exact q)))
/-- a tuple or a list -/
def sq (b : Bool) (xs : List D) : D := if b then .tup xs else .lst xs
theorem asS_sq {s : Sd} {b : Bool} {xs : List D} : asS s (sq b xs) = some xs := by cases b <;> rfl
theorem wp_eIsi {E : Ex → Sd → Prop} {s : Sd} {m : M D} {n : String} {Q : Bool → Sd → Prop} (h : wp m E (fun d s' => ∃ b, ((tyD s' d).bind fun t => isiB t n) = some b ∧ Q b s') s) : wp (eIsi n m) E Q s :=
  wp_bnd (h.mono fun d s' q => by
    obtain ⟨b, e, q⟩ := q
    refine wp_of (a := b) (s' := s') ?_ q
    unfold isiM
    rw [e])
theorem wp_eIsi2 {E : Ex → Sd → Prop} {s : Sd} {m : M D} {n k : String} {Q : Bool → Sd → Prop} (h : wp m E (fun d s' => ∃ b, ((tyD s' d).bind fun t => (isiB t n).bind fun b => (isiB t k).map fun b' => b || b') = some b ∧ Q b s') s) : wp (eIsi2 n k m) E Q s :=
  wp_bnd (h.mono fun d s' q => by
    obtain ⟨b, e, q⟩ := q
    refine wp_of (a := b) (s' := s') ?_ q
    unfold isiM2
    rw [e])
theorem wp_ixP0 {E : Ex → Sd → Prop} {p : Int × Int} {s : Sd} {Q : D → Sd → Prop} (q : Q (.int p.1) s) : wp (ixM (pairD p) (.int 0)) E Q s := wp_ix (xs := [.int p.1, .int p.2]) rfl rfl q
theorem wp_ixP1 {E : Ex → Sd → Prop} {p : Int × Int} {s : Sd} {Q : D → Sd → Prop} (q : Q (.int p.2) s) : wp (ixM (pairD p) (.int 1)) E Q s := wp_ix (xs := [.int p.1, .int p.2]) rfl rfl q
abbrev P2 := Int × Int
def crs (a b c : P2) : Int := (b.1 - a.1) * (c.2 - a.2) - (b.2 - a.2) * (c.1 - a.1)
theorem sm_small {i : Int} (h1 : -1000000000000 ≤ i) (h2 : i ≤ 1000000000000) : sm i := ⟨by omega, by omega⟩
theorem ie_t {b : Prop} [Decidable b] {p q : Prop} (hb : b) (h : p) : if decide b = true then p else q := by rw [if_pos (decide_eq_true hb)]; exact h
theorem ie_f {b : Prop} [Decidable b] {p q : Prop} (hb : ¬ b) (h : q) : if decide b = true then p else q := by rw [if_neg (by rw [decide_eq_true_eq]; exact hb)]; exact h
theorem ie_ {b : Prop} [Decidable b] {p q : Prop} (h1 : b → p) (h2 : ¬ b → q) : if decide b = true then p else q := by
  by_cases h : b
  · exact ie_t h (h1 h)
  · exact ie_f h (h2 h)
end Dm
namespace Dm
open PySem PySem.Spec L2
mutual
/-- ints, None, tuples, lists of such, to depth n -/
def D.ok : Nat → D → Bool
  | _, .non => true
  | _, .int _ => true
  | n + 1, .tup xs => D.oks n xs
  | n + 1, .lst xs => D.oks n xs
  | _, _ => false
def D.oks : Nat → List D → Bool
  | _, [] => true
  | n, x :: xs => D.ok n x && D.oks n xs
end
end Dm
namespace Dm
open PySem PySem.Spec L2
section
variable {X : Cx} {cl : Nat → Addr} {W : WXd} {elt tg iter tg1 iter1 : Expr} {scope : Scope} {own : List (Str × Nat)} {vs1 : List Nat} {pos : Pos} {mi mi1 : M (List D)} {ts ts1 : List Nat} {g g1 : TgM} {me : M D}
end

section
variable {X : Cx} {cl : Nat → Addr} {W : WXd} {e : Expr} {pos : Pos}
end

def valD {κ : Type} [DecidableEq κ] (kvs : List (κ × D)) (k : κ) : Option D := (kvs.find? fun kv => decide (kv.1 = k)).map (·.2)
section
variable {κ : Type} [DecidableEq κ] {G : Gx} {c : Cc}
theorem KvD.any {kvs : List (κ × V)} {kds : List (κ × D)} (h : KvD G c kvs kds) (k : κ) : (kvs.any fun kv => decide (kv.1 = k)) = kds.any fun kv => decide (kv.1 = k) := by
  induction h with
  | nil => rfl
  | cons r _ ih => rw [List.any_cons, List.any_cons, ih, r.1]
theorem KvD.val {kvs : List (κ × V)} {kds : List (κ × D)} (h : KvD G c kvs kds) (k : κ) : (valV kvs k = none ∧ valD kds k = none) ∨ ∃ v d, valV kvs k = some v ∧ valD kds k = some d ∧ Den' G c v d := by
  induction h with
  | nil => exact .inl ⟨rfl, rfl⟩
  | @cons p q ps qs r _ ih =>
    by_cases e : p.1 = k
    · refine .inr ⟨p.2, q.2, valV_pos e, ?_, r.2⟩
      have e2 : q.1 = k := by rw [← r.1]; exact e
      simp [valD, List.find?_cons, e2]
    · have e2 : ¬ q.1 = k := by rw [← r.1]; exact e
      have h1 : valD (q :: qs) k = valD qs k := by simp [valD, List.find?_cons, e2]
      rw [valV_neg e, h1]
      exact ih
theorem KvD.length {kvs : List (κ × V)} {kds : List (κ × D)} (h : KvD G c kvs kds) : kvs.length = kds.length := by
  induction h with
  | nil => rfl
  | cons _ _ ih => rw [List.length_cons, List.length_cons, ih]
end
def putDk (d : D) (kds : List (Key × D)) (s : Sd) : Option Sd := if D.noOwns (kds.map (·.2)) then match d with
  | .ref n => some { s with S := s.S.set n (.dK kds) }
  | _ => none else none
structure ChgD (G : Gx) (c : Cc) (σ : L2.St) (H : Hp) (s : Sd) (d : D) (a : Addr) (kvs : List (Key × V)) (kds : List (Key × D)) : Prop where
  at_ : H a = some (.dK kvs)
  items : KvD G c kvs kds
  to : ∀ (kvs2 : List (Key × V)) (kds2 : List (Key × D)) (s' : Sd), KvD G c kvs2 kds2 → putDk d kds2 s = some s' → Rel G c σ (upd H a (.dK kvs2)) s'
section
variable {X : Cx} {cl : Nat → Addr} {W : WXd} {a b e o i : Expr} {pos pos' : Pos}
end
end Dm
namespace Dm
open PySem PySem.Spec L2
section
variable {α β : Type} {E : Ex → Sd → Prop} {s : Sd}
theorem wp_isiD {m : M D} {n : String} {Q : Bool → Sd → Prop} (h : wp m E (fun d s' => wp (isiM n d) E Q s') s) : wp (eIsi n m) E Q s := wp_bnd h
theorem wp_isiD2 {m : M D} {n k : String} {Q : Bool → Sd → Prop} (h : wp m E (fun d s' => wp (isiM2 n k d) E Q s') s) : wp (eIsi2 n k m) E Q s := wp_bnd h
theorem wp_isi {n : String} {d : D} {b : Bool} {Q : Bool → Sd → Prop} (e : ((tyD s d).bind fun t => isiB t n) = some b) (q : Q b s) : wp (isiM n d) E Q s := by
  refine wp_of (a := b) (s' := s) ?_ q
  unfold isiM
  rw [e]
theorem wp_isi2 {n k : String} {d : D} {b : Bool} {Q : Bool → Sd → Prop} (e : ((tyD s d).bind fun t => (isiB t n).bind fun b => (isiB t k).map fun b' => b || b') = some b) (q : Q b s) : wp (isiM2 n k d) E Q s := by
  refine wp_of (a := b) (s' := s) ?_ q
  unfold isiM2
  rw [e]
def tyNo (T : String) : D → Option Bool
  | .non => isiB "NoneType" T
  | .bl _ => isiB "bool" T
  | .int _ => isiB "int" T
  | .str _ => isiB "str" T
  | .tup _ => isiB "tuple" T
  | .lst _ => isiB "list" T
  | _ => none
theorem wp_isiN {n : String} {d : D} {b : Bool} {Q : Bool → Sd → Prop} (e : tyNo n d = some b) (q : Q b s) : wp (isiM n d) E Q s := by
  refine wp_isi ?_ q
  cases d <;> first | exact e | cases e
theorem wp_isi2N {n k : String} {d : D} {b c : Bool} {Q : Bool → Sd → Prop} (e : tyNo n d = some b) (e2 : tyNo k d = some c) (q : Q (b || c) s) : wp (isiM2 n k d) E Q s := by
  refine wp_isi2 (b := b || c) ?_ q
  cases d with
  | ref => cases e
  | own => cases e
  | con => cases e
  | non => show ((isiB "NoneType" n).bind fun b => (isiB "NoneType" k).map fun b' => b || b') = _; rw [show isiB "NoneType" n = some b from e, show isiB "NoneType" k = some c from e2]; rfl
  | bl => show ((isiB "bool" n).bind fun b => (isiB "bool" k).map fun b' => b || b') = _; rw [show isiB "bool" n = some b from e, show isiB "bool" k = some c from e2]; rfl
  | int => show ((isiB "int" n).bind fun b => (isiB "int" k).map fun b' => b || b') = _; rw [show isiB "int" n = some b from e, show isiB "int" k = some c from e2]; rfl
  | str => show ((isiB "str" n).bind fun b => (isiB "str" k).map fun b' => b || b') = _; rw [show isiB "str" n = some b from e, show isiB "str" k = some c from e2]; rfl
  | tup => show ((isiB "tuple" n).bind fun b => (isiB "tuple" k).map fun b' => b || b') = _; rw [show isiB "tuple" n = some b from e, show isiB "tuple" k = some c from e2]; rfl
  | lst => show ((isiB "list" n).bind fun b => (isiB "list" k).map fun b' => b || b') = _; rw [show isiB "list" n = some b from e, show isiB "list" k = some c from e2]; rfl
theorem ex_bl {x : Bool} {P : Bool → Prop} (h : P x) : ∃ b, D.bl x = .bl b ∧ P b := ⟨x, rfl, h⟩
theorem ex_int {x : Int} {P : Int → Prop} (h : P x) : ∃ b, D.int x = .int b ∧ P b := ⟨x, rfl, h⟩
theorem wp_finB {b : Bool} {Q : Out → Sd → Prop} (q : Q (.rt (.bl b)) s) : wp (fin (.bl b)) E Q s := wp_fin rfl q
theorem wp_finI {b : Int} {Q : Out → Sd → Prop} (q : Q (.rt (.int b)) s) : wp (fin (.int b)) E Q s := wp_fin rfl q
theorem wp_finS {b : Str} {Q : Out → Sd → Prop} (q : Q (.rt (.str b)) s) : wp (fin (.str b)) E Q s := wp_fin rfl q
theorem wp_finN {Q : Out → Sd → Prop} (q : Q (.rt .non) s) : wp (fin .non) E Q s := wp_fin rfl q
theorem wp_sAsgT {g : TgM} {m : M D} {Q : Out → Sd → Prop} (h : wp m E (fun d s' => wp (upM (g d)) E Q s') s) : wp (sAsgT g m) E Q s := wp_bnd h
theorem wp_leS {a b : Str} {Q : Bool → Sd → Prop} (q : Q (!decide (b.cps.toList < a.cps.toList)) s) : wp (leM (.str a) (.str b)) E Q s := q
end
end Dm
namespace DmT
open PySem PySem.Spec PyProof.Rows
/-- the different ones, in the order of their first places -/
def ddS (xs : List Str) : List Str := xs.foldl (fun acc z => if z ∈ acc then acc else acc ++ [z]) []
theorem ddS_snoc (zs : List Str) (z : Str) : ddS (zs ++ [z]) = if z ∈ ddS zs then ddS zs else ddS zs ++ [z] := by
  unfold ddS
  rw [List.foldl_append]
  rfl
theorem ddS_mem (zs : List Str) : ∀ z, z ∈ ddS zs ↔ z ∈ zs := by
  have key : ∀ (n : Nat) (zs : List Str), zs.length = n → ∀ z, z ∈ ddS zs ↔ z ∈ zs := by
    intro n
    induction n with
    | zero => intro zs h z; rw [List.length_eq_zero_iff.mp h]; simp [ddS]
    | succ n ih =>
      intro zs h z
      obtain ⟨ys, y, rfl⟩ : ∃ ys y, zs = ys ++ [y] := ⟨zs.dropLast, zs.getLast (by intro e; rw [e] at h; cases h), (List.dropLast_concat_getLast _).symm⟩
      have ih' := ih ys (by simp at h; omega)
      rw [ddS_snoc]
      split
      · rename_i hy
        rw [ih' z, List.mem_append, List.mem_singleton]
        exact ⟨.inl, fun q => q.elim id fun e => e ▸ (ih' y).mp hy⟩
      · rw [List.mem_append, List.mem_append, ih' z]
  exact key _ zs rfl
section
variable {prog : Program} {w : World} {A : Around} {R : Result → Shared → Prop} {itA : Addr} {fp wr : List Addr} {G : Array GenState → Array GenState → Prop} {m : Nat} {P : Nat → Value → Prop} {St : Nat → Shared → Prop}
end
section
variable {prog : Program} {w : World} {A : Around} {E : Value → Shared → Prop} {s : Shared}
end
end DmT
namespace Dm
open PySem PySem.Spec L2
open DmT (ddS)
section
variable {X : Cx} {cl : Nat → Addr} {W : WXd} {e : Expr} {es : List Expr} {p q pos : Pos} {m : M (List D)}
end
section
variable {E : Ex → Sd → Prop} {s : Sd}
end
end Dm
namespace Dm
open PySem PySem.Spec L2
section
variable {X : Cx} {cl : Nat → Addr} {W : WXd} {e : Expr} {es : List Expr} {p pos : Pos} {x : Str} {k : Nat} {ps : List Str} {F : Fn}
end
section
variable {X : Cx} {cl : Nat → Addr} {W : WXd} {e : Expr} {es : List Expr} {p pos : Pos} {m : M (List D)}
end
end Dm
namespace Dm
open PySem PySem.Spec L2
section
variable {G : Gx} {c c' : Cc} {σ : L2.St} {H H' : Hp} {s : Sd} {q a : Addr} {vs : List V}
theorem Rel.kind (r : Rel G c σ H s) (h : a ∈ c.ρ) : ∃ u, H a = some u ∧ (∀ ws, u ≠ .tup ws) ∧ ∀ od v, u ≠ .frz od v := by
  obtain ⟨n, hn⟩ := List.mem_iff_getElem?.mp h
  obtain ⟨o, _, q⟩ := r.base.get hn
  cases q with
  | lst h1 => exact ⟨_, h1, fun _ z => (by cases z), fun _ _ z => by cases z⟩
  | dK h1 => exact ⟨_, h1, fun _ z => (by cases z), fun _ _ z => by cases z⟩
  | dT h1 => exact ⟨_, h1, fun _ z => (by cases z), fun _ _ z => by cases z⟩
  | ins h1 => exact ⟨_, h1, fun _ z => (by cases z), fun _ _ z => by cases z⟩
  | exc0 h1 => exact ⟨_, h1, fun _ z => (by cases z), fun _ _ z => by cases z⟩
  | exc1 h1 => exact ⟨_, h1, fun _ z => (by cases z), fun _ _ z => by cases z⟩
  | xd h1 => exact ⟨_, h1, fun _ z => (by cases z), fun _ _ z => by cases z⟩
end
def putDt (d : D) (kds : List (List Key × D)) (s : Sd) : Option Sd := if D.noOwns (kds.map (·.2)) then match d with
  | .ref n => some { s with S := s.S.set n (.dT kds) }
  | _ => none else none
structure ChgT (G : Gx) (c : Cc) (σ : L2.St) (H : Hp) (s : Sd) (d : D) (a : Addr) (kvs : List (List Key × V)) (kds : List (List Key × D)) : Prop where
  at_ : H a = some (.dT kvs)
  items : KvD G c kvs kds
  to : ∀ (kvs2 : List (List Key × V)) (kds2 : List (List Key × D)) (s' : Sd), KvD G c kvs2 kds2 → putDt d kds2 s = some s' → Rel G c σ (upd H a (.dT kvs2)) s'
section
variable {X : Cx} {cl : Nat → Addr} {W : WXd} {a b e o i : Expr} {pos pos' : Pos}
end
mutual
theorem Den.pureAny {K F F' ρ O ρ' O'} (hF : Sub F F') : ∀ {v : V} {d : D}, Den K F ρ O v d → d.pure = true → Den K F' ρ' O' v d
  | _, _, .non, _ => .non
  | _, _, .bl b, _ => .bl b
  | _, _, .int i, _ => .int i
  | _, _, .str x, _ => .str x
  | _, _, .tup q r, h => .tup (hF _ _ q) (DenL.pureAny hF r (by simpa [D.pure] using h))
  | _, _, .lst q r, h => .lst (hF.sqL q) (DenL.pureAny hF r (by simpa [D.pure] using h))
  | _, _, .ref _, h => by simp [D.pure] at h
  | _, _, .own _, h => by simp [D.pure] at h
  | _, _, .con q, _ => .con q
theorem DenL.pureAny {K F F' ρ O ρ' O'} (hF : Sub F F') : ∀ {vs : List V} {ds : List D}, DenL K F ρ O vs ds → D.pures ds = true → DenL K F' ρ' O' vs ds
  | _, _, .nil, _ => .nil
  | _, _, .cons a b, h => by
    simp only [D.pures, Bool.and_eq_true] at h
    exact .cons (Den.pureAny hF a h.1) (DenL.pureAny hF b h.2)
end
section
variable {G : Gx} {c c' : Cc} {σ : L2.St} {H H' : Hp} {s s' : Sd} {a : Addr} {kvs : List (List Key × V)} {od : Obj}
mutual
theorem D.noOwn_pure : ∀ {d : D}, d.pure = true → d.noOwn = true
  | .non, _ => rfl
  | .bl _, _ => rfl
  | .int _, _ => rfl
  | .str _, _ => rfl
  | .con _, _ => rfl
  | .tup xs, h => by simpa [D.noOwn] using D.noOwns_pures (by simpa [D.pure] using h)
  | .lst xs, h => by simpa [D.noOwn] using D.noOwns_pures (by simpa [D.pure] using h)
  | .ref _, h => by simp [D.pure] at h
  | .own _, h => by simp [D.pure] at h
theorem D.noOwns_pures : ∀ {ds : List D}, D.pures ds = true → D.noOwns ds = true
  | [], _ => rfl
  | d :: ds, h => by
    simp only [D.pures, Bool.and_eq_true] at h
    simp only [D.noOwns, Bool.and_eq_true]
    exact ⟨D.noOwn_pure h.1, D.noOwns_pures h.2⟩
end
end
section
variable {X : Cx} {cl : Nat → Addr} {W : WXd} {elt tg : Expr} {ifs : List Expr} {scope : Scope} {own : List (Str × Nat)} {pos npos : Pos} {ts : List Nat} {g : TgM} {mt : M Bool} {me : M D} {i : Nat} {x : Str}
end
section
variable {X : Cx} {cl : Nat → Addr} {W : WXd} {a b c : Expr} {pos : Pos}
end
end Dm
namespace Dm
open PySem PySem.Spec L2
section
variable {E : Ex → Sd → Prop} {s : Sd}
end
end Dm
namespace Dm
open PySem PySem.Spec L2
section
variable {X : Cx} {cl : Nat → Addr} {W : WXd} {e : Expr} {elts : List Expr} {kk : Nat} {p pos tpos : Pos} {m : M (List D)}
end
section
variable {E : Ex → Sd → Prop} {s : Sd}
end
end Dm
namespace Dm
open PySem PySem.Spec L2
section
variable {X : Cx} {cl : Nat → Addr} {W : WXd} {tg iter : Expr} {body : List Stmt} {m : M D} {ts : List Nat} {g : TgM} {mb : SM} {pos : Pos}
end
section
variable {E : Ex → Sd → Prop} {s : Sd}
end
end Dm
namespace Dm
open PySem PySem.Spec L2
section plain
def kdIt (b : Bool) (m : Heap) (j l : Addr) (i : Nat) : Prop := match b with | true => m.IsListIter j l i | false => m.IsTupleIter j l i
def kdOb (b : Bool) (m : Heap) (l : Addr) (us : Array Value) : Prop := match b with | true => m.IsList l us | false => m.IsTuple l us
def kdNm (b : Bool) : String := match b with | true => "list_iterator" | false => "tuple_iterator"
theorem kdOb.push {b : Bool} {m : Heap} {l : Addr} {us : Array Value} (q : kdOb b m l us) (o : Obj) : kdOb b (m.push o) l us := by
  cases b with
  | true => exact Heap.IsList.push q o
  | false => exact Heap.IsTuple.push q o
theorem kdIt.keep {b : Bool} {m n : Heap} {j l : Addr} {i : Nat} (q : kdIt b m j l i) (k : ∀ o, m.get? j = some o → n.get? j = some o) : kdIt b n j l i := by
  cases b with
  | true => exact Heap.IsListIter.at q k
  | false => exact Heap.IsTupleIter.at q k
theorem kdIt.cell {b : Bool} {m : Heap} {j l : Addr} {i : Nat} (q : kdIt b m j l i) : ∃ o, m.get? j = some o ∧ ∀ v, o.data ≠ .cell v := by
  cases b with
  | true =>
    obtain ⟨o, e, _, d⟩ := q
    exact ⟨o, e, fun v z => by rw [d] at z; cases z⟩
  | false =>
    obtain ⟨o, e, _, d⟩ := q
    exact ⟨o, e, fun v z => by rw [d] at z; cases z⟩
theorem kdIt.new {b : Bool} {m : Heap} {j l : Addr} (q : m.get? j = some { cls := .type (kdNm b), data := .fields #[.ref l, .int 0 0] }) : kdIt b m j l 0 := by
  cases b with
  | true => exact ⟨_, q, rfl, rfl⟩
  | false => exact ⟨_, q, rfl, rfl⟩
theorem kdOb.lt {b : Bool} {m : Heap} {l : Addr} {us : Array Value} (q : kdOb b m l us) : l < m.objs.size := by
  cases b with
  | true =>
    unfold kdOb Heap.IsList at q
    obtain ⟨_, _, e, _⟩ := q
    exact Heap.lt_size (by assumption)
  | false =>
    obtain ⟨o, e, _⟩ := q
    exact Heap.lt_size e
end plain
section turn
end turn
end Dm
namespace Dm
open PySem PySem.Spec L2
section
variable {G : Gx} {c : Cc} {l k : Addr} {vs us : List V} {xs ys : List D}
end
section
variable {X : Cx}
end
section
variable {X : Cx} {cl : Nat → Addr} {W : WXd} {e e2 : Expr} {elts : List Expr} {kk : Nat} {p pos tpos : Pos} {m : M (List D)}
end
section
variable {E : Ex → Sd → Prop} {s : Sd}
end
end Dm
namespace Dm
open PySem PySem.Spec L2
mutual
def D.noLst : D → Bool
  | .tup xs => D.noLsts xs
  | .lst _ => false
  | .own _ => false
  | _ => true
def D.noLsts : List D → Bool
  | [] => true
  | x :: xs => x.noLst && D.noLsts xs
end
def Ob.noLst : Ob → Bool
  | .lst xs => D.noLsts xs
  | .dK kvs => D.noLsts (kvs.map (·.2))
  | .dT kvs => D.noLsts (kvs.map (·.2))
  | .ins _ fs => D.noLsts (fs.map (·.2))
  | .exc _ _ => true
  | .xd fs => D.noLsts (fs.map (·.2))
section
variable {K : PySem.W.Frag} {F F' : Hp} {ρ : List Addr} {O O' : Nat → Option Addr}
mutual
/-- only tuples count -/
theorem Den.thin (hF : ∀ a vs, F a = some (.tup vs) → F' a = some (.tup vs)) : ∀ {v : V} {d : D}, Den K F ρ O v d → d.noLst = true → Den K F' ρ O' v d
  | _, _, .non, _ => .non
  | _, _, .bl b, _ => .bl b
  | _, _, .int i, _ => .int i
  | _, _, .str x, _ => .str x
  | _, _, .tup q r, h => .tup (hF _ _ q) (DenL.thin hF r (by simpa [D.noLst] using h))
  | _, _, .lst q r, h => by simp [D.noLst] at h
  | _, _, .ref e, _ => .ref e
  | _, _, .own _, h => by simp [D.noLst] at h
  | _, _, .con h, _ => .con h
theorem DenL.thin (hF : ∀ a vs, F a = some (.tup vs) → F' a = some (.tup vs)) : ∀ {vs : List V} {ds : List D}, DenL K F ρ O vs ds → D.noLsts ds = true → DenL K F' ρ O' vs ds
  | _, _, .nil, _ => .nil
  | _, _, .cons a b, h => by
    simp only [D.noLsts, Bool.and_eq_true] at h
    exact .cons (Den.thin hF a h.1) (DenL.thin hF b h.2)
end
end
section
variable {G : Gx} {c c' : Cc} {σ : L2.St} {H H' : Hp} {s s' : Sd}
end
section
variable {X : Cx} {cl : Nat → Addr} {W : WXd} {e : Expr}
end
section
variable {E : Ex → Sd → Prop} {s : Sd}
end
end Dm
namespace Dm
open PySem PySem.Spec L2 PySem.W PySem.Calls PyProof.Rows PySem.HandSPX
def iA (p1 p2 : Pos) : Arguments := { posonlyargs := [], args := [{ arg := "self", annotation := none, pos := p1 }, { arg := "at", annotation := none, pos := p2 }], vararg := none, kwonlyargs := [], kw_defaults := [], kwarg := none, defaults := [] }
def iB (q1 q2 q3 q4 : Pos) : List Stmt := [.Assign [.Attribute (.Name "self" q1) "at" q2] (.Name "at" q3) q4]
def iS : Scope := { kind := .function, names := [(PySem.Str.ofString "self", .local), (PySem.Str.ofString "at", .local)], isGenerator := false, isCoroutine := false, more := [] }
/-- what the written part says of an error's class, at C, and of its __init__, at fI -/
structure AtTxt (K : Frag) (mg : Str → Option Value) (x q : Str) (C fI : Addr) : Prop where
  gC : mg x = some (.ref C)
  im : excInitIn K C exTl "Exception.__new__" = true
  ov : excOver K C exTl = true
  tk : takerIn K C "at" = some none
  sa : findIn K (.ref C) "__setattr__" = some (some (.builtin "object.__setattr__"))
  ga : findIn K (.ref C) "__getattribute__" = some (some (.builtin "BaseException.__getattribute__"))
  gg : findIn K (.ref C) "__getattr__" = some none
  noN : findIn K (.ref C) "at" = some none
  iC : findIn K (.ref C) "__init__" = some (some (.ref fI))
  tC : typeIn K (.ref fI) = some (.type "function")
  kC : keepIn K (.ref C) = true
  exC : subIn K (.ref C) (.type "BaseException") = some true
  tyC : typeIn K (.ref C) = some (.type "type")
  hdC : hasDictIn K C = true
  te : exmOne K (.ref C) (.ref C) = some true
  fn : ∃ (oc : Value) (od : Option Addr) (kV doc pm : Value) (an : Option Addr) (cdv ct : Value) (osl : Array (Option Value)) (p1 p2 q1 q2 q3 q4 : Pos),
    K.lookup fI = some ⟨oc, od, .func (fnOf "__init__" q (iA p1 p2) (iB q1 q2 q3 q4) iS .none kV doc pm an cdv ct), osl⟩ ∧ codeIn K cdv q = true
theorem AtTxt.xf {K : Frag} {mg : Str → Option Value} {x q : Str} {C fI : Addr} (T : AtTxt K mg x q C fI) : XfC K C := ⟨T.ga, T.gg, T.exC, T.hdC⟩
theorem ldN {M : Model} {s : Shared} {name : Str} {scope : Scope} {L a : Addr} {cd : Value} {m : Str → Option Value} {x : Str} {pos : Pos} {v : Value} {Q : Value → Shared → Prop} {A : Around} {E : Value → Shared → Prop} (hn : s.heap.Ns L m) (hv : m x = some v) (h : Q v s)
    (hk : scope.kind = .function := by rfl) (hl : (envOfC name scope L a cd).kindOf x = some .local := by rfl) (hd : (x == ("__debug__" : Str)) = false := by decide) :
    wpAny M A (eval (.Name x pos) (envOfC name scope L a cd)) Q E s := wpAny_Name (wpAny_loadName_local hk hl hn hv h) hd
/-- a dict with one text key -/
theorem ns1_one {h : Heap} {dx : Addr} {z : Int} {f : Str} {t : Tok} {v : Value} {n : Nat} (e : h.get? dx = some (dictOf [⟨z, .str f t, v⟩] n)) : h.Ns1 dx (fun y => if y = f then some v else none) := by
  refine ⟨_, _, _, e, rfl, fun b hb => ?_, ?_, fun y => ?_⟩
  · have hb' : b = ⟨z, .str f t, v⟩ := by simpa using hb
    subst hb'
    exact ⟨f, t, rfl⟩
  · exact List.pairwise_singleton ..
  · show nsFind _ y = if y = f then some v else none
    unfold nsFind findBy
    by_cases hy : y = f
    · subst hy
      rw [if_pos rfl]
      simp [Value.isStr]
    · rw [if_neg hy]
      simp [Value.isStr, Ne.symm hy]
section
variable {prog : Program} {w : World} {A : Around} {E : Value → Shared → Prop} {R : Result → Shared → Prop} {s : Shared} {K : Frag} {mg : Str → Option Value} {x q : Str} {C fI : Addr}
/-- what __init__ leaves, seen from the heap ahead of the error -/
structure AtEnd (hp h' : Heap) (e C d t0 : Addr) (v : Value) : Prop where
  keep : ∀ b o, hp.get? b = some o → h'.get? b = some o
  obj : h'.get? e = some (excObj C t0 (some d) .none)
  lt : e < d
  ns : h'.Ns1 d (fun y => if y = "at" then some v else none)
theorem at_init (T : AtTxt K mg x q C fI) {hp : Heap} {e t0 : Addr} {v : Value} (X : K.In s.heap) (hlim : s.heap.NoLimit) (hx : s.heap.get? e = some (excO C t0)) (old : ∀ b o, hp.get? b = some o → s.heap.get? b = some o) (osz : hp.objs.size ≤ s.heap.objs.size) (hnx : hp.get? e = none) (hroom : A.depth < recursionLimit)
    (hq : ∀ h' tk dx, AtEnd hp h' e C dx t0 v → R (.ok (.ret .none)) { s with heap := h', toks := tk }) :
    codeAny (model prog w) A (.call (.ref fI) ⟨[.ref e, v], []⟩) R s := by
  obtain ⟨oc, od, kV, doc, pm, an, cdv, ct, osl, p1, p2, q1, q2, q3, q4, ho, hcd⟩ := T.fn
  refine Att.call_fn (binds := [("self", .ref e), ("at", v)]) X hlim ho hcd hroom (BindsTo.of_eq (by first | rfl | with_unfolding_all rfl)) (by first | rfl | decide | with_unfolding_all rfl) (fun s₁ IC => ?_) rfl rfl rfl
  obtain ⟨h₁, tk₁, rfl⟩ := IC.toInCall.same
  have k : ∀ b o, s.heap.get? b = some o → h₁.get? b = some o := IC.toInCall.keep
  have hn := IC.toInCall.ns
  have neL : s.heap.objs.size ≠ e := Nat.ne_of_gt (Heap.lt_size hx)
  have X₁ : K.In h₁ := X.keeps k
  have hx₁ := k _ _ hx
  show wpAny _ _ (execs _ _) _ _ _
  refine wpAny_execs_cons (plainObj_wpAny_Assign_Attribute ?_)
  refine ldN (v := v) hn (by first | rfl | with_unfolding_all rfl | kernel_rfl) (ldN (v := .ref e) hn (by first | rfl | with_unfolding_all rfl | kernel_rfl) ?_)
  refine set_plain X₁ (ox := excO C t0) (od := none) ⟨hx₁, rfl, rfl, trivial⟩ T.sa ?_
  have Fh : PyProof.Rows.Fr hp s.heap.objs.size h₁ _ := ⟨hn, fun b o z => k b o (old b o z), osz⟩
  have Nh : News hp s.heap.objs.size h₁ ([] ++ (e, excObj C t0 none .none) :: []) := fun p hp' => by
    obtain rfl : p = (e, excObj C t0 none .none) := by simpa using hp'
    exact ⟨hx₁, Ne.symm neL, hnx⟩
  refine osa_exc0 (pre := []) (post := []) (c2 := .none) (t := t0) F.store_Exception Fh Nh X₁ T.ov T.tk T.hdC (fun _ z => by cases z) (fun _ z => by cases z) (putName_dict ..) rfl (by show 1 ≤ 1000; decide) (fun dx h' F' N' lt => ?_)
  have g1 := N' _ (List.mem_cons_self ..)
  have g2 := N' (e, excObj C t0 (some dx) .none) (by simp)
  exact wpAny_execs_nil (hq h' _ dx ⟨F'.keep, g2.1, lt (e, excObj C t0 none .none) (by simp), ns1_one g1.1⟩)
theorem at_made (T : AtTxt K mg x q C fI) {v : Value} (X : K.In s.heap) (hlim : s.heap.NoLimit) (hroom : A.depth + 1 < recursionLimit)
    (hq : ∀ h' tk e d t0, s.heap.objs.size ≤ e → AtEnd s.heap h' e C d t0 v → R (.ok (.ret (.ref e))) { s with heap := h', toks := tk }) :
    codeAny (model prog w) A (.call (.ref C) ⟨[v], []⟩) R s := by
  obtain ⟨hp, g, dr, tk, os⟩ := s
  obtain ⟨nm, N, qn, bs, bm, hd0, sn, sub, ab, col, dd, k0, k1, k2, k3, k5, hC, hT⟩ := excInit_of X T.im
  have k : ∀ b o, hp.get? b = some o → ((hp.push (kdv_tup [v])).push (excO C hp.objs.size)).get? b = some o := fun b o z => Heap.get?_push_of_some _ (Heap.get?_push_of_some _ z)
  have hget : ((hp.push (kdv_tup [v])).push (excO C hp.objs.size)).get? (hp.objs.size + 1) = some (excO C hp.objs.size) := by heap_get
  have hnx : hp.get? (hp.objs.size + 1) = none := by
    cases z : hp.get? (hp.objs.size + 1) with
    | none => rfl
    | some o => exact absurd (Nat.lt_of_succ_lt (Heap.lt_size z)) (Nat.lt_irrefl _)
  have o1 : [v].length ≤ sizeLine := by
    rw [sizeLine_eq]
    exact (by decide : 1 ≤ 16777216)
  refine call_own F.excBase_Exception hT hC (looks_findIn X T.iC) (fun self => bind_fn X self T.tC) o1 ?_
  refine at_init (s := ⟨(hp.push (kdv_tup [v])).push (excO C hp.objs.size), g, dr, tk, os⟩) (hp := hp) T (X.keeps k) (hlim.keeps k) hget k (by show hp.objs.size ≤ ((hp.push (kdv_tup [v])).push (excO C hp.objs.size)).objs.size; rw [Heap.size_push, Heap.size_push]; omega) hnx (by show A.depth + 1 < recursionLimit; exact hroom) fun h' tk' dx M => ?_
  exact ⟨rfl, hq h' tk' (hp.objs.size + 1) dx hp.objs.size (Nat.le_succ _) M⟩
end
section
variable {X : Cx} {x q : Str} {C fI : Addr}
end
end Dm
namespace Dm
open PySem PySem.Spec L2
/-- raise an error of class number C that keeps d as f -/
def sRaise (C : Nat) (f : Str) (m : M D) : SM := bnd m fun d => fun s => if d.noOwn then some (.ex ⟨C, [(f, d)]⟩ s) else none
theorem KvD.look {G : Gx} {c : Cc} {f : Str} {d : D} : ∀ {kvs : List (Str × V)} {kds : List (Str × D)}, KvD G c kvs kds → kds.lookup f = some d → ∃ v, kvs.lookup f = some v ∧ Den' G c v d
  | _, _, .nil, h => by cases h
  | (k, v) :: kvs, (k', d') :: kds, .cons q r, h => by
    obtain ⟨q1, q2⟩ := q
    have q1 : k = k' := q1
    subst q1
    by_cases hf : f = k
    · subst hf
      have e1 : List.lookup f ((f, d') :: kds) = some d' := by simp [List.lookup]
      have e2 : List.lookup f ((f, v) :: kvs) = some v := by simp [List.lookup]
      rw [e1] at h
      cases h
      exact ⟨v, e2, q2⟩
    · have ne : (f == k) = false := by simpa using hf
      have e1 : List.lookup f ((k, d') :: kds) = kds.lookup f := by simp [List.lookup, ne]
      have e2 : List.lookup f ((k, v) :: kvs) = kvs.lookup f := by simp [List.lookup, ne]
      rw [e1] at h
      obtain ⟨u, hu, hd⟩ := KvD.look r h
      exact ⟨u, e2.trans hu, hd⟩
section
variable {X : Cx} {cl : Nat → Addr} {W : WXd} {x q n : Str} {fI : Addr} {C i k : Nat} {a : Expr} {m : M D} {p pos pos2 : Pos}
end
section
variable {X : Cx} {cl : Nat → Addr} {W : WXd} {e : Expr} {es : List Expr} {p pos : Pos} {m : M (List D)} {x : Str} {k : Nat} {ps : List Str} {F : Fn}
end
end Dm
namespace Dm
open PySem PySem.Spec PyProof.Rows L2
def putIn (C : Nat) (d : D) (fds : List (Str × D)) (s : Sd) : Option Sd := if D.noOwns (fds.map (·.2)) then match d with
  | .ref n => some { s with S := s.S.set n (.ins C fds) }
  | _ => none else none
structure ChgI (G : Gx) (c : Cc) (σ : L2.St) (H : Hp) (s : Sd) (d : D) (a dx : Addr) (C : Nat) (kvs : List (Str × V)) (kds : List (Str × D)) : Prop where
  at_ : H a = some (.ins (G.cl C) dx kvs)
  items : KvD G c kvs kds
  to : ∀ (kvs2 : List (Str × V)) (kds2 : List (Str × D)) (s' : Sd), KvD G c kvs2 kds2 → putIn C d kds2 s = some s' → Rel G c σ (upd H a (.ins (G.cl C) dx kvs2)) s'
/-- what reading and setting a field f of instances of these classes leans on -/
def FldOf (K : PySem.W.Frag) (cl : Nat → Addr) (cs : List Nat) (f : Str) : Prop := ∀ C ∈ cs, Cls K (cl C) ∧ NoAttr K (cl C) f
section
variable {X : Cx} {cl : Nat → Addr} {W : WXd} {e o : Expr} {f : Str} {pos pos' : Pos} {cs : List Nat} {m mo mv : M D}
end
section
variable {X : Cx} {CX : CXT} {k : Nat} {f C : Addr} {fd : FuncData} {ps : List Str} {sp : Sp} {E : L2.St → XK} {x n : Str} {p apos pos : Pos} {e o : Expr} {es : List Expr} {ta : TE} {t : TA}
end
section
variable {X : Cx} {CX : CXT} {cl : Nat → Addr} {W : WXd} {k C : Nat} {f : Addr} {fd : FuncData} {ps : List Str} {F : Fn} {x n : Str} {p apos pos : Pos} {e o : Expr} {es : List Expr} {mo : M D} {ms : M (List D)}
end
end Dm
namespace Dm
open PySem PySem.Spec PyProof.Rows L2
section
variable {X : Cx} {cl : Nat → Addr} {W : WXd} {e o : Expr} {f : Str} {pos tpos : Pos} {cs : List Nat} {mo mv : M D}
end
structure ClsTx (K : PySem.W.Frag) (mg : Str → Option Value) (x : Str) (C : Addr) (fs ms : List Str) : Prop where
  gC : mg x = some (.ref C)
  cl : Cls K C
  mks : PySem.W.makesIn K C = true
  kp : PySem.W.keepIn K (.ref C) = true
  nf : ∀ f ∈ fs, NoAttr K C f
  mt : ∀ m ∈ ms, ∃ f, PySem.W.findIn K (.ref C) m = some (some (.ref f)) ∧ PySem.W.isFn K (.ref f) = true
structure MetAt (K : PySem.W.Frag) (C : Addr) (m qual : Str) (st : Stmt) (ps : List Str) : Prop where
  ex : ∃ (f : Addr) (fd : FuncData), Fun K m qual st f fd ∧ Meth K C m f ∧ Binds K fd ps []
structure MetOk (P : Program) (w : World) (K : PySem.W.Frag) (mg : Str → Option Value) (base : Heap) (cl : Nat → Addr) (CX : CXT) (k C : Nat) (m : Str) (ps : List Str) (F : Fn) : Prop where
  ex : ∃ (f : Addr) (fd : FuncData), FnOk P w K mg base CX k f fd ps (spD ⟨K, cl⟩ F) ∧ Meth K (cl C) m f ∧ Binds K fd ps []
theorem MetAt.ok2 {P : Program} {w : World} {K : PySem.W.Frag} {mg : Str → Option Value} {base : Heap} {cl : Nat → Addr} {C : Nat} {x qual : Str} {st : Stmt} {ps N : List Str} {k k' np nl : Nat} {m : SM} {F0 : Fn} (hF : F0 = noEx (mkFn np nl m)) (hp : ps.length = np) (hn : N.length = nl) (hk : k' = k + 1) (F : MetAt K (cl C) x qual st ps) (S : FnScope N ps (defScope st))
    (hbody : ∀ (f : Addr) (cdv : Value) (A : Around) (outer : List Env) (s : Shared) (H : Hp) (E : XK), Room k (A.deeper (PyProof.Rows.envOfC qual (defScope st) s.heap.objs.size f cdv)) →
      PSs (cxOf CX0 P w K mg base N qual (defScope st) f cdv A outer s H E).nox (defBody st) (tS ⟨K, cl⟩ W0 m)) : MetOk P w K mg base cl CX0 k' C x ps F0 := by
  subst hF
  subst hp
  subst hn
  subst hk
  obtain ⟨a, fd, F, h1, h2⟩ := F.ex
  exact ⟨a, fd, fn_okD F S (hbody a), h1, h2⟩
section
variable {X : Cx} {cl : Nat → Addr} {W : WXd} {e o : Expr} {es : List Expr} {p apos pos : Pos} {mo : M D} {m : M (List D)} {x n : Str} {k C : Nat} {fs ms ps : List Str} {F : Fn} {CX : CXT}
end
end Dm
namespace Dm
open PySem PySem.Spec PyProof.Rows L2
section
variable {X : Cx} {cl : Nat → Addr} {W : WXd}
end
end Dm
namespace Dm
open PySem PySem.Spec PyProof.Rows L2
section
variable {X : Cx} {cl : Nat → Addr} {W : WXd} {tg : Expr}
end
section
variable {X : Cx} {cl : Nat → Addr} {W : WXd} {x q n : Str} {fI : Addr} {C i k : Nat} {a : Expr} {m : M D} {p pos pos2 : Pos}
end
section
variable {X : Cx} {cl : Nat → Addr} {W : WXd} {pos : Pos} {p : Pos} {m : M (List D)} {x : Str} {k : Nat} {ps : List Str} {kws : List Keyword} {F : Fn}
end
theorem FldOf.nil {K : PySem.W.Frag} {cl : Nat → Addr} {f : Str} : FldOf K cl [] f := fun _ h => by cases h
theorem FldOf.cons {K : PySem.W.Frag} {mg : Str → Option Value} {cl : Nat → Addr} {f x : Str} {C : Nat} {cs : List Nat} {fs ms : List Str} (T : ClsTx K mg x (cl C) fs ms) (h : fs.contains f = true) (r : FldOf K cl cs f) : FldOf K cl (C :: cs) f := fun D hD => by
  rcases List.mem_cons.mp hD with rfl | hD
  · exact ⟨T.cl, T.nf f (by simpa using h)⟩
  · exact r D hD
end Dm
namespace Dm
open PySem PySem.Spec L2
section
variable {G : Gx} {c c' : Cc} {σ : L2.St} {H H' : Hp} {s : Sd}
end
section
variable {X : Cx} {cl : Nat → Addr} {W : WXd} {elt tg iter : Expr} {ifs : List Expr} {scope : Scope} {own : List (Str × Nat)} {pos : Pos} {mo : M D} {ts : List Nat} {g : TgM} {mt : M Bool} {me : M D}
end
section
variable {X : Cx} {cl : Nat → Addr} {W : WXd} {tg iter : Expr} {body : List Stmt} {m : M D} {ts : List Nat} {g : TgM} {mb : SM} {pos : Pos}
end
section
variable {E : Ex → Sd → Prop} {s : Sd}
end
end Dm
namespace Dm
open PySem PySem.Spec L2
section
variable {X : Cx} {cl : Nat → Addr} {W : WXd} {o i : Expr} {pos' apos : Pos} {mo mi : M D}
end
section
variable {E : Ex → Sd → Prop} {s : Sd}
end
end Dm
namespace PySem
namespace HandSPX
open PySem.W PySem.Calls PyProof.Rows
section
variable {M : Model} {A : Around} {E : Value → Shared → Prop} {h : Heap} {g : Array GenState} {d : Drawn} {t : Nat} {os : OsState}
variable {nm q : Str} {C N : Addr} {bs bm bmB : List Value} {hdct : Bool} {sn : List Str} {sub : List Value} {ab : Bool} {col : Option Bool} {dd : Option Addr} {k0 k1 k2 k3 k5 : Option Value} {B newId initId : String}
theorem checkK (F : ExcBaseFacts B newId initId bmB) (hT : ∀ X : String, bm.contains (.type X) = bmB.contains (.type X)) {f : Str} {v : Value} {Q : Unit → Shared → Prop}
    (hC : h.get? C = some (excClassObj nm q C N bs bm hdct sn sub ab col dd k0 k1 k2 k3 k5 newId)) (hq : Q () ⟨h, g, d, t, os⟩) : wpAny M A (checkBuiltinCall newId ⟨[.ref C], [(f, v)]⟩) Q E ⟨h, g, d, t, os⟩ := by
  have hB : (Value.ref C :: bm).contains (.type B) = true := by rw [List.contains_cons, hT, F.hasB, Bool.or_true]
  have hs := F.noStar
  simp only [checkBuiltinCall, F.newKind, F.newSplit, F.newRow]
  repeat (first | refine wpAny_loadPart_at hC ?_ | (refine wpAny_isSubtype_exc hC ?_; rw [hB]) | refine wpAny_staticBase_exc hC ?_ | refine wpAny_madeBy_exc hC ?_ | simp only [bne_self_eq_false, Bool.false_eq_true, if_false] | wp_step)
  exact hq
end
section
variable {prog : Program} {w : World} {A : Around} {E : Value → Shared → Prop} {R : Result → Shared → Prop} {h : Heap} {g : Array GenState} {d : Drawn} {t : Nat} {os : OsState}
variable {nm q : Str} {C N : Addr} {bs bm bmB : List Value} {hdct : Bool} {sn : List Str} {sub : List Value} {ab : Bool} {col : Option Bool} {dd : Option Addr} {k0 k1 k2 k3 k5 : Option Value} {B newId initId : String}
theorem newK (F : ExcBaseFacts B newId initId bmB) (hT : ∀ X : String, bm.contains (.type X) = bmB.contains (.type X)) {f : Str} {v : Value}
    (hC : h.get? C = some (excClassObj nm q C N bs bm hdct sn sub ab col dd k0 k1 k2 k3 k5 newId))
    (hq : R (.ok (.ret (.ref (h.objs.size + 1)))) ⟨(h.push (W.kdv_tup [])).push (excO C h.objs.size), g, d, t, os⟩) :
    codeAny (model prog w) A (.builtin newId ⟨[.ref C], [(f, v)]⟩) R ⟨h, g, d, t, os⟩ := by
  have hends := F.ends
  have hB : (Value.ref C :: bm).contains (.type B) = true := by rw [List.contains_cons, hT, F.hasB, Bool.or_true]
  have hA : (Value.ref C :: bm).contains (.type "AttributeError") = false := by rw [List.contains_cons, hT, F.noAttr]; rfl
  have hN : (Value.ref C :: bm).contains (.type "NameError") = false := by rw [List.contains_cons, hT, F.noName]; rfl
  refine codeAny_builtinAt F.entry ?_
  unfold Builtin.«BaseException.__new__»
  refine wpAt_bind ?_
  show wpAt _ _ _ (stack >>= _) _ _ _
  refine wpAt_bind (wpAt_stack fun p below => wpAt_of_wpAny ?_)
  wp_walk
  refine wpAt_of_wpAny ?_
  rw [F.owner]
  repeat (first | with_reducible refine wpAny_madeHere_exc F.canon hC ?_ | with_reducible refine wpAny_loadPart_at hC ?_ | (with_reducible refine wpAny_isSubtype_exc hC ?_; first | rw [hB] | rw [hA] | rw [hN]) | wp_step)
  show R _ _
  rw [Heap.size_push]
  exact hq
theorem typeK (F : ExcBaseFacts B newId initId bmB) (hT : ∀ X : String, bm.contains (.type X) = bmB.contains (.type X)) {f : Str} {v : Value} {fI : Addr} {Q : Fin → Shared → Prop}
    (hC : h.get? C = some (excClassObj nm q C N bs bm hdct sn sub ab col dd k0 k1 k2 k3 k5 newId))
    (hi : W.Looks (model prog w) h (typeLookup (.ref C) "__init__") (some (.ref fI))) (hb : ∀ self, W.Looks (model prog w) h (bindSpecial (.ref fI) self) (.ref fI, [self]))
    (hq : codeAny (model prog w) A (.call (.ref fI) ⟨[.ref (h.objs.size + 1)], [(f, v)]⟩)
      (fun r s' => match r with | .ok (.ret v) => v = .none ∧ Q (.done (.ret (.ref (h.objs.size + 1)))) s' | .ok _ => False | .error e => E e s')
      ⟨(h.push (W.kdv_tup [])).push (excO C h.objs.size), g, d, t, os⟩) :
    wpAny (model prog w) A (Builtin.«type.__call__» ⟨[.ref C], [(f, v)]⟩) Q E ⟨h, g, d, t, os⟩ := by
  repeat (first | with_reducible refine wpAny_loadPart_at hC ?_ | with_reducible refine wpAny_madeBy_exc hC ?_ | wp_step)
  refine codeAny_call_builtin_code (Code.quiet_builtin _ F.quiet) (checkK F hT hC ?_)
  refine newK F hT hC ?_
  show wpAny _ _ _ _ _ _
  have k : ∀ b o, h.get? b = some o → ((h.push (W.kdv_tup [])).push (excO C h.objs.size)).get? b = some o := fun b o e => Heap.get?_push_of_some _ (Heap.get?_push_of_some _ e)
  have hC₁ := k _ _ hC
  have hget : ((h.push (W.kdv_tup [])).push (excO C h.objs.size)).get? (h.objs.size + 1) = some (excO C h.objs.size) := by heap_get
  have hcC : (Value.ref C :: bm).contains (.ref C) = true := by simp
  have i1 := hi.keeps k
  have b1 := (hb (.ref (h.objs.size + 1))).keeps k
  unfold isInstance
  repeat (first | with_reducible refine wpAny_loadPart_at hget ?_ | (with_reducible refine wpAny_isSubtype_exc hC₁ ?_; rw [hcC]) | wp_step)
  show wpAny _ _ (typeLookup (.ref C) _) _ _ _
  refine i1.at ?_
  refine wpAny_holding (wpAny_bind (b1.at ?_))
  refine wpAny_bind (wpAny_call (codeAny_mono hq fun r s' z => ?_))
  rcases r with e | (v | _ | _ | _) <;> first | exact z | exact z.elim | skip
  obtain ⟨rfl, z⟩ := z
  first
    | exact wpAny_pure (wpAny_pure z)
    | (wp_walk; exact z)
theorem callExK (F : ExcBaseFacts B newId initId bmB) (hT : ∀ X : String, bm.contains (.type X) = bmB.contains (.type X)) {f : Str} {v : Value} {fI : Addr}
    (hC : h.get? C = some (excClassObj nm q C N bs bm hdct sn sub ab col dd k0 k1 k2 k3 k5 newId))
    (hi : W.Looks (model prog w) h (typeLookup (.ref C) "__init__") (some (.ref fI))) (hb : ∀ self, W.Looks (model prog w) h (bindSpecial (.ref fI) self) (.ref fI, [self]))
    (hq : codeAny (model prog w) (A.under (.builtin "type.__call__" ⟨[.ref C], [(f, v)]⟩)) (.call (.ref fI) ⟨[.ref (h.objs.size + 1)], [(f, v)]⟩) (W.InitBack (h.objs.size + 1) R)
      ⟨(h.push (W.kdv_tup [])).push (excO C h.objs.size), g, d, t, os⟩) :
    codeAny (model prog w) A (.call (.ref C) ⟨[], [(f, v)]⟩) R ⟨h, g, d, t, os⟩ := by
  have f1 := tc_lookup
  have f2 := tc_bind (.ref C)
  have hTy : (⟨h, g, d, t, os⟩ : Shared).TypeIs (.ref C) "type" := ⟨_, hC, rfl⟩
  refine codeAny_of_tree ?_
  show wpAny _ _ (callAny (.ref C) _) _ _ _
  repeat (any_goals (first | assumption | with_reducible refine wpAny_loadPart_at hC ?_ | wp_step))
  refine ⟨rfl, ?_⟩
  refine codeAny_call_builtin_at (Code.quiet_builtin _ (by decide +kernel)) entry_typeCall (wpAny_check_type_call_sub hC (typeK F hT hC hi hb ?_))
  refine codeAny_mono hq fun r s' z => ?_
  rcases r with e | (v | _ | _ | _) <;> exact z
end
end HandSPX
end PySem
namespace Dm
open PySem PySem.Spec L2 PySem.W PySem.Calls PyProof.Rows PySem.HandSPX
section
variable {prog : Program} {w : World} {A : Around} {E : Value → Shared → Prop} {s : Shared} {K : Frag} {x D : Addr} {ox : Obj} {od : Option Obj}
theorem find_cls {C : Addr} {name : Str} {a g : Value} (hc : (clsIn K C).isSome = true) (ha : findIn K (.ref C) name = some (some a)) (hg : specialIn K a "__get__" = some (some g)) (ht : takesIn K a = some true) : findObj K C od name = some (.bind g a) := by
  obtain ⟨cd, hc⟩ := Option.isSome_iff_exists.mp hc
  unfold findObj
  rw [hc, Option.bind_some, ha, Option.bind_some]
  simp [hg, ht]
theorem cls_of {Q : Option Value → Shared → Prop} (Z : ExcC K D) (X : K.In s.heap) (I : InstAt s.heap x ox D od) (h : Q (some (.ref D)) { s with toks := s.toks + 1 }) : wpAny (model prog w) A (getAttr? (.ref x) "__class__") Q E s := by
  have hf : findObj K D od "__class__" = some (.bind (.builtin "getset_descriptor.__get__") (.builtin "object.__class__")) := find_cls (by obtain ⟨cd, hc, _⟩ := any_some Z.hd; rw [hc]; rfl) Z.ha Z.hn Z.ht
  obtain ⟨hp, g, d, t, os⟩ := s
  have L0 := I.type (M := model prog w)
  have L1 := looks_findIn (M := model prog w) X Z.hg
  have L2 := looks_findIn (M := model prog w) X Z.hk
  have L3 := looks_find (M := model prog w) X I hf
  have sub : Looks (model prog w) hp (isInstance (.ref x) (.type "BaseException")) true := L0.andThen (looks_subIn X Z.hs)
  have hx0 : (false && onTheHeap (Value.builtin "BaseException.__getattribute__")) = false := rfl
  have hx2 : (Value.builtin "BaseException.__getattribute__" == Value.builtin "object.__getattribute__") = false := by decide +kernel
  have hx1 : (onTheHeap (Value.ref D) && Value.builtin "BaseException.__getattribute__" == Value.builtin "object.__getattribute__") = false := by rw [hx2]; rfl
  unfold getAttr? getAttrBy? getAttrBy
  refine wpAny_bind (wpAny_mkText (wpAny_bind (wpAny_attempt (wpAny_holding (wpAny_bind (L0.at (wpAny_bind (L1.at ?_))))))))
  show wpAny _ _ (if (onTheHeap (Value.ref D) && Value.builtin "BaseException.__getattribute__" == Value.builtin "object.__getattribute__") = true then _ else _) _ _ _
  rw [hx1, if_neg Bool.false_ne_true]
  unfold getAttrByItsOwn hookBefore
  refine wpAny_bind ?_
  rw [if_pos (show onTheHeap (Value.ref D) = true from rfl)]
  refine L2.at ?_
  refine wpAny_bind (wpAny_attempt (wpAny_holding ?_))
  unfold callGetattribute
  rw [hx0, if_neg Bool.false_ne_true]
  unfold boundAndCalled
  rw [PySem.F.excAttr_ValueError.ga.bind (.ref x)]
  refine wpAny_bind (wpAny_pure ?_)
  show wpAny _ _ (call (.builtin "BaseException.__getattribute__") [.ref x, .str "__class__" t]) _ _ _
  refine wpAny_call (codeAny_call_builtin PySem.F.excAttr_ValueError.ga.plain PySem.F.entry_bexc_ga ?_)
  refine @check_slot (model prog w) _ _ ⟨hp, g, d, t + 1, os⟩ "BaseException.__getattribute__" "BaseException" "__getattribute__" (.ref x) [.str "__class__" t] [] _ (by decide +kernel) (by decide +kernel) sub (PySem.F.args_bexc_ga (.ref x) (.str "__class__" t)) ?_
  unfold Builtin.«object.__getattribute__»
  refine wpAny_bind (wpAny_of_eq (a := ((Value.ref x : Value), [Value.str "__class__" t])) (by first | rfl | (simp only [slotArgs]; rfl)) ?_)
  refine wpAny_bind (wpAny_pure (wpAny_bind (L0.at (wpAny_bind (L3.at ?_)))))
  show wpAny _ _ (holding [Value.builtin "object.__class__"] (call (.builtin "getset_descriptor.__get__") [.builtin "object.__class__", .ref x, .ref D]) >>= _) _ _ _
  refine wpAny_bind (wpAny_holding (wpAny_call (class_get (s := ⟨hp, g, d, t + 1, os⟩) (ox := ox) (od := od) X I Z.hm ?_)))
  refine wpAny_pure ?_
  show wpAny _ _ (handedOut (.ref D)) _ _ _
  rw [handedOut_of (v := .ref D) rfl]
  first
    | exact wpAny_pure (wpAny_pure h)
    | exact wpAny_pure h
    | exact wpAny_pure (wpAny_bind (wpAny_pure (wpAny_pure h)))
theorem kitX (Z : ExcC K D) : KitX K (.ref x) (.ref D) (fun h => ∃ od, InstAt h x ox D od) where
  ty := fun _ _ _ ⟨_, I⟩ => I.type
  it := fun _ _ X _ => by
    obtain ⟨cdD, hcD, _⟩ := any_some Z.hd
    unfold clsIn at hcD
    split at hcD
    · rename_i c' d' cd' sl' ho
      intro A' Q' E' s' k q
      unfold isType loadHead
      exact wpAny_bind (wpAny_loadPart (k _ _ (X _ _ ho)) (wpAny_pure q))
    · cases hcD
  ne := fun h tp dd its n sl X htp => by
    obtain ⟨cdD, hcD, _⟩ := any_some Z.hd
    refine Bool.eq_false_iff.mpr fun q => ?_
    have e : D = tp := Value.ref.inj (beq_iff_eq.mp q)
    subst e
    unfold clsIn at hcD
    split at hcD
    · rename_i c' d' cd' sl' ho
      have z := (X _ _ ho).symm.trans htp
      cases z
    · cases hcD
  ca := fun X ⟨_, I⟩ k => cls_of Z X I k
end
theorem inst_of {X : Cx} {pins : List (Addr × Obj)} {σ : L2.St} {H : Hp} {s : Shared} {a C : Addr} {oe : Obj} {vs : Array Value} {odd : Option Addr} (I : Inv X pins σ H s) (ho : s.heap.get? a = some oe) (hz : Zc (.ref C) odd oe) (hd : oe.data = .fields vs) (hx : ∀ dd, odd = some dd → ∃ fs, H dd = some (.xd fs)) : ∃ od, InstAt s.heap a oe C od := by
  cases odd with
  | none =>
    refine ⟨none, ho, hz.1, by unfold notCls; rw [hd] <;> rfl, ?_⟩
    rw [hz.2]
    trivial
  | some dd =>
    obtain ⟨fs, hf⟩ := hx dd rfl
    obtain ⟨mA, hns, hr⟩ := I.hok dd _ hf
    obtain ⟨od, ho2, hl⟩ := lookIn_ns hns
    exact ⟨some od, ho, hz.1, by unfold notCls; rw [hd] <;> rfl, by rw [hz.2]; exact ho2⟩
/-- isinstance(e, c), e a tracked error -/
def rIsX (K : Frag) : List V → Hp → VK → Prop := fun xs H Q => ∃ (a C : Addr) (odd : Option Addr) (c : V) (cv : Value) (b : Bool), xs = [.ref a, c] ∧ H a = some (ExcH C odd a) ∧ (∀ dd, odd = some dd → ∃ fs, H dd = some (.xd fs)) ∧ ExcC K C ∧ (∀ u, RelV c u → u = cv) ∧ kitOne K (.ref C) cv = some b ∧ Q (.bl b) H
theorem call_isX {X : Cx} : CallR X (.builtin "isinstance") (rIsX X.K) := by
  intro pins s σ H xs us Q I r h
  obtain ⟨a, C, odd, c, cv, b, rfl, ha, hx, Z, hcv, e, q⟩ := h
  cases r with
  | cons rx rr =>
    cases rr with
    | cons rt rr =>
      cases rr
      cases rx
      have ec := hcv _ rt
      subst ec
      obtain ⟨⟨oe, vs, ho, hz, hd⟩, _⟩ := I.hok a _ ha
      have J := inst_of I ho hz hd hx
      exact kia_one (kitX (ox := oe) Z) I.kIn J e (fun z => nomatch z) fun tk => ⟨.bl b, H, I.kept (t' := tk) fun _ _ z => z, rfl, q⟩
/-- e.f, e a tracked error with a dict -/
def tXv (K : Frag) (f : Str) (te : TE) : TE := fun σ H Q => te σ H fun x H1 => ∃ (a C dd : Addr) (fs : List (Str × V)) (v : V), x = .ref a ∧ H1 a = some (ExcH C (some dd) a) ∧ XfC K C ∧ findIn K (.ref C) f = some none ∧ H1 dd = some (.xd fs) ∧ fs.lookup f = some v ∧ Q v H1
theorem pe_xv {X : Cx} {e : Expr} {te : TE} {pos : Pos} {n : Str} (he : PE X e te) (hb : attributeBase e n X.env (eval e X.env) = eval e X.env := by rfl) : PE X (.Attribute e n pos) (tXv X.K n te) := by
  refine ⟨fun pins s σ H Q I h => ?_⟩
  refine attr_of hb (thn (he.run pins s σ H _ I h) fun u s1 hh => ?_)
  obtain ⟨x, H1, I1, rx, a, C, dd, fs, v, ex, ha, T, hno, hdd, l, q⟩ := hh
  subst ex
  obtain rfl : u = Value.ref a := rx
  obtain ⟨⟨oe, vs, ho, hz, hd⟩, _⟩ := I1.hok a _ ha
  obtain ⟨mA, hns, hr⟩ := I1.hok dd _ hdd
  obtain ⟨od, ho2, hl⟩ := lookIn_ns hns
  obtain ⟨u, hu, ru⟩ := RelO.some_of (v := v) (o := mA n) (by rw [← l]; exact hr n)
  have J : InstAt s1.heap a oe C (some od) := ⟨ho, hz.1, by unfold notCls; rw [hd] <;> rfl, by rw [hz.2]; exact ho2⟩
  exact HandSPX.exc_get I1.kIn J T.ga T.gg T.exC (findObj_own T.hdC hno rfl (by rw [hl, hu])) (handed_of ru) ⟨v, H1, I1.tok _, ru, q⟩
end Dm
namespace Dm
open PySem PySem.Spec L2 PySem.W PySem.Calls PyProof.Rows PySem.HandSPX
def iAn (p1 p2 : Pos) : Arguments := { posonlyargs := [], args := [{ arg := "self", annotation := none, pos := p1 }, { arg := "name", annotation := none, pos := p2 }], vararg := none, kwonlyargs := [], kw_defaults := [], kwarg := none, defaults := [] }
def iBn (q1 q2 q3 q4 : Pos) : List Stmt := [.Assign [.Attribute (.Name "self" q1) "name" q2] (.Name "name" q3) q4]
def iSn : Scope := { kind := .function, names := [(PySem.Str.ofString "self", .local), (PySem.Str.ofString "name", .local)], isGenerator := false, isCoroutine := false, more := [] }
/-- what the written part says of an error's class, at C, and of its __init__, at fI -/
structure NmTxt (K : Frag) (mg : Str → Option Value) (x q : Str) (C fI : Addr) : Prop where
  gC : mg x = some (.ref C)
  im : excInitIn K C exTl "Exception.__new__" = true
  ov : excOver K C exTl = true
  tk : takerIn K C "name" = some none
  sa : findIn K (.ref C) "__setattr__" = some (some (.builtin "object.__setattr__"))
  ga : findIn K (.ref C) "__getattribute__" = some (some (.builtin "BaseException.__getattribute__"))
  gg : findIn K (.ref C) "__getattr__" = some none
  noN : findIn K (.ref C) "name" = some none
  iC : findIn K (.ref C) "__init__" = some (some (.ref fI))
  tC : typeIn K (.ref fI) = some (.type "function")
  kC : keepIn K (.ref C) = true
  exC : subIn K (.ref C) (.type "BaseException") = some true
  tyC : typeIn K (.ref C) = some (.type "type")
  hdC : hasDictIn K C = true
  te : exmOne K (.ref C) (.ref C) = some true
  fn : ∃ (oc : Value) (od : Option Addr) (kV doc pm : Value) (an : Option Addr) (cdv ct : Value) (osl : Array (Option Value)) (p1 p2 q1 q2 q3 q4 : Pos),
    K.lookup fI = some ⟨oc, od, .func (fnOf "__init__" q (iAn p1 p2) (iBn q1 q2 q3 q4) iSn .none kV doc pm an cdv ct), osl⟩ ∧ codeIn K cdv q = true
theorem NmTxt.xf {K : Frag} {mg : Str → Option Value} {x q : Str} {C fI : Addr} (T : NmTxt K mg x q C fI) : XfC K C := ⟨T.ga, T.gg, T.exC, T.hdC⟩
section
variable {prog : Program} {w : World} {A : Around} {E : Value → Shared → Prop} {R : Result → Shared → Prop} {s : Shared} {K : Frag} {mg : Str → Option Value} {x q : Str} {C fI : Addr}
/-- what __init__ leaves, seen from the heap ahead of the error -/
structure NmEnd (hp h' : Heap) (e C d t0 : Addr) (v : Value) : Prop where
  keep : ∀ b o, hp.get? b = some o → h'.get? b = some o
  obj : h'.get? e = some (excObj C t0 (some d) .none)
  lt : e < d
  ns : h'.Ns1 d (fun y => if y = "name" then some v else none)
theorem nm_init (T : NmTxt K mg x q C fI) {hp : Heap} {e t0 : Addr} {v : Value} (X : K.In s.heap) (hlim : s.heap.NoLimit) (hx : s.heap.get? e = some (excO C t0)) (old : ∀ b o, hp.get? b = some o → s.heap.get? b = some o) (osz : hp.objs.size ≤ s.heap.objs.size) (hnx : hp.get? e = none) (hroom : A.depth < recursionLimit)
    (hq : ∀ h' tk dx, NmEnd hp h' e C dx t0 v → R (.ok (.ret .none)) { s with heap := h', toks := tk }) :
    codeAny (model prog w) A (.call (.ref fI) ⟨[.ref e, v], []⟩) R s := by
  obtain ⟨oc, od, kV, doc, pm, an, cdv, ct, osl, p1, p2, q1, q2, q3, q4, ho, hcd⟩ := T.fn
  refine Att.call_fn (binds := [("self", .ref e), ("name", v)]) X hlim ho hcd hroom (BindsTo.of_eq (by first | rfl | with_unfolding_all rfl)) (by first | rfl | decide | with_unfolding_all rfl) (fun s₁ IC => ?_) rfl rfl rfl
  obtain ⟨h₁, tk₁, rfl⟩ := IC.toInCall.same
  have k : ∀ b o, s.heap.get? b = some o → h₁.get? b = some o := IC.toInCall.keep
  have hn := IC.toInCall.ns
  have neL : s.heap.objs.size ≠ e := Nat.ne_of_gt (Heap.lt_size hx)
  have X₁ : K.In h₁ := X.keeps k
  have hx₁ := k _ _ hx
  show wpAny _ _ (execs _ _) _ _ _
  refine wpAny_execs_cons (plainObj_wpAny_Assign_Attribute ?_)
  refine ldN (v := v) hn (by first | rfl | with_unfolding_all rfl | kernel_rfl) (ldN (v := .ref e) hn (by first | rfl | with_unfolding_all rfl | kernel_rfl) ?_)
  refine set_plain X₁ (ox := excO C t0) (od := none) ⟨hx₁, rfl, rfl, trivial⟩ T.sa ?_
  have Fh : PyProof.Rows.Fr hp s.heap.objs.size h₁ _ := ⟨hn, fun b o z => k b o (old b o z), osz⟩
  have Nh : News hp s.heap.objs.size h₁ ([] ++ (e, excObj C t0 none .none) :: []) := fun p hp' => by
    obtain rfl : p = (e, excObj C t0 none .none) := by simpa using hp'
    exact ⟨hx₁, Ne.symm neL, hnx⟩
  refine osa_exc0 (pre := []) (post := []) (c2 := .none) (t := t0) F.store_Exception Fh Nh X₁ T.ov T.tk T.hdC (fun _ z => by cases z) (fun _ z => by cases z) (putName_dict ..) rfl (by show 1 ≤ 1000; decide) (fun dx h' F' N' lt => ?_)
  have g1 := N' _ (List.mem_cons_self ..)
  have g2 := N' (e, excObj C t0 (some dx) .none) (by simp)
  exact wpAny_execs_nil (hq h' _ dx ⟨F'.keep, g2.1, lt (e, excObj C t0 none .none) (by simp), ns1_one g1.1⟩)
theorem nm_made (T : NmTxt K mg x q C fI) {v : Value} (X : K.In s.heap) (hlim : s.heap.NoLimit) (hroom : A.depth + 1 < recursionLimit)
    (hq : ∀ h' tk e d t0, s.heap.objs.size ≤ e → NmEnd s.heap h' e C d t0 v → R (.ok (.ret (.ref e))) { s with heap := h', toks := tk }) :
    codeAny (model prog w) A (.call (.ref C) ⟨[v], []⟩) R s := by
  obtain ⟨hp, g, dr, tk, os⟩ := s
  obtain ⟨nm, N, qn, bs, bm, hd0, sn, sub, ab, col, dd, k0, k1, k2, k3, k5, hC, hT⟩ := excInit_of X T.im
  have k : ∀ b o, hp.get? b = some o → ((hp.push (kdv_tup [v])).push (excO C hp.objs.size)).get? b = some o := fun b o z => Heap.get?_push_of_some _ (Heap.get?_push_of_some _ z)
  have hget : ((hp.push (kdv_tup [v])).push (excO C hp.objs.size)).get? (hp.objs.size + 1) = some (excO C hp.objs.size) := by heap_get
  have hnx : hp.get? (hp.objs.size + 1) = none := by
    cases z : hp.get? (hp.objs.size + 1) with
    | none => rfl
    | some o => exact absurd (Nat.lt_of_succ_lt (Heap.lt_size z)) (Nat.lt_irrefl _)
  have o1 : [v].length ≤ sizeLine := by
    rw [sizeLine_eq]
    exact (by decide : 1 ≤ 16777216)
  refine call_own F.excBase_Exception hT hC (looks_findIn X T.iC) (fun self => bind_fn X self T.tC) o1 ?_
  refine nm_init (s := ⟨(hp.push (kdv_tup [v])).push (excO C hp.objs.size), g, dr, tk, os⟩) (hp := hp) T (X.keeps k) (hlim.keeps k) hget k (by show hp.objs.size ≤ ((hp.push (kdv_tup [v])).push (excO C hp.objs.size)).objs.size; rw [Heap.size_push, Heap.size_push]; omega) hnx (by show A.depth + 1 < recursionLimit; exact hroom) fun h' tk' dx M => ?_
  exact ⟨rfl, hq h' tk' (hp.objs.size + 1) dx hp.objs.size (Nat.le_succ _) M⟩
theorem nm_initK (T : NmTxt K mg x q C fI) {hp : Heap} {e t0 : Addr} {v : Value} (X : K.In s.heap) (hlim : s.heap.NoLimit) (hx : s.heap.get? e = some (excO C t0)) (old : ∀ b o, hp.get? b = some o → s.heap.get? b = some o) (osz : hp.objs.size ≤ s.heap.objs.size) (hnx : hp.get? e = none) (hroom : A.depth < recursionLimit)
    (hq : ∀ h' tk dx, NmEnd hp h' e C dx t0 v → R (.ok (.ret .none)) { s with heap := h', toks := tk }) :
    codeAny (model prog w) A (.call (.ref fI) ⟨[.ref e], [("name", v)]⟩) R s := by
  obtain ⟨oc, od, kV, doc, pm, an, cdv, ct, osl, p1, p2, q1, q2, q3, q4, ho, hcd⟩ := T.fn
  refine Att.call_fn (binds := [("self", .ref e), ("name", v)]) X hlim ho hcd hroom (BindsTo.of_eq (by first | rfl | with_unfolding_all rfl)) (by first | rfl | decide | with_unfolding_all rfl) (fun s₁ IC => ?_) rfl rfl rfl
  obtain ⟨h₁, tk₁, rfl⟩ := IC.toInCall.same
  have k : ∀ b o, s.heap.get? b = some o → h₁.get? b = some o := IC.toInCall.keep
  have hn := IC.toInCall.ns
  have neL : s.heap.objs.size ≠ e := Nat.ne_of_gt (Heap.lt_size hx)
  have X₁ : K.In h₁ := X.keeps k
  have hx₁ := k _ _ hx
  show wpAny _ _ (execs _ _) _ _ _
  refine wpAny_execs_cons (plainObj_wpAny_Assign_Attribute ?_)
  refine ldN (v := v) hn (by first | rfl | with_unfolding_all rfl | kernel_rfl) (ldN (v := .ref e) hn (by first | rfl | with_unfolding_all rfl | kernel_rfl) ?_)
  refine set_plain X₁ (ox := excO C t0) (od := none) ⟨hx₁, rfl, rfl, trivial⟩ T.sa ?_
  have Fh : PyProof.Rows.Fr hp s.heap.objs.size h₁ _ := ⟨hn, fun b o z => k b o (old b o z), osz⟩
  have Nh : News hp s.heap.objs.size h₁ ([] ++ (e, excObj C t0 none .none) :: []) := fun p hp' => by
    obtain rfl : p = (e, excObj C t0 none .none) := by simpa using hp'
    exact ⟨hx₁, Ne.symm neL, hnx⟩
  refine osa_exc0 (pre := []) (post := []) (c2 := .none) (t := t0) F.store_Exception Fh Nh X₁ T.ov T.tk T.hdC (fun _ z => by cases z) (fun _ z => by cases z) (putName_dict ..) rfl (by show 1 ≤ 1000; decide) (fun dx h' F' N' lt => ?_)
  have g1 := N' _ (List.mem_cons_self ..)
  have g2 := N' (e, excObj C t0 (some dx) .none) (by simp)
  exact wpAny_execs_nil (hq h' _ dx ⟨F'.keep, g2.1, lt (e, excObj C t0 none .none) (by simp), ns1_one g1.1⟩)
theorem nm_madeK (T : NmTxt K mg x q C fI) {v : Value} (X : K.In s.heap) (hlim : s.heap.NoLimit) (hroom : A.depth + 1 < recursionLimit)
    (hq : ∀ h' tk e d t0, s.heap.objs.size ≤ e → NmEnd s.heap h' e C d t0 v → R (.ok (.ret (.ref e))) { s with heap := h', toks := tk }) :
    codeAny (model prog w) A (.call (.ref C) ⟨[], [("name", v)]⟩) R s := by
  obtain ⟨hp, g, dr, tk, os⟩ := s
  obtain ⟨nm, N, qn, bs, bm, hd0, sn, sub, ab, col, dd, k0, k1, k2, k3, k5, hC, hT⟩ := excInit_of X T.im
  have k : ∀ b o, hp.get? b = some o → ((hp.push (kdv_tup [])).push (excO C hp.objs.size)).get? b = some o := fun b o z => Heap.get?_push_of_some _ (Heap.get?_push_of_some _ z)
  have hget : ((hp.push (kdv_tup [])).push (excO C hp.objs.size)).get? (hp.objs.size + 1) = some (excO C hp.objs.size) := by heap_get
  have hnx : hp.get? (hp.objs.size + 1) = none := by
    cases z : hp.get? (hp.objs.size + 1) with
    | none => rfl
    | some o => exact absurd (Nat.lt_of_succ_lt (Heap.lt_size z)) (Nat.lt_irrefl _)
  have o1 : [v].length ≤ sizeLine := by
    rw [sizeLine_eq]
    exact (by decide : 1 ≤ 16777216)
  refine callExK F.excBase_Exception hT hC (looks_findIn X T.iC) (fun self => bind_fn X self T.tC) ?_
  refine nm_initK (s := ⟨(hp.push (kdv_tup [])).push (excO C hp.objs.size), g, dr, tk, os⟩) (hp := hp) T (X.keeps k) (hlim.keeps k) hget k (by show hp.objs.size ≤ ((hp.push (kdv_tup [])).push (excO C hp.objs.size)).objs.size; rw [Heap.size_push, Heap.size_push]; omega) hnx (by show A.depth + 1 < recursionLimit; exact hroom) fun h' tk' dx M => ?_
  exact ⟨rfl, hq h' tk' (hp.objs.size + 1) dx hp.objs.size (Nat.le_succ _) M⟩
theorem at_initK (T : AtTxt K mg x q C fI) {hp : Heap} {e t0 : Addr} {v : Value} (X : K.In s.heap) (hlim : s.heap.NoLimit) (hx : s.heap.get? e = some (excO C t0)) (old : ∀ b o, hp.get? b = some o → s.heap.get? b = some o) (osz : hp.objs.size ≤ s.heap.objs.size) (hnx : hp.get? e = none) (hroom : A.depth < recursionLimit)
    (hq : ∀ h' tk dx, AtEnd hp h' e C dx t0 v → R (.ok (.ret .none)) { s with heap := h', toks := tk }) :
    codeAny (model prog w) A (.call (.ref fI) ⟨[.ref e], [("at", v)]⟩) R s := by
  obtain ⟨oc, od, kV, doc, pm, an, cdv, ct, osl, p1, p2, q1, q2, q3, q4, ho, hcd⟩ := T.fn
  refine Att.call_fn (binds := [("self", .ref e), ("at", v)]) X hlim ho hcd hroom (BindsTo.of_eq (by first | rfl | with_unfolding_all rfl)) (by first | rfl | decide | with_unfolding_all rfl) (fun s₁ IC => ?_) rfl rfl rfl
  obtain ⟨h₁, tk₁, rfl⟩ := IC.toInCall.same
  have k : ∀ b o, s.heap.get? b = some o → h₁.get? b = some o := IC.toInCall.keep
  have hn := IC.toInCall.ns
  have neL : s.heap.objs.size ≠ e := Nat.ne_of_gt (Heap.lt_size hx)
  have X₁ : K.In h₁ := X.keeps k
  have hx₁ := k _ _ hx
  show wpAny _ _ (execs _ _) _ _ _
  refine wpAny_execs_cons (plainObj_wpAny_Assign_Attribute ?_)
  refine ldN (v := v) hn (by first | rfl | with_unfolding_all rfl | kernel_rfl) (ldN (v := .ref e) hn (by first | rfl | with_unfolding_all rfl | kernel_rfl) ?_)
  refine set_plain X₁ (ox := excO C t0) (od := none) ⟨hx₁, rfl, rfl, trivial⟩ T.sa ?_
  have Fh : PyProof.Rows.Fr hp s.heap.objs.size h₁ _ := ⟨hn, fun b o z => k b o (old b o z), osz⟩
  have Nh : News hp s.heap.objs.size h₁ ([] ++ (e, excObj C t0 none .none) :: []) := fun p hp' => by
    obtain rfl : p = (e, excObj C t0 none .none) := by simpa using hp'
    exact ⟨hx₁, Ne.symm neL, hnx⟩
  refine osa_exc0 (pre := []) (post := []) (c2 := .none) (t := t0) F.store_Exception Fh Nh X₁ T.ov T.tk T.hdC (fun _ z => by cases z) (fun _ z => by cases z) (putName_dict ..) rfl (by show 1 ≤ 1000; decide) (fun dx h' F' N' lt => ?_)
  have g1 := N' _ (List.mem_cons_self ..)
  have g2 := N' (e, excObj C t0 (some dx) .none) (by simp)
  exact wpAny_execs_nil (hq h' _ dx ⟨F'.keep, g2.1, lt (e, excObj C t0 none .none) (by simp), ns1_one g1.1⟩)
theorem at_madeK (T : AtTxt K mg x q C fI) {v : Value} (X : K.In s.heap) (hlim : s.heap.NoLimit) (hroom : A.depth + 1 < recursionLimit)
    (hq : ∀ h' tk e d t0, s.heap.objs.size ≤ e → AtEnd s.heap h' e C d t0 v → R (.ok (.ret (.ref e))) { s with heap := h', toks := tk }) :
    codeAny (model prog w) A (.call (.ref C) ⟨[], [("at", v)]⟩) R s := by
  obtain ⟨hp, g, dr, tk, os⟩ := s
  obtain ⟨nm, N, qn, bs, bm, hd0, sn, sub, ab, col, dd, k0, k1, k2, k3, k5, hC, hT⟩ := excInit_of X T.im
  have k : ∀ b o, hp.get? b = some o → ((hp.push (kdv_tup [])).push (excO C hp.objs.size)).get? b = some o := fun b o z => Heap.get?_push_of_some _ (Heap.get?_push_of_some _ z)
  have hget : ((hp.push (kdv_tup [])).push (excO C hp.objs.size)).get? (hp.objs.size + 1) = some (excO C hp.objs.size) := by heap_get
  have hnx : hp.get? (hp.objs.size + 1) = none := by
    cases z : hp.get? (hp.objs.size + 1) with
    | none => rfl
    | some o => exact absurd (Nat.lt_of_succ_lt (Heap.lt_size z)) (Nat.lt_irrefl _)
  have o1 : [v].length ≤ sizeLine := by
    rw [sizeLine_eq]
    exact (by decide : 1 ≤ 16777216)
  refine callExK F.excBase_Exception hT hC (looks_findIn X T.iC) (fun self => bind_fn X self T.tC) ?_
  refine at_initK (s := ⟨(hp.push (kdv_tup [])).push (excO C hp.objs.size), g, dr, tk, os⟩) (hp := hp) T (X.keeps k) (hlim.keeps k) hget k (by show hp.objs.size ≤ ((hp.push (kdv_tup [])).push (excO C hp.objs.size)).objs.size; rw [Heap.size_push, Heap.size_push]; omega) hnx (by show A.depth + 1 < recursionLimit; exact hroom) fun h' tk' dx M => ?_
  exact ⟨rfl, hq h' tk' (hp.objs.size + 1) dx hp.objs.size (Nat.le_succ _) M⟩
end
end Dm
namespace Dm
open PySem PySem.Spec L2 PySem.W PySem.Calls PyProof.Rows PySem.HandSPX
/-- what the layer wants of an own error with the one field f -/
structure MkErr (K : Frag) (C : Addr) (f : Str) : Prop where
  kC : keepIn K (.ref C) = true
  xf : XfC K C
  no : findIn K (.ref C) f = some none
  made : ∀ {prog : Program} {w : World} {A : Around} {R : Result → Shared → Prop} {s : Shared} {v : Value} (kw : Bool), K.In s.heap → s.heap.NoLimit → A.depth + 1 < recursionLimit →
    (∀ h' tk e d t0, s.heap.objs.size ≤ e → e < d → (∀ b o, s.heap.get? b = some o → h'.get? b = some o) → h'.get? e = some (excObj C t0 (some d) .none) → h'.Ns1 d (fun y => if y = f then some v else none) → R (.ok (.ret (.ref e))) { s with heap := h', toks := tk }) →
    codeAny (model prog w) A (.call (.ref C) (if kw then ⟨[], [(f, v)]⟩ else ⟨[v], []⟩)) R s
theorem AtTxt.err {K : Frag} {mg : Str → Option Value} {x q : Str} {C fI : Addr} (T : AtTxt K mg x q C fI) : MkErr K C "at" where
  kC := T.kC
  xf := T.xf
  no := T.noN
  made := fun kw X hl hr hq => by
    cases kw with
    | true => exact at_madeK T X hl hr fun h' tk e d t0 hge M => hq h' tk e d t0 hge M.lt M.keep M.obj M.ns
    | false => exact at_made T X hl hr fun h' tk e d t0 hge M => hq h' tk e d t0 hge M.lt M.keep M.obj M.ns
theorem NmTxt.err {K : Frag} {mg : Str → Option Value} {x q : Str} {C fI : Addr} (T : NmTxt K mg x q C fI) : MkErr K C "name" where
  kC := T.kC
  xf := T.xf
  no := T.noN
  made := fun kw X hl hr hq => by
    cases kw with
    | true => exact nm_madeK T X hl hr fun h' tk e d t0 hge M => hq h' tk e d t0 hge M.lt M.keep M.obj M.ns
    | false => exact nm_made T X hl hr fun h' tk e d t0 hge M => hq h' tk e d t0 hge M.lt M.keep M.obj M.ns
theorem excH_ok {P : Program} {w : World} {H : Hp} {h : Heap} {a C : Addr} {od : Option Addr} {oe : Obj} {vs : Array Value} (e : h.get? a = some oe) (z : Zc (.ref C) od oe) (d : oe.data = .fields vs) : ObjOk P w H h a (ExcH C od a) :=
  ⟨⟨oe, vs, e, z, d⟩, ⟨oe, e⟩, fun _ _ ⟨o, v, q, r⟩ k => ⟨o, v, k o q, r⟩⟩
theorem relO_f {f : Str} {v : V} {v' : Value} (r : RelV v v') (y : Str) : RelO (List.lookup y [(f, v)]) (if y = f then some v' else none) := by
  by_cases hw : y = f
  · subst hw
    rw [if_pos rfl]
    have e : List.lookup y [(y, v)] = some v := by simp [List.lookup]
    rw [e]
    exact r
  · rw [if_neg hw]
    have e1 : (y == f) = false := by simpa using hw
    have e2 : List.lookup y [(f, v)] = none := by simp [List.lookup, e1]
    rw [e2]
    trivial
def tMkV (C : Addr) (f : Str) (ta : TA) : TE := fun σ H Q => ta σ H fun vs H1 => ∃ v, vs = [v] ∧ ∀ e d, H1 e = none → H1 d = none → e ≠ d → Q (.ref e) (upd (upd H1 d (.xd [(f, v)])) e (ExcH C (some d) e))
section
variable {X : Cx} {x f : Str} {C : Addr}
/-- the error made is tracked, and its dict -/
theorem mk_track {pins : List (Addr × Obj)} {σ : L2.St} {H1 : Hp} {Q : VK} {s1 : Shared} {v : V} {v' : Value} (T : MkErr X.K C f) (I1 : Inv X pins σ H1 s1) (rv : RelV v v') (hd : X.A.depth + 1 < recursionLimit) (kw : Bool)
    (q1 : ∀ e d, H1 e = none → H1 d = none → e ≠ d → Q (.ref e) (upd (upd H1 d (.xd [(f, v)])) e (ExcH C (some d) e))) :
    codeAny (model X.prog X.w) X.A (.call (.ref C) (if kw then ⟨[], [(f, v')]⟩ else ⟨[v'], []⟩)) (fun r s' => match r with | .ok (.ret u) => ∃ w H', Inv X pins σ H' s' ∧ RelV w u ∧ Q w H' | _ => False) s1 := by
  have hlim := I1.nolimit
  refine T.made kw I1.kIn hlim hd fun h' tk' e d t0 hge hlt keep obj ns => ?_
  obtain ⟨hp, g, dr, tk, os⟩ := s1
  have hne : d ≠ e := Nat.ne_of_gt hlt
  obtain ⟨G', g1, g2⟩ := restrict h' fun b => decide (b ≠ e)
  have gk : ∀ b, b ≠ e → G'.get? b = h'.get? b := fun b hb => g1 b (decide_eq_true hb)
  have ge : G'.get? e = none := g2 e (by simp)
  have old : ∀ b o, hp.get? b = some o → G'.get? b = some o := fun b o z => (gk b (Nat.ne_of_lt (Nat.lt_of_lt_of_le (Heap.lt_size z) hge))).trans (keep b o z)
  have dbig : hp.objs.size ≤ d := Nat.le_of_lt (Nat.lt_of_le_of_lt hge hlt)
  have ob : ObjOk X.prog X.w (upd H1 d (.xd [(f, v)])) G' d (.xd [(f, v)]) :=
    ⟨_, ns.at (fun o z => (gk d hne).trans z), fun y => relO_f rv y⟩
  have J : Inv X pins σ (upd H1 d (.xd [(f, v)])) ⟨G', g, dr, tk', os⟩ := I1.laid (t' := tk') old dbig ob
  have fe : H1 e = none := I1.hok.fresh hge
  have fd : H1 d = none := I1.hok.fresh dbig
  refine ⟨.ref e, upd (upd H1 d (.xd [(f, v)])) e (ExcH C (some d) e), J.laidN (fun b o z => ?_) ge (by rw [upd_ne (Ne.symm hne)]; exact fe) (excH_ok obj ⟨rfl, rfl⟩ rfl), rfl, q1 e d fe fd (Ne.symm hne)⟩
  by_cases hb : b = e
  · rw [hb] at z
    have z : G'.get? e = some o := z
    rw [ge] at z; cases z
  · exact (gk b hb).symm.trans z
theorem pe_mkV {a : Expr} {ta : TA} {p pos : Pos} {k : Nat} (T : MkErr X.K C f) (gC : X.mg x = some (.ref C)) (hr : Room k X.A) (ha : PA X [a] ta) (hg : Gl X x) (hdb : (x == ("__debug__" : Str)) = false)
    (he : starEach (a :: []) X.env = (false, eval a X.env) :: starEach [] X.env := by rfl) (hpl : (backTo pos (starEach [] X.env)).any (·.1) = false := by rfl) :
    PE X (.Call (.Name x p) [a] [] pos) (tMkV C f ta) := by
  refine ⟨fun pins s σ H Q I h => ?_⟩
  refine wpAny_Call_Name_kw (ld_glob I hg gC ?_ hdb)
  refine callWith_K (h₀ := X.base) I.ok.mod.kin T.kC (thn (ha.run pos pins s σ H _ I h) fun us s1 hh => ?_) he hpl
  obtain ⟨vs, H1, I1, r1, v, ev, q1⟩ := hh
  subst ev
  refine ⟨I1.kIn, ?_⟩
  cases r1 with
  | cons rv rn =>
    rename_i v' us'
    cases rn
    show wpAny _ _ (call (.ref C) [v']) _ _ _
    refine wpAny_call (codeAny_mono (mk_track T I1 rv (by have := hr.dp; omega) false q1) fun r s' z => ?_)
    rcases r with e | (u | _ | _ | _) <;> first | exact z | exact z.elim
theorem pe_mkVK {ta : TA} {p pos : Pos} {k : Nat} {kws : List Keyword} (T : MkErr X.K C f) (gC : X.mg x = some (.ref C)) (hr : Room k X.A) (hkw : PK X kws ta) (hg : Gl X x) (hall : (backToKw pos (keywordEach kws X.env)).all (·.1.isSome) = true := by rfl) (hks : (backToKw pos (keywordEach kws X.env)).filterMap (·.1) = [f] := by rfl) (hdb : (x == ("__debug__" : Str)) = false := by decide)
    (hpl : ((backTo pos (starEach [] X.env)).any (·.1) || (backToKw pos (keywordEach kws X.env)).any (·.1.isNone)) = false := by rfl) : PE X (.Call (.Name x p) [] kws pos) (tMkV C f ta) := by
  refine ⟨fun pins s σ H Q I h => ?_⟩
  refine wpAny_Call_Name_kw (ld_glob I hg gC ?_ hdb)
  refine callWith_KW0 (h₀ := X.base) I.ok.mod.kin T.kC hall (thn (hkw.run pos pins s σ H _ I h) fun ws s1 hh => ?_) hpl
  obtain ⟨vs, H1, I1, r1, v, ev, q1⟩ := hh
  subst ev
  refine ⟨I1.kIn, ?_⟩
  rw [hks]
  cases r1 with
  | cons rv rn =>
    rename_i v' us'
    cases rn
    show wpAny _ _ (call (.ref C) [] [(f, v')]) _ _ _
    refine wpAny_call (codeAny_mono (mk_track T I1 rv (by have := hr.dp; omega) true q1) fun r s' z => ?_)
    rcases r with e | (u | _ | _ | _) <;> first | exact z | exact z.elim
end
end Dm
namespace Dm
open PySem PySem.Spec L2
def exK (C : Nat) (f : Str) (ds : List D) : M D := fun s => match ds with
  | [d] => if d.noOwn then some (.ok (.ref (s.S.length + 1)) { s with S := s.S ++ [.xd [(f, d)]] ++ [.exc C (some s.S.length)] }) else none
  | _ => none
def mkExM (C : Nat) (f : Str) (ms : M (List D)) : M D := bnd ms (exK C f)
def mkEx0 (C : Nat) : M D := newM (.exc C none)
def xfM (cs : List Nat) (f : Str) (d : D) : M D := fun s => match d with
  | .ref n => match s.S[n]? with
    | some (.exc C (some m)) => if cs.contains C then match s.S[m]? with
      | some (.xd fds) => match fds.lookup f with
        | some x => some (.ok x s)
        | none => none
      | _ => none
      else none
    | _ => none
  | _ => none
def eXf (cs : List Nat) (f : Str) (mo : M D) : M D := bnd mo (xfM cs f)
def isxM (k : Nat → Option Bool) (d : D) : M Bool := fun s => match d with
  | .ref n => match s.S[n]? with
    | some (.exc C none) => match k C with
      | some b => some (.ok b s)
      | none => none
    | some (.exc C (some m)) => match s.S[m]? with
      | some (.xd _) => match k C with
        | some b => some (.ok b s)
        | none => none
      | _ => none
    | _ => none
  | _ => none
def eIsX (k : Nat → Option Bool) (mo : M D) : M Bool := bnd mo (isxM k)
section
variable {G : Gx} {W : WXd} {σ : L2.St} {H : Hp} {Q : VK}
theorem mkEx_walk {C : Nat} {f : Str} {m : M (List D)} (h : tD G W (mkExM C f m) σ H Q) : tMkV (G.cl C) f (tLs G W m) σ H Q := by
  obtain ⟨c, s, h⟩ := h
  obtain ⟨c0, s0, h1⟩ := Run.fstL h
  refine ⟨c0, s0, h1.mono fun ds c1 H1 _ q vs hv => ?_⟩
  obtain ⟨c1', s1, ds', x1, hds, r, h2⟩ := q vs hv
  cases hds with
  | nil => exact h2.elim
  | @cons v vs2 d ds2 hd hr =>
    cases hr with
    | cons _ _ => exact h2.elim
    | nil =>
      by_cases hn : d.noOwn = true
      · have e1 : exK C f [d] s1 = some (.ok (.ref (s1.S.length + 1)) { s1 with S := s1.S ++ [.xd [(f, d)]] ++ [.exc C (some s1.S.length)] }) := if_pos hn
        rw [e1] at h2
        refine ⟨v, rfl, fun e dd he hdd hne => ?_⟩
        obtain ⟨r2, x2⟩ := r.alloc (p := dd) (H' := upd H1 dd (.xd [(f, v)])) (o := .xd [(f, d)]) hdd (keep_upd hdd) (.xd upd_same (.cons ⟨rfl, Den.mono (Sub.refl _) ⟨[dd], rfl⟩ hd⟩ .nil) (by simp [D.noOwns, hn]))
        have hlen := r.base.len
        obtain ⟨r3, x3⟩ := r2.alloc (p := e) (H' := upd (upd H1 dd (.xd [(f, v)])) e (ExcH (G.cl C) (some dd) e)) (o := .exc C (some s1.S.length)) (by rw [upd_ne hne]; exact he) (keep_upd (by rw [upd_ne hne]; exact he)) (.exc1 upd_same (.ref (by
          show ((c1'.ρ ++ [dd]) ++ [e])[s1.S.length]? = some dd
          rw [List.append_assoc, List.getElem?_append_right (by omega), show s1.S.length - c1'.ρ.length = 0 by omega]
          rfl)))
        refine h2 _ _ r3 (x2.trans x3) (.ref e) (.ref ?_)
        show ((c1'.ρ ++ [dd]) ++ [e])[s1.S.length + 1]? = some e
        rw [List.append_assoc, List.getElem?_append_right (by omega), show s1.S.length + 1 - c1'.ρ.length = 1 by omega]
        rfl
      · have e1 : exK C f [d] s1 = none := if_neg hn
        rw [e1] at h2
        exact h2.elim
theorem xf_walk {cs : List Nat} {f : Str} {m : M D} (hT : ∀ C ∈ cs, XfC G.K (G.cl C) ∧ PySem.W.findIn G.K (.ref (G.cl C)) f = some none) (h : tD G W (eXf cs f m) σ H Q) : tXv G.K f (tD G W m) σ H Q := by
  obtain ⟨c, s, h⟩ := h
  obtain ⟨c0, s0, h1⟩ := Run.fst h
  refine ⟨c0, s0, h1.mono fun d c1 H1 _ q v hv => ?_⟩
  obtain ⟨c1', s1, d', x1, hd, r, h2⟩ := q v hv
  cases hd with
  | @ref a n ea =>
    unfold xfM at h2
    cases eS : s1.S[n]? with
    | none => simp only [eS] at h2
    | some o =>
    cases o with
    | exc C om =>
      cases om with
      | none => simp only [eS] at h2
      | some mm =>
        simp only [eS] at h2
        by_cases hc : cs.contains C = true
        · simp only [hc, if_true] at h2
          cases eM : s1.S[mm]? with
          | none => simp only [eM] at h2
          | some o2 =>
          cases o2 with
          | xd fds =>
            simp only [eM] at h2
            cases el : fds.lookup f with
            | none => simp only [el] at h2
            | some x =>
            simp only [el] at h2
            obtain ⟨a', e1, ob⟩ := r.base.ob n _ eS
            rw [ea] at e1; cases e1
            cases ob with
            | @exc1 _ dd _ h3 h4 =>
              cases h4 with
              | ref h4 =>
                obtain ⟨b, e2, ob2⟩ := r.base.ob mm _ eM
                have e3 : some dd = some b := h4.symm.trans e2
                cases e3
                cases ob2 with
                | @xd fs _ h5 h6 h7 =>
                  obtain ⟨w, hw, hwd⟩ := h6.look el
                  have hC := hT C (by simpa using hc)
                  exact ⟨a, _, dd, fs, w, rfl, h3, hC.1, hC.2, h5, hw, h2 _ _ r (Ext.refl _ _) w hwd⟩
          | _ => simp only [eM] at h2
        · simp only [hc] at h2
          exact h2.elim
    | _ => simp only [eS] at h2
  | _ => exact h2.elim
theorem isx_walk {k : Nat → Option Bool} {m : M D} {cv : V} {cu : Value} (hcv : ∀ u, RelV cv u → u = cu) (hk : ∀ C b, k C = some b → ExcC G.K (G.cl C) ∧ PySem.W.kitOne G.K (.ref (G.cl C)) cu = some b)
    (h : ∃ c s, Run G W c s (eIsX k m) σ H fun b _ H' => Q (.bl b) H') : tCB (rIsX G.K) (tCons (tD G W m) (tCons (tC cv) tNil)) σ H Q := by
  obtain ⟨c, s, h⟩ := h
  obtain ⟨c0, s0, h1⟩ := Run.fst h
  refine ⟨c0, s0, h1.mono fun d c1 H1 _ q v hv => ?_⟩
  obtain ⟨c1', s1, d', x1, hd, r, h2⟩ := q v hv
  cases hd with
  | @ref a n ea =>
    unfold isxM at h2
    cases eS : s1.S[n]? with
    | none => simp only [eS] at h2
    | some o =>
    cases o with
    | exc C om =>
      cases om with
      | none =>
        simp only [eS] at h2
        cases ek : k C with
        | none => simp only [ek] at h2
        | some b =>
          simp only [ek] at h2
          obtain ⟨a', e1, ob⟩ := r.base.ob n _ eS
          rw [ea] at e1; cases e1
          have hC := hk C b ek
          cases ob with
          | exc0 h3 => exact ⟨a, _, none, cv, cu, b, rfl, h3, fun _ z => (by cases z), hC.1, hcv, hC.2, h2 _ _ r (Ext.refl _ _)⟩
      | some mm =>
        simp only [eS] at h2
        cases eM : s1.S[mm]? with
        | none => simp only [eM] at h2
        | some o2 =>
        cases o2 with
        | xd fds =>
          simp only [eM] at h2
          cases ek : k C with
          | none => simp only [ek] at h2
          | some b =>
            simp only [ek] at h2
            obtain ⟨a', e1, ob⟩ := r.base.ob n _ eS
            rw [ea] at e1; cases e1
            have hC := hk C b ek
            cases ob with
            | @exc1 _ dd _ h3 h4 =>
              cases h4 with
              | ref h4 =>
                obtain ⟨b2, e2, ob2⟩ := r.base.ob mm _ eM
                have e3 : some dd = some b2 := h4.symm.trans e2
                cases e3
                cases ob2 with
                | @xd fs _ h5 h6 h7 => exact ⟨a, _, some dd, cv, cu, b, rfl, h3, fun dd' z => (by cases z; exact ⟨fs, h5⟩), hC.1, hcv, hC.2, h2 _ _ r (Ext.refl _ _)⟩
        | _ => simp only [eM] at h2
    | _ => simp only [eS] at h2
  | _ => exact h2.elim
end
end Dm
namespace Dm
open PySem PySem.Spec L2 PySem.W PySem.Calls PyProof.Rows PySem.HandSPX
theorem relO_nm {v : V} {v' : Value} (r : RelV v v') (f : Str) : RelO (List.lookup f [(("name" : Str), v)]) (if f = "name" then some v' else none) := by
  by_cases hw : f = "name"
  · subst hw
    rw [if_pos rfl]
    have e : List.lookup ("name" : Str) [(("name" : Str), v)] = some v := by simp [List.lookup]
    rw [e]
    exact r
  · rw [if_neg hw]
    have e1 : (f == ("name" : Str)) = false := by simpa using hw
    have e2 : List.lookup f [(("name" : Str), v)] = none := by simp [List.lookup, e1]
    rw [e2]
    trivial
section
variable {X : Cx} {x q : Str} {C fI : Addr}
/-- the error made of e -/
def tMkNm (C : Addr) (ta : TA) : L2.St → Hp → XK → Prop := fun σ H Q => ta σ H fun vs H1 => ∃ v, vs = [v] ∧ ∀ d, H1 d = none → Q (.ref C) (some d) (upd H1 d (.xd [(("name" : Str), v)]))
theorem pmk_nm {a : Expr} {ta : TA} {p pos : Pos} {k : Nat} (T : NmTxt X.K X.mg x q C fI) (hr : Room k X.A) (ha : PA X [a] ta) (hg : Gl X x) (hdb : (x == ("__debug__" : Str)) = false)
    (he : starEach (a :: []) X.env = (false, eval a X.env) :: starEach [] X.env := by rfl) (hpl : (backTo pos (starEach [] X.env)).any (·.1) = false := by rfl) :
    PMk X (.Call (.Name x p) [a] [] pos) (tMkNm C ta) := by
  intro pins s σ H Q I h
  refine wpAny_Call_Name_kw (ld_glob I hg T.gC ?_ hdb)
  refine PySem.W.callWith_K (h₀ := X.base) I.ok.mod.kin T.kC (thn (ha.run pos pins s σ H _ I h) fun us s1 hh => ?_) he hpl
  obtain ⟨vs, H1, I1, r1, v, ev, q1⟩ := hh
  subst ev
  refine ⟨I1.kIn, ?_⟩
  cases r1 with
  | cons rv rn =>
    rename_i v' us'
    cases rn
    show wpAny _ _ (call (.ref C) [v']) _ _ _
    have hlim := I1.nolimit
    obtain ⟨hp, g, dr, tk, os⟩ := s1
    refine wpAny_call (nm_made T I1.kIn hlim (by have := hr.dp; omega) fun h' tk' e d t0 hge M => ?_)
    show MkP X pins σ Q (.ref e) ⟨h', g, dr, tk', os⟩
    have hne : d ≠ e := Nat.ne_of_gt M.lt
    obtain ⟨G', g1, g2⟩ := restrict h' fun b => decide (b ≠ e)
    have gk : ∀ b, b ≠ e → G'.get? b = h'.get? b := fun b hb => g1 b (decide_eq_true hb)
    have ge : G'.get? e = none := g2 e (by simp)
    have old : ∀ b o, hp.get? b = some o → G'.get? b = some o := fun b o z => (gk b (Nat.ne_of_lt (Nat.lt_of_lt_of_le (Heap.lt_size z) hge))).trans (M.keep b o z)
    have dbig : hp.objs.size ≤ d := Nat.le_of_lt (Nat.lt_of_le_of_lt hge M.lt)
    have ob : ObjOk X.prog X.w (upd H1 d (.xd [(("name" : Str), v)])) G' d (.xd [(("name" : Str), v)]) :=
      ⟨_, M.ns.at (fun o z => (gk d hne).trans z), fun f => relO_nm rv f⟩
    have J : Inv X pins σ (upd H1 d (.xd [(("name" : Str), v)])) ⟨G', g, dr, tk', os⟩ := I1.laid (t' := tk') old dbig ob
    refine ⟨e, _, _, ⟨G', g, dr, tk', os⟩, _, .ref C, some d, rfl, J, fun b o z => ?_, ge, M.obj, ⟨rfl, rfl⟩, rfl, rfl, ?_, rfl, I1.bare, raises_own T.exC T.tyC, q1 d (I1.hok.fresh dbig)⟩
    · by_cases hb : b = e
      · have z' : G'.get? b = some o := z
        rw [hb, ge] at z'; cases z'
      · exact (gk b hb).symm.trans z
    · rw [upd_ne (Ne.symm hne)]
      exact I1.hok.fresh hge
end
section
variable {X : Cx} {cl : Nat → Addr} {W : WXd} {x q n : Str} {fI : Addr} {C i k : Nat} {a : Expr} {m : M D} {p pos pos2 : Pos}
theorem psd_raiseNm (T : NmTxt X.K X.mg x q (cl C) fI) (hc : X.calm = true) (hr : Room k X.A) (tk : Takes X W) (ha : PE X a (tD (gx X cl) W m)) (hg : Gl X x) (hdb : (x == ("__debug__" : Str)) = false := by decide)
    (he : starEach (a :: []) X.env = (false, eval a X.env) :: starEach [] X.env := by rfl) (hpl : (backTo pos (starEach [] X.env)).any (·.1) = false := by rfl) :
    PS X (.Raise (some (.Call (.Name x p) [a] [] pos)) none pos2) (tS (gx X cl) W (sRaise C "name" m)) := by
  refine PS.imp (ps_raise hc tk (pmk_nm T hr (pa_cons (hs := he) ha pa_nil) hg hdb he hpl)) fun D σ H h => ?_
  obtain ⟨c, s, h⟩ := h
  obtain ⟨c0, s0, h1⟩ := RunS.fst h
  refine ⟨c0, s0, h1.mono fun d c1 H1 _ qv v hv => ?_⟩
  obtain ⟨c1', s1, d', _, hd, r, h2⟩ := qv v hv
  refine ⟨v, rfl, fun dd hdd => ?_⟩
  by_cases hn : d'.noOwn = true
  · have h2 : ResP (gx X cl) W c1' D (if d'.noOwn then some (.ex ⟨C, [(("name" : Str), d')]⟩ s1) else none) := h2
    rw [if_pos hn] at h2
    obtain ⟨r2, _⟩ := r.add (H' := upd H1 dd (.xd [(("name" : Str), v)])) (keep_upd hdd)
    exact h2 (some dd) σ _ c1' r2 (Nxt.refl _) (.inr ⟨dd, _, rfl, upd_same, .cons ⟨rfl, hd⟩ .nil⟩)
  · have h2 : ResP (gx X cl) W c1' D (if d'.noOwn then some (.ex ⟨C, [(("name" : Str), d')]⟩ s1) else none) := h2
    rw [if_neg hn] at h2
    exact h2.elim
end
section
variable {X : Cx} {cl : Nat → Addr} {W : WXd} {x f : Str} {C k : Nat} {p pos : Pos} {m : M (List D)} {kws : List Keyword} {a : Expr}
theorem pd_mkEx (T : MkErr X.K (cl C) f) (gC : X.mg x = some (.ref (cl C))) (hr : Room k X.A) (hg : Gl X x) (ha : PA X [a] (tLs (gx X cl) W m)) (hdb : (x == ("__debug__" : Str)) = false := by decide)
    (he : starEach (a :: []) X.env = (false, eval a X.env) :: starEach [] X.env := by rfl) (hpl : (backTo pos (starEach [] X.env)).any (·.1) = false := by rfl) :
    PE X (.Call (.Name x p) [a] [] pos) (tD (gx X cl) W (mkExM C f m)) := PE.imp (pe_mkV T gC hr ha hg hdb he hpl) fun σ H Q h => mkEx_walk h
theorem pd_mkExK (T : MkErr X.K (cl C) f) (gC : X.mg x = some (.ref (cl C))) (hr : Room k X.A) (hg : Gl X x) (hkw : PK X kws (tLs (gx X cl) W m)) (hall : (backToKw pos (keywordEach kws X.env)).all (·.1.isSome) = true := by rfl) (hks : (backToKw pos (keywordEach kws X.env)).filterMap (·.1) = [f] := by rfl) (hdb : (x == ("__debug__" : Str)) = false := by decide)
    (hpl : ((backTo pos (starEach [] X.env)).any (·.1) || (backToKw pos (keywordEach kws X.env)).any (·.1.isNone)) = false := by rfl) : PE X (.Call (.Name x p) [] kws pos) (tD (gx X cl) W (mkExM C f m)) := PE.imp (pe_mkVK T gC hr hkw hg hall hks hdb hpl) fun σ H Q h => mkEx_walk h
theorem pe_mk0 {CA : Addr} {bmB : List Value} {B newId initId : String} (F : ExcBaseFacts B newId initId bmB) (q : excIn X.K CA bmB newId = true) (gC : X.mg x = some (.ref CA)) (kC : keepIn X.K (.ref CA) = true) (hg : Gl X x) (hdb : (x == ("__debug__" : Str)) = false := by decide) :
    PE X (.Call (.Name x p) [] [] pos) (fun σ H Q => ∀ a, H a = none → Q (.ref a) (upd H a (ExcH CA none a))) := by
  refine ⟨fun pins s σ H Q I h => ?_⟩
  refine wpAny_Call_Name_kw (ld_glob I hg gC ?_ hdb)
  refine callWith_K0 I.kIn kC ?_
  show wpAny _ _ (call (.ref CA) []) _ _ _
  obtain ⟨bm, N, nm, qn, bs, hdct, sn, sub, ab, col, dd, k0, k1, k2, k3, k5, mN, hC, hN, hni, T⟩ := exc_obj I.kIn q
  refine wpAny_call_exc_subT F T hC hN hni (fun h' a hm => ?_) (by show 0 ≤ sizeLine; omega)
  have hn : H a = none := I.hok.gone hm.new
  obtain ⟨t, ht, _, _⟩ := hm.there
  exact ⟨.ref a, upd H a (ExcH CA none a), I.laidN hm.keeps hm.new hn (excH_ok ht ⟨rfl, rfl⟩ rfl), rfl, h a hn⟩
theorem pd_mkEx0 {bmB : List Value} {B newId initId : String} (F : ExcBaseFacts B newId initId bmB) (q : excIn X.K (cl C) bmB newId = true) (gC : X.mg x = some (.ref (cl C))) (kC : keepIn X.K (.ref (cl C)) = true) (hg : Gl X x) (hdb : (x == ("__debug__" : Str)) = false := by decide) :
    PE X (.Call (.Name x p) [] [] pos) (tD (gx X cl) W (mkEx0 C)) := by
  refine PE.imp (pe_mk0 F q gC kC hg hdb) fun σ H Q h a ha => ?_
  obtain ⟨c, s, h⟩ := h
  obtain ⟨c', q1, q2⟩ := newM_run (H' := upd H a (ExcH (cl C) none a)) h ha (keep_upd ha) fun hn => .exc0 upd_same
  exact q1 _ q2
theorem pd_xf {cs : List Nat} {e : Expr} {mo : M D} (hT : ∀ C ∈ cs, XfC X.K (cl C) ∧ findIn X.K (.ref (cl C)) f = some none) (he : PE X e (tD (gx X cl) W mo)) (hb : attributeBase e f X.env (eval e X.env) = eval e X.env := by rfl) : PE X (.Attribute e f pos) (tD (gx X cl) W (eXf cs f mo)) :=
  PE.imp (pe_xv he hb) fun σ H Q h => xf_walk (G := gx X cl) hT h
/-- isinstance(e, T), T an own class -/
theorem pd_isx {e : Expr} {mo : M D} {T : Str} {q : Pos} {CT : Addr} {kk : Nat → Option Bool} (hk : ∀ C b, kk C = some b → ExcC X.K (cl C) ∧ kitOne X.K (.ref (cl C)) (.ref CT) = some b) (hg : Gl X "isinstance") (hm : X.mg "isinstance" = none) (hgT : Gl X T) (gT : X.mg T = some (.ref CT)) (he : PE X e (tD (gx X cl) W mo))
    (hTd : (T == ("__debug__" : Str)) = false := by decide)
    (hs : starEach [e, .Name T q] X.env = (false, eval e X.env) :: starEach [.Name T q] X.env := by rfl) (hpl : (backTo pos (starEach [.Name T q] X.env)).any (·.1) = false := by rfl) :
    PE X (.Call (.Name "isinstance" p) [e, .Name T q] [] pos) (tD (gx X cl) W (asV (eIsX kk mo))) :=
  PE.imp (pe_callB call_isX hg hm (by decide +kernel) (pa_cons he (pa_cons (pe_glob (v := .ref CT) hgT gT rfl hTd) pa_nil) hs) (by decide) (by decide) hs hpl) fun σ H Q h => isx_walk (G := gx X cl) (fun u r => (by cases r; rfl)) hk (asV_run h)
/-- isinstance(e, T), T a built-in class -/
theorem pd_isxB {e : Expr} {mo : M D} {T : Str} {n : String} {q : Pos} {kk : Nat → Option Bool} (hk : ∀ C b, kk C = some b → ExcC X.K (cl C) ∧ kitOne X.K (.ref (cl C)) (.type n) = some b) (hg : Gl X "isinstance") (hm : X.mg "isinstance" = none) (hgT : Gl X T) (hmT : X.mg T = none) (hvT : bootBuiltins T = some (.type n)) (he : PE X e (tD (gx X cl) W mo))
    (hT : T ≠ "__name__" := by decide) (hTd : (T == ("__debug__" : Str)) = false := by decide)
    (hs : starEach [e, .Name T q] X.env = (false, eval e X.env) :: starEach [.Name T q] X.env := by rfl) (hpl : (backTo pos (starEach [.Name T q] X.env)).any (·.1) = false := by rfl) :
    PE X (.Call (.Name "isinstance" p) [e, .Name T q] [] pos) (tD (gx X cl) W (asV (eIsX kk mo))) :=
  PE.imp (pe_callB call_isX hg hm (by decide +kernel) (pa_cons he (pa_cons (pe_bltn (v := .ty n) hgT hmT hvT rfl hT hTd) pa_nil) hs) (by decide) (by decide) hs hpl) fun σ H Q h => isx_walk (G := gx X cl) (fun u r => (by cases r; rfl)) hk (asV_run h)
end
end Dm
namespace Dm
open PySem PySem.Spec L2 PySem.W PySem.Calls PyProof.Rows PySem.HandSPX
def sRaise0 (C : Nat) : SM := fun s => some (.ex ⟨C, []⟩ s)
def sTryIs (cs : List Nat) (i : Nat) (k : Nat → Option Bool) (mb : SM) : SM := fun s => match mb s with
  | some (.ex e s') => if cs.contains e.cls = true ∧ i < s'.σ.length then match k e.cls with
    | some b => some (.ok (.rt (.bl b)) s')
    | none => none
    else none
  | r => r
section
variable {X : Cx} {CA : Addr} {bmB : List Value} {B newId initId : String}
theorem pmk_own0 {x : Str} {p pos : Pos} (F : ExcBaseFacts B newId initId bmB) (q : excIn X.K CA bmB newId = true) (gC : X.mg x = some (.ref CA)) (kC : keepIn X.K (.ref CA) = true) (r : Raises X (.ref CA)) (hg : Gl X x)
    (hdb : (x == ("__debug__" : Str)) = false := by decide) : PMk X (.Call (.Name x p) [] [] pos) (fun _ H Q => Q (.ref CA) none H) := by
  intro pins s σ H Q I h
  refine wpAny_Call_Name_kw (ld_glob I hg gC ?_ hdb)
  refine callWith_K0 I.kIn kC ?_
  show wpAny _ _ (call (.ref CA) []) _ _ _
  obtain ⟨bm, N, nm, qn, bs, hdct, sn, sub, ab, col, dd, k0, k1, k2, k3, k5, mN, hC, hN, hni, T⟩ := exc_obj I.kIn q
  refine wpAny_call_exc_subT F T hC hN hni (fun h' e hm => ?_) (by show 0 ≤ sizeLine; omega)
  exact mk_of I hm r h (I.hok.gone hm.new)
end
section
variable {X : Cx} {cl : Nat → Addr} {W : WXd} {x n : Str} {C i : Nat} {p pos pos2 : Pos} {bmB : List Value} {B newId initId : String}
theorem psd_raise0 (F : ExcBaseFacts B newId initId bmB) (q : excIn X.K (cl C) bmB newId = true) (gC : X.mg x = some (.ref (cl C))) (kC : keepIn X.K (.ref (cl C)) = true) (r : Raises X (.ref (cl C))) (hc : X.calm = true) (tk : Takes X W) (hg : Gl X x) (hdb : (x == ("__debug__" : Str)) = false := by decide) :
    PS X (.Raise (some (.Call (.Name x p) [] [] pos)) none pos2) (tS (gx X cl) W (sRaise0 C)) := by
  refine PS.imp (ps_raise hc tk (pmk_own0 F q gC kC r hg hdb)) fun D σ H h => ?_
  obtain ⟨c, s, r, h⟩ := h
  exact h none σ H c r (Nxt.refl _) (.inl ⟨rfl, rfl⟩)
/-- isinstance(e, c), e the error that the suite holds -/
def rIsP (K : Frag) (a : Addr) (cls : Value) (d : Option Addr) : List V → Hp → VK → Prop := fun xs H Q => ∃ (D : Addr) (c : V) (cv : Value) (b : Bool), xs = [.ref a, c] ∧ cls = .ref D ∧ (∀ dd, d = some dd → ∃ fs, H dd = some (.xd fs)) ∧ ExcC K D ∧ (∀ u, RelV c u → u = cv) ∧ kitOne K (.ref D) cv = some b ∧ Q (.bl b) H
theorem call_isP {a : Addr} {oe : Obj} {cls : Value} {d : Option Addr} {pn : List (Addr × Obj)} (hz : Zc cls d oe) (hf : ∃ vs, oe.data = .fields vs) : CallR (X.suite a ((a, oe) :: pn)) (.builtin "isinstance") (rIsP X.K a cls d) := by
  intro pins s σ H xs us Q I r h
  obtain ⟨D, c, cv, b, rfl, ec, hx, Z, hcv, e, q⟩ := h
  subst ec
  cases r with
  | cons rx rr =>
    cases rr with
    | cons rt rr =>
      cases rr
      cases rx
      have ec := hcv _ rt
      subst ec
      obtain ⟨ha, _⟩ := I.pin (a, oe) (List.mem_append_left _ List.mem_cons_self)
      obtain ⟨vs, hd⟩ := hf
      have J := inst_of I ha hz hd hx
      exact kia_one (kitX (ox := oe) Z) I.kIn J e (fun z => nomatch z) fun tk => ⟨.bl b, H, I.kept (t' := tk) fun _ _ z => z, rfl, q⟩
theorem psd_tryIs {body : List Stmt} {mb : SM} {cs : List Nat} {kk : Nat → Option Bool} {CB CT : Addr} {T : Str} {np p1 p2 p3 p4 pos' : Pos} (gB : X.mg x = some (.ref CB)) (gT : X.mg T = some (.ref CT)) (hm : X.mg "isinstance" = none)
    (hk : ∀ C b, kk C = some b → ExcC X.K (cl C) ∧ kitOne X.K (.ref (cl C)) (.ref CT) = some b) (te : ∀ C ∈ cs, exmOne X.K (.ref (cl C)) (.ref CB) = some true)
    (hs : X.stack = X.env :: X.outer) (hf : X.env.frame = some X.env.locals) (hN : X.N.Nodup) (hi : X.N[i]? = some n) (hln : X.env.kindOf n = some .local) (hg : Gl X x) (hgI : Gl X "isinstance") (hgT : Gl X T) (hv : Vis X.env.scope n)
    (hb : ∀ (W : WX) (pn : List (Addr × Obj)) (xe : Value → Shared → Prop), Takes (X.tr pn xe) W → PassesOwn (model X.prog X.w) X.A X.env xe → PSs (X.tr pn xe) body (tS (gx X cl) W mb))
    (hdb : (x == ("__debug__" : Str)) = false := by decide) (hd : (n == ("__debug__" : Str)) = false := by decide) (hcd : (n == ("__classdict__" : Str)) = false := by decide) (hTd : (T == ("__debug__" : Str)) = false := by decide)
    (hs2 : starEach [.Name n p1, .Name T p4] X.env = (false, eval (.Name n p1) X.env) :: starEach [.Name T p4] X.env := by rfl) (hpl : (backTo p2 (starEach [.Name T p4] X.env)).any (·.1) = false := by rfl) :
    PS X (.Try body [.ExceptHandler (some (.Name x np)) (some n) [.Return (some (.Call (.Name "isinstance" p) [.Name n p1, .Name T p4] [] p2)) p3] pos'] [] [] pos) (tS (gx X cl) W (sTryIs cs i kk mb)) := by
  refine PS.imp (ps_try_as (i := i) (tb := fun W => tS (gx X cl) W mb) (ts := fun a cls d => tRet (tCB (rIsP X.K a cls d) (tCons (tVar i) (tCons (tC (.ref CT)) tNil)))) (Wout := fun _ _ _ _ => False) hs hf hN hi hln ⟨hg, hdb, .inl gB⟩ takes0 hb
    (fun a oe cls d pn hz hfl => pss_one (ps_ret (pe_callB (X := X.suite a ((a, oe) :: pn)) (call_isP hz hfl) hgI hm (by decide +kernel) (pa_cons (pe_var (X := X.suite a ((a, oe) :: pn)) hi hv hd hcd) (pa_cons (pe_glob (X := X.suite a ((a, oe) :: pn)) (v := .ref CT) hgT gT rfl hTd) pa_nil) hs2) (by decide) (by decide) hs2 hpl)))) fun D σ H h => ?_
  obtain ⟨c, s, r, h⟩ := h
  refine ⟨c, s, r, ?_⟩
  unfold sTryIs at h
  cases e : mb s with
  | none => rw [e] at h; exact h
  | some z =>
    rw [e] at h
    cases z with
    | ok o s' => exact h
    | ex ee s' =>
      simp only at h
      by_cases hc : cs.contains ee.cls = true ∧ i < s'.σ.length
      · rw [if_pos hc] at h
        obtain ⟨hcls, hil⟩ := hc
        cases hkk : kk ee.cls with
        | none => rw [hkk] at h; exact h.elim
        | some b =>
          rw [hkk] at h
          simp only at h
          intro dx σ' H' c' r' n' hx
          refine ⟨true, te _ (by simpa using hcls), fun _ ea hea => ?_, fun z => by cases z⟩
          have hlen : i < σ'.length := by rw [← r'.len]; exact hil
          have hC := hk _ _ hkk
          refine ⟨_, List.getElem?_set_self hlen, ?_⟩
          refine ⟨_, _, _, b, rfl, rfl, fun dd z => ?_, hC.1, fun u ru => (by cases ru; rfl), hC.2, ?_⟩
          · rcases hx with ⟨_, hx⟩ | ⟨dd', fs, hdx, h1, h2⟩
            · rw [hx] at z; cases z
            · rw [hdx] at z
              cases z
              exact ⟨fs, h1⟩
          · have st : Step c.B.F c.B.ρ c.B.H c'.F c'.ρ H' := by
              have := r'.step
              rw [n'.B] at this
              exact this
            exact (show OutP (gx X cl) c D s' (.rt (.bl b)) from h) (.bl b) H' c' r'.base st rfl (.bl b)
      · rw [if_neg hc] at h; exact h.elim
end
end Dm
namespace Dm
open PySem PySem.Spec L2 PySem.W
structure ErrsOk (K : Frag) (mg : Str → Option Value) (cl : Nat → Addr) : Prop where
  gl : ∀ C, C < 6 ∨ C = 13 → mg (exNm C) = some (.ref (cl C))
  exc : ∀ C < 6, ExcC K (cl C)
  kp : ∀ C < 6, keepIn K (.ref (cl C)) = true
  ty : ∀ C < 6, typeIn K (.ref (cl C)) = some (.type "type")
  own : ∀ C < 6, ∀ T < 6, kitOne K (.ref (cl C)) (.ref (cl T)) = some (decide (C = T))
  lay : ∀ C < 6, kitOne K (.ref (cl C)) (.ref (cl 13)) = some true
  exm : ∀ C < 6, exmOne K (.ref (cl C)) (.ref (cl 13)) = some true
  ve : ∀ C < 6, kitOne K (.ref (cl C)) (.type "ValueError") = some false
  le : ∀ C < 6, kitOne K (.ref (cl C)) (.type "LookupError") = some false
  ae : ∀ C < 6, kitOne K (.ref (cl C)) (.type "ArithmeticError") = some false
  ex : ∀ C < 6, kitOne K (.ref (cl C)) (.type "Exception") = some true
  t5 : excIn K (cl 5) exTl "Exception.__new__" = true
/-- isinstance(e, T), T the own class of that number; a class that says b of all -/
def isO (T : Nat) : Nat → Option Bool := fun C => if C < 6 then some (decide (C = T)) else none
def isA (b : Bool) : Nat → Option Bool := fun C => if C < 6 then some b else none
section
variable {K : Frag} {mg : Str → Option Value} {cl : Nat → Addr} (B : ErrsOk K mg cl)
include B
theorem ErrsOk.kO {T : Nat} (hT : T < 6) : ∀ C b, isO T C = some b → ExcC K (cl C) ∧ kitOne K (.ref (cl C)) (.ref (cl T)) = some b := fun C b h => by
  unfold isO at h
  split at h
  · rename_i hC
    cases h
    exact ⟨B.exc C hC, B.own C hC T hT⟩
  · cases h
theorem ErrsOk.kA {cv : Value} {b0 : Bool} (hc : ∀ C < 6, kitOne K (.ref (cl C)) cv = some b0) : ∀ C b, isA b0 C = some b → ExcC K (cl C) ∧ kitOne K (.ref (cl C)) cv = some b := fun C b h => by
  unfold isA at h
  split at h
  · rename_i hC
    cases h
    exact ⟨B.exc C hC, hc C hC⟩
  · cases h
theorem ErrsOk.ra {X : Cx} (hK : X.K = K) {C : Nat} (hC : C < 6) : Raises X (.ref (cl C)) := by
  subst hK
  exact raises_own (B.exc C hC).hs (B.ty C hC)
theorem ErrsOk.te {cs : List Nat} (h : ∀ C ∈ cs, C < 6) : ∀ C ∈ cs, exmOne K (.ref (cl C)) (.ref (cl 13)) = some true := fun C hC => B.exm C (h C hC)
end
end Dm
namespace Dm
open PySem PySem.Spec L2 PySem.W
theorem xf3 {K : Frag} {cl : Nat → Addr} {f : Str} {a b c : Nat} (ha : MkErr K (cl a) f) (hb : MkErr K (cl b) f) (hc : MkErr K (cl c) f) : ∀ C ∈ [a, b, c], XfC K (cl C) ∧ findIn K (.ref (cl C)) f = some none := fun C h => by
  simp only [List.mem_cons, List.not_mem_nil, or_false] at h
  rcases h with rfl | rfl | rfl
  · exact ⟨ha.xf, ha.no⟩
  · exact ⟨hb.xf, hb.no⟩
  · exact ⟨hc.xf, hc.no⟩
theorem xf2 {K : Frag} {cl : Nat → Addr} {f : Str} {a b : Nat} (ha : MkErr K (cl a) f) (hb : MkErr K (cl b) f) : ∀ C ∈ [a, b], XfC K (cl C) ∧ findIn K (.ref (cl C)) f = some none := fun C h => by
  simp only [List.mem_cons, List.not_mem_nil, or_false] at h
  rcases h with rfl | rfl
  · exact ⟨ha.xf, ha.no⟩
  · exact ⟨hb.xf, hb.no⟩
end Dm
namespace Dm
open PySem PySem.Spec L2
noncomputable section
def m__law_so (self_ : Fn) : SM :=
  (sSeq (sIf (cmp2 isNM (eVar 1) (ret .non)) (sRet (asV (cmp2 isNM (eVar 0) (ret .non)))) sNop)
  (sSeq (sIf (tru (asV (eIsi "tuple" (eVar 1)))) (sSeq (sIf (mOr (mNot (tru (asV (eIsi "tuple" (eVar 0))))) (cmp2 neM (eB lenM (consM (eVar 0) nilM)) (eB lenM (consM (eVar 1) nilM)))) (sRet (ret (.bl false))) sNop)
  (sSeq (sFor (itRange1 (consM (eB lenM (consM (eVar 1) nilM)) nilM)) (setU 2) (sIf (mNot (tru (eCall self_ (consM (eIx (eVar 0) (eVar 2)) (consM (eIx (eVar 1) (eVar 2)) nilM))))) (sRet (ret (.bl false))) sNop))
  (sRet (ret (.bl true))))) sNop)
  (sSeq (sIf (mOr (tru (asV (eIsi "bool" (eVar 1)))) (tru (asV (eIsi "bool" (eVar 0))))) (sRet (vAnd (asV (eIsi "bool" (eVar 1))) (vAnd (asV (eIsi "bool" (eVar 0))) (asV (cmp2 eqM (eVar 0) (eVar 1)))))) sNop)
  (sSeq (sIf (tru (asV (eIsi "int" (eVar 1)))) (sRet (vAnd (asV (eIsi "int" (eVar 0))) (asV (cmp2 eqM (eVar 0) (eVar 1))))) sNop)
  (sRet (vAnd (asV (eIsi "str" (eVar 1))) (vAnd (asV (eIsi "str" (eVar 0))) (asV (cmp2 eqM (eVar 0) (eVar 1))))))))))
def f__law_so : Nat → Fn
  | 0 => fun _ _ => none
  | n + 1 => noEx (mkFn 2 3 (m__law_so (f__law_so n)))
theorem f__law_so_succ (n : Nat) : f__law_so (n + 1) = noEx (mkFn 2 3 (m__law_so (f__law_so n))) := rfl
def m__law_numbers : SM :=
  (sSeq (sOwn 1 (lenOk nilM))
  (sSeq (sFor (itSeq (eSl (eVar 0) none (some (ret (.int 63))))) (setU 2) (sIf (cmp2 geM (eVar 2) (eOp powM (ret (.int 10)) (ret (.int 18)))) (sSeq (sAsg 3 (eVar 2))
  (sFor (itRange1 (consM (ret (.int 60)) nilM)) (setU 4) (sSeq (sIf (cmp2 eqM (eVar 3) (ret (.int 0))) sBreak sNop)
  (sSeq (sAppend (eVar 1) (eOp modM (eB intM (consM (eVar 3) nilM)) (ret (.int 997))))
  (sAsg 3 (eOp fdivM (eVar 3) (ret (.int 997)))))))) (sFor (itRange1 (consM (ret (.int 4)) nilM)) (setU 4) (sSeq (sAsg 5 (eOp modM (eB intM (consM (eOp addM (eOp addM (eOp mulM (eVar 2) (ret (.int 48271))) (eOp mulM (eVar 4) (ret (.int 69621)))) (ret (.int 11))) nilM)) (ret (.int 2147483647))))
  (sAppend (eVar 1) (eOp modM (eB intM (consM (eOp addM (eOp mulM (eVar 5) (ret (.int 16807))) (eVar 4)) nilM)) (ret (.int 2147483629))))))))
  (sSeq (sIf (cmp2 eqM (eB lenM (consM (eVar 1) nilM)) (ret (.int 0))) (sAppend (eVar 1) (ret (.int 0))) sNop)
  (sRet (eVar 1)))))
def f__law_numbers : Fn := noEx (mkFn 1 6 m__law_numbers)
theorem f__law_numbers_eq : f__law_numbers = noEx (mkFn 1 6 m__law_numbers) := rfl
def m__law_draw : SM :=
  (sSeq (sIf (cmp2 ltM (eVar 1) (eB lenM (consM (eVar 0) nilM))) (sRet (eOp modM (eB intM (consM (eIx (eVar 0) (eVar 1)) nilM)) (eVar 2))) sNop)
  (sSeq (sAsg 3 (eOp modM (eB intM (consM (eOp addM (eOp addM (eOp mulM (eIx (eVar 0) (eOp modM (eB intM (consM (eVar 1) nilM)) (eB lenM (consM (eVar 0) nilM)))) (ret (.int 40692))) (eOp mulM (eVar 1) (ret (.int 7919)))) (ret (.int 3))) nilM)) (ret (.int 2147483399))))
  (sRet (eOp modM (eB intM (consM (eOp modM (eB intM (consM (eOp addM (eOp mulM (eVar 3) (ret (.int 48271))) (eVar 1)) nilM)) (ret (.int 2147483647))) nilM)) (eVar 2)))))
def f__law_draw : Fn := noEx (mkFn 3 4 m__law_draw)
theorem f__law_draw_eq : f__law_draw = noEx (mkFn 3 4 m__law_draw) := rfl
def m__law_take : SM :=
  (sSeq (sSetIx (eVar 1) (ret (.int 0)) (eOp addM (eIx (eVar 1) (ret (.int 0))) (ret (.int 1))))
  (sRet (eCall f__law_draw (consM (eVar 0) (consM (eOp subM (eIx (eVar 1) (ret (.int 0))) (ret (.int 1))) (consM (eVar 2) nilM))))))
def f__law_take : Fn := noEx (mkFn 3 3 m__law_take)
theorem f__law_take_eq : f__law_take = noEx (mkFn 3 3 m__law_take) := rfl
end
end Dm
namespace Dm
open PySem PySem.Spec L2
noncomputable section
end
end Dm
namespace Dm
open PySem PySem.Spec L2
noncomputable section
end
end Dm
namespace Dm
open PySem PySem.Spec L2
noncomputable section
end
end Dm
namespace Dm
open PySem PySem.Spec L2
noncomputable section
end
end Dm
namespace Dm
open PySem PySem.Spec L2
noncomputable section
end
end Dm
namespace Dm
open PySem PySem.Spec L2
noncomputable section
end
end Dm
namespace Dm
open PySem PySem.Spec L2
noncomputable section
end
end Dm
namespace Dm
open PySem PySem.Spec L2
noncomputable section
end
end Dm
namespace Dm
open PySem PySem.Spec L2
noncomputable section
end
end Dm
namespace Dm
open PySem PySem.Spec L2
noncomputable section
def m__law_of : SM :=
  (sSeq (sAsg 1 (eFz (lenOk (consM (asV (eIsX (isO 0) (eVar 0))) (consM (asV (eIsX (isO 1) (eVar 0))) (consM (asV (eIsX (isO 2) (eVar 0))) nilM))))))
  (sRet (eFz (nCat (eVar 1) (eFz (lenOk (consM (asV (eIsX (isO 3) (eVar 0))) (consM (asV (eIsX (isO 4) (eVar 0))) (consM (asV (eIsX (isO 5) (eVar 0))) nilM)))))))))
def f__law_of : Fn := noEx (mkFn 1 2 m__law_of)
theorem f__law_of_eq : f__law_of = noEx (mkFn 1 2 m__law_of) := rfl
def m__law_foreign : SM :=
  (sSeq (sIf (mOr (tru (asV (eIsX (isA false) (eVar 0)))) (tru (asV (eIsX (isA false) (eVar 0))))) (sRet (ret (.bl true))) sNop)
  (sRet (vOr (asV (eIsX (isA false) (eVar 0))) (vNot (asV (eIsX (isA true) (eVar 0)))))))
def f__law_foreign : Fn := noEx (mkFn 1 1 m__law_foreign)
theorem f__law_foreign_eq : f__law_foreign = noEx (mkFn 1 1 m__law_foreign) := rfl
def m__law_caught : SM :=
  (sTryIs [0, 1, 2, 3, 4, 5] 1 (isO 3) (sSeq (sIf (cmp2 eqM (eVar 0) (ret (.int 0))) (sRaise0 5) sNop)
  (sRaise 3 "name" (eVar 0))))
def f__law_caught : Fn := noEx (mkFn 1 2 m__law_caught)
theorem f__law_caught_eq : f__law_caught = noEx (mkFn 1 2 m__law_caught) := rfl
def m_law_k00 : SM :=
  (sSeq (sAsg 1 (eCall f__law_numbers (consM (eVar 0) nilM)))
  (sSeq (sAsg 2 (eRef (lenOk (consM (ret (.int 0)) nilM))))
  (sSeq (sAsg 3 (eOp subM (eCall f__law_take (consM (eVar 1) (consM (eVar 2) (consM (ret (.int 997)) nilM)))) (ret (.int 9))))
  (sSeq (sAsg 4 (eIx (eFz (lenOk (consM (ret .non) (consM (eUn negM (eVar 3)) (consM (ret (.str "x")) (consM (eTup (consM (eVar 3) (consM (ret (.int 2)) nilM))) (consM (ret (.bl true)) nilM))))))) (eCall f__law_take (consM (eVar 1) (consM (eVar 2) (consM (ret (.int 5)) nilM))))))
  (sSeq (sFor (itSeq (eFz (lenOk (consM (mkExM 0 "at" (consM (eVar 3) nilM)) (consM (mkExM 1 "at" (consM (eVar 3) nilM)) (consM (mkExM 2 "at" (consM (eVar 3) nilM)) (consM (mkExM 0 "at" (consM (eVar 3) nilM)) (consM (mkExM 1 "at" (consM (eVar 3) nilM)) (consM (mkExM 2 "at" (consM (eVar 3) nilM)) nilM))))))))) (setU 5) (sIf (mNot (tru (eCall (f__law_so 12) (consM (eXf [0, 1, 2] "at" (eVar 5)) (consM (eVar 3) nilM))))) (sRet (ret (.bl false))) sNop))
  (sSeq (sFor (itSeq (eFz (lenOk (consM (mkExM 3 "name" (consM (eVar 4) nilM)) (consM (mkExM 4 "name" (consM (eVar 4) nilM)) (consM (mkExM 3 "name" (consM (eVar 4) nilM)) (consM (mkExM 4 "name" (consM (eVar 4) nilM)) nilM))))))) (setU 5) (sIf (mNot (tru (eCall (f__law_so 12) (consM (eXf [3, 4] "name" (eVar 5)) (consM (eVar 4) nilM))))) (sRet (ret (.bl false))) sNop))
  (sSeq (sAsg 6 (eFz (lenOk (consM (mkExM 0 "at" (consM (eVar 3) nilM)) (consM (mkExM 1 "at" (consM (eVar 3) nilM)) (consM (mkExM 2 "at" (consM (eVar 3) nilM)) (consM (mkExM 3 "name" (consM (eVar 4) nilM)) (consM (mkExM 4 "name" (consM (eVar 4) nilM)) (consM (mkEx0 5) nilM)))))))))
  (sSeq (sFor (itRange1 (consM (ret (.int 6)) nilM)) (setU 7) (sIf (mOr (cmp2 neM (eCall f__law_of (consM (eIx (eVar 6) (eVar 7)) nilM)) (eFz (eLc [8] (itRange1 (consM (ret (.int 6)) nilM)) (setU 8) (ret true) (asV (cmp2 eqM (eVar 8) (eVar 7)))))) (mOr (tru (eCall f__law_foreign (consM (eIx (eVar 6) (eVar 7)) nilM))) (mNot (tru (asV (eIsX (isA true) (eIx (eVar 6) (eVar 7)))))))) (sRet (ret (.bl false))) sNop))
  (sRet (vAnd (vNot (eCall f__law_caught (consM (ret (.int 0)) nilM))) (eCall f__law_caught (consM (eOp addM (ret (.int 1)) (eCall f__law_take (consM (eVar 1) (consM (eVar 2) (consM (ret (.int 9)) nilM))))) nilM))))))))))))
def f_law_k00 : Fn := noEx (mkFn 1 9 m_law_k00)
theorem f_law_k00_eq : f_law_k00 = noEx (mkFn 1 9 m_law_k00) := rfl
end
end Dm
namespace Dm
open PySem PySem.Spec L2
local macro_rules | `(tactic| walk_at "st") => `(tactic| with_reducible refine ite_f (by with_unfolding_all rfl) ?_)
local macro_rules | `(tactic| walk_at "st") => `(tactic| with_reducible refine ite_t (by with_unfolding_all rfl) ?_)
local macro_rules | `(tactic| walk_at "st") => `(tactic| with_reducible refine wp_eqB ?_)
local macro_rules | `(tactic| walk_at "st") => `(tactic| with_reducible refine wp_partS ?_)
local macro_rules | `(tactic| walk_at "st") => `(tactic| with_reducible refine wp_partN ?_)
local macro_rules | `(tactic| walk_at "st") => `(tactic| with_reducible refine wp_lenOk ?_)
local macro_rules | `(tactic| walk_at "st") => `(tactic| with_reducible refine wp_eTup ?_)
local macro_rules | `(tactic| walk_at "st") => `(tactic| with_reducible refine wp_eFz ?_)
local macro_rules | `(tactic| walk_at "st") => `(tactic| with_reducible refine wp_itOwn (by with_unfolding_all rfl) ?_)
local macro_rules | `(tactic| walk_at "st") => `(tactic| with_reducible refine wp_tru (by with_unfolding_all rfl) ?_)
local macro_rules | `(tactic| walk_at "st") => `(tactic| with_reducible refine wp_eIsi2 ?_)
local macro_rules | `(tactic| walk_at "st") => `(tactic| with_reducible refine wp_eIsi ?_)
local macro_rules | `(tactic| walk_at "st") => `(tactic| with_reducible refine wp_itSeqL ?_)
local macro_rules | `(tactic| walk_at "st") => `(tactic| with_reducible refine wp_itR1 ?_)
local macro_rules | `(tactic| walk_at "st") => `(tactic| with_reducible refine wp_len (by with_unfolding_all first | exact asS_own rfl | exact asS_ref rfl | exact asS_sq | rfl) ?_)
local macro_rules | `(tactic| walk_at "st") => `(tactic| with_reducible refine wp_sFor ?_)
local macro_rules | `(tactic| walk_at "st") => `(tactic| with_reducible refine wp_sSetIx ?_)
local macro_rules | `(tactic| walk_at "st") => `(tactic| with_reducible refine wp_sPar ?_)
local macro_rules | `(tactic| walk_at "st") => `(tactic| with_reducible refine wp_sOwn ?_)
local macro_rules | `(tactic| walk_at "st") => `(tactic| with_reducible refine wp_sAsg ?_)
local macro_rules | `(tactic| walk_at "st") => `(tactic| with_reducible refine wp_sExpr ?_)
local macro_rules | `(tactic| walk_at "st") => `(tactic| with_reducible refine wp_cont ?_)
local macro_rules | `(tactic| walk_at "st") => `(tactic| with_reducible refine wp_break ?_)
local macro_rules | `(tactic| walk_at "st") => `(tactic| with_reducible refine wp_nop ?_)
local macro_rules | `(tactic| walk_at "st") => `(tactic| with_reducible refine wp_gcd ?_)
local macro_rules | `(tactic| walk_at "st") => `(tactic| with_reducible refine wp_abs ?_)
local macro_rules | `(tactic| walk_at "st") => `(tactic| with_reducible refine wp_int1 ?_)
local macro_rules | `(tactic| walk_at "st") => `(tactic| with_reducible refine wp_notIn ?_)
local macro_rules | `(tactic| walk_at "st") => `(tactic| with_reducible refine wp_ne ?_)
local macro_rules | `(tactic| walk_at "st") => `(tactic| with_reducible refine wp_eqI ?_)
local macro_rules | `(tactic| walk_at "st") => `(tactic| with_reducible refine wp_ge ?_)
local macro_rules | `(tactic| walk_at "st") => `(tactic| with_reducible refine wp_gt ?_)
local macro_rules | `(tactic| walk_at "st") => `(tactic| with_reducible refine wp_le ?_)
local macro_rules | `(tactic| walk_at "st") => `(tactic| with_reducible refine wp_lt ?_)
local macro_rules | `(tactic| walk_at "st") => `(tactic| with_reducible refine wp_neg ?_)
local macro_rules | `(tactic| walk_at "st") => `(tactic| with_reducible refine wp_sub ?_)
local macro_rules | `(tactic| walk_at "st") => `(tactic| with_reducible refine wp_add ?_)
local macro_rules | `(tactic| walk_at "st") => `(tactic| with_reducible refine wp_ixP1 ?_)
local macro_rules | `(tactic| walk_at "st") => `(tactic| with_reducible refine wp_ixP0 ?_)
local macro_rules | `(tactic| walk_at "st") => `(tactic| with_reducible refine wp_vOr ?_)
local macro_rules | `(tactic| walk_at "st") => `(tactic| with_reducible refine wp_vAnd ?_)
local macro_rules | `(tactic| walk_at "st") => `(tactic| with_reducible refine wp_vNot ?_)
local macro_rules | `(tactic| walk_at "st") => `(tactic| with_reducible refine wp_mOr ?_)
local macro_rules | `(tactic| walk_at "st") => `(tactic| with_reducible refine wp_mAnd ?_)
local macro_rules | `(tactic| walk_at "st") => `(tactic| with_reducible refine wp_mNot ?_)
local macro_rules | `(tactic| walk_at "st") => `(tactic| with_reducible refine wp_eIf ?_)
local macro_rules | `(tactic| walk_at "st") => `(tactic| with_reducible refine wp_sIf ?_)
local macro_rules | `(tactic| walk_at "st") => `(tactic| with_reducible refine wp_asV ?_)
local macro_rules | `(tactic| walk_at "st") => `(tactic| with_reducible refine wp_chain3 ?_)
local macro_rules | `(tactic| walk_at "st") => `(tactic| with_reducible refine wp_cmp2 ?_)
local macro_rules | `(tactic| walk_at "st") => `(tactic| with_reducible refine wp_nil ?_)
local macro_rules | `(tactic| walk_at "st") => `(tactic| with_reducible refine wp_cons ?_)
local macro_rules | `(tactic| walk_at "st") => `(tactic| with_reducible refine wp_varO (by with_unfolding_all rfl) ?_)
local macro_rules | `(tactic| walk_at "st") => `(tactic| with_reducible refine wp_var (by with_unfolding_all rfl) ?_)
local macro_rules | `(tactic| walk_at "st") => `(tactic| with_reducible refine wp_ret ?_)
local macro_rules | `(tactic| walk_at "st") => `(tactic| with_reducible refine wp_bnd ?_)
local macro_rules | `(tactic| walk_at "st") => `(tactic| with_reducible refine wp_sRet ?_)
local macro_rules | `(tactic| walk_at "st") => `(tactic| with_reducible refine wp_seq ?_)
local macro_rules | `(tactic| walk_at "ev") => `(tactic| (repeat walk_at "st"))
local macro_rules | `(tactic| walk_at "nm") => `(tactic| (try dsimp only [List.map, List.append, List.cons_append, List.nil_append, List.replicate, Nat.reduceSub, List.set]))
/-- a row's number -/
theorem g_draw (row : List Int) (a lim : Int) (S : List Ob) (hr : row ≠ []) (ha : 0 ≤ a) (hl : 0 < lim) : FnS f__law_draw [.lst (row.map D.int), .int a, .int lim] S fun d S' => S' = S ∧ ∃ r, d = .int r ∧ 0 ≤ r ∧ r < lim := by
  refine fn_wp rfl ?_
  have hlen : 0 < (row.length : Int) := by
    cases row with
    | nil => exact absurd rfl hr
    | cons => simp
  have get : ∀ i : Int, 0 ≤ i → i < row.length → ∃ z, atI (row.map D.int) i = some (.int z) := fun i h0 h1 => by
    have h2 : i.toNat < row.length := by omega
    exact ⟨row[i.toNat], atI_nonneg h0 (by rw [List.getElem?_map, List.getElem?_eq_getElem h2]; rfl)⟩
  unfold m__law_draw
  walk_at "nm"
  walk_at "ev"
  refine ie_ (fun h => ?_) (fun h => ?_)
  · rw [List.length_map] at h
    obtain ⟨z, hz⟩ := get a ha h
    walk_at "ev"
    refine wp_ix (xs := row.map D.int) rfl hz ?_
    walk_at "ev"
    refine wp_mod hl ?_
    exact wp_fin rfl ⟨rfl, _, rfl, Int.emod_nonneg _ (by omega), Int.emod_lt_of_pos _ hl⟩
  · walk_at "ev"
    rw [List.length_map]
    refine wp_mod hlen ?_
    obtain ⟨z, hz⟩ := get (a % row.length) (Int.emod_nonneg _ (by omega)) (Int.emod_lt_of_pos _ hlen)
    refine wp_ix (xs := row.map D.int) rfl hz ?_
    walk_at "ev"
    refine wp_mul (.inr (sm_small (by decide) (by decide))) ?_
    walk_at "ev"
    refine wp_mul (.inr (sm_small (by decide) (by decide))) ?_
    walk_at "ev"
    refine wp_mod (by decide) ?_
    refine ⟨rfl, ?_⟩
    walk_at "ev"
    refine wp_mul (.inr (sm_small (by decide) (by decide))) ?_
    walk_at "ev"
    refine wp_mod (by decide) ?_
    walk_at "ev"
    refine wp_mod hl ?_
    exact wp_fin rfl ⟨rfl, _, rfl, Int.emod_nonneg _ (by omega), Int.emod_lt_of_pos _ hl⟩
abbrev St (R : List Ob) (n : Int) : List Ob := .lst [.int n] :: R
theorem g_take {R : List Ob} (row : List Int) (n lim : Int) (hr : row ≠ []) (ha : 0 ≤ n) (hl : 0 < lim) : FnS f__law_take [.lst (row.map D.int), .ref 0, .int lim] (St R n) fun d S' => S' = St R (n + 1) ∧ ∃ r, d = .int r ∧ 0 ≤ r ∧ r < lim := by
  refine fn_wp rfl ?_
  unfold m__law_take
  walk_at "nm"
  walk_at "ev"
  refine wp_ix (xs := [.int n]) (i := 0) (by exact asS_ref rfl) rfl ?_
  walk_at "ev"
  refine ⟨_, [.int n], 0, rfl, fun _ => by simp, rfl, rfl, wp_mutR rfl ?_⟩
  walk_at "nm"
  walk_at "ev"
  refine wp_ix (xs := [.int (n + 1)]) (i := 0) (by exact asS_ref rfl) rfl ?_
  walk_at "ev"
  refine wp_call (by simp [D.noOwns, D.noOwn, noOwns_ints]) ?_
  rw [show n + 1 - 1 = n by omega]
  refine (g_draw row n lim _ hr ha hl).mono fun d S' q => ?_
  obtain ⟨rfl, r, rfl, h1, h2⟩ := q
  exact wp_fin rfl ⟨rfl, r, rfl, h1, h2⟩

abbrev vl (d : D) : Option SV := some (.val d)
abbrev ow (ds : List D) : Option SV := some (.own ds)
theorem map_snoc {τ : Type} {f : τ → D} (xs : List τ) (z : τ) : xs.map f ++ [f z] = (xs ++ [z]).map f := by rw [List.map_append]; rfl
theorem noOwns_snoc {τ : Type} {f : τ → D} (h : ∀ x, (f x).noOwn = true) (xs : List τ) (y : D) (hy : y.noOwn = true) : D.noOwns (xs.map f ++ [y]) = true := by rw [noOwns_app, noOwns_map h]; simp [D.noOwns, hy]
theorem g_numbers (ns : List Int) (S : List Ob) (hn : ns.length ≤ 63) : FnS f__law_numbers [.lst (ns.map D.int)] S fun d S' => S' = S ∧ ∃ row : List Int, row ≠ [] ∧ d = .lst (row.map D.int) := by
  refine fn_wp rfl ?_
  unfold m__law_numbers
  walk_at "nm"
  walk_at "ev"
  refine ⟨by decide, rfl, (by decide : 1 < 6), ?_⟩
  walk_at "nm"
  walk_at "ev"
  refine ⟨63, rfl, ?_⟩
  walk_at "ev"
  refine wp_slM rfl ?_
  rw [show cutD (ns.map D.int) none (some 63) = (ns.take 63).map D.int by rw [cut_takeI _ _ (by decide), List.map_take]; rfl]
  rw [List.take_of_length_le hn]
  refine ⟨_, .inl rfl, noOwns_ints _, ?_⟩
  refine wp_forT (f := D.int) (fun (rest : List Int) s => ∃ (row : List Int) (x2 x3 x4 x5 : Option SV), row.length + 60 * rest.length ≤ 60 * 63 ∧ s = ⟨[vl (.lst (ns.map D.int)), ow (row.map D.int), x2, x3, x4, x5], S⟩)
    ⟨[], none, none, none, none, by rw [List.length_nil]; omega, rfl⟩ (fun x xs s h => ?_) (fun s h => ?_)
  · obtain ⟨row, x2, x3, x4, x5, hl, rfl⟩ := h
    rw [List.length_cons] at hl
    refine wp_setU rfl ?_
    walk_at "nm"
    walk_at "ev"
    refine wp_pow (by decide) ?_
    walk_at "ev"
    refine ie_ (fun _ => ?_) (fun _ => ?_)
    · walk_at "ev"
      refine ⟨rfl, ?_⟩
      walk_at "nm"
      walk_at "ev"
      refine ⟨60, rfl, by decide, ?_⟩
      refine wp_forR (fun i n s => ∃ (row : List Int) (z : Int) (x4 x5 : Option SV), row.length + n + 60 * xs.length ≤ 60 * 63 ∧ s = ⟨[vl (.lst (ns.map D.int)), ow (row.map D.int), vl (.int x), vl (.int z), x4, x5], S⟩) (fun i n s h => ?_) (fun i s h => ?_) ⟨row, x, x4, x5, by omega, rfl⟩
      · obtain ⟨row, z, x4, x5, hl, rfl⟩ := h
        refine wp_setU rfl ?_
        walk_at "nm"
        walk_at "ev"
        refine ie_ (fun _ => ?_) (fun _ => ?_)
        · walk_at "ev"
          exact ⟨row, _, _, _, _, by omega, rfl⟩
        · walk_at "ev"
          refine wp_appendO rfl ?_
          walk_at "ev"
          refine wp_mod (by decide) ?_
          refine ⟨_, rfl, by rw [List.length_map]; omega, noOwns_snoc (fun _ => rfl) _ _ rfl, ?_⟩
          walk_at "nm"
          walk_at "ev"
          refine wp_fdiv (by decide) (by decide) ?_
          refine ⟨rfl, ?_⟩
          walk_at "nm"
          exact ⟨row ++ [z % 997], _, _, _, by rw [List.length_append, List.length_singleton]; omega, by rw [List.map_append]; rfl⟩
      · obtain ⟨row, z, x4, x5, hl, rfl⟩ := h
        exact ⟨row, _, _, _, _, by omega, rfl⟩
    · walk_at "ev"
      refine ⟨4, rfl, by decide, ?_⟩
      refine wp_forR (fun i n s => ∃ (row : List Int) (x3 x4 x5 : Option SV), row.length + n + 60 * xs.length ≤ 60 * 63 ∧ s = ⟨[vl (.lst (ns.map D.int)), ow (row.map D.int), vl (.int x), x3, x4, x5], S⟩) (fun i n s h => ?_) (fun i s h => ?_) ⟨row, x3, x4, x5, by omega, rfl⟩
      · obtain ⟨row, x3, x4, x5, hl, rfl⟩ := h
        refine wp_setU rfl ?_
        walk_at "nm"
        walk_at "ev"
        refine wp_mul (.inr (sm_small (by decide) (by decide))) ?_
        walk_at "ev"
        refine wp_mul (.inr (sm_small (by decide) (by decide))) ?_
        walk_at "ev"
        refine wp_mod (by decide) ?_
        refine ⟨rfl, ?_⟩
        walk_at "nm"
        refine wp_appendO rfl ?_
        walk_at "ev"
        refine wp_mul (.inr (sm_small (by decide) (by decide))) ?_
        walk_at "ev"
        refine wp_mod (by decide) ?_
        refine ⟨_, rfl, by rw [List.length_map]; omega, noOwns_snoc (fun _ => rfl) _ _ rfl, ?_⟩
        walk_at "nm"
        rw [map_snoc (f := D.int)]
        refine ⟨_, _, _, _, ?_, rfl⟩
        rw [List.length_append, List.length_singleton]; omega
      · obtain ⟨row, x3, x4, x5, hl, rfl⟩ := h
        exact ⟨row, _, _, _, _, by omega, rfl⟩
  · obtain ⟨row, x2, x3, x4, x5, hl, rfl⟩ := h
    walk_at "ev"
    refine ie_ (fun h0 => ?_) (fun h0 => ?_)
    · refine wp_appendO rfl ?_
      walk_at "ev"
      refine ⟨_, rfl, by rw [List.length_map]; simp only [List.length_nil] at hl; omega, noOwns_snoc (fun _ => rfl) _ _ rfl, ?_⟩
      walk_at "nm"
      walk_at "ev"
      exact wp_finO rfl ⟨rfl, row ++ [0], by simp, by rw [List.map_append]; rfl⟩
    · walk_at "ev"
      refine wp_finO rfl ⟨rfl, row, ?_, rfl⟩
      intro e
      subst e
      exact h0 rfl
def smP (p : P2) : Prop := (-1000000 ≤ p.1 ∧ p.1 ≤ 1000000) ∧ -1000000 ≤ p.2 ∧ p.2 ≤ 1000000
theorem smP.a {p : P2} (h : smP p) : sm p.1 := sm_small (by unfold smP at h; omega) (by unfold smP at h; omega)
theorem smP.b {p : P2} (h : smP p) : sm p.2 := sm_small (by unfold smP at h; omega) (by unfold smP at h; omega)
def gcdI (x y : Int) : Int := (Nat.gcd x.natAbs y.natAbs : Nat)
def atD (ps : List P2) (i : Int) : P2 := (atI ps i).getD (0, 0)
abbrev Edge := P2 × P2
def edges (ps : List P2) : List Edge := (List.range ps.length).map fun k : Nat => (atD ps ((k : Int) - 1), atD ps k)
theorem noOwn_int (i : Int) : (D.int i).noOwn = true := rfl
def popS (one : P2) : List P2 → List P2
  | b :: a :: r => if crs a b one ≤ 0 then popS one (a :: r) else b :: a :: r
  | st => st
def chain (order : List P2) : List P2 := order.foldl (fun st one => one :: popS one st) []
def hullP (ps : List P2) : List P2 := (chain (sortP ps)).tail.reverse ++ (chain (sortP ps).reverse).tail.reverse
theorem gcdI_pos {x y : Int} (h : x ≠ 0 ∨ y ≠ 0) : 0 < gcdI x y := by
  unfold gcdI
  have : 0 < Nat.gcd x.natAbs y.natAbs := by
    rcases Nat.eq_zero_or_pos (Nat.gcd x.natAbs y.natAbs) with e | e
    · rw [Nat.gcd_eq_zero_iff] at e
      omega
    · exact e
  omega
theorem gcdI_dvd_left (x y : Int) : gcdI x y ∣ x := by
  unfold gcdI
  exact Int.ofNat_dvd_left.mpr (Nat.gcd_dvd_left _ _)
theorem gcdI_dvd_right (x y : Int) : gcdI x y ∣ y := by
  unfold gcdI
  exact Int.ofNat_dvd_left.mpr (Nat.gcd_dvd_right _ _)
/-- small points, edges that are none -/
structure Nd (ps : List P2) : Prop where
  len : ps.length ≤ 1000
  one : ps ≠ []
  sm : ∀ p ∈ ps, -1000 ≤ p.1 ∧ p.1 ≤ 1000 ∧ -1000 ≤ p.2 ∧ p.2 ≤ 1000
  ne : ∀ e ∈ edges ps, e.1 ≠ e.2
def rg (b : Int) (p : P2) : Prop := -b ≤ p.1 ∧ p.1 ≤ b ∧ -b ≤ p.2 ∧ p.2 ≤ b
/-- a half plane: direction, number -/
abbrev Row := Int × Int × Int
theorem wp_take {R : List Ob} {E : Ex → Sd → Prop} {row : List Int} {n lim : Int} {σ : List (Option SV)} {Q : D → Sd → Prop} (hr : row ≠ []) (hn : 0 ≤ n) (hl : 0 < lim) (q : ∀ r, 0 ≤ r → r < lim → Q (.int r) ⟨σ, St R (n + 1)⟩) : wp (callF f__law_take [.lst (row.map D.int), .ref 0, .int lim]) E Q ⟨σ, St R n⟩ :=
  wp_call (by simp [D.noOwns, D.noOwn, noOwns_ints]) ((g_take row n lim hr hn hl).mono fun d S' h => by
    obtain ⟨rfl, r, rfl, h1, h2⟩ := h
    exact q r h1 h2)
/-- what a drawn part is -/
def Drawn (R : List Ob) (d : D) (S' : List Ob) (n : Int) : Prop := ∃ (ps : List P2) (n' : Int), d = .tup (ps.map pairD) ∧ S' = St R n' ∧ n ≤ n' ∧ ps.length ≤ 100 ∧ ∀ p ∈ ps, rg 500 p
def nearP (p : P2) : Prop := (-40 ≤ p.1 ∧ p.1 ≤ 40) ∧ -40 ≤ p.2 ∧ p.2 ≤ 40
instance (p : P2) : Decidable (nearP p) := by unfold nearP; infer_instance
def LP (ps : List P2) : Prop := 3 ≤ ps.length ∧ ps.length ≤ 5 ∧ (∀ p ∈ ps, nearP p) ∧ ps.Nodup ∧ hullP ps = ps
instance (ps : List P2) : Decidable (LP ps) := by unfold LP; infer_instance
def Cv (ps : List P2) : Prop := 3 ≤ ps.length ∧ ps.length ≤ 5 ∧ (∀ p ∈ ps, nearP p) ∧ atD ps 0 = minP ps ∧ (∀ e ∈ edges ps, ∀ c ∈ ps, c ≠ e.1 → c ≠ e.2 → 0 < crs e.1 e.2 c) ∧ ps.Nodup
instance (ps : List P2) : Decidable (Cv ps) := by unfold Cv; infer_instance
theorem g_so_int (n : Nat) (i : Int) (S : List Ob) : f__law_so (n + 1) [.int i, .int i] S = some (.ok (.bl true) S) := by
  rw [f__law_so_succ]
  refine FnS.eq (fn_wp rfl ?_)
  unfold m__law_so
  walk_at "nm"
  walk_at "ev"
  refine wp_isN rfl ?_
  walk_at "ev"
  refine ⟨false, by with_unfolding_all rfl, ?_⟩
  walk_at "ev"
  refine ⟨false, by with_unfolding_all rfl, ?_⟩
  walk_at "ev"
  refine ⟨false, by with_unfolding_all rfl, ?_⟩
  walk_at "ev"
  refine ⟨true, by with_unfolding_all rfl, ?_⟩
  walk_at "ev"
  refine ⟨true, by with_unfolding_all rfl, _, rfl, ?_⟩
  walk_at "ev"
  exact wp_fin rfl ⟨by simp, rfl⟩
theorem g_so_tup (n : Nat) (xs : List D) (S : List Ob) (hl : xs.length ≤ 100000) (hn : D.noOwns xs = true) (h : ∀ x ∈ xs, f__law_so n [x, x] S = some (.ok (.bl true) S)) : f__law_so (n + 1) [.tup xs, .tup xs] S = some (.ok (.bl true) S) := by
  rw [f__law_so_succ]
  refine FnS.eq (fn_wp rfl ?_)
  unfold m__law_so
  walk_at "nm"
  walk_at "ev"
  refine wp_isN rfl ?_
  walk_at "ev"
  refine ⟨true, by with_unfolding_all rfl, ?_⟩
  walk_at "ev"
  refine ⟨true, by with_unfolding_all rfl, ?_⟩
  walk_at "ev"
  rw [show decide ((xs.length : Int) = xs.length) = true from decide_eq_true rfl]
  walk_at "ev"
  refine ⟨xs.length, rfl, by omega, ?_⟩
  refine wp_forR (fun i n s => ∃ (k : Nat) (x2 : Option SV), i = k ∧ k + n = xs.length ∧ s = ⟨[some (.val (.tup xs)), some (.val (.tup xs)), x2], S⟩) (fun i n s h => ?_) (fun i s h => ?_) ⟨0, none, rfl, by omega, rfl⟩
  · obtain ⟨k, x2, rfl, hk, rfl⟩ := h
    have hk2 : k < xs.length := by omega
    have hg : xs[k]? = some xs[k] := List.getElem?_eq_getElem hk2
    have ho := noOwns_get hn hg
    with_reducible refine wp_setU (noOwn_int _) ?_
    walk_at "nm"
    walk_at "ev"
    with_reducible refine wp_ix (by with_unfolding_all rfl) (atI_nat hg) ?_
    walk_at "ev"
    with_reducible refine wp_ix (by with_unfolding_all rfl) (atI_nat hg) ?_
    walk_at "ev"
    refine wp_callE (h xs[k] (List.getElem_mem hk2)) ?_ (by simp [D.noOwns, ho])
    walk_at "ev"
    exact ⟨k + 1, _, by simp, by omega, rfl⟩
  · obtain ⟨k, x2, rfl, hk, rfl⟩ := h
    walk_at "ev"
    exact wp_fin rfl ⟨rfl, rfl⟩
theorem Cv.nd {ps : List P2} (h : Cv ps) (hne : ∀ e ∈ edges ps, e.1 ≠ e.2) : Nd ps := by
  obtain ⟨h1, h2, h3, h4⟩ := h
  refine ⟨by omega, ?_, fun p hp => ?_, hne⟩
  · intro e
    rw [e] at h1
    simp at h1
  · have := h3 p hp
    unfold nearP at this
    omega
end Dm
namespace Dm
end Dm
namespace Dm
def sgn (x : Int) : Ordering := if x < 0 then .lt else if x = 0 then .eq else .gt
end Dm
namespace Dm
abbrev S3 := Nat → Nat → Nat → Ordering
end Dm
namespace Dm
section
variable {q : Nat → P2} {s : S3} {n : Nat} (hs : ∀ i j k, i < j → j < k → k < n → s i j k = sgn (crs (q i) (q j) (q k)))
include hs in
include hs in
end
end Dm
namespace Dm
end Dm
namespace Dm
open PySem PySem.Spec L2
local macro_rules | `(tactic| walk_at "st") => `(tactic| with_reducible refine ite_f (by with_unfolding_all rfl) ?_)
local macro_rules | `(tactic| walk_at "st") => `(tactic| with_reducible refine ite_t (by with_unfolding_all rfl) ?_)
local macro_rules | `(tactic| walk_at "st") => `(tactic| with_reducible refine wp_leS ?_)
local macro_rules | `(tactic| walk_at "st") => `(tactic| with_reducible refine wp_eqB ?_)
local macro_rules | `(tactic| walk_at "st") => `(tactic| with_reducible refine wp_partS ?_)
local macro_rules | `(tactic| walk_at "st") => `(tactic| with_reducible refine wp_partN ?_)
local macro_rules | `(tactic| walk_at "st") => `(tactic| with_reducible refine wp_lenOk ?_)
local macro_rules | `(tactic| walk_at "st") => `(tactic| with_reducible refine wp_eTup ?_)
local macro_rules | `(tactic| walk_at "st") => `(tactic| with_reducible refine wp_eFz ?_)
local macro_rules | `(tactic| walk_at "st") => `(tactic| with_reducible refine wp_itOwn (by with_unfolding_all rfl) ?_)
local macro_rules | `(tactic| walk_at "st") => `(tactic| with_reducible refine wp_tru (by with_unfolding_all rfl) ?_)
local macro_rules | `(tactic| walk_at "st") => `(tactic| with_reducible refine wp_itSeqL ?_)
local macro_rules | `(tactic| walk_at "st") => `(tactic| with_reducible refine wp_itR1 ?_)
local macro_rules | `(tactic| walk_at "st") => `(tactic| with_reducible refine wp_len (by with_unfolding_all first | exact asS_own rfl | exact asS_ref rfl | exact asS_sq | rfl) ?_)
local macro_rules | `(tactic| walk_at "st") => `(tactic| with_reducible refine wp_sFor ?_)
local macro_rules | `(tactic| walk_at "st") => `(tactic| with_reducible refine wp_sSetIx ?_)
local macro_rules | `(tactic| walk_at "st") => `(tactic| with_reducible refine wp_sPar ?_)
local macro_rules | `(tactic| walk_at "st") => `(tactic| with_reducible refine wp_sOwn ?_)
local macro_rules | `(tactic| walk_at "st") => `(tactic| with_reducible refine wp_sAsgT ?_)
local macro_rules | `(tactic| walk_at "st") => `(tactic| with_reducible refine wp_sAsg ?_)
local macro_rules | `(tactic| walk_at "st") => `(tactic| with_reducible refine wp_sExpr ?_)
local macro_rules | `(tactic| walk_at "st") => `(tactic| with_reducible refine wp_cont ?_)
local macro_rules | `(tactic| walk_at "st") => `(tactic| with_reducible refine wp_break ?_)
local macro_rules | `(tactic| walk_at "st") => `(tactic| with_reducible refine wp_nop ?_)
local macro_rules | `(tactic| walk_at "st") => `(tactic| with_reducible refine wp_gcd ?_)
local macro_rules | `(tactic| walk_at "st") => `(tactic| with_reducible refine wp_abs ?_)
local macro_rules | `(tactic| walk_at "st") => `(tactic| with_reducible refine wp_int1 ?_)
local macro_rules | `(tactic| walk_at "st") => `(tactic| with_reducible refine wp_finN ?_)
local macro_rules | `(tactic| walk_at "st") => `(tactic| with_reducible refine wp_finS ?_)
local macro_rules | `(tactic| walk_at "st") => `(tactic| with_reducible refine wp_finI ?_)
local macro_rules | `(tactic| walk_at "st") => `(tactic| with_reducible refine wp_finB ?_)
local macro_rules | `(tactic| walk_at "st") => `(tactic| with_reducible refine wp_isi2N (by with_unfolding_all rfl) (by with_unfolding_all rfl) ?_)
local macro_rules | `(tactic| walk_at "st") => `(tactic| with_reducible refine wp_isiN (by with_unfolding_all rfl) ?_)
local macro_rules | `(tactic| walk_at "st") => `(tactic| with_reducible refine wp_isiD2 ?_)
local macro_rules | `(tactic| walk_at "st") => `(tactic| with_reducible refine wp_isiD ?_)
local macro_rules | `(tactic| walk_at "st") => `(tactic| with_reducible refine wp_notIn ?_)
local macro_rules | `(tactic| walk_at "st") => `(tactic| with_reducible refine wp_ne ?_)
local macro_rules | `(tactic| walk_at "st") => `(tactic| with_reducible refine wp_eqI ?_)
local macro_rules | `(tactic| walk_at "st") => `(tactic| with_reducible refine wp_ge ?_)
local macro_rules | `(tactic| walk_at "st") => `(tactic| with_reducible refine wp_gt ?_)
local macro_rules | `(tactic| walk_at "st") => `(tactic| with_reducible refine wp_le ?_)
local macro_rules | `(tactic| walk_at "st") => `(tactic| with_reducible refine wp_lt ?_)
local macro_rules | `(tactic| walk_at "st") => `(tactic| with_reducible refine wp_neg ?_)
local macro_rules | `(tactic| walk_at "st") => `(tactic| with_reducible refine wp_sub ?_)
local macro_rules | `(tactic| walk_at "st") => `(tactic| with_reducible refine wp_add ?_)
local macro_rules | `(tactic| walk_at "st") => `(tactic| with_reducible refine wp_ixP1 ?_)
local macro_rules | `(tactic| walk_at "st") => `(tactic| with_reducible refine wp_ixP0 ?_)
local macro_rules | `(tactic| walk_at "st") => `(tactic| with_reducible refine ex_int ?_)
local macro_rules | `(tactic| walk_at "st") => `(tactic| with_reducible refine ex_bl ?_)
local macro_rules | `(tactic| walk_at "st") => `(tactic| with_reducible refine wp_vOr ?_)
local macro_rules | `(tactic| walk_at "st") => `(tactic| with_reducible refine wp_vAnd ?_)
local macro_rules | `(tactic| walk_at "st") => `(tactic| with_reducible refine wp_vNot ?_)
local macro_rules | `(tactic| walk_at "st") => `(tactic| with_reducible refine wp_mOr ?_)
local macro_rules | `(tactic| walk_at "st") => `(tactic| with_reducible refine wp_mAnd ?_)
local macro_rules | `(tactic| walk_at "st") => `(tactic| with_reducible refine wp_mNot ?_)
local macro_rules | `(tactic| walk_at "st") => `(tactic| with_reducible refine wp_eIf ?_)
local macro_rules | `(tactic| walk_at "st") => `(tactic| with_reducible refine wp_sIf ?_)
local macro_rules | `(tactic| walk_at "st") => `(tactic| with_reducible refine wp_asV ?_)
local macro_rules | `(tactic| walk_at "st") => `(tactic| with_reducible refine wp_chain3 ?_)
local macro_rules | `(tactic| walk_at "st") => `(tactic| with_reducible refine wp_cmp2 ?_)
local macro_rules | `(tactic| walk_at "st") => `(tactic| with_reducible refine wp_nil ?_)
local macro_rules | `(tactic| walk_at "st") => `(tactic| with_reducible refine wp_cons ?_)
local macro_rules | `(tactic| walk_at "st") => `(tactic| with_reducible refine wp_varO (by with_unfolding_all rfl) ?_)
local macro_rules | `(tactic| walk_at "st") => `(tactic| with_reducible refine wp_var (by with_unfolding_all rfl) ?_)
local macro_rules | `(tactic| walk_at "st") => `(tactic| with_reducible refine wp_ret ?_)
local macro_rules | `(tactic| walk_at "st") => `(tactic| with_reducible refine wp_bnd ?_)
local macro_rules | `(tactic| walk_at "st") => `(tactic| with_reducible refine wp_sRet ?_)
local macro_rules | `(tactic| walk_at "st") => `(tactic| with_reducible refine wp_seq ?_)
local macro_rules | `(tactic| walk_at "ev") => `(tactic| (repeat walk_at "st"))
local macro_rules | `(tactic| walk_at "nm") => `(tactic| (try dsimp only [List.map, List.append, List.cons_append, List.nil_append, List.replicate, Nat.reduceSub, List.set]))
mutual
/-- plain data, all sequences tuples (b), or all lists -/
def D.uni (b : Bool) : D → Bool
  | .tup xs => b && D.unis b xs
  | .lst xs => !b && D.unis b xs
  | .str z => decide (z.length ≤ 100000)
  | .ref _ => false
  | .own _ => false
  | .con _ => false
  | _ => true
def D.unis (b : Bool) : List D → Bool
  | [] => true
  | x :: xs => x.uni b && D.unis b xs
end
mutual
theorem uni_noOwn {b : Bool} : ∀ {v : D}, v.uni b = true → v.noOwn = true
  | .non, _ => rfl
  | .bl _, _ => rfl
  | .int _, _ => rfl
  | .str _, _ => rfl
  | .tup xs, h => by
    simp only [D.uni, Bool.and_eq_true] at h
    simp only [D.noOwn]
    exact unis_noOwns h.2
  | .lst xs, h => by
    simp only [D.uni, Bool.and_eq_true] at h
    simp only [D.noOwn]
    exact unis_noOwns h.2
  | .ref _, h => by simp [D.uni] at h
  | .own _, h => by simp [D.uni] at h
  | .con _, h => by simp [D.uni] at h
theorem unis_noOwns {b : Bool} : ∀ {xs : List D}, D.unis b xs = true → D.noOwns xs = true
  | [], _ => rfl
  | x :: xs, h => by
    simp only [D.unis, Bool.and_eq_true] at h
    simp only [D.noOwns, Bool.and_eq_true]
    exact ⟨uni_noOwn h.1, unis_noOwns h.2⟩
end
theorem unis_iff {b : Bool} : ∀ {xs : List D}, D.unis b xs = true ↔ ∀ x ∈ xs, x.uni b = true
  | [] => by simp [D.unis]
  | x :: xs => by simp [D.unis, unis_iff (xs := xs)]
def low (c : Nat) : Bool := decide (97 ≤ c ∧ c ≤ 122)
def nameB : D → Bool
  | .str z => decide (1 ≤ z.length ∧ z.length ≤ 8) && z.cps.toList.all low
  | _ => false
/-- ascending -/
def ascB : List Int → Bool
  | x :: y :: r => decide (x < y) && ascB (y :: r)
  | _ => true
/-- a piece -/
structure Pc where
  name : Str
  parts : List (List P2)
  turns : List Int
structure PcOk (c : Pc) : Prop where
  name : nameB (.str c.name) = true
  len1 : 1 ≤ c.parts.length
  len3 : c.parts.length ≤ 3
  parts : ∀ ps ∈ c.parts, Cv ps
  t1 : 1 ≤ c.turns.length
  t4 : c.turns.length ≤ 4
  asc : ascB c.turns = true
  turns : ∀ t ∈ c.turns, 0 ≤ t ∧ t ≤ 3
theorem PcOk.nlen {c : Pc} (h : PcOk c) : c.name.length ≤ 8 := by
  have := h.name
  unfold nameB at this
  rw [Bool.and_eq_true, decide_eq_true_eq] at this
  exact this.1.2
theorem PcOk.ne {c : Pc} (h : PcOk c) : c.parts ≠ [] := fun z => by have := h.len1; rw [z] at this; simp at this
theorem Cv.ne {ps : List P2} (h : Cv ps) : ps ≠ [] := fun z => by have := h.1; rw [z] at this; simp at this
mutual
def D.fit : Nat → D → Bool
  | _, .non => true
  | _, .bl _ => true
  | _, .int _ => true
  | _, .str z => decide (z.length ≤ 100000) && PyData.strOk z
  | n + 1, .tup xs => decide (xs.length ≤ 100000) && D.fits n xs
  | n + 1, .lst xs => decide (xs.length ≤ 100000) && D.fits n xs
  | _, _ => false
def D.fits : Nat → List D → Bool
  | _, [] => true
  | n, x :: xs => D.fit n x && D.fits n xs
end
theorem fits_iff {n : Nat} : ∀ {xs : List D}, D.fits n xs = true ↔ ∀ x ∈ xs, D.fit n x = true
  | [] => by simp [D.fits]
  | x :: xs => by simp [D.fits, fits_iff (xs := xs)]
theorem ok_str {z : Str} (h : PyData.strOk z = true) : (D.str z).eqOk = true := by
  unfold D.eqOk
  show (true && ((D.str z).toPy.canLay0 && decide ((D.str z).toPy.depth ≤ 64))) = true
  simp [D.toPy, PyData.canLay0, PyData.depth, h]
theorem eqv_str (i j : Str) : (D.str i).eqv (.str j) = decide (i = j) := by
  show PyData.eqv (.str i) (.str j) = _
  have e : PyData.eqv (.str i) (.str j) = (i == j) := by simp only [PyData.eqv]
  rw [e]
  by_cases h : i = j
  · subst h; simp
  · rw [decide_eq_false h]; simpa using h
theorem wp_eqS {E : Ex → Sd → Prop} {s : Sd} {i j : Str} {Q : Bool → Sd → Prop} (hi : PyData.strOk i = true) (hj : PyData.strOk j = true) (q : Q (decide (i = j)) s) : wp (eqM (.str i) (.str j)) E Q s := by
  refine wp_of (a := (D.str i).eqv (.str j)) (s' := s) ?_ (by rw [eqv_str]; exact q)
  have e : eqM (.str i) (.str j) s = if ((D.str i).eqOk && (D.str j).eqOk) = true then some (.ok ((D.str i).eqv (.str j)) s) else none := rfl
  rw [e, if_pos (by rw [ok_str hi, ok_str hj]; rfl)]
theorem g_so_refl : ∀ (n : Nat) (v : D) (S : List Ob), D.fit n v = true → v.uni true = true → f__law_so (n + 1) [v, v] S = some (.ok (.bl true) S)
  | n, .int i, S, _, _ => g_so_int n i S
  | n + 1, .tup xs, S, hf, hu => by
    simp only [D.fit, Bool.and_eq_true, decide_eq_true_eq] at hf
    simp only [D.uni, Bool.true_and] at hu
    exact g_so_tup (n + 1) xs S hf.1 (unis_noOwns hu) fun x hx => g_so_refl n x S (fits_iff.mp hf.2 x hx) (unis_iff.mp hu x hx)
  | n, .non, S, _, _ => by
    rw [f__law_so_succ]
    refine FnS.eq (fn_wp rfl ?_)
    unfold m__law_so
    walk_at "nm"
    walk_at "ev"
    refine wp_isN (b := true) rfl ?_
    walk_at "ev"
    refine wp_isN (b := true) rfl ?_
    walk_at "ev"
    exact ⟨rfl, rfl⟩
  | n, .bl b, S, _, _ => by
    rw [f__law_so_succ]
    refine FnS.eq (fn_wp rfl ?_)
    unfold m__law_so
    walk_at "nm"
    walk_at "ev"
    refine wp_isN (b := false) rfl ?_
    walk_at "ev"
    exact ⟨by simp, rfl⟩
  | n, .str z, S, hf, _ => by
    have hz : PyData.strOk z = true := by
      have hf : (decide (z.length ≤ 100000) && PyData.strOk z) = true := by cases n <;> exact hf
      rw [Bool.and_eq_true] at hf
      exact hf.2
    rw [f__law_so_succ]
    refine FnS.eq (fn_wp rfl ?_)
    unfold m__law_so
    walk_at "nm"
    walk_at "ev"
    refine wp_isN (b := false) rfl ?_
    walk_at "ev"
    refine wp_eqS hz hz ?_
    walk_at "ev"
    exact ⟨by simp, rfl⟩
  | _, .lst xs, _, _, h => by simp [D.uni] at h
  | _, .ref _, _, _, h => by simp [D.uni] at h
  | _, .own _, _, _, h => by simp [D.uni] at h
  | _, .con _, _, _, h => by simp [D.uni] at h
  | 0, .tup xs, _, h, _ => by simp [D.fit] at h
mutual
def lstD : D → D
  | .tup xs => .lst (lstDs xs)
  | .lst xs => .lst xs
  | .non => .non
  | .bl b => .bl b
  | .int i => .int i
  | .str z => .str z
  | .ref n => .ref n
  | .own n => .own n
  | .con n => .con n
def lstDs : List D → List D
  | [] => []
  | x :: xs => lstD x :: lstDs xs
end
mutual
theorem lst_uni : ∀ {v : D}, v.uni true = true → (lstD v).uni false = true
  | .tup xs, h => by
    simp only [D.uni, Bool.true_and] at h
    simp only [lstD, D.uni, Bool.not_false, Bool.true_and]
    exact lst_unis h
  | .lst xs, h => by simp [D.uni] at h
  | .non, h => h
  | .bl _, h => h
  | .int _, h => h
  | .str z, h => by simpa [lstD, D.uni] using h
  | .ref _, h => by simp [D.uni] at h
  | .own _, h => by simp [D.uni] at h
  | .con _, h => by simp [D.uni] at h
theorem lst_unis : ∀ {xs : List D}, D.unis true xs = true → D.unis false (lstDs xs) = true
  | [], _ => rfl
  | x :: xs, h => by
    simp only [D.unis, Bool.and_eq_true] at h
    simp only [lstDs, D.unis, Bool.and_eq_true]
    exact ⟨lst_uni h.1, lst_unis h.2⟩
end
structure PcFit (c : Pc) : Prop where
  s : PyData.strOk c.name = true
  n : c.name.length ≤ 100000
  p : c.parts.length ≤ 100000
  ps : ∀ q ∈ c.parts, q.length ≤ 100000
  t : c.turns.length ≤ 100000
theorem low_ok {z : Str} (h : z.cps.toList.all low = true) : PyData.strOk z = true := by
  unfold PyData.strOk
  rw [← Array.all_toList]
  rw [List.all_eq_true] at h ⊢
  intro c hc
  have := h c hc
  unfold low at this
  simp only [decide_eq_true_eq] at this ⊢
  omega
theorem nameB_low {z : Str} (h : nameB (.str z) = true) : z.cps.toList.all low = true := by
  unfold nameB at h
  rw [Bool.and_eq_true] at h
  exact h.2
theorem PcOk.fit {c : Pc} (h : PcOk c) : PcFit c := ⟨low_ok (nameB_low h.name), by have := h.nlen; omega, by have := h.len3; omega, fun q hq => by have := (h.parts q hq).2.1; omega, by have := h.t4; omega⟩
structure NmOk (z : Str) : Prop where
  l1 : 1 ≤ z.length
  l8 : z.length ≤ 8
  low : z.cps.toList.all low = true
theorem NmOk.b {z : Str} (h : NmOk z) : nameB (.str z) = true := by
  show (decide (1 ≤ z.length ∧ z.length ≤ 8) && z.cps.toList.all Dm.low) = true
  rw [decide_eq_true ⟨h.l1, h.l8⟩, h.low]
  rfl
structure PcDr (c : Pc) (m : Nat) : Prop where
  nm : NmOk c.name
  ps : ∀ q ∈ c.parts, q.length ≤ 100 ∧ ∀ p ∈ q, rg 500 p
  t1 : 1 ≤ c.turns.length
  tm : c.turns.length ≤ m
  t4 : c.turns.length ≤ 4
  asc : ascB c.turns = true
  tr : ∀ t ∈ c.turns, 0 ≤ t ∧ t ≤ 3
theorem PcOk.rg {c : Pc} (h : PcOk c) : ∀ ps ∈ c.parts, ps.length ≤ 100 ∧ ∀ p ∈ ps, rg 500 p := fun ps hps => by
  have hc := h.parts ps hps
  refine ⟨by have := hc.2.1; omega, fun p hp => ?_⟩
  have := hc.2.2.1 p hp
  unfold nearP at this
  unfold Dm.rg
  omega
end Dm
namespace Dm
open PySem PySem.Spec L2
/-- convex, without the bounds -/
structure Cw (ps : List P2) : Prop where
  l3 : 3 ≤ ps.length
  l5 : ps.length ≤ 5
  mn : atD ps 0 = minP ps
  ed : ∀ e ∈ edges ps, ∀ c ∈ ps, c ≠ e.1 → c ≠ e.2 → 0 < crs e.1 e.2 c
  nd : ps.Nodup
theorem Cw.cv {ps : List P2} (h : Cw ps) (hn : ∀ p ∈ ps, nearP p) : Cv ps := ⟨h.l3, h.l5, hn, h.mn, h.ed, h.nd⟩
end Dm
namespace Dm
open PySem PySem.Spec L2
local macro_rules | `(tactic| walk_at "st") => `(tactic| with_reducible refine ite_f (by with_unfolding_all rfl) ?_)
local macro_rules | `(tactic| walk_at "st") => `(tactic| with_reducible refine ite_t (by with_unfolding_all rfl) ?_)
local macro_rules | `(tactic| walk_at "st") => `(tactic| with_reducible refine wp_eqB ?_)
local macro_rules | `(tactic| walk_at "st") => `(tactic| with_reducible refine wp_partS ?_)
local macro_rules | `(tactic| walk_at "st") => `(tactic| with_reducible refine wp_partN ?_)
local macro_rules | `(tactic| walk_at "st") => `(tactic| with_reducible refine wp_lenOk ?_)
local macro_rules | `(tactic| walk_at "st") => `(tactic| with_reducible refine wp_eTup ?_)
local macro_rules | `(tactic| walk_at "st") => `(tactic| with_reducible refine wp_eFz ?_)
local macro_rules | `(tactic| walk_at "st") => `(tactic| with_reducible refine wp_itOwn (by with_unfolding_all rfl) ?_)
local macro_rules | `(tactic| walk_at "st") => `(tactic| with_reducible refine wp_tru (by with_unfolding_all rfl) ?_)
local macro_rules | `(tactic| walk_at "st") => `(tactic| with_reducible refine wp_eIsi2 ?_)
local macro_rules | `(tactic| walk_at "st") => `(tactic| with_reducible refine wp_eIsi ?_)
local macro_rules | `(tactic| walk_at "st") => `(tactic| with_reducible refine wp_itSeqL ?_)
local macro_rules | `(tactic| walk_at "st") => `(tactic| with_reducible refine wp_itR1 ?_)
local macro_rules | `(tactic| walk_at "st") => `(tactic| with_reducible refine wp_len (by with_unfolding_all first | exact asS_own rfl | exact asS_ref rfl | exact asS_sq | rfl) ?_)
local macro_rules | `(tactic| walk_at "st") => `(tactic| with_reducible refine wp_sFor ?_)
local macro_rules | `(tactic| walk_at "st") => `(tactic| with_reducible refine wp_sSetIx ?_)
local macro_rules | `(tactic| walk_at "st") => `(tactic| with_reducible refine wp_sPar ?_)
local macro_rules | `(tactic| walk_at "st") => `(tactic| with_reducible refine wp_sOwn ?_)
local macro_rules | `(tactic| walk_at "st") => `(tactic| with_reducible refine wp_sAsg ?_)
local macro_rules | `(tactic| walk_at "st") => `(tactic| with_reducible refine wp_sExpr ?_)
local macro_rules | `(tactic| walk_at "st") => `(tactic| with_reducible refine wp_cont ?_)
local macro_rules | `(tactic| walk_at "st") => `(tactic| with_reducible refine wp_break ?_)
local macro_rules | `(tactic| walk_at "st") => `(tactic| with_reducible refine wp_nop ?_)
local macro_rules | `(tactic| walk_at "st") => `(tactic| with_reducible refine wp_gcd ?_)
local macro_rules | `(tactic| walk_at "st") => `(tactic| with_reducible refine wp_abs ?_)
local macro_rules | `(tactic| walk_at "st") => `(tactic| with_reducible refine wp_int1 ?_)
local macro_rules | `(tactic| walk_at "st") => `(tactic| with_reducible refine wp_notIn ?_)
local macro_rules | `(tactic| walk_at "st") => `(tactic| with_reducible refine wp_ne ?_)
local macro_rules | `(tactic| walk_at "st") => `(tactic| with_reducible refine wp_eqI ?_)
local macro_rules | `(tactic| walk_at "st") => `(tactic| with_reducible refine wp_ge ?_)
local macro_rules | `(tactic| walk_at "st") => `(tactic| with_reducible refine wp_gt ?_)
local macro_rules | `(tactic| walk_at "st") => `(tactic| with_reducible refine wp_le ?_)
local macro_rules | `(tactic| walk_at "st") => `(tactic| with_reducible refine wp_lt ?_)
local macro_rules | `(tactic| walk_at "st") => `(tactic| with_reducible refine wp_neg ?_)
local macro_rules | `(tactic| walk_at "st") => `(tactic| with_reducible refine wp_sub ?_)
local macro_rules | `(tactic| walk_at "st") => `(tactic| with_reducible refine wp_add ?_)
local macro_rules | `(tactic| walk_at "st") => `(tactic| with_reducible refine wp_ixP1 ?_)
local macro_rules | `(tactic| walk_at "st") => `(tactic| with_reducible refine wp_ixP0 ?_)
local macro_rules | `(tactic| walk_at "st") => `(tactic| with_reducible refine wp_vOr ?_)
local macro_rules | `(tactic| walk_at "st") => `(tactic| with_reducible refine wp_vAnd ?_)
local macro_rules | `(tactic| walk_at "st") => `(tactic| with_reducible refine wp_vNot ?_)
local macro_rules | `(tactic| walk_at "st") => `(tactic| with_reducible refine wp_mOr ?_)
local macro_rules | `(tactic| walk_at "st") => `(tactic| with_reducible refine wp_mAnd ?_)
local macro_rules | `(tactic| walk_at "st") => `(tactic| with_reducible refine wp_mNot ?_)
local macro_rules | `(tactic| walk_at "st") => `(tactic| with_reducible refine wp_eIf ?_)
local macro_rules | `(tactic| walk_at "st") => `(tactic| with_reducible refine wp_sIf ?_)
local macro_rules | `(tactic| walk_at "st") => `(tactic| with_reducible refine wp_asV ?_)
local macro_rules | `(tactic| walk_at "st") => `(tactic| with_reducible refine wp_chain3 ?_)
local macro_rules | `(tactic| walk_at "st") => `(tactic| with_reducible refine wp_cmp2 ?_)
local macro_rules | `(tactic| walk_at "st") => `(tactic| with_reducible refine wp_nil ?_)
local macro_rules | `(tactic| walk_at "st") => `(tactic| with_reducible refine wp_cons ?_)
local macro_rules | `(tactic| walk_at "st") => `(tactic| with_reducible refine wp_varO (by with_unfolding_all rfl) ?_)
local macro_rules | `(tactic| walk_at "st") => `(tactic| with_reducible refine wp_var (by with_unfolding_all rfl) ?_)
local macro_rules | `(tactic| walk_at "st") => `(tactic| with_reducible refine wp_ret ?_)
local macro_rules | `(tactic| walk_at "st") => `(tactic| with_reducible refine wp_bnd ?_)
local macro_rules | `(tactic| walk_at "st") => `(tactic| with_reducible refine wp_sRet ?_)
local macro_rules | `(tactic| walk_at "st") => `(tactic| with_reducible refine wp_seq ?_)
local macro_rules | `(tactic| walk_at "ev") => `(tactic| (repeat walk_at "st"))
local macro_rules | `(tactic| walk_at "nm") => `(tactic| (try dsimp only [List.map, List.append, List.cons_append, List.nil_append, List.replicate, Nat.reduceSub, List.set]))

def bx (off wide : Int) (p : P2) : Prop := (-(off / 2) ≤ p.1 ∧ p.1 ≤ off - off / 2 + wide) ∧ -(off / 2) ≤ p.2 ∧ p.2 ≤ off - off / 2 + wide
theorem bx.rg {off wide : Int} {p : P2} (h : bx off wide p) (ho : 0 ≤ off / 2 ∧ off / 2 ≤ 100) (hw : 0 < wide ∧ wide ≤ 100) : rg 400 p := by
  unfold bx at h
  unfold Dm.rg
  omega
end Dm
namespace Dm
open PySem PySem.Spec L2
local macro_rules | `(tactic| walk_at "st") => `(tactic| with_reducible refine ite_f (by with_unfolding_all rfl) ?_)
local macro_rules | `(tactic| walk_at "st") => `(tactic| with_reducible refine ite_t (by with_unfolding_all rfl) ?_)
local macro_rules | `(tactic| walk_at "st") => `(tactic| with_reducible refine wp_leS ?_)
local macro_rules | `(tactic| walk_at "st") => `(tactic| with_reducible refine wp_eqB ?_)
local macro_rules | `(tactic| walk_at "st") => `(tactic| with_reducible refine wp_partS ?_)
local macro_rules | `(tactic| walk_at "st") => `(tactic| with_reducible refine wp_partN ?_)
local macro_rules | `(tactic| walk_at "st") => `(tactic| with_reducible refine wp_lenOk ?_)
local macro_rules | `(tactic| walk_at "st") => `(tactic| with_reducible refine wp_eTup ?_)
local macro_rules | `(tactic| walk_at "st") => `(tactic| with_reducible refine wp_eFz ?_)
local macro_rules | `(tactic| walk_at "st") => `(tactic| with_reducible refine wp_itOwn (by with_unfolding_all rfl) ?_)
local macro_rules | `(tactic| walk_at "st") => `(tactic| with_reducible refine wp_tru (by with_unfolding_all rfl) ?_)
local macro_rules | `(tactic| walk_at "st") => `(tactic| with_reducible refine wp_itSeqL ?_)
local macro_rules | `(tactic| walk_at "st") => `(tactic| with_reducible refine wp_itR1 ?_)
local macro_rules | `(tactic| walk_at "st") => `(tactic| with_reducible refine wp_len (by with_unfolding_all first | exact asS_own rfl | exact asS_ref rfl | exact asS_sq | rfl) ?_)
local macro_rules | `(tactic| walk_at "st") => `(tactic| with_reducible refine wp_sFor ?_)
local macro_rules | `(tactic| walk_at "st") => `(tactic| with_reducible refine wp_sSetIx ?_)
local macro_rules | `(tactic| walk_at "st") => `(tactic| with_reducible refine wp_sPar ?_)
local macro_rules | `(tactic| walk_at "st") => `(tactic| with_reducible refine wp_sOwn ?_)
local macro_rules | `(tactic| walk_at "st") => `(tactic| with_reducible refine wp_sAsgT ?_)
local macro_rules | `(tactic| walk_at "st") => `(tactic| with_reducible refine wp_sAsg ?_)
local macro_rules | `(tactic| walk_at "st") => `(tactic| with_reducible refine wp_sExpr ?_)
local macro_rules | `(tactic| walk_at "st") => `(tactic| with_reducible refine wp_cont ?_)
local macro_rules | `(tactic| walk_at "st") => `(tactic| with_reducible refine wp_break ?_)
local macro_rules | `(tactic| walk_at "st") => `(tactic| with_reducible refine wp_nop ?_)
local macro_rules | `(tactic| walk_at "st") => `(tactic| with_reducible refine wp_gcd ?_)
local macro_rules | `(tactic| walk_at "st") => `(tactic| with_reducible refine wp_abs ?_)
local macro_rules | `(tactic| walk_at "st") => `(tactic| with_reducible refine wp_int1 ?_)
local macro_rules | `(tactic| walk_at "st") => `(tactic| with_reducible refine wp_finN ?_)
local macro_rules | `(tactic| walk_at "st") => `(tactic| with_reducible refine wp_finS ?_)
local macro_rules | `(tactic| walk_at "st") => `(tactic| with_reducible refine wp_finI ?_)
local macro_rules | `(tactic| walk_at "st") => `(tactic| with_reducible refine wp_finB ?_)
local macro_rules | `(tactic| walk_at "st") => `(tactic| with_reducible refine wp_isi2N (by with_unfolding_all rfl) (by with_unfolding_all rfl) ?_)
local macro_rules | `(tactic| walk_at "st") => `(tactic| with_reducible refine wp_isiN (by with_unfolding_all rfl) ?_)
local macro_rules | `(tactic| walk_at "st") => `(tactic| with_reducible refine wp_isiD2 ?_)
local macro_rules | `(tactic| walk_at "st") => `(tactic| with_reducible refine wp_isiD ?_)
local macro_rules | `(tactic| walk_at "st") => `(tactic| with_reducible refine wp_notIn ?_)
local macro_rules | `(tactic| walk_at "st") => `(tactic| with_reducible refine wp_ne ?_)
local macro_rules | `(tactic| walk_at "st") => `(tactic| with_reducible refine wp_eqI ?_)
local macro_rules | `(tactic| walk_at "st") => `(tactic| with_reducible refine wp_ge ?_)
local macro_rules | `(tactic| walk_at "st") => `(tactic| with_reducible refine wp_gt ?_)
local macro_rules | `(tactic| walk_at "st") => `(tactic| with_reducible refine wp_le ?_)
local macro_rules | `(tactic| walk_at "st") => `(tactic| with_reducible refine wp_lt ?_)
local macro_rules | `(tactic| walk_at "st") => `(tactic| with_reducible refine wp_neg ?_)
local macro_rules | `(tactic| walk_at "st") => `(tactic| with_reducible refine wp_sub ?_)
local macro_rules | `(tactic| walk_at "st") => `(tactic| with_reducible refine wp_add ?_)
local macro_rules | `(tactic| walk_at "st") => `(tactic| with_reducible refine wp_ixP1 ?_)
local macro_rules | `(tactic| walk_at "st") => `(tactic| with_reducible refine wp_ixP0 ?_)
local macro_rules | `(tactic| walk_at "st") => `(tactic| with_reducible refine ex_int ?_)
local macro_rules | `(tactic| walk_at "st") => `(tactic| with_reducible refine ex_bl ?_)
local macro_rules | `(tactic| walk_at "st") => `(tactic| with_reducible refine wp_vOr ?_)
local macro_rules | `(tactic| walk_at "st") => `(tactic| with_reducible refine wp_vAnd ?_)
local macro_rules | `(tactic| walk_at "st") => `(tactic| with_reducible refine wp_vNot ?_)
local macro_rules | `(tactic| walk_at "st") => `(tactic| with_reducible refine wp_mOr ?_)
local macro_rules | `(tactic| walk_at "st") => `(tactic| with_reducible refine wp_mAnd ?_)
local macro_rules | `(tactic| walk_at "st") => `(tactic| with_reducible refine wp_mNot ?_)
local macro_rules | `(tactic| walk_at "st") => `(tactic| with_reducible refine wp_eIf ?_)
local macro_rules | `(tactic| walk_at "st") => `(tactic| with_reducible refine wp_sIf ?_)
local macro_rules | `(tactic| walk_at "st") => `(tactic| with_reducible refine wp_asV ?_)
local macro_rules | `(tactic| walk_at "st") => `(tactic| with_reducible refine wp_chain3 ?_)
local macro_rules | `(tactic| walk_at "st") => `(tactic| with_reducible refine wp_cmp2 ?_)
local macro_rules | `(tactic| walk_at "st") => `(tactic| with_reducible refine wp_nil ?_)
local macro_rules | `(tactic| walk_at "st") => `(tactic| with_reducible refine wp_cons ?_)
local macro_rules | `(tactic| walk_at "st") => `(tactic| with_reducible refine wp_varO (by with_unfolding_all rfl) ?_)
local macro_rules | `(tactic| walk_at "st") => `(tactic| with_reducible refine wp_var (by with_unfolding_all rfl) ?_)
local macro_rules | `(tactic| walk_at "st") => `(tactic| with_reducible refine wp_ret ?_)
local macro_rules | `(tactic| walk_at "st") => `(tactic| with_reducible refine wp_bnd ?_)
local macro_rules | `(tactic| walk_at "st") => `(tactic| with_reducible refine wp_sRet ?_)
local macro_rules | `(tactic| walk_at "st") => `(tactic| with_reducible refine wp_seq ?_)
local macro_rules | `(tactic| walk_at "ev") => `(tactic| (repeat walk_at "st"))
local macro_rules | `(tactic| walk_at "nm") => `(tactic| (try dsimp only [List.map, List.append, List.cons_append, List.nil_append, List.replicate, Nat.reduceSub, List.set]))
def bb (p : P2) : Prop := (-18 ≤ p.1 ∧ p.1 ≤ 54) ∧ -18 ≤ p.2 ∧ p.2 ≤ 54
structure PcD2 (c : Pc) (m : Nat) : Prop where
  nm : NmOk c.name
  ps : ∀ q ∈ c.parts, Cw q ∧ ∀ p ∈ q, bb p
  t1 : 1 ≤ c.turns.length
  tm : c.turns.length ≤ m
  t4 : c.turns.length ≤ 4
  asc : ascB c.turns = true
  tr : ∀ t ∈ c.turns, 0 ≤ t ∧ t ≤ 3
theorem bb.rg {p : P2} (h : bb p) : rg 400 p := by unfold bb at h; unfold Dm.rg; omega
structure Jb where
  w : Int
  ps : List Pc
def prodT (cs : List Pc) : Nat := cs.foldl (fun a c => a * c.turns.length) 1
def sumP (cs : List Pc) : Nat := cs.foldl (fun a c => a + c.parts.length) 0
structure JbOk (j : Jb) : Prop where
  w1 : 1 ≤ j.w
  w2 : j.w ≤ 100
  l1 : 1 ≤ j.ps.length
  l4 : j.ps.length ≤ 4
  pc : ∀ c ∈ j.ps, PcOk c
  nm : (j.ps.map (·.name)).Nodup
  pt : sumP j.ps ≤ 4
  tn : prodT j.ps ≤ 4
open DmT (ddS ddS_snoc ddS_mem)
def goodJ (cs : List Pc) : Prop := (cs.map (·.name)).Nodup ∧ sumP cs ≤ 4 ∧ prodT cs ≤ 4
instance (cs : List Pc) : Decidable (goodJ cs) := by unfold goodJ; infer_instance

mutual
theorem fit_up : ∀ {n : Nat} {v : D}, D.fit n v = true → D.fit (n + 1) v = true
  | n, .non, _ => by simp [D.fit]
  | n, .bl _, _ => by simp [D.fit]
  | n, .int _, _ => by simp [D.fit]
  | n, .str z, h => by
    have h : (decide (z.length ≤ 100000) && PyData.strOk z) = true := by cases n <;> exact h
    exact h
  | n + 1, .tup xs, h => by
    simp only [D.fit, Bool.and_eq_true] at h ⊢
    exact ⟨h.1, fits_up h.2⟩
  | n + 1, .lst xs, h => by
    simp only [D.fit, Bool.and_eq_true] at h ⊢
    exact ⟨h.1, fits_up h.2⟩
  | 0, .tup xs, h => by simp [D.fit] at h
  | 0, .lst xs, h => by simp [D.fit] at h
  | n, .ref _, h => by cases n <;> simp [D.fit] at h
  | n, .own _, h => by cases n <;> simp [D.fit] at h
  | n, .con _, h => by cases n <;> simp [D.fit] at h
theorem fits_up : ∀ {n : Nat} {xs : List D}, D.fits n xs = true → D.fits (n + 1) xs = true
  | n, [], _ => by simp [D.fits]
  | n, x :: xs, h => by
    simp only [D.fits, Bool.and_eq_true] at h ⊢
    exact ⟨fit_up h.1, fits_up h.2⟩
end
/-- texts of small signs -/
def ascS (z : Str) : Prop := ∀ c ∈ z.cps.toList, c < 128
theorem ascS.ok {z : Str} (h : ascS z) : PyData.strOk z = true := by
  unfold PyData.strOk
  rw [← Array.all_toList, List.all_eq_true]
  intro c hc
  have := h c hc
  simp only [decide_eq_true_eq]
  omega
mutual
/-- what is changed: ints, short plain texts, short tuples -/
def D.inp : Nat → D → Bool
  | _, .int _ => true
  | _, .str z => decide (z.length ≤ 50) && z.cps.toList.all fun c => decide (c < 128)
  | n + 1, .tup xs => decide (xs.length ≤ 50) && D.inps n xs
  | _, _ => false
def D.inps : Nat → List D → Bool
  | _, [] => true
  | n, x :: xs => D.inp n x && D.inps n xs
end
end Dm
namespace Dm
structure Af where
  a : Rat
  b : Rat
  c : Rat
abbrev Q2 := Rat × Rat
def Af.at (l : Af) (p : Q2) : Rat := l.a * p.1 + l.b * p.2 + l.c
theorem rdiv_mul {a b : Rat} (h : b ≠ 0) : a / b * b = a := by grind
/-- three functions that cannot all be above 0 -/
structure Cert (L : List Af) where
  l1 : Af
  l2 : Af
  l3 : Af
  m1 : l1 ∈ L
  m2 : l2 ∈ L
  m3 : l3 ∈ L
  u : Rat
  v : Rat
  w : Rat
  u0 : 0 ≤ u
  v0 : 0 ≤ v
  w0 : 0 ≤ w
  pos : 0 < u + v + w
  sa : u * l1.a + v * l2.a + w * l3.a = 0
  sb : u * l1.b + v * l2.b + w * l3.b = 0
  sc : u * l1.c + v * l2.c + w * l3.c ≤ 0
theorem Cert.le {L : List Af} (c : Cert L) (p : Q2) : c.u * c.l1.at p + c.v * c.l2.at p + c.w * c.l3.at p ≤ 0 := by
  have e : c.u * c.l1.at p + c.v * c.l2.at p + c.w * c.l3.at p = (c.u * c.l1.a + c.v * c.l2.a + c.w * c.l3.a) * p.1 + (c.u * c.l1.b + c.v * c.l2.b + c.w * c.l3.b) * p.2 + (c.u * c.l1.c + c.v * c.l2.c + c.w * c.l3.c) := by
    simp only [Af.at]
    grind
  rw [e, c.sa, c.sb]
  have := c.sc
  grind
/-- bounded: in each way something falls -/
def Bdd (L : List Af) : Prop := ∀ w : Q2, w ≠ (0, 0) → ∃ l ∈ L, l.a * w.1 + l.b * w.2 < 0
end Dm
namespace Dm
open PySem PySem.Spec L2
/-- above 0 to the left of a side, the list moved by d -/
def sdF (d : Q2) (e : Edge) : Af := ⟨-((e.2.2 : Rat) - e.1.2), (e.2.1 : Rat) - e.1.1, ((e.2.2 : Rat) - e.1.2) * (d.1 + e.1.1) - ((e.2.1 : Rat) - e.1.1) * (d.2 + e.1.2)⟩
def mv (d : Q2) (p : P2) : Q2 := ((p.1 : Rat) + d.1, (p.2 : Rat) + d.2)
structure Cx2 (ps : List P2) : Prop where
  ge : 3 ≤ ps.length
  le : ps.length ≤ 5
  cv : ∀ e ∈ edges ps, ∀ c ∈ ps, c ≠ e.1 → c ≠ e.2 → 0 < crs e.1 e.2 c
  nd : ps.Nodup
def sds (d : Q2) (ps : List P2) : List Af := (edges ps).map (sdF d)
end Dm
namespace Dm
open PySem PySem.Spec L2
def dz : Q2 := (0, 0)
/-- the trial places: all corners of what they have in common -/
structure Trial (ps qs : List P2) (d : Q2) (T : List Q2) : Prop where
  within : ∀ x ∈ T, ∀ l ∈ sds dz ps ++ sds d qs, 0 ≤ l.at x
  ofP : ∀ p ∈ ps, (∀ l ∈ sds d qs, 0 ≤ l.at (mv dz p)) → mv dz p ∈ T
  ofQ : ∀ q ∈ qs, (∀ l ∈ sds dz ps, 0 ≤ l.at (mv d q)) → mv d q ∈ T
  ofX : ∀ e ∈ edges ps, ∀ f ∈ edges qs, (sdF dz e).a * (sdF d f).b - (sdF dz e).b * (sdF d f).a ≠ 0 → ∀ x : Q2, (sdF dz e).at x = 0 → (sdF d f).at x = 0 → (∀ l ∈ sds dz ps ++ sds d qs, 0 ≤ l.at x) → x ∈ T
theorem Bdd.left {L M : List Af} (h : Bdd L) : Bdd (L ++ M) := fun w hw => by
  obtain ⟨l, hl, q⟩ := h w hw
  exact ⟨l, List.mem_append_left _ hl, q⟩
end Dm
namespace Dm
open PySem PySem.Spec L2
local macro_rules | `(tactic| walk_at "st") => `(tactic| with_reducible refine ite_f (by with_unfolding_all rfl) ?_)
local macro_rules | `(tactic| walk_at "st") => `(tactic| with_reducible refine ite_t (by with_unfolding_all rfl) ?_)
local macro_rules | `(tactic| walk_at "st") => `(tactic| with_reducible refine wp_leS ?_)
local macro_rules | `(tactic| walk_at "st") => `(tactic| with_reducible refine wp_eqB ?_)
local macro_rules | `(tactic| walk_at "st") => `(tactic| with_reducible refine wp_partS ?_)
local macro_rules | `(tactic| walk_at "st") => `(tactic| with_reducible refine wp_partN ?_)
local macro_rules | `(tactic| walk_at "st") => `(tactic| with_reducible refine wp_lenOk ?_)
local macro_rules | `(tactic| walk_at "st") => `(tactic| with_reducible refine wp_eTup ?_)
local macro_rules | `(tactic| walk_at "st") => `(tactic| with_reducible refine wp_eFz ?_)
local macro_rules | `(tactic| walk_at "st") => `(tactic| with_reducible refine wp_itOwn (by with_unfolding_all rfl) ?_)
local macro_rules | `(tactic| walk_at "st") => `(tactic| with_reducible refine wp_tru (by with_unfolding_all rfl) ?_)
local macro_rules | `(tactic| walk_at "st") => `(tactic| with_reducible refine wp_itSeqL ?_)
local macro_rules | `(tactic| walk_at "st") => `(tactic| with_reducible refine wp_itR1 ?_)
local macro_rules | `(tactic| walk_at "st") => `(tactic| with_reducible refine wp_len (by with_unfolding_all first | exact asS_own rfl | exact asS_ref rfl | exact asS_sq | rfl) ?_)
local macro_rules | `(tactic| walk_at "st") => `(tactic| with_reducible refine wp_sFor ?_)
local macro_rules | `(tactic| walk_at "st") => `(tactic| with_reducible refine wp_sSetIx ?_)
local macro_rules | `(tactic| walk_at "st") => `(tactic| with_reducible refine wp_sPar ?_)
local macro_rules | `(tactic| walk_at "st") => `(tactic| with_reducible refine wp_sOwn ?_)
local macro_rules | `(tactic| walk_at "st") => `(tactic| with_reducible refine wp_sAsgT ?_)
local macro_rules | `(tactic| walk_at "st") => `(tactic| with_reducible refine wp_sAsg ?_)
local macro_rules | `(tactic| walk_at "st") => `(tactic| with_reducible refine wp_sExpr ?_)
local macro_rules | `(tactic| walk_at "st") => `(tactic| with_reducible refine wp_cont ?_)
local macro_rules | `(tactic| walk_at "st") => `(tactic| with_reducible refine wp_break ?_)
local macro_rules | `(tactic| walk_at "st") => `(tactic| with_reducible refine wp_nop ?_)
local macro_rules | `(tactic| walk_at "st") => `(tactic| with_reducible refine wp_gcd ?_)
local macro_rules | `(tactic| walk_at "st") => `(tactic| with_reducible refine wp_abs ?_)
local macro_rules | `(tactic| walk_at "st") => `(tactic| with_reducible refine wp_int1 ?_)
local macro_rules | `(tactic| walk_at "st") => `(tactic| with_reducible refine wp_finN ?_)
local macro_rules | `(tactic| walk_at "st") => `(tactic| with_reducible refine wp_finS ?_)
local macro_rules | `(tactic| walk_at "st") => `(tactic| with_reducible refine wp_finI ?_)
local macro_rules | `(tactic| walk_at "st") => `(tactic| with_reducible refine wp_finB ?_)
local macro_rules | `(tactic| walk_at "st") => `(tactic| with_reducible refine wp_isi2N (by with_unfolding_all rfl) (by with_unfolding_all rfl) ?_)
local macro_rules | `(tactic| walk_at "st") => `(tactic| with_reducible refine wp_isiN (by with_unfolding_all rfl) ?_)
local macro_rules | `(tactic| walk_at "st") => `(tactic| with_reducible refine wp_isiD2 ?_)
local macro_rules | `(tactic| walk_at "st") => `(tactic| with_reducible refine wp_isiD ?_)
local macro_rules | `(tactic| walk_at "st") => `(tactic| with_reducible refine wp_notIn ?_)
local macro_rules | `(tactic| walk_at "st") => `(tactic| with_reducible refine wp_ne ?_)
local macro_rules | `(tactic| walk_at "st") => `(tactic| with_reducible refine wp_eqI ?_)
local macro_rules | `(tactic| walk_at "st") => `(tactic| with_reducible refine wp_ge ?_)
local macro_rules | `(tactic| walk_at "st") => `(tactic| with_reducible refine wp_gt ?_)
local macro_rules | `(tactic| walk_at "st") => `(tactic| with_reducible refine wp_le ?_)
local macro_rules | `(tactic| walk_at "st") => `(tactic| with_reducible refine wp_lt ?_)
local macro_rules | `(tactic| walk_at "st") => `(tactic| with_reducible refine wp_neg ?_)
local macro_rules | `(tactic| walk_at "st") => `(tactic| with_reducible refine wp_sub ?_)
local macro_rules | `(tactic| walk_at "st") => `(tactic| with_reducible refine wp_add ?_)
local macro_rules | `(tactic| walk_at "st") => `(tactic| with_reducible refine wp_ixP1 ?_)
local macro_rules | `(tactic| walk_at "st") => `(tactic| with_reducible refine wp_ixP0 ?_)
local macro_rules | `(tactic| walk_at "st") => `(tactic| with_reducible refine ex_int ?_)
local macro_rules | `(tactic| walk_at "st") => `(tactic| with_reducible refine ex_bl ?_)
local macro_rules | `(tactic| walk_at "st") => `(tactic| with_reducible refine wp_vOr ?_)
local macro_rules | `(tactic| walk_at "st") => `(tactic| with_reducible refine wp_vAnd ?_)
local macro_rules | `(tactic| walk_at "st") => `(tactic| with_reducible refine wp_vNot ?_)
local macro_rules | `(tactic| walk_at "st") => `(tactic| with_reducible refine wp_mOr ?_)
local macro_rules | `(tactic| walk_at "st") => `(tactic| with_reducible refine wp_mAnd ?_)
local macro_rules | `(tactic| walk_at "st") => `(tactic| with_reducible refine wp_mNot ?_)
local macro_rules | `(tactic| walk_at "st") => `(tactic| with_reducible refine wp_eIf ?_)
local macro_rules | `(tactic| walk_at "st") => `(tactic| with_reducible refine wp_sIf ?_)
local macro_rules | `(tactic| walk_at "st") => `(tactic| with_reducible refine wp_asV ?_)
local macro_rules | `(tactic| walk_at "st") => `(tactic| with_reducible refine wp_chain3 ?_)
local macro_rules | `(tactic| walk_at "st") => `(tactic| with_reducible refine wp_cmp2 ?_)
local macro_rules | `(tactic| walk_at "st") => `(tactic| with_reducible refine wp_nil ?_)
local macro_rules | `(tactic| walk_at "st") => `(tactic| with_reducible refine wp_cons ?_)
local macro_rules | `(tactic| walk_at "st") => `(tactic| with_reducible refine wp_varO (by with_unfolding_all rfl) ?_)
local macro_rules | `(tactic| walk_at "st") => `(tactic| with_reducible refine wp_var (by with_unfolding_all rfl) ?_)
local macro_rules | `(tactic| walk_at "st") => `(tactic| with_reducible refine wp_ret ?_)
local macro_rules | `(tactic| walk_at "st") => `(tactic| with_reducible refine wp_bnd ?_)
local macro_rules | `(tactic| walk_at "st") => `(tactic| with_reducible refine wp_sRet ?_)
local macro_rules | `(tactic| walk_at "st") => `(tactic| with_reducible refine wp_seq ?_)
local macro_rules | `(tactic| walk_at "ev") => `(tactic| (repeat walk_at "st"))
local macro_rules | `(tactic| walk_at "nm") => `(tactic| (try dsimp only [List.map, List.append, List.cons_append, List.nil_append, List.replicate, Nat.reduceSub, List.set]))
def zs (n : Nat) (i : Int) : Prop := i.natAbs ≤ 2 ^ n
theorem zs.mono {n m : Nat} {i : Int} (h : zs n i) (k : n ≤ m) : zs m i := Nat.le_trans h (Nat.pow_le_pow_right (by decide) k)
theorem zs.mul {n m : Nat} {i j : Int} (h : zs n i) (k : zs m j) : zs (n + m) (i * j) := by
  unfold zs
  rw [Int.natAbs_mul, Nat.pow_add]
  exact Nat.mul_le_mul h k
theorem zs.add {n m : Nat} {i j : Int} (h : zs n i) (k : zs m j) : zs (max n m + 1) (i + j) := by
  have a := h.mono (Nat.le_max_left n m)
  have b := k.mono (Nat.le_max_right n m)
  unfold zs at a b ⊢
  rw [Nat.pow_succ]
  omega
theorem zs.neg {n : Nat} {i : Int} (h : zs n i) : zs n (-i) := by unfold zs at h ⊢; rwa [Int.natAbs_neg]
theorem zs.sub {n m : Nat} {i j : Int} (h : zs n i) (k : zs m j) : zs (max n m + 1) (i - j) := by
  rw [Int.sub_eq_add_neg]
  exact h.add k.neg
theorem zs.div {n : Nat} {i j : Int} (h : zs n i) (hj : j ∣ i) : zs n (i / j) := by
  unfold zs at h ⊢
  rw [Int.natAbs_ediv_of_dvd hj]
  exact Nat.le_trans (Nat.div_le_self ..) h
theorem zs_small {i : Int} (n : Nat) (b : Nat) (h : i.natAbs ≤ b) (hb : b ≤ 2 ^ n) : zs n i := Nat.le_trans h hb
/-- in lowest terms -/
def Frc (p : P2) : Prop := 0 < p.2 ∧ gcdI p.1 p.2 = 1
def qv (p : P2) : Rat := (p.1 : Rat) / (p.2 : Rat)
def red (t b : Int) : P2 := (t / gcdI t b, b / gcdI t b)
/-- top / bottom in lowest terms -/
def frac (t b : Int) : P2 := if b < 0 then red (-t) (-b) else red t b
theorem icast_ne {b : Int} (h : b ≠ 0) : ((b : Int) : Rat) ≠ 0 := fun q => h (by exact_mod_cast q)
theorem red_spec {t b : Int} (h : 0 < b) : Frc (red t b) ∧ qv (red t b) = (t : Rat) / (b : Rat) := by
  have hg : 0 < gcdI t b := gcdI_pos (.inr (by omega))
  obtain ⟨t', ht⟩ := gcdI_dvd_left t b
  obtain ⟨b', hb⟩ := gcdI_dvd_right t b
  have e1 : t / gcdI t b = t' := by
    conv => lhs; lhs; rw [ht]
    rw [Int.mul_ediv_cancel_left _ (by omega)]
  have e2 : b / gcdI t b = b' := by
    conv => lhs; lhs; rw [hb]
    rw [Int.mul_ediv_cancel_left _ (by omega)]
  have hb' : 0 < b' := by
    rcases Int.lt_trichotomy b' 0 with q | q | q
    · have := Int.mul_neg_of_pos_of_neg hg q
      omega
    · rw [q] at hb; simp at hb; omega
    · exact q
  unfold red
  rw [e1, e2]
  refine ⟨⟨hb', ?_⟩, ?_⟩
  · show gcdI t' b' = 1
    have hgn : gcdI t b = ((Nat.gcd t.natAbs b.natAbs : Nat) : Int) := rfl
    have k1 : t.natAbs = (gcdI t b).natAbs * t'.natAbs := by
      conv => lhs; rw [ht]
      rw [Int.natAbs_mul]
    have k2 : b.natAbs = (gcdI t b).natAbs * b'.natAbs := by
      conv => lhs; rw [hb]
      rw [Int.natAbs_mul]
    have k3 : (gcdI t b).natAbs = Nat.gcd t.natAbs b.natAbs := by rw [hgn]; rfl
    have k4 : Nat.gcd t.natAbs b.natAbs = (gcdI t b).natAbs * Nat.gcd t'.natAbs b'.natAbs := by
      conv => lhs; rw [k1, k2]
      rw [Nat.gcd_mul_left]
    rw [← k3] at k4
    have h0 : 0 < (gcdI t b).natAbs := by omega
    have : Nat.gcd t'.natAbs b'.natAbs = 1 := by
      have := Nat.eq_of_mul_eq_mul_left h0 (show (gcdI t b).natAbs * Nat.gcd t'.natAbs b'.natAbs = (gcdI t b).natAbs * 1 by omega)
      exact this
    unfold gcdI
    rw [this]
    rfl
  · have n1 := icast_ne (show b ≠ 0 by omega)
    have n2 := icast_ne (show b' ≠ 0 by omega)
    have n3 := icast_ne (show gcdI t b ≠ 0 by omega)
    have r1 : (t : Rat) = (gcdI t b : Int) * (t' : Int) := by exact_mod_cast ht
    have r2 : (b : Rat) = (gcdI t b : Int) * (b' : Int) := by exact_mod_cast hb
    show (t' : Rat) / (b' : Rat) = _
    grind
theorem frac_spec {t b : Int} (h : b ≠ 0) : Frc (frac t b) ∧ qv (frac t b) = (t : Rat) / (b : Rat) := by
  unfold frac
  by_cases hb : b < 0
  · rw [if_pos hb]
    obtain ⟨h1, h2⟩ := red_spec (t := -t) (show 0 < -b by omega)
    refine ⟨h1, h2.trans ?_⟩
    have n1 := icast_ne h
    rw [Rat.intCast_neg, Rat.intCast_neg]
    grind
  · rw [if_neg hb]
    exact red_spec (by omega)
theorem red_zs {t b : Int} {n m : Nat} (ht : zs n t) (hb : zs m b) : zs n (red t b).1 ∧ zs m (red t b).2 := ⟨ht.div (gcdI_dvd_left t b), hb.div (gcdI_dvd_right t b)⟩
theorem frac_zs {t b : Int} {n m : Nat} (ht : zs n t) (hb : zs m b) : zs n (frac t b).1 ∧ zs m (frac t b).2 := by
  unfold frac
  split
  · exact red_zs ht.neg hb.neg
  · exact red_zs ht hb
structure Fz (n c : Nat) (p : P2) : Prop where
  fr : Frc p
  b : zs n p.2
  t : zs (n + c) p.1
theorem Fz.mono {n c m e : Nat} {p : P2} (h : Fz n c p) (h1 : n ≤ m) (h2 : n + c ≤ m + e) : Fz m e p := ⟨h.fr, h.b.mono h1, h.t.mono h2⟩
theorem Fz.pos {n c : Nat} {p : P2} (h : Fz n c p) : 0 < p.2 := h.fr.1
theorem Fz.ne {n c : Nat} {p : P2} (h : Fz n c p) : p.2 ≠ 0 := by have := h.pos; omega
def byP (p : P2) (k : Int) : P2 := frac (p.1 * k) p.2
theorem Fz.by {n c k : Nat} {p : P2} {i : Int} (hp : Fz n c p) (hi : zs k i) : Fz n (c + k) (byP p i) := by
  obtain ⟨h1, h2⟩ := frac_zs (hp.t.mul hi) hp.b
  exact ⟨(frac_spec hp.ne).1, h2, h1.mono (by omega)⟩
theorem rg_diff {p q : P2} (h : rg 1000 p) (k : rg 1000 q) : zs 11 (p.1 - q.1) ∧ zs 11 (p.2 - q.2) := by
  unfold rg at h k
  exact ⟨zs_small 11 2000 (by omega) (by decide), zs_small 11 2000 (by omega) (by decide)⟩
end Dm
namespace Dm
open PySem PySem.Spec L2
def absLe (B : Nat) (q : Rat) : Prop := -(B : Rat) ≤ q ∧ q ≤ (B : Rat)
theorem Fz.absLe {n c : Nat} {p : P2} (h : Fz n c p) : absLe (2 ^ (n + c)) (qv p) := by
  have hb : (1 : Rat) ≤ (p.2 : Rat) := by exact_mod_cast (show (1 : Int) ≤ p.2 by have := h.pos; omega)
  have e1 : qv p * (p.2 : Rat) = (p.1 : Rat) := rdiv_mul (icast_ne h.ne)
  have ht := h.t
  unfold zs at ht
  generalize 2 ^ (n + c) = B at ht ⊢
  have t1 : -(B : Rat) ≤ (p.1 : Rat) := by
    have h : (((-(B : Int)) : Int) : Rat) ≤ (p.1 : Rat) := Rat.intCast_le_intCast.mpr (show -(B : Int) ≤ p.1 by omega)
    rw [Rat.intCast_neg, Rat.intCast_natCast] at h
    exact h
  have t2 : (p.1 : Rat) ≤ (B : Rat) := by exact_mod_cast (show p.1 ≤ (B : Int) by omega)
  have hB : (0 : Rat) ≤ (B : Rat) := by exact_mod_cast Nat.zero_le _
  constructor
  · apply Classical.byContradiction
    intro hn
    have a1 := Rat.mul_nonneg (show 0 ≤ -(B : Rat) - qv p by grind) (show 0 ≤ (p.2 : Rat) - 1 by grind)
    have a2 := Rat.mul_nonneg hB (show 0 ≤ (p.2 : Rat) - 1 by grind)
    grind
  · apply Classical.byContradiction
    intro hn
    have a1 := Rat.mul_nonneg (show 0 ≤ qv p - (B : Rat) by grind) (show 0 ≤ (p.2 : Rat) - 1 by grind)
    have a2 := Rat.mul_nonneg hB (show 0 ≤ (p.2 : Rat) - 1 by grind)
    grind
/-- a value with a denominator D * M -/
def Dn (D : Int) (m : Nat) (q : Rat) : Prop := ∃ M t : Int, 0 < M ∧ zs m M ∧ q * ((D : Rat) * (M : Rat)) = (t : Rat)
def crossE (e f : Edge) : Int := (e.2.1 - e.1.1) * (f.2.2 - f.1.2) - (e.2.2 - e.1.2) * (f.2.1 - f.1.1)
structure ExOk (e : Edge) : Prop where
  a : rg 1000 e.1
  b : rg 1000 e.2
theorem ExOk.d1 {e : Edge} (h : ExOk e) : zs 11 (e.2.1 - e.1.1) := (rg_diff h.b h.a).1
theorem ExOk.d2 {e : Edge} (h : ExOk e) : zs 11 (e.2.2 - e.1.2) := (rg_diff h.b h.a).2
section
variable {e f : Edge} {x y : P2} (he : ExOk e) (hf : ExOk f) (hx : Fz 20 6 x) (hy : Fz 52 14 y)
include he hf hx hy
variable (hc : crossE e f ≠ 0)
include hc
end
end Dm
namespace Dm
open PySem PySem.Spec L2
def qu (u : P2 × P2) : Q2 := (qv u.1, qv u.2)
/-- a trial place: small, within both, with a small bottom -/
structure PlOk (ps qs : List P2) (x y : P2) (u : P2 × P2) : Prop where
  f1 : Fz 95 17 u.1
  f2 : Fz 95 17 u.2
  inn : ∀ l ∈ sds dz ps ++ sds (qv x, qv y) qs, 0 ≤ l.at (qu u)
  d1 : Dn (x.2 * y.2) 23 (qv u.1)
  d2 : Dn (x.2 * y.2) 23 (qv u.2)
section
variable {x y : P2} (hx : Fz 20 6 x) (hy : Fz 52 14 y)
include hx hy
end
/-- what has been looked at so far -/
structure Trd (ps qs : List P2) (x y : P2) (es : List (Edge × Edge)) (qd pd : List P2) (us : List (P2 × P2)) : Prop where
  ok : ∀ u ∈ us, PlOk ps qs x y u
  ofQ : ∀ q ∈ qd, (∀ l ∈ sds dz ps, 0 ≤ l.at (mv (qv x, qv y) q)) → mv (qv x, qv y) q ∈ us.map qu
  ofP : ∀ p ∈ pd, (∀ l ∈ sds (qv x, qv y) qs, 0 ≤ l.at (mv dz p)) → mv dz p ∈ us.map qu
  ofX : ∀ ef ∈ es, crossE ef.1 ef.2 ≠ 0 → ∀ X : Q2, (sdF dz ef.1).at X = 0 → (sdF (qv x, qv y) ef.2).at X = 0 → (∀ l ∈ sds dz ps ++ sds (qv x, qv y) qs, 0 ≤ l.at X) → X ∈ us.map qu
structure Acc (D : Int) (k : Nat) (q : Rat) (p : P2) : Prop where
  fr : Frc p
  v : qv p = q
  dn : Dn D (23 * k) q
  le : absLe (k * 2 ^ 112) q
end Dm
namespace Dm
open PySem PySem.Spec L2
local macro_rules | `(tactic| walk_at "st") => `(tactic| with_reducible refine ite_f (by with_unfolding_all rfl) ?_)
local macro_rules | `(tactic| walk_at "st") => `(tactic| with_reducible refine ite_t (by with_unfolding_all rfl) ?_)
local macro_rules | `(tactic| walk_at "st") => `(tactic| with_reducible refine wp_leS ?_)
local macro_rules | `(tactic| walk_at "st") => `(tactic| with_reducible refine wp_eqB ?_)
local macro_rules | `(tactic| walk_at "st") => `(tactic| with_reducible refine wp_partS ?_)
local macro_rules | `(tactic| walk_at "st") => `(tactic| with_reducible refine wp_partN ?_)
local macro_rules | `(tactic| walk_at "st") => `(tactic| with_reducible refine wp_lenOk ?_)
local macro_rules | `(tactic| walk_at "st") => `(tactic| with_reducible refine wp_eTup ?_)
local macro_rules | `(tactic| walk_at "st") => `(tactic| with_reducible refine wp_eFz ?_)
local macro_rules | `(tactic| walk_at "st") => `(tactic| with_reducible refine wp_itOwn (by with_unfolding_all rfl) ?_)
local macro_rules | `(tactic| walk_at "st") => `(tactic| with_reducible refine wp_tru (by with_unfolding_all rfl) ?_)
local macro_rules | `(tactic| walk_at "st") => `(tactic| with_reducible refine wp_itSeqL ?_)
local macro_rules | `(tactic| walk_at "st") => `(tactic| with_reducible refine wp_itR1 ?_)
local macro_rules | `(tactic| walk_at "st") => `(tactic| with_reducible refine wp_len (by with_unfolding_all first | exact asS_own rfl | exact asS_ref rfl | exact asS_sq | rfl) ?_)
local macro_rules | `(tactic| walk_at "st") => `(tactic| with_reducible refine wp_sFor ?_)
local macro_rules | `(tactic| walk_at "st") => `(tactic| with_reducible refine wp_sSetIx ?_)
local macro_rules | `(tactic| walk_at "st") => `(tactic| with_reducible refine wp_sPar ?_)
local macro_rules | `(tactic| walk_at "st") => `(tactic| with_reducible refine wp_sOwn ?_)
local macro_rules | `(tactic| walk_at "st") => `(tactic| with_reducible refine wp_sAsgT ?_)
local macro_rules | `(tactic| walk_at "st") => `(tactic| with_reducible refine wp_sAsg ?_)
local macro_rules | `(tactic| walk_at "st") => `(tactic| with_reducible refine wp_sExpr ?_)
local macro_rules | `(tactic| walk_at "st") => `(tactic| with_reducible refine wp_cont ?_)
local macro_rules | `(tactic| walk_at "st") => `(tactic| with_reducible refine wp_break ?_)
local macro_rules | `(tactic| walk_at "st") => `(tactic| with_reducible refine wp_nop ?_)
local macro_rules | `(tactic| walk_at "st") => `(tactic| with_reducible refine wp_gcd ?_)
local macro_rules | `(tactic| walk_at "st") => `(tactic| with_reducible refine wp_abs ?_)
local macro_rules | `(tactic| walk_at "st") => `(tactic| with_reducible refine wp_int1 ?_)
local macro_rules | `(tactic| walk_at "st") => `(tactic| with_reducible refine wp_finN ?_)
local macro_rules | `(tactic| walk_at "st") => `(tactic| with_reducible refine wp_finS ?_)
local macro_rules | `(tactic| walk_at "st") => `(tactic| with_reducible refine wp_finI ?_)
local macro_rules | `(tactic| walk_at "st") => `(tactic| with_reducible refine wp_finB ?_)
local macro_rules | `(tactic| walk_at "st") => `(tactic| with_reducible refine wp_isi2N (by with_unfolding_all rfl) (by with_unfolding_all rfl) ?_)
local macro_rules | `(tactic| walk_at "st") => `(tactic| with_reducible refine wp_isiN (by with_unfolding_all rfl) ?_)
local macro_rules | `(tactic| walk_at "st") => `(tactic| with_reducible refine wp_isiD2 ?_)
local macro_rules | `(tactic| walk_at "st") => `(tactic| with_reducible refine wp_isiD ?_)
local macro_rules | `(tactic| walk_at "st") => `(tactic| with_reducible refine wp_notIn ?_)
local macro_rules | `(tactic| walk_at "st") => `(tactic| with_reducible refine wp_ne ?_)
local macro_rules | `(tactic| walk_at "st") => `(tactic| with_reducible refine wp_eqI ?_)
local macro_rules | `(tactic| walk_at "st") => `(tactic| with_reducible refine wp_ge ?_)
local macro_rules | `(tactic| walk_at "st") => `(tactic| with_reducible refine wp_gt ?_)
local macro_rules | `(tactic| walk_at "st") => `(tactic| with_reducible refine wp_le ?_)
local macro_rules | `(tactic| walk_at "st") => `(tactic| with_reducible refine wp_lt ?_)
local macro_rules | `(tactic| walk_at "st") => `(tactic| with_reducible refine wp_neg ?_)
local macro_rules | `(tactic| walk_at "st") => `(tactic| with_reducible refine wp_sub ?_)
local macro_rules | `(tactic| walk_at "st") => `(tactic| with_reducible refine wp_add ?_)
local macro_rules | `(tactic| walk_at "st") => `(tactic| with_reducible refine wp_ixP1 ?_)
local macro_rules | `(tactic| walk_at "st") => `(tactic| with_reducible refine wp_ixP0 ?_)
local macro_rules | `(tactic| walk_at "st") => `(tactic| with_reducible refine ex_int ?_)
local macro_rules | `(tactic| walk_at "st") => `(tactic| with_reducible refine ex_bl ?_)
local macro_rules | `(tactic| walk_at "st") => `(tactic| with_reducible refine wp_vOr ?_)
local macro_rules | `(tactic| walk_at "st") => `(tactic| with_reducible refine wp_vAnd ?_)
local macro_rules | `(tactic| walk_at "st") => `(tactic| with_reducible refine wp_vNot ?_)
local macro_rules | `(tactic| walk_at "st") => `(tactic| with_reducible refine wp_mOr ?_)
local macro_rules | `(tactic| walk_at "st") => `(tactic| with_reducible refine wp_mAnd ?_)
local macro_rules | `(tactic| walk_at "st") => `(tactic| with_reducible refine wp_mNot ?_)
local macro_rules | `(tactic| walk_at "st") => `(tactic| with_reducible refine wp_eIf ?_)
local macro_rules | `(tactic| walk_at "st") => `(tactic| with_reducible refine wp_sIf ?_)
local macro_rules | `(tactic| walk_at "st") => `(tactic| with_reducible refine wp_asV ?_)
local macro_rules | `(tactic| walk_at "st") => `(tactic| with_reducible refine wp_chain3 ?_)
local macro_rules | `(tactic| walk_at "st") => `(tactic| with_reducible refine wp_cmp2 ?_)
local macro_rules | `(tactic| walk_at "st") => `(tactic| with_reducible refine wp_nil ?_)
local macro_rules | `(tactic| walk_at "st") => `(tactic| with_reducible refine wp_cons ?_)
local macro_rules | `(tactic| walk_at "st") => `(tactic| with_reducible refine wp_varO (by with_unfolding_all rfl) ?_)
local macro_rules | `(tactic| walk_at "st") => `(tactic| with_reducible refine wp_var (by with_unfolding_all rfl) ?_)
local macro_rules | `(tactic| walk_at "st") => `(tactic| with_reducible refine wp_ret ?_)
local macro_rules | `(tactic| walk_at "st") => `(tactic| with_reducible refine wp_bnd ?_)
local macro_rules | `(tactic| walk_at "st") => `(tactic| with_reducible refine wp_sRet ?_)
local macro_rules | `(tactic| walk_at "st") => `(tactic| with_reducible refine wp_seq ?_)
local macro_rules | `(tactic| walk_at "ev") => `(tactic| (repeat walk_at "st"))
local macro_rules | `(tactic| walk_at "nm") => `(tactic| (try dsimp only [List.map, List.append, List.cons_append, List.nil_append, List.replicate, Nat.reduceSub, List.set]))
structure RowN (r : Row) : Prop where
  a : zs 7 r.1
  b : zs 7 r.2.1
  c : zs 14 r.2.2
/-- a drawn part -/
structure Dpt (ps : List P2) : Prop where
  cv : Cv ps
  nd : Nd ps
end Dm
namespace Dm
open PySem PySem.Spec L2
local macro_rules | `(tactic| walk_at "st") => `(tactic| with_reducible refine ite_f (by with_unfolding_all rfl) ?_)
local macro_rules | `(tactic| walk_at "st") => `(tactic| with_reducible refine ite_t (by with_unfolding_all rfl) ?_)
local macro_rules | `(tactic| walk_at "st") => `(tactic| with_reducible refine wp_leS ?_)
local macro_rules | `(tactic| walk_at "st") => `(tactic| with_reducible refine wp_eqB ?_)
local macro_rules | `(tactic| walk_at "st") => `(tactic| with_reducible refine wp_partS ?_)
local macro_rules | `(tactic| walk_at "st") => `(tactic| with_reducible refine wp_partN ?_)
local macro_rules | `(tactic| walk_at "st") => `(tactic| with_reducible refine wp_lenOk ?_)
local macro_rules | `(tactic| walk_at "st") => `(tactic| with_reducible refine wp_eTup ?_)
local macro_rules | `(tactic| walk_at "st") => `(tactic| with_reducible refine wp_eFz ?_)
local macro_rules | `(tactic| walk_at "st") => `(tactic| with_reducible refine wp_itOwn (by with_unfolding_all rfl) ?_)
local macro_rules | `(tactic| walk_at "st") => `(tactic| with_reducible refine wp_tru (by with_unfolding_all rfl) ?_)
local macro_rules | `(tactic| walk_at "st") => `(tactic| with_reducible refine wp_itSeqL ?_)
local macro_rules | `(tactic| walk_at "st") => `(tactic| with_reducible refine wp_itR1 ?_)
local macro_rules | `(tactic| walk_at "st") => `(tactic| with_reducible refine wp_len (by with_unfolding_all first | exact asS_own rfl | exact asS_ref rfl | exact asS_sq | rfl) ?_)
local macro_rules | `(tactic| walk_at "st") => `(tactic| with_reducible refine wp_sFor ?_)
local macro_rules | `(tactic| walk_at "st") => `(tactic| with_reducible refine wp_sSetIx ?_)
local macro_rules | `(tactic| walk_at "st") => `(tactic| with_reducible refine wp_sPar ?_)
local macro_rules | `(tactic| walk_at "st") => `(tactic| with_reducible refine wp_sOwn ?_)
local macro_rules | `(tactic| walk_at "st") => `(tactic| with_reducible refine wp_sAsgT ?_)
local macro_rules | `(tactic| walk_at "st") => `(tactic| with_reducible refine wp_sAsg ?_)
local macro_rules | `(tactic| walk_at "st") => `(tactic| with_reducible refine wp_sExpr ?_)
local macro_rules | `(tactic| walk_at "st") => `(tactic| with_reducible refine wp_cont ?_)
local macro_rules | `(tactic| walk_at "st") => `(tactic| with_reducible refine wp_break ?_)
local macro_rules | `(tactic| walk_at "st") => `(tactic| with_reducible refine wp_nop ?_)
local macro_rules | `(tactic| walk_at "st") => `(tactic| with_reducible refine wp_gcd ?_)
local macro_rules | `(tactic| walk_at "st") => `(tactic| with_reducible refine wp_abs ?_)
local macro_rules | `(tactic| walk_at "st") => `(tactic| with_reducible refine wp_int1 ?_)
local macro_rules | `(tactic| walk_at "st") => `(tactic| with_reducible refine wp_finN ?_)
local macro_rules | `(tactic| walk_at "st") => `(tactic| with_reducible refine wp_finS ?_)
local macro_rules | `(tactic| walk_at "st") => `(tactic| with_reducible refine wp_finI ?_)
local macro_rules | `(tactic| walk_at "st") => `(tactic| with_reducible refine wp_finB ?_)
local macro_rules | `(tactic| walk_at "st") => `(tactic| with_reducible refine wp_isi2N (by with_unfolding_all rfl) (by with_unfolding_all rfl) ?_)
local macro_rules | `(tactic| walk_at "st") => `(tactic| with_reducible refine wp_isiN (by with_unfolding_all rfl) ?_)
local macro_rules | `(tactic| walk_at "st") => `(tactic| with_reducible refine wp_isiD2 ?_)
local macro_rules | `(tactic| walk_at "st") => `(tactic| with_reducible refine wp_isiD ?_)
local macro_rules | `(tactic| walk_at "st") => `(tactic| with_reducible refine wp_notIn ?_)
local macro_rules | `(tactic| walk_at "st") => `(tactic| with_reducible refine wp_ne ?_)
local macro_rules | `(tactic| walk_at "st") => `(tactic| with_reducible refine wp_eqI ?_)
local macro_rules | `(tactic| walk_at "st") => `(tactic| with_reducible refine wp_ge ?_)
local macro_rules | `(tactic| walk_at "st") => `(tactic| with_reducible refine wp_gt ?_)
local macro_rules | `(tactic| walk_at "st") => `(tactic| with_reducible refine wp_le ?_)
local macro_rules | `(tactic| walk_at "st") => `(tactic| with_reducible refine wp_lt ?_)
local macro_rules | `(tactic| walk_at "st") => `(tactic| with_reducible refine wp_neg ?_)
local macro_rules | `(tactic| walk_at "st") => `(tactic| with_reducible refine wp_sub ?_)
local macro_rules | `(tactic| walk_at "st") => `(tactic| with_reducible refine wp_add ?_)
local macro_rules | `(tactic| walk_at "st") => `(tactic| with_reducible refine wp_ixP1 ?_)
local macro_rules | `(tactic| walk_at "st") => `(tactic| with_reducible refine wp_ixP0 ?_)
local macro_rules | `(tactic| walk_at "st") => `(tactic| with_reducible refine ex_int ?_)
local macro_rules | `(tactic| walk_at "st") => `(tactic| with_reducible refine ex_bl ?_)
local macro_rules | `(tactic| walk_at "st") => `(tactic| with_reducible refine wp_vOr ?_)
local macro_rules | `(tactic| walk_at "st") => `(tactic| with_reducible refine wp_vAnd ?_)
local macro_rules | `(tactic| walk_at "st") => `(tactic| with_reducible refine wp_vNot ?_)
local macro_rules | `(tactic| walk_at "st") => `(tactic| with_reducible refine wp_mOr ?_)
local macro_rules | `(tactic| walk_at "st") => `(tactic| with_reducible refine wp_mAnd ?_)
local macro_rules | `(tactic| walk_at "st") => `(tactic| with_reducible refine wp_mNot ?_)
local macro_rules | `(tactic| walk_at "st") => `(tactic| with_reducible refine wp_eIf ?_)
local macro_rules | `(tactic| walk_at "st") => `(tactic| with_reducible refine wp_sIf ?_)
local macro_rules | `(tactic| walk_at "st") => `(tactic| with_reducible refine wp_asV ?_)
local macro_rules | `(tactic| walk_at "st") => `(tactic| with_reducible refine wp_chain3 ?_)
local macro_rules | `(tactic| walk_at "st") => `(tactic| with_reducible refine wp_cmp2 ?_)
local macro_rules | `(tactic| walk_at "st") => `(tactic| with_reducible refine wp_nil ?_)
local macro_rules | `(tactic| walk_at "st") => `(tactic| with_reducible refine wp_cons ?_)
local macro_rules | `(tactic| walk_at "st") => `(tactic| with_reducible refine wp_varO (by with_unfolding_all rfl) ?_)
local macro_rules | `(tactic| walk_at "st") => `(tactic| with_reducible refine wp_var (by with_unfolding_all rfl) ?_)
local macro_rules | `(tactic| walk_at "st") => `(tactic| with_reducible refine wp_ret ?_)
local macro_rules | `(tactic| walk_at "st") => `(tactic| with_reducible refine wp_bnd ?_)
local macro_rules | `(tactic| walk_at "st") => `(tactic| with_reducible refine wp_sRet ?_)
local macro_rules | `(tactic| walk_at "st") => `(tactic| with_reducible refine wp_seq ?_)
local macro_rules | `(tactic| walk_at "ev") => `(tactic| (repeat walk_at "st"))
local macro_rules | `(tactic| walk_at "nm") => `(tactic| (try dsimp only [List.map, List.append, List.cons_append, List.nil_append, List.replicate, Nat.reduceSub, List.set]))
theorem at_mem0 {xs : List D} {r : Int} (h0 : 0 ≤ r) (h1 : r < xs.length) : ∃ e, atI xs r = some e ∧ e ∈ xs := by
  have hl : r.toNat < xs.length := by omega
  exact ⟨xs[r.toNat], atI_nonneg h0 (List.getElem?_eq_getElem hl), List.getElem_mem hl⟩
section
variable {E : Ex → Sd → Prop} {s : Sd}
theorem wp_mkEx {C : Nat} {f : Str} {ms : M (List D)} {Q : D → Sd → Prop} (h : wp ms E (fun ds s1 => ∃ d, ds = [d] ∧ d.noOwn = true ∧ Q (.ref (s1.S.length + 1)) ⟨s1.σ, s1.S ++ [.xd [(f, d)]] ++ [.exc C (some s1.S.length)]⟩) s) : wp (mkExM C f ms) E Q s :=
  wp_bnd (h.mono fun ds s1 q => by
    obtain ⟨d, rfl, hn, q⟩ := q
    refine wp_of (a := .ref (s1.S.length + 1)) (s' := ⟨s1.σ, s1.S ++ [.xd [(f, d)]] ++ [.exc C (some s1.S.length)]⟩) ?_ q
    exact if_pos hn)
theorem wp_mkExN {C : Nat} {f : Str} {ms : M (List D)} {Q : D → Sd → Prop} (n m : Nat) (h : wp ms E (fun ds s1 => ∃ d, ds = [d] ∧ d.noOwn = true ∧ s1.S.length = n ∧ n + 1 = m ∧ Q (.ref m) ⟨s1.σ, s1.S ++ [.xd [(f, d)], .exc C (some n)]⟩) s) : wp (mkExM C f ms) E Q s :=
  wp_mkEx (h.mono fun ds s1 q => by
    obtain ⟨d, e, hn, rfl, rfl, q⟩ := q
    refine ⟨d, e, hn, ?_⟩
    rw [List.append_assoc]
    exact q)
theorem wp_mkEx0 {C : Nat} {Q : D → Sd → Prop} (q : Q (.ref s.S.length) ⟨s.σ, s.S ++ [.exc C none]⟩) : wp (mkEx0 C) E Q s := wp_of (a := .ref s.S.length) (s' := ⟨s.σ, s.S ++ [.exc C none]⟩) (by unfold mkEx0 newM; exact if_pos rfl) q
theorem wp_xf {cs : List Nat} {f : Str} {mo : M D} {Q : D → Sd → Prop} (h : wp mo E (fun d s1 => ∃ n C m fds x, d = .ref n ∧ s1.S[n]? = some (.exc C (some m)) ∧ cs.contains C = true ∧ s1.S[m]? = some (.xd fds) ∧ fds.lookup f = some x ∧ Q x s1) s) : wp (eXf cs f mo) E Q s :=
  wp_bnd (h.mono fun d s1 q => by
    obtain ⟨n, C, m, fds, x, rfl, e1, hc, e2, hl, q⟩ := q
    refine wp_of (a := x) (s' := s1) ?_ q
    unfold xfM
    simp only [e1, hc, if_true, e2, hl])
/-- an error of the class C stands at n -/
def exAt (S : List Ob) (n C : Nat) : Prop := S[n]? = some (.exc C none) ∨ ∃ m fds, S[n]? = some (.exc C (some m)) ∧ S[m]? = some (.xd fds)
theorem wp_isX {k : Nat → Option Bool} {mo : M D} {Q : Bool → Sd → Prop} (h : wp mo E (fun d s1 => ∃ n C b, d = .ref n ∧ exAt s1.S n C ∧ k C = some b ∧ Q b s1) s) : wp (eIsX k mo) E Q s :=
  wp_bnd (h.mono fun d s1 q => by
    obtain ⟨n, C, b, rfl, e1, hk, q⟩ := q
    refine wp_of (a := b) (s' := s1) ?_ q
    unfold isxM
    rcases e1 with e1 | ⟨m, fds, e1, e2⟩
    · simp only [e1, hk]
    · simp only [e1, e2, hk])
theorem wp_tryIs {cs : List Nat} {i : Nat} {k : Nat → Option Bool} {mb : SM} {Q : Out → Sd → Prop} (h : wp mb (fun e s' => cs.contains e.cls = true ∧ i < s'.σ.length ∧ ∃ b, k e.cls = some b ∧ Q (.rt (.bl b)) s') Q s) : wp (sTryIs cs i k mb) E Q s := by
  unfold wp at h ⊢
  unfold sTryIs
  cases hm : mb s with
  | none => rw [hm] at h; exact h
  | some r =>
    cases r with
    | ok o s1 => rw [hm] at h; exact h
    | ex e s1 =>
      rw [hm] at h
      obtain ⟨h1, h2, b, hb, q⟩ := h
      simp only [h1, h2, and_self, if_true, hb]
      exact q
theorem wp_raise00 {C : Nat} {f : Str} {m : M D} {Q : Out → Sd → Prop} (h : wp m E (fun d s' => d.noOwn = true ∧ E ⟨C, [(f, d)]⟩ s') s) : wp (sRaise C f m) E Q s := by
  refine wp_bnd (h.mono fun d s' h => ?_)
  unfold wp
  simp only [h.1, if_true]
  exact h.2
theorem wp_raise0 {C : Nat} {Q : Out → Sd → Prop} (h : E ⟨C, []⟩ s) : wp (sRaise0 C) E Q s := h
end
theorem g_caught (at_ : Int) (S : List Ob) : f__law_caught [.int at_] S = some (.ok (.bl (decide (at_ ≠ 0))) S) := by
  refine FnS.eq (fn_wp rfl ?_)
  unfold m__law_caught
  walk_at "nm"
  refine wp_tryIs ?_
  walk_at "ev"
  refine ie_ (fun h => ?_) (fun h => ?_)
  · refine wp_raise0 ?_
    refine ⟨by decide, by simp, false, rfl, ?_, rfl⟩
    rw [h]; rfl
  · walk_at "ev"
    refine wp_raise00 ?_
    walk_at "ev"
    refine ⟨rfl, rfl, by simp, true, rfl, ?_, rfl⟩
    rw [decide_eq_true h]
def ofL (C : Nat) : List D := (List.range 6).map fun k => .bl (decide (C = k))
theorem g_of {n C : Nat} (S : List Ob) (hC : C < 6) (h : exAt S n C) : f__law_of [.ref n] S = some (.ok (.lst (ofL C)) S) := by
  have hk : ∀ T, isO T C = some (decide (C = T)) := fun T => if_pos hC
  refine FnS.eq (fn_wp rfl ?_)
  unfold m__law_of
  walk_at "nm"
  walk_at "ev"
  refine wp_isX ?_
  walk_at "ev"
  refine ⟨n, C, _, rfl, h, hk 0, ?_⟩
  walk_at "ev"
  refine wp_isX ?_
  walk_at "ev"
  refine ⟨n, C, _, rfl, h, hk 1, ?_⟩
  walk_at "ev"
  refine wp_isX ?_
  walk_at "ev"
  refine ⟨n, C, _, rfl, h, hk 2, ?_⟩
  walk_at "ev"
  refine ⟨by show 3 ≤ 100000; omega, rfl, ?_⟩
  walk_at "nm"
  walk_at "ev"
  refine wp_isX ?_
  walk_at "ev"
  refine ⟨n, C, _, rfl, h, hk 3, ?_⟩
  walk_at "ev"
  refine wp_isX ?_
  walk_at "ev"
  refine ⟨n, C, _, rfl, h, hk 4, ?_⟩
  walk_at "ev"
  refine wp_isX ?_
  walk_at "ev"
  refine ⟨n, C, _, rfl, h, hk 5, ?_⟩
  walk_at "ev"
  refine ⟨by show 3 ≤ 100000; omega, ?_⟩
  refine wp_catN (xs := [.bl (decide (C = 0)), .bl (decide (C = 1)), .bl (decide (C = 2))]) (ys := [.bl (decide (C = 3)), .bl (decide (C = 4)), .bl (decide (C = 5))]) rfl rfl (by show 3 + 3 ≤ 100000; omega) ?_
  walk_at "ev"
  exact ⟨rfl, rfl⟩
theorem g_foreign {n C : Nat} (S : List Ob) (hC : C < 6) (h : exAt S n C) : f__law_foreign [.ref n] S = some (.ok (.bl false) S) := by
  have hk : ∀ b, isA b C = some b := fun T => if_pos hC
  refine FnS.eq (fn_wp rfl ?_)
  unfold m__law_foreign
  walk_at "nm"
  walk_at "ev"
  refine wp_isX ?_
  walk_at "ev"
  refine ⟨n, C, _, rfl, h, hk false, ?_⟩
  walk_at "ev"
  refine wp_isX ?_
  walk_at "ev"
  refine ⟨n, C, _, rfl, h, hk false, ?_⟩
  walk_at "ev"
  refine wp_isX ?_
  walk_at "ev"
  refine ⟨n, C, _, rfl, h, hk false, ?_⟩
  walk_at "ev"
  refine wp_isX ?_
  walk_at "ev"
  refine ⟨n, C, _, rfl, h, hk true, ?_⟩
  walk_at "ev"
  exact ⟨rfl, rfl⟩
end Dm
namespace Dm
open PySem PySem.Spec L2
local macro_rules | `(tactic| walk_at "st") => `(tactic| with_reducible refine ite_f (by with_unfolding_all rfl) ?_)
local macro_rules | `(tactic| walk_at "st") => `(tactic| with_reducible refine ite_t (by with_unfolding_all rfl) ?_)
local macro_rules | `(tactic| walk_at "st") => `(tactic| with_reducible refine wp_leS ?_)
local macro_rules | `(tactic| walk_at "st") => `(tactic| with_reducible refine wp_eqB ?_)
local macro_rules | `(tactic| walk_at "st") => `(tactic| with_reducible refine wp_partS ?_)
local macro_rules | `(tactic| walk_at "st") => `(tactic| with_reducible refine wp_partN ?_)
local macro_rules | `(tactic| walk_at "st") => `(tactic| with_reducible refine wp_lenOk ?_)
local macro_rules | `(tactic| walk_at "st") => `(tactic| with_reducible refine wp_eTup ?_)
local macro_rules | `(tactic| walk_at "st") => `(tactic| with_reducible refine wp_eFz ?_)
local macro_rules | `(tactic| walk_at "st") => `(tactic| with_reducible refine wp_itOwn (by with_unfolding_all rfl) ?_)
local macro_rules | `(tactic| walk_at "st") => `(tactic| with_reducible refine wp_tru (by with_unfolding_all rfl) ?_)
local macro_rules | `(tactic| walk_at "st") => `(tactic| with_reducible refine wp_itSeqL ?_)
local macro_rules | `(tactic| walk_at "st") => `(tactic| with_reducible refine wp_itR1 ?_)
local macro_rules | `(tactic| walk_at "st") => `(tactic| with_reducible refine wp_len (by with_unfolding_all first | exact asS_own rfl | exact asS_ref rfl | exact asS_sq | rfl) ?_)
local macro_rules | `(tactic| walk_at "st") => `(tactic| with_reducible refine wp_sFor ?_)
local macro_rules | `(tactic| walk_at "st") => `(tactic| with_reducible refine wp_sSetIx ?_)
local macro_rules | `(tactic| walk_at "st") => `(tactic| with_reducible refine wp_sPar ?_)
local macro_rules | `(tactic| walk_at "st") => `(tactic| with_reducible refine wp_sOwn ?_)
local macro_rules | `(tactic| walk_at "st") => `(tactic| with_reducible refine wp_sAsgT ?_)
local macro_rules | `(tactic| walk_at "st") => `(tactic| with_reducible refine wp_sAsg ?_)
local macro_rules | `(tactic| walk_at "st") => `(tactic| with_reducible refine wp_sExpr ?_)
local macro_rules | `(tactic| walk_at "st") => `(tactic| with_reducible refine wp_cont ?_)
local macro_rules | `(tactic| walk_at "st") => `(tactic| with_reducible refine wp_break ?_)
local macro_rules | `(tactic| walk_at "st") => `(tactic| with_reducible refine wp_nop ?_)
local macro_rules | `(tactic| walk_at "st") => `(tactic| with_reducible refine wp_gcd ?_)
local macro_rules | `(tactic| walk_at "st") => `(tactic| with_reducible refine wp_abs ?_)
local macro_rules | `(tactic| walk_at "st") => `(tactic| with_reducible refine wp_int1 ?_)
local macro_rules | `(tactic| walk_at "st") => `(tactic| with_reducible refine wp_finN ?_)
local macro_rules | `(tactic| walk_at "st") => `(tactic| with_reducible refine wp_finS ?_)
local macro_rules | `(tactic| walk_at "st") => `(tactic| with_reducible refine wp_finI ?_)
local macro_rules | `(tactic| walk_at "st") => `(tactic| with_reducible refine wp_finB ?_)
local macro_rules | `(tactic| walk_at "st") => `(tactic| with_reducible refine wp_isi2N (by with_unfolding_all rfl) (by with_unfolding_all rfl) ?_)
local macro_rules | `(tactic| walk_at "st") => `(tactic| with_reducible refine wp_isiN (by with_unfolding_all rfl) ?_)
local macro_rules | `(tactic| walk_at "st") => `(tactic| with_reducible refine wp_isiD2 ?_)
local macro_rules | `(tactic| walk_at "st") => `(tactic| with_reducible refine wp_isiD ?_)
local macro_rules | `(tactic| walk_at "st") => `(tactic| with_reducible refine wp_notIn ?_)
local macro_rules | `(tactic| walk_at "st") => `(tactic| with_reducible refine wp_ne ?_)
local macro_rules | `(tactic| walk_at "st") => `(tactic| with_reducible refine wp_eqI ?_)
local macro_rules | `(tactic| walk_at "st") => `(tactic| with_reducible refine wp_ge ?_)
local macro_rules | `(tactic| walk_at "st") => `(tactic| with_reducible refine wp_gt ?_)
local macro_rules | `(tactic| walk_at "st") => `(tactic| with_reducible refine wp_le ?_)
local macro_rules | `(tactic| walk_at "st") => `(tactic| with_reducible refine wp_lt ?_)
local macro_rules | `(tactic| walk_at "st") => `(tactic| with_reducible refine wp_neg ?_)
local macro_rules | `(tactic| walk_at "st") => `(tactic| with_reducible refine wp_sub ?_)
local macro_rules | `(tactic| walk_at "st") => `(tactic| with_reducible refine wp_add ?_)
local macro_rules | `(tactic| walk_at "st") => `(tactic| with_reducible refine wp_ixP1 ?_)
local macro_rules | `(tactic| walk_at "st") => `(tactic| with_reducible refine wp_ixP0 ?_)
local macro_rules | `(tactic| walk_at "st") => `(tactic| with_reducible refine ex_int ?_)
local macro_rules | `(tactic| walk_at "st") => `(tactic| with_reducible refine ex_bl ?_)
local macro_rules | `(tactic| walk_at "st") => `(tactic| with_reducible refine wp_vOr ?_)
local macro_rules | `(tactic| walk_at "st") => `(tactic| with_reducible refine wp_vAnd ?_)
local macro_rules | `(tactic| walk_at "st") => `(tactic| with_reducible refine wp_vNot ?_)
local macro_rules | `(tactic| walk_at "st") => `(tactic| with_reducible refine wp_mOr ?_)
local macro_rules | `(tactic| walk_at "st") => `(tactic| with_reducible refine wp_mAnd ?_)
local macro_rules | `(tactic| walk_at "st") => `(tactic| with_reducible refine wp_mNot ?_)
local macro_rules | `(tactic| walk_at "st") => `(tactic| with_reducible refine wp_eIf ?_)
local macro_rules | `(tactic| walk_at "st") => `(tactic| with_reducible refine wp_sIf ?_)
local macro_rules | `(tactic| walk_at "st") => `(tactic| with_reducible refine wp_asV ?_)
local macro_rules | `(tactic| walk_at "st") => `(tactic| with_reducible refine wp_chain3 ?_)
local macro_rules | `(tactic| walk_at "st") => `(tactic| with_reducible refine wp_cmp2 ?_)
local macro_rules | `(tactic| walk_at "st") => `(tactic| with_reducible refine wp_nil ?_)
local macro_rules | `(tactic| walk_at "st") => `(tactic| with_reducible refine wp_cons ?_)
local macro_rules | `(tactic| walk_at "st") => `(tactic| with_reducible refine wp_varO (by with_unfolding_all rfl) ?_)
local macro_rules | `(tactic| walk_at "st") => `(tactic| with_reducible refine wp_var (by with_unfolding_all rfl) ?_)
local macro_rules | `(tactic| walk_at "st") => `(tactic| with_reducible refine wp_ret ?_)
local macro_rules | `(tactic| walk_at "st") => `(tactic| with_reducible refine wp_bnd ?_)
local macro_rules | `(tactic| walk_at "st") => `(tactic| with_reducible refine wp_sRet ?_)
local macro_rules | `(tactic| walk_at "st") => `(tactic| with_reducible refine wp_seq ?_)
local macro_rules | `(tactic| walk_at "ev") => `(tactic| (repeat walk_at "st"))
local macro_rules | `(tactic| walk_at "nm") => `(tactic| (try dsimp only [List.map, List.append, List.cons_append, List.nil_append, List.replicate, Nat.reduceSub, List.set]))
theorem wp_eqS0 {α : Type} {m : M α} {E : Ex → Sd → Prop} {Q : α → Sd → Prop} {σ : List (Option SV)} {S S' : List Ob} (e : S = S') (h : wp m E Q ⟨σ, S'⟩) : wp m E Q ⟨σ, S⟩ := by rw [e]; exact h
theorem wp_forE {g : TgM} {body : SM} {ds ds' : List D} {E : Ex → Sd → Prop} {Q : Out → Sd → Prop} {s : Sd} (e : ds = ds') (h : wp (forD g body ds') E Q s) : wp (forD g body ds) E Q s := by rw [e]; exact h
def e1S (n a : Int) : List Ob := [.lst [.int n], .xd [("at", .int a)], .exc 0 (some 1), .xd [("at", .int a)], .exc 1 (some 3), .xd [("at", .int a)], .exc 2 (some 5), .xd [("at", .int a)], .exc 0 (some 7), .xd [("at", .int a)], .exc 1 (some 9), .xd [("at", .int a)], .exc 2 (some 11)]
def e2S (n a : Int) (v : D) : List Ob := [.lst [.int n], .xd [("at", .int a)], .exc 0 (some 1), .xd [("at", .int a)], .exc 1 (some 3), .xd [("at", .int a)], .exc 2 (some 5), .xd [("at", .int a)], .exc 0 (some 7), .xd [("at", .int a)], .exc 1 (some 9), .xd [("at", .int a)], .exc 2 (some 11), .xd [("name", v)], .exc 3 (some 13), .xd [("name", v)], .exc 4 (some 15), .xd [("name", v)], .exc 3 (some 17), .xd [("name", v)], .exc 4 (some 19)]
def e3S (n a : Int) (v : D) : List Ob := [.lst [.int n], .xd [("at", .int a)], .exc 0 (some 1), .xd [("at", .int a)], .exc 1 (some 3), .xd [("at", .int a)], .exc 2 (some 5), .xd [("at", .int a)], .exc 0 (some 7), .xd [("at", .int a)], .exc 1 (some 9), .xd [("at", .int a)], .exc 2 (some 11), .xd [("name", v)], .exc 3 (some 13), .xd [("name", v)], .exc 4 (some 15), .xd [("name", v)], .exc 3 (some 17), .xd [("name", v)], .exc 4 (some 19), .xd [("at", .int a)], .exc 0 (some 21), .xd [("at", .int a)], .exc 1 (some 23), .xd [("at", .int a)], .exc 2 (some 25), .xd [("name", v)], .exc 3 (some 27), .xd [("name", v)], .exc 4 (some 29), .exc 5 none]
theorem e1_at (n a : Int) : ∀ k ∈ [2, 4, 6, 8, 10, 12], ∃ C m, (e1S n a)[k]? = some (.exc C (some m)) ∧ [0, 1, 2].contains C = true ∧ (e1S n a)[m]? = some (.xd [("at", .int a)]) := by
  intro k hk
  simp only [List.mem_cons, List.not_mem_nil, or_false] at hk
  rcases hk with rfl | rfl | rfl | rfl | rfl | rfl <;> exact ⟨_, _, rfl, rfl, rfl⟩
theorem e2_at (n a : Int) (v : D) : ∀ k ∈ [14, 16, 18, 20], ∃ C m, (e2S n a v)[k]? = some (.exc C (some m)) ∧ [3, 4].contains C = true ∧ (e2S n a v)[m]? = some (.xd [("name", v)]) := by
  intro k hk
  simp only [List.mem_cons, List.not_mem_nil, or_false] at hk
  rcases hk with rfl | rfl | rfl | rfl <;> exact ⟨_, _, rfl, rfl, rfl⟩
def evL : List Nat := [22, 24, 26, 28, 30, 31]
theorem e3_at (n a : Int) (v : D) : ∀ k (h : k < 6), ∃ m, (evL.map D.ref)[k]? = some (.ref m) ∧ exAt (e3S n a v) m k := by
  intro k hk
  rcases (show k = 0 ∨ k = 1 ∨ k = 2 ∨ k = 3 ∨ k = 4 ∨ k = 5 by omega) with rfl | rfl | rfl | rfl | rfl | rfl
  · exact ⟨22, rfl, .inr ⟨21, _, rfl, rfl⟩⟩
  · exact ⟨24, rfl, .inr ⟨23, _, rfl, rfl⟩⟩
  · exact ⟨26, rfl, .inr ⟨25, _, rfl, rfl⟩⟩
  · exact ⟨28, rfl, .inr ⟨27, _, rfl, rfl⟩⟩
  · exact ⟨30, rfl, .inr ⟨29, _, rfl, rfl⟩⟩
  · exact ⟨31, rfl, .inl rfl⟩
theorem of_eq (k : Nat) (hk : k < 6) (s : Sd) : eqM (.lst (ofL k)) (.lst ((List.range 6).map fun j : Nat => D.bl (decide ((j : Int) = (k : Int))))) s = some (.ok true s) := by
  rcases (show k = 0 ∨ k = 1 ∨ k = 2 ∨ k = 3 ∨ k = 4 ∨ k = 5 by omega) with rfl | rfl | rfl | rfl | rfl | rfl <;> kernel_rfl
theorem p_law_k00 (ns : List Int) (hns : ns.length ≤ 63) : ∃ S', f_law_k00 [.lst (ns.map D.int)] [] = some (.ok (.bl true) S') := by
  have key : FnS f_law_k00 [.lst (ns.map D.int)] [] fun d S' => d = .bl true := by
    refine fn_wp rfl ?_
    unfold m_law_k00
    walk_at "nm"
    walk_at "ev"
    refine wp_call (by simp [D.noOwns, D.noOwn, noOwns_ints]) ((g_numbers ns [] hns).mono fun d S' h => ?_)
    obtain ⟨rfl, row, hr, rfl⟩ := h
    refine ⟨noOwns_ints _, ?_⟩
    walk_at "nm"
    walk_at "ev"
    refine wp_of (a := D.ref 0) (s' := ⟨[some (.val (.lst (ns.map D.int))), some (.val (.lst (row.map D.int))), none, none, none, none, none, none, none], St [] 0⟩) rfl ?_
    refine ⟨rfl, ?_⟩
    walk_at "nm"
    walk_at "ev"
    with_reducible refine wp_take hr (by decide) (by decide) (fun a0 ha0 ha1 => ?_)
    walk_at "ev"
    generalize a0 - 9 = a
    refine ⟨rfl, ?_⟩
    walk_at "nm"
    walk_at "ev"
    refine ⟨by show 2 ≤ 100000; omega, ?_⟩
    walk_at "ev"
    refine ⟨by show 5 ≤ 100000; omega, ?_⟩
    walk_at "ev"
    with_reducible refine wp_take hr (by decide) (by decide) (fun r hr0 hr1 => ?_)
    have hall : ∀ v ∈ ([.non, .int (-a), .str "x", .tup [.int a, .int 2], .bl true] : List D), v.noOwn = true ∧ D.fit 11 v = true ∧ v.uni true = true := by
      intro v hv
      simp only [List.mem_cons, List.not_mem_nil, or_false] at hv
      rcases hv with rfl | rfl | rfl | rfl | rfl
      · exact ⟨rfl, rfl, rfl⟩
      · exact ⟨rfl, rfl, rfl⟩
      · exact ⟨rfl, by decide +kernel, by decide +kernel⟩
      · exact ⟨rfl, rfl, rfl⟩
      · exact ⟨rfl, rfl, rfl⟩
    obtain ⟨v, hv, hm⟩ := at_mem0 (xs := [.non, .int (-a), .str "x", .tup [.int a, .int 2], .bl true]) hr0 (show r < ((5 : Nat) : Int) from hr1)
    obtain ⟨hvn, hvf, hvu⟩ := hall v hm
    refine wp_ix (xs := [.non, .int (-a), .str "x", .tup [.int a, .int 2], .bl true]) rfl hv ?_
    clear hall hv hm
    refine ⟨hvn, ?_⟩
    walk_at "nm"
    walk_at "ev"
    with_reducible refine wp_mkExN 1 2 ?_
    walk_at "ev"
    refine ⟨_, rfl, rfl, rfl, rfl, ?_⟩
    walk_at "nm"
    walk_at "ev"
    with_reducible refine wp_mkExN 3 4 ?_
    walk_at "ev"
    refine ⟨_, rfl, rfl, rfl, rfl, ?_⟩
    walk_at "nm"
    walk_at "ev"
    with_reducible refine wp_mkExN 5 6 ?_
    walk_at "ev"
    refine ⟨_, rfl, rfl, rfl, rfl, ?_⟩
    walk_at "nm"
    walk_at "ev"
    with_reducible refine wp_mkExN 7 8 ?_
    walk_at "ev"
    refine ⟨_, rfl, rfl, rfl, rfl, ?_⟩
    walk_at "nm"
    walk_at "ev"
    with_reducible refine wp_mkExN 9 10 ?_
    walk_at "ev"
    refine ⟨_, rfl, rfl, rfl, rfl, ?_⟩
    walk_at "nm"
    walk_at "ev"
    with_reducible refine wp_mkExN 11 12 ?_
    walk_at "ev"
    refine ⟨_, rfl, rfl, rfl, rfl, ?_⟩
    walk_at "nm"
    walk_at "ev"
    refine ⟨by show 6 ≤ 100000; omega, _, .inl rfl, rfl, ?_⟩
    with_reducible refine wp_forE (ds' := [2, 4, 6, 8, 10, 12].map D.ref) rfl ?_
    with_reducible refine wp_forT (fun (xs : List Nat) s => ∃ o : Option D, s = (⟨[some (.val (.lst (ns.map D.int))), some (.val (.lst (row.map D.int))), some (.val (.ref 0)), some (.val (.int a)), some (.val v), o.map SV.val, none, none, none], e1S 2 a⟩ : Sd) ∧ ∀ k ∈ xs, k ∈ [2, 4, 6, 8, 10, 12]) ?_ ?_ ?_
    · exact ⟨none, rfl, fun k hk => hk⟩
    · intro k xs s hI
      obtain ⟨o, rfl, hx⟩ := hI
      obtain ⟨C, m, e1, e2, e3⟩ := e1_at 2 a k (hx k (List.mem_cons_self ..))
      refine wp_setU rfl ?_
      walk_at "nm"
      walk_at "ev"
      refine wp_xf ?_
      walk_at "ev"
      refine ⟨k, C, m, _, _, rfl, e1, e2, e3, rfl, ?_⟩
      walk_at "ev"
      refine wp_call rfl ⟨_, _, g_so_refl 11 (.int a) _ rfl rfl, ?_⟩
      walk_at "ev"
      exact ⟨some _, rfl, fun k hk => hx k (List.mem_cons_of_mem _ hk)⟩
    intro s hI
    obtain ⟨o, rfl, -⟩ := hI
    walk_at "nm"
    walk_at "ev"
    with_reducible refine wp_mkExN 13 14 ?_
    walk_at "ev"
    refine ⟨_, rfl, hvn, rfl, rfl, ?_⟩
    walk_at "nm"
    walk_at "ev"
    with_reducible refine wp_mkExN 15 16 ?_
    walk_at "ev"
    refine ⟨_, rfl, hvn, rfl, rfl, ?_⟩
    walk_at "nm"
    walk_at "ev"
    with_reducible refine wp_mkExN 17 18 ?_
    walk_at "ev"
    refine ⟨_, rfl, hvn, rfl, rfl, ?_⟩
    walk_at "nm"
    walk_at "ev"
    with_reducible refine wp_mkExN 19 20 ?_
    walk_at "ev"
    refine ⟨_, rfl, hvn, rfl, rfl, ?_⟩
    walk_at "nm"
    walk_at "ev"
    refine ⟨by show 4 ≤ 100000; omega, _, .inl rfl, rfl, ?_⟩
    with_reducible refine wp_forE (ds' := [14, 16, 18, 20].map D.ref) rfl ?_
    with_reducible refine wp_forT (fun (xs : List Nat) s => ∃ o : Option D, s = (⟨[some (.val (.lst (ns.map D.int))), some (.val (.lst (row.map D.int))), some (.val (.ref 0)), some (.val (.int a)), some (.val v), o.map SV.val, none, none, none], e2S 2 a v⟩ : Sd) ∧ ∀ k ∈ xs, k ∈ [14, 16, 18, 20]) ?_ ?_ ?_
    · exact ⟨o, rfl, fun k hk => hk⟩
    · intro k xs s hI
      obtain ⟨o, rfl, hx⟩ := hI
      obtain ⟨C, m, e1, e2, e3⟩ := e2_at 2 a v k (hx k (List.mem_cons_self ..))
      refine wp_setU rfl ?_
      walk_at "nm"
      walk_at "ev"
      refine wp_xf ?_
      walk_at "ev"
      refine ⟨k, C, m, _, _, rfl, e1, e2, e3, rfl, ?_⟩
      walk_at "ev"
      refine wp_call (by simp [D.noOwns, hvn]) ⟨_, _, g_so_refl 11 v _ hvf hvu, ?_⟩
      walk_at "ev"
      exact ⟨some _, rfl, fun k hk => hx k (List.mem_cons_of_mem _ hk)⟩
    clear o
    intro s hI
    obtain ⟨o, rfl, -⟩ := hI
    walk_at "nm"
    walk_at "ev"
    with_reducible refine wp_mkExN 21 22 ?_
    walk_at "ev"
    refine ⟨_, rfl, rfl, rfl, rfl, ?_⟩
    walk_at "nm"
    walk_at "ev"
    with_reducible refine wp_mkExN 23 24 ?_
    walk_at "ev"
    refine ⟨_, rfl, rfl, rfl, rfl, ?_⟩
    walk_at "nm"
    walk_at "ev"
    with_reducible refine wp_mkExN 25 26 ?_
    walk_at "ev"
    refine ⟨_, rfl, rfl, rfl, rfl, ?_⟩
    walk_at "nm"
    walk_at "ev"
    with_reducible refine wp_mkExN 27 28 ?_
    walk_at "ev"
    refine ⟨_, rfl, hvn, rfl, rfl, ?_⟩
    walk_at "nm"
    walk_at "ev"
    with_reducible refine wp_mkExN 29 30 ?_
    walk_at "ev"
    refine ⟨_, rfl, hvn, rfl, rfl, ?_⟩
    walk_at "nm"
    walk_at "ev"
    refine wp_mkEx0 ?_
    walk_at "nm"
    walk_at "ev"
    refine ⟨by show 6 ≤ 100000; omega, rfl, ?_⟩
    walk_at "nm"
    with_reducible refine wp_eqS0 (S' := e3S 2 a v) rfl ?_
    walk_at "ev"
    refine ⟨6, rfl, by omega, ?_⟩
    with_reducible refine wp_forR (fun (i : Int) (n : Nat) s => ∃ o8, i + n = 6 ∧ 0 ≤ i ∧ s = (⟨[some (.val (.lst (ns.map D.int))), some (.val (.lst (row.map D.int))), some (.val (.ref 0)), some (.val (.int a)), some (.val v), o.map SV.val, some (.val (.lst (evL.map D.ref))), o8, none], e3S 2 a v⟩ : Sd)) ?_ ?_ ?_
    · intro i n s hI
      obtain ⟨o8, h6, h0, rfl⟩ := hI
      obtain ⟨k, rfl⟩ : ∃ k : Nat, i = k := ⟨i.toNat, by omega⟩
      have hk : k < 6 := by omega
      obtain ⟨m, hm, hx⟩ := e3_at 2 a v k hk
      refine wp_setU rfl ?_
      walk_at "nm"
      walk_at "ev"
      have hat : atI (evL.map D.ref) (k : Int) = some (.ref m) := atI_nonneg (by omega) (by rw [Int.toNat_natCast]; exact hm)
      refine wp_ix (xs := evL.map D.ref) rfl hat ?_
      walk_at "ev"
      refine wp_call rfl ⟨_, _, g_of _ hk hx, ?_⟩
      walk_at "ev"
      with_reducible refine wp_lcMap (τ := Nat) (f := fun j : Nat => .int (0 + (j : Int))) (h := fun j : Nat => .bl (decide ((j : Int) = (k : Int)))) ?_
      walk_at "ev"
      refine ⟨6, rfl, by omega, List.range 6, rangeD_typed 0 6, by rw [List.length_range]; omega, fun j hj => ?_, ?_⟩
      · refine compT_one (s1 := ⟨[some (.val (.lst (ns.map D.int))), some (.val (.lst (row.map D.int))), some (.val (.ref 0)), some (.val (.int a)), some (.val v), o.map SV.val, some (.val (.lst (evL.map D.ref))), some (.val (.int k)), some (.val (.int (0 + (j : Int))))], e3S 2 a v⟩) rfl ?_
        walk_at "ev"
        exact ⟨by rw [Int.zero_add], by cases o <;> rfl, rfl⟩
      walk_at "ev"
      refine wp_of (a := true) (of_eq k hk _) ?_
      walk_at "ev"
      refine wp_ix (xs := evL.map D.ref) rfl hat ?_
      walk_at "ev"
      refine wp_call rfl ⟨_, _, g_foreign _ hk hx, ?_⟩
      walk_at "ev"
      refine wp_isX ?_
      walk_at "ev"
      refine wp_ix (xs := evL.map D.ref) rfl hat ?_
      walk_at "ev"
      refine ⟨m, k, true, rfl, hx, if_pos hk, ?_⟩
      walk_at "ev"
      exact ⟨some _, by omega, by omega, rfl⟩
    · intro i s hI
      obtain ⟨o8, -, -, rfl⟩ := hI
      walk_at "nm"
      walk_at "ev"
      refine wp_call rfl ⟨_, _, g_caught 0 _, ?_⟩
      walk_at "ev"
      dsimp only
      refine wp_eqS0 (S' := St (e3S 2 a v).tail 2) rfl ?_
      with_reducible refine wp_take hr (by decide) (by decide) (fun r9 h90 h91 => ?_)
      walk_at "ev"
      refine wp_call rfl ⟨_, _, g_caught (1 + r9) _, ?_⟩
      walk_at "ev"
      exact congrArg D.bl (decide_eq_true (by omega))
    · exact ⟨none, by omega, by omega, rfl⟩
  obtain ⟨d, S', e, rfl⟩ := key
  exact ⟨S', e⟩
end Dm
namespace Dm
open PySem PySem.Spec L2
section
variable {fm : List Fm} {fs : List Df} {K : PySem.W.Frag} {h : Heap} {mg : Str → Option Value}
theorem SaysM.fact (c : SaysM fm fs K) (i : Nat) {f : Fm} (h : fm[i]? = some f := by rfl) : f.ok K = true :=
  List.all_eq_true.mp (show (fm.all fun f => f.ok K) = true from congrArg (fun z : AlM => z.1) c) f (List.mem_of_getElem? h)
theorem SaysM.row (c : SaysM fm fs K) (i : Nat) {d : Df} (h : fs[i]? = some d) : d.row K = (true, d.fnd.val) := by
  have e : fs.map (fun d => d.row K) = fs.map fun d => (true, d.fnd.val) := congrArg (fun z : AlM => z.2) c
  have e2 : (fs.map fun d => d.row K)[i]? = (fs.map fun d => (true, d.fnd.val))[i]? := by rw [e]
  rw [List.getElem?_map, List.getElem?_map, h] at e2
  exact Option.some.inj e2
theorem fnRow_ok {a : Addr} {q : Str} {v : He.FnV} (h : fnRow K q a = (true, v)) (hv : v ≠ none) : ∃ oc od fd osl, K.lookup a = some ⟨oc, od, .func fd, osl⟩ ∧ PySem.W.codeIn K fd.code q = true ∧ v = some (fd.name, fd.qualname, fd.params, fd.body, fd.scope, fd.globals, fd.closure, fd.defaults, fd.builtins) := by
  unfold fnRow at h
  split at h
  · rename_i oc od fd osl e
    exact ⟨oc, od, fd, osl, e, congrArg Prod.fst h, (congrArg Prod.snd h).symm⟩
  · exact absurd (congrArg Prod.fst h) (by simp)
theorem SaysM.fn (c : SaysM fm fs K) (i : Nat) {x : Str} {st : Stmt} (h : fs[i]? = some ⟨x, none, x, st⟩) :
    PySem.W.nsIn K mainGlobals x = some (some (.ref (He.ga K x))) ∧ PySem.W.keepIn K (.ref (He.ga K x)) = true ∧
    ∃ oc od osl kV doc pm an cdv ct, K.lookup (He.ga K x) = some ⟨oc, od, .func (PySem.W.fnOf x x (defArgs st) (defBody st) (defScope st) .none kV doc pm an cdv ct), osl⟩ ∧ PySem.W.codeIn K cdv x = true := by
  have r := c.row i h
  unfold Df.row at r
  split at r
  · rename_i a hns
    have hns : PySem.W.nsIn K mainGlobals x = some (some (.ref a)) := hns
    have ea : He.ga K x = a := by
      unfold He.ga
      rw [hns]
    have r : fnRow K x a = (true, (Df.fnd ⟨x, none, x, st⟩).val) := r
    obtain ⟨oc, od, fd, osl, e1, e2, e3⟩ := fnRow_ok r (by intro z; cases z)
    have c2 : (He.Fa.code (x, none) x).ok K = true := by
      show (match K.lookup (He.ga K x) with
        | some ⟨_, _, .func fd, _⟩ => PySem.W.codeIn K fd.code x
        | _ => false) = true
      rw [ea, e1]
      exact e2
    have c1 : He.fnObs K (x, none) = (Df.fnd ⟨x, none, x, st⟩).val := by
      show (match K.lookup (He.ga K x) with
        | some ⟨_, _, .func fd, _⟩ => some (fd.name, fd.qualname, fd.params, fd.body, fd.scope, fd.globals, fd.closure, fd.defaults, fd.builtins)
        | _ => none) = _
      rw [ea, e1, e3]
    refine ⟨by rw [ea]; exact hns, ?_, He.fn_ok (d := Df.fnd ⟨x, none, x, st⟩) c1 c2⟩
    unfold PySem.W.keepIn
    rw [ea]
    simp only [e1]
  · exact absurd (congrArg Prod.fst r) (by simp)
theorem SaysM.defAt (c : SaysM fm fs K) (X : K.In h) (G : h.Ns mainGlobals mg) (i : Nat) {x : Str} {st : Stmt} {ps : List Str} (hi : fs[i]? = some ⟨x, none, x, st⟩)
    (hb : ∀ (kV doc pm : Value) (an : Option Addr) (cdv ct : Value) (us : List Value), us.length = ps.length → bindArgs (PySem.W.fnOf x x (defArgs st) (defBody st) (defScope st) .none kV doc pm an cdv ct) ⟨us, []⟩ = pure (ps.zip us))
    (hk : ∀ (kV doc pm : Value) (an : Option Addr) (cdv ct : Value) (us : List Value), us.length = ps.length → bindArgs (PySem.W.fnOf x x (defArgs st) (defBody st) (defScope st) .none kV doc pm an cdv ct) ⟨[], ps.zip us⟩ = pure (ps.zip us)) : DefAt K mg x x st ps := by
  obtain ⟨a, k, oc, od, osl, kV, doc, pm, an, cdv, ct, l, c⟩ := c.fn i hi
  exact defAt_mk X G a l c k hb hk
/-- plain parameters of these names -/
def plainA (A : Arguments) (ps : List Str) : Bool := match A with
  | ⟨[], as, none, [], [], none, []⟩ => decide (as.map (·.arg) = ps)
  | _ => false
theorem plainA_ok {A : Arguments} {ps : List Str} (h : plainA A ps = true) : ∃ as : List Arg, A = ⟨[], as, none, [], [], none, []⟩ ∧ as.map (·.arg) = ps := by
  unfold plainA at h
  split at h
  · exact ⟨_, rfl, of_decide_eq_true h⟩
  · cases h
theorem SaysM.defP (c : SaysM fm fs K) (X : K.In h) (G : h.Ns mainGlobals mg) (i : Nat) {x : Str} {st : Stmt} {ps : List Str} (hi : fs[i]? = some ⟨x, none, x, st⟩) (hA : plainA (defArgs st) ps = true)
    (hb : ∀ (as : List Arg) (bd : List Stmt) (sc : Scope) (kV doc pm : Value) (an : Option Addr) (cdv ct : Value) (us : List Value), as.map (·.arg) = ps → us.length = ps.length → bindArgs (PySem.W.fnOf x x ⟨[], as, none, [], [], none, []⟩ bd sc .none kV doc pm an cdv ct) ⟨us, []⟩ = pure (ps.zip us))
    (hk : ∀ (as : List Arg) (bd : List Stmt) (sc : Scope) (kV doc pm : Value) (an : Option Addr) (cdv ct : Value) (us : List Value), as.map (·.arg) = ps → us.length = ps.length → bindArgs (PySem.W.fnOf x x ⟨[], as, none, [], [], none, []⟩ bd sc .none kV doc pm an cdv ct) ⟨[], ps.zip us⟩ = pure (ps.zip us)) : DefAt K mg x x st ps := by
  obtain ⟨as, hA, has⟩ := plainA_ok hA
  refine c.defAt X G i hi (fun kV doc pm an cdv ct us hl => ?_) (fun kV doc pm an cdv ct us hl => ?_)
  · rw [hA]
    exact hb as _ _ kV doc pm an cdv ct us has hl
  · rw [hA]
    exact hk as _ _ kV doc pm an cdv ct us has hl
theorem SaysM.law (c : SaysM fm fs K) (X : K.In h) (G : h.Ns mainGlobals mg) (i : Nat) {x : Str} {st : Stmt} {f : Addr} (hi : fs[i]? = some ⟨x, none, x, st⟩) (hf : mg x = some (.ref f)) :
    ∃ kV doc pm an cdv ct, Fun K x x st f (PySem.W.fnOf x x (defArgs st) (defBody st) (defScope st) .none kV doc pm an cdv ct) := by
  obtain ⟨a, k, oc, od, osl, kV, doc, pm, an, cdv, ct, l, c⟩ := c.fn i hi
  have e := hf.symm.trans (PySem.W.mg_of X G a)
  cases e
  exact ⟨kV, doc, pm, an, cdv, ct, fun_mk l c k⟩
theorem SaysM.free (c : SaysM fm fs K) (X : K.In h) (G : h.Ns mainGlobals mg) (i : Nat) {x : Str} (hi : fm[i]? = some (.fa (.free x)) := by rfl) : mg x = none := He.free_ok X G (c.fact i hi)
theorem SaysM.int (c : SaysM fm fs K) (X : K.In h) (G : h.Ns mainGlobals mg) (i : Nat) {x : Str} {n : Int} (hi : fm[i]? = some (.fa (.int x n)) := by rfl) : ∃ t, mg x = some (.int n t) := He.int_ok X G (c.fact i hi)
theorem SaysM.str (c : SaysM fm fs K) (X : K.In h) (G : h.Ns mainGlobals mg) (i : Nat) {x z : Str} (hi : fm[i]? = some (.fa (.str x z)) := by rfl) : ∃ t, mg x = some (.str z t) := He.str_ok X G (c.fact i hi)
end
def clE (K : PySem.W.Frag) : Nat → Addr := fun n => He.ga K (exNm n)
theorem SaysM.xat {fm : List Fm} {fs : List Df} {K : PySem.W.Frag} {h : Heap} {mg : Str → Option Value} (c : SaysM fm fs K) (X : K.In h) (G : h.Ns mainGlobals mg) (i j : Nat) {x q : Str} {st : Stmt} (hi : fm[i]? = some (.xf x "at")) (hj : fs[j]? = some ⟨x, some "__init__", q, st⟩)
    (ha : ∃ p1 p2, defArgs st = iA p1 p2) (hb : ∃ q1 q2 q3 q4, defBody st = iB q1 q2 q3 q4) (hs : defScope st = iS) : ∃ fI, AtTxt K mg x q (He.ga K x) fI := by
  have o : xfB K x "at" = true := c.fact i hi
  have r := c.row j hj
  unfold xfB at o
  unfold Df.row at r
  split at o
  · rename_i C hns
    split at o
    · rename_i fI hfi
      have ea : He.ga K x = C := by
        unfold He.ga
        rw [hns]
      have at_ : ∀ b ∈ xfL K C fI "at", b = true := fun b hb => List.all_eq_true.mp o b hb
      unfold xfL at at_
      simp only [List.mem_cons, List.not_mem_nil, or_false, forall_eq_or_imp, forall_eq] at at_
      obtain ⟨f2, f3, f4, f5, f6, f7, f8, f10, f11, f12, f13, f14, f15⟩ := at_
      simp only [hns, hfi] at r
      have r : fnRow K q fI = (true, (Df.fnd ⟨x, some "__init__", q, st⟩).val) := r
      obtain ⟨oc, od, fd, osl, e1, e2, e3⟩ := fnRow_ok r (by intro z; cases z)
      have em : He.fAd K (x, some "__init__") = fI := by
        show He.ma K (He.ga K x) "__init__" = fI
        rw [ea]
        unfold He.ma
        rw [hfi]
      have c2 : (He.Fa.code (x, some "__init__") q).ok K = true := by
        show (match K.lookup (He.fAd K (x, some "__init__")) with
          | some ⟨_, _, .func fd, _⟩ => PySem.W.codeIn K fd.code q
          | _ => false) = true
        rw [em, e1]
        exact e2
      have c1 : He.fnObs K (x, some "__init__") = (Df.fnd ⟨x, some "__init__", q, st⟩).val := by
        show (match K.lookup (He.fAd K (x, some "__init__")) with
          | some ⟨_, _, .func fd, _⟩ => some (fd.name, fd.qualname, fd.params, fd.body, fd.scope, fd.globals, fd.closure, fd.defaults, fd.builtins)
          | _ => none) = _
        rw [em, e1, e3]
      obtain ⟨oc, od, osl, kV, doc, pm, an, cdv, ct, l, cd⟩ := He.fn_ok (d := Df.fnd ⟨x, some "__init__", q, st⟩) c1 c2
      obtain ⟨p1, p2, ha⟩ := ha
      obtain ⟨q1, q2, q3, q4, hb⟩ := hb
      have l : K.lookup (He.fAd K (x, some "__init__")) = some ⟨oc, od, .func (PySem.W.fnOf "__init__" q (defArgs st) (defBody st) (defScope st) .none kV doc pm an cdv ct), osl⟩ := l
      rw [ha, hb, hs, em] at l
      rw [ea]
      exact ⟨fI, PySem.W.mg_of X G hns, f2, f3, He.eqO_ok f4, He.eqO_ok f5, He.eqO_ok f6, He.eqO_ok f7, He.eqO_ok f8, hfi, of_decide_eq_true f10, f11, of_decide_eq_true f12, of_decide_eq_true f13, f14, of_decide_eq_true f15, oc, od, kV, doc, pm, an, cdv, ct, osl, p1, p2, q1, q2, q3, q4, l, cd⟩
    · cases o
  · cases o
theorem SaysM.xnm {fm : List Fm} {fs : List Df} {K : PySem.W.Frag} {h : Heap} {mg : Str → Option Value} (c : SaysM fm fs K) (X : K.In h) (G : h.Ns mainGlobals mg) (i j : Nat) {x q : Str} {st : Stmt} (hi : fm[i]? = some (.xf x "name")) (hj : fs[j]? = some ⟨x, some "__init__", q, st⟩)
    (ha : ∃ p1 p2, defArgs st = iAn p1 p2) (hb : ∃ q1 q2 q3 q4, defBody st = iBn q1 q2 q3 q4) (hs : defScope st = iSn) : ∃ fI, NmTxt K mg x q (He.ga K x) fI := by
  have o : xfB K x "name" = true := c.fact i hi
  have r := c.row j hj
  unfold xfB at o
  unfold Df.row at r
  split at o
  · rename_i C hns
    split at o
    · rename_i fI hfi
      have ea : He.ga K x = C := by
        unfold He.ga
        rw [hns]
      have at_ : ∀ b ∈ xfL K C fI "name", b = true := fun b hb => List.all_eq_true.mp o b hb
      unfold xfL at at_
      simp only [List.mem_cons, List.not_mem_nil, or_false, forall_eq_or_imp, forall_eq] at at_
      obtain ⟨f2, f3, f4, f5, f6, f7, f8, f10, f11, f12, f13, f14, f15⟩ := at_
      simp only [hns, hfi] at r
      have r : fnRow K q fI = (true, (Df.fnd ⟨x, some "__init__", q, st⟩).val) := r
      obtain ⟨oc, od, fd, osl, e1, e2, e3⟩ := fnRow_ok r (by intro z; cases z)
      have em : He.fAd K (x, some "__init__") = fI := by
        show He.ma K (He.ga K x) "__init__" = fI
        rw [ea]
        unfold He.ma
        rw [hfi]
      have c2 : (He.Fa.code (x, some "__init__") q).ok K = true := by
        show (match K.lookup (He.fAd K (x, some "__init__")) with
          | some ⟨_, _, .func fd, _⟩ => PySem.W.codeIn K fd.code q
          | _ => false) = true
        rw [em, e1]
        exact e2
      have c1 : He.fnObs K (x, some "__init__") = (Df.fnd ⟨x, some "__init__", q, st⟩).val := by
        show (match K.lookup (He.fAd K (x, some "__init__")) with
          | some ⟨_, _, .func fd, _⟩ => some (fd.name, fd.qualname, fd.params, fd.body, fd.scope, fd.globals, fd.closure, fd.defaults, fd.builtins)
          | _ => none) = _
        rw [em, e1, e3]
      obtain ⟨oc, od, osl, kV, doc, pm, an, cdv, ct, l, cd⟩ := He.fn_ok (d := Df.fnd ⟨x, some "__init__", q, st⟩) c1 c2
      obtain ⟨p1, p2, ha⟩ := ha
      obtain ⟨q1, q2, q3, q4, hb⟩ := hb
      have l : K.lookup (He.fAd K (x, some "__init__")) = some ⟨oc, od, .func (PySem.W.fnOf "__init__" q (defArgs st) (defBody st) (defScope st) .none kV doc pm an cdv ct), osl⟩ := l
      rw [ha, hb, hs, em] at l
      rw [ea]
      exact ⟨fI, PySem.W.mg_of X G hns, f2, f3, He.eqO_ok f4, He.eqO_ok f5, He.eqO_ok f6, He.eqO_ok f7, He.eqO_ok f8, hfi, of_decide_eq_true f10, f11, of_decide_eq_true f12, of_decide_eq_true f13, f14, of_decide_eq_true f15, oc, od, kV, doc, pm, an, cdv, ct, osl, p1, p2, q1, q2, q3, q4, l, cd⟩
    · cases o
  · cases o
theorem SaysM.errs {fm : List Fm} {fs : List Df} {K : PySem.W.Frag} {h : Heap} {mg : Str → Option Value} (c : SaysM fm fs K) (X : K.In h) (G : h.Ns mainGlobals mg) (i : Nat) (hi : fm[i]? = some .errs := by rfl) : ErrsOk K mg (clE K) := by
  have o : ((errL0 K) ++ (List.range 6).flatMap (errL1 K)).all id = true := c.fact i hi
  rw [List.all_eq_true] at o
  have o0 : ∀ b ∈ errL0 K, b = true := fun b hb => o b (List.mem_append_left _ hb)
  have o1 : ∀ C < 6, ∀ b ∈ errL1 K C, b = true := fun C hC b hb => o b (List.mem_append_right _ (List.mem_flatMap.mpr ⟨C, List.mem_range.mpr hC, hb⟩))
  unfold errL0 at o0
  simp only [List.mem_cons, List.not_mem_nil, or_false, forall_eq_or_imp, forall_eq] at o0
  obtain ⟨z1, z2, z3, z4⟩ := o0
  have p1 := fun C hC => by
    have w := o1 C hC
    unfold errL1 at w
    simp only [List.mem_cons, List.not_mem_nil, or_false, forall_eq_or_imp, forall_eq] at w
    exact w
  refine ⟨fun C hC => ?_, fun C hC => ?_, fun C hC => (p1 C hC).2.2.2.2.2.2.1, fun C hC => of_decide_eq_true (p1 C hC).2.2.2.2.2.2.2.2.1, fun C hC T hT => ?_, fun C hC => of_decide_eq_true (p1 C hC).2.2.2.2.2.2.2.2.2.1, fun C hC => of_decide_eq_true (p1 C hC).2.2.2.2.2.2.2.2.2.2.1,
    fun C hC => of_decide_eq_true (p1 C hC).2.2.2.2.2.2.2.2.2.2.2.1, fun C hC => of_decide_eq_true (p1 C hC).2.2.2.2.2.2.2.2.2.2.2.2.1, fun C hC => of_decide_eq_true (p1 C hC).2.2.2.2.2.2.2.2.2.2.2.2.2.1, fun C hC => of_decide_eq_true (p1 C hC).2.2.2.2.2.2.2.2.2.2.2.2.2.2.1, z3⟩
  · rcases hC with hC | rfl
    · exact PySem.W.mg_of X G (He.eqO_ok (p1 C hC).1)
    · exact PySem.W.mg_of X G (He.eqO_ok z4)
  · have w := p1 C hC
    exact ⟨He.eqO_ok w.2.1, He.eqO_ok w.2.2.1, of_decide_eq_true w.2.2.2.1, w.2.2.2.2.1, He.eqO_ok w.2.2.2.2.2.1, He.eqO_ok z1, of_decide_eq_true z2, of_decide_eq_true w.2.2.2.2.2.2.2.1⟩
  · have w := (p1 C hC).2.2.2.2.2.2.2.2.2.2.2.2.2.2.2
    exact of_decide_eq_true (List.all_eq_true.mp w T (List.mem_range.mpr hT))
/-- the law's walk, from the facts -/
theorem walkM {l : PySem.W.OpenLaw} {k : Nat} {q : Program} {loose : List Str} {XP : (Str → Option Value) → Heap → Prop} {fm : List Fm} {fs : List Df} {d : DefRec} {F : Fn} (hn : l.most = some 63) (hdf : d.params.defaults = []) (hr : Room k callerA)
    (hL : ∀ ns : List Int, ns.length ≤ 63 → ∃ S', F [.lst (ns.map D.int)] [] = some (.ok (.bl true) S'))
    (hF : ∀ (w : World) (K : PySem.W.Frag) (mg : Str → Option Value) (fa : Addr) (h : Heap), K.In h → h.Ns mainGlobals mg → mg d.name = some (.ref fa) → SaysM fm fs K →
      ∃ fd : FuncData, (∀ (s : Shared) (u : Value), BindsTo s fd ⟨[u], []⟩ [("script", u)]) ∧ ∀ base : Heap, K.In base → base.Ns mainGlobals mg → FnOk l.prog w K mg base CX0 k fa fd ["script"] (spD ⟨K, clE K⟩ F)) :
    PySem.W.WalkO q loose XP (hookM fm fs).says l.row.toRowW d [] (fun f vs => PySem.call f vs) := by
  refine L2.walk_ofE (n := 63) (k := k) (x := "script") (CX := CX0) hn (by decide) hdf hr (fun w mg fa h Y G hmg => ?_) (fun _ _ _ _ z => z)
  obtain ⟨K, KX, c⟩ := Y
  obtain ⟨fd, hb, hf⟩ := hF w K mg fa h KX G hmg c
  exact ⟨K, fd, spD ⟨K, clE K⟩ F, KX, hb, fun H a ns hl _ hS => start_sp hS (hL ns hl), hf⟩
end Dm
namespace Dm
open PySem PySem.Spec L2

/-- the names of Python's own and of the module's ints that the defs read -/
structure Bt (K : PySem.W.Frag) (mg : Str → Option Value) (cl : Nat → Addr) : Prop where
  b_isinstance : mg "isinstance" = none
  b_tuple : mg "tuple" = none
  b_len : mg "len" = none
  b_range : mg "range" = none
  b_bool : mg "bool" = none
  b_int : mg "int" = none
  b_str : mg "str" = none
  errs : ErrsOk K mg cl
  b_ValueError : mg "ValueError" = none
  b_LookupError : mg "LookupError" = none
  b_ArithmeticError : mg "ArithmeticError" = none
  b_Exception : mg "Exception" = none
  x_NoPiece : ∃ fI, NmTxt K mg "NoPiece" "NoPiece.__init__" (cl 3) fI
  x_BadPaper : ∃ fI, AtTxt K mg "BadPaper" "BadPaper.__init__" (cl 2) fI
  x_BadText : ∃ fI, AtTxt K mg "BadText" "BadText.__init__" (cl 1) fI
  x_BadValue : ∃ fI, AtTxt K mg "BadValue" "BadValue.__init__" (cl 0) fI
  x_TakenName : ∃ fI, NmTxt K mg "TakenName" "TakenName.__init__" (cl 4) fI
end Dm
namespace Dm
open PySem PySem.Spec L2
section
variable {P : Program} {w : World} {K : PySem.W.Frag} {mg : Str → Option Value} {base : Heap} {cl : Nat → Addr}

theorem sc__law_so : FnScope ["found", "meant", "k"] ["found", "meant"] (defScope s__law_so) := ⟨rfl, rfl, rfl, by decide +kernel, rfl, by decide +kernel, by decide +kernel⟩
theorem d__law_so (F : DefAt K mg "_law_so" "_law_so" s__law_so ["found", "meant"]) (B : Bt K mg cl) : ∀ n, DefOk P w K mg base cl CX0 (n + 1) "_law_so" ["found", "meant"] (f__law_so n)
  | 0 => by
    obtain ⟨a, fd, F, h1, h2, h3⟩ := F.ex
    exact ⟨a, fd, ⟨fun vs H Q E h => by obtain ⟨_, _, _, _, _, _, z⟩ := h; exact z.elim, fun _ _ _ _ _ _ _ _ _ _ _ _ _ h => by obtain ⟨_, _, _, _, _, _, z⟩ := h; exact z.elim⟩, h1, F.kp, h2, h3⟩
  | n + 1 => by
    have h__law_so := d__law_so F B n
    refine (DefAt.ok2 (k := n + 1) (m := m__law_so (f__law_so n)) (f__law_so_succ n) rfl rfl rfl F sc__law_so fun f cdv A outer s H E hr => ?_).mono (by omega)
    have hu := hr.units
    have hu5 : _ + 65 < cLine := Nat.lt_of_le_of_lt (Nat.add_le_add_left (by omega : 65 ≤ 16 * (n + 1) + 200) _) (by have := hr.un; omega)
    unfold m__law_so
    exact (psd_cons (psd_if (ptd_cmp op_isN ok_isN (pdv 1) pd_non) (psd_one (psd_ret (pd_cmp op_isN ok_isN (pdv 0) pd_non))) psd_nil)
    (psd_cons (psd_if (ptd_truth (pd_isi (n := "tuple") (by rfl) B.b_isinstance (by rfl) B.b_tuple (by decide +kernel) (pdv 1))) (psd_cons (psd_if (PW.pt (pwd_or (ptd_not (ptd_truth (pd_isi (n := "tuple") (by rfl) B.b_isinstance (by rfl) B.b_tuple (by decide +kernel) (pdv 0)))) (pwd_or1 (ptd_cmp (op_neD hu) ok_ne (pd_callB call_len ok_len (by rfl) B.b_len (by decide +kernel) (pad_cons (pdv 0) pad_nil)) (pd_callB call_len ok_len (by rfl) B.b_len (by decide +kernel) (pad_cons (pdv 1) pad_nil)))))) (psd_one (psd_ret pd_bl)) psd_nil)
    (psd_cons (psd_for (ts := [2]) PassesOwn.never rfl (pid_range1 (by rfl) B.b_range (pad_cons (pd_callB call_len ok_len (by rfl) B.b_len (by decide +kernel) (pad_cons (pdv 1) pad_nil)) pad_nil)) (pgd_name (i := 2) sc__law_so.nd rfl (by first | exact Or.inl rfl | exact Or.inr rfl)) (psd_one (psd_if (ptd_not (ptd_truth (pd_fn h__law_so (hr.mono (by omega)) (by rfl) (pad_cons (pd_ix (pdv 0) (pdv 2)) (pad_cons (pd_ix (pdv 1) (pdv 2)) pad_nil))))) (psd_one (psd_ret pd_bl)) psd_nil)))
    (psd_one (psd_ret pd_bl)))) psd_nil)
    (psd_cons (psd_if (PW.pt (pwd_or (ptd_truth (pd_isi (n := "bool") (by rfl) B.b_isinstance (by rfl) B.b_bool (by decide +kernel) (pdv 1))) (pwd_or1 (ptd_truth (pd_isi (n := "bool") (by rfl) B.b_isinstance (by rfl) B.b_bool (by decide +kernel) (pdv 0)))))) (psd_one (psd_ret (pdo_and (pd_isi (n := "bool") (by rfl) B.b_isinstance (by rfl) B.b_bool (by decide +kernel) (pdv 1)) (pdo_and (pd_isi (n := "bool") (by rfl) B.b_isinstance (by rfl) B.b_bool (by decide +kernel) (pdv 0)) (pdo_one (pd_cmp (op_eqD hu) ok_eq (pdv 0) (pdv 1))))))) psd_nil)
    (psd_cons (psd_if (ptd_truth (pd_isi (n := "int") (by rfl) B.b_isinstance (by rfl) B.b_int (by decide +kernel) (pdv 1))) (psd_one (psd_ret (pdo_and (pd_isi (n := "int") (by rfl) B.b_isinstance (by rfl) B.b_int (by decide +kernel) (pdv 0)) (pdo_one (pd_cmp (op_eqD hu) ok_eq (pdv 0) (pdv 1)))))) psd_nil)
    (psd_one (psd_ret (pdo_and (pd_isi (n := "str") (by rfl) B.b_isinstance (by rfl) B.b_str (by decide +kernel) (pdv 1)) (pdo_and (pd_isi (n := "str") (by rfl) B.b_isinstance (by rfl) B.b_str (by decide +kernel) (pdv 0)) (pdo_one (pd_cmp (op_eqD hu) ok_eq (pdv 0) (pdv 1)))))))))))
theorem sc__law_numbers : FnScope ["script", "row", "cell", "left", "k", "mixed"] ["script"] (defScope s__law_numbers) := ⟨rfl, rfl, rfl, by decide +kernel, rfl, by decide +kernel, by decide +kernel⟩
theorem d__law_numbers (F : DefAt K mg "_law_numbers" "_law_numbers" s__law_numbers ["script"]) (B : Bt K mg cl) : DefOk P w K mg base cl CX0 1 "_law_numbers" ["script"] f__law_numbers := by
  refine DefAt.ok2 (k := 0) (m := m__law_numbers) f__law_numbers_eq rfl rfl rfl F sc__law_numbers fun f cdv A outer s H E hr => ?_
  have hu := hr.units
  have hu5 : _ + 65 < cLine := Nat.lt_of_le_of_lt (Nat.add_le_add_left (by decide : 65 ≤ 16 * 0 + 200) _) (by have := hr.un; omega)
  unfold m__law_numbers
  exact (psd_cons (psd_own sc__law_numbers.nd rfl (by first | exact Or.inl rfl | exact Or.inr rfl) (pn_lst pad_nil))
    (psd_cons (psd_for (ts := [2]) PassesOwn.never rfl (pid_seq (pd_slice (pdv 0) pod_none (pod_some pd_int))) (pgd_name (i := 2) sc__law_numbers.nd rfl (by first | exact Or.inl rfl | exact Or.inr rfl)) (psd_one (psd_if (ptd_cmp op_geA ok_ge (pdv 2) (pd_op op_pow ok_pow pd_int pd_int)) (psd_cons (psd_set sc__law_numbers.nd rfl (by first | exact Or.inl rfl | exact Or.inr rfl) (pdv 2))
    (psd_one (psd_for (ts := [4]) PassesOwn.never rfl (pid_range1 (by rfl) B.b_range (pad_cons pd_int pad_nil)) (pgd_name (i := 4) sc__law_numbers.nd rfl (by first | exact Or.inl rfl | exact Or.inr rfl)) (psd_cons (psd_if (ptd_cmp (op_eqD hu) ok_eq (pdv 3) pd_int) (psd_one psd_break) psd_nil)
    (psd_cons (psd_append (pdv 1) (pd_op op_mdA ok_mod (pd_callTy call_int1 ok_int (by rfl) B.b_int (by decide +kernel) (pad_cons (pdv 3) pad_nil)) pd_int))
    (psd_one (psd_set sc__law_numbers.nd rfl (by first | exact Or.inl rfl | exact Or.inr rfl) (pd_op op_fdA ok_fdiv (pdv 3) pd_int)))))))) (psd_one (psd_for (ts := [4]) PassesOwn.never rfl (pid_range1 (by rfl) B.b_range (pad_cons pd_int pad_nil)) (pgd_name (i := 4) sc__law_numbers.nd rfl (by first | exact Or.inl rfl | exact Or.inr rfl)) (psd_cons (psd_set sc__law_numbers.nd rfl (by first | exact Or.inl rfl | exact Or.inr rfl) (pd_op op_mdA ok_mod (pd_callTy call_int1 ok_int (by rfl) B.b_int (by decide +kernel) (pad_cons (pd_op op_addA ok_add (pd_op op_addA ok_add (pd_op op_muA ok_mul (pdv 2) pd_int) (pd_op op_muA ok_mul (pdv 4) pd_int)) pd_int) pad_nil)) pd_int))
    (psd_one (psd_append (pdv 1) (pd_op op_mdA ok_mod (pd_callTy call_int1 ok_int (by rfl) B.b_int (by decide +kernel) (pad_cons (pd_op op_addA ok_add (pd_op op_muA ok_mul (pdv 5) pd_int) (pdv 4)) pad_nil)) pd_int)))))))))
    (psd_cons (psd_if (ptd_cmp (op_eqD hu) ok_eq (pd_callB call_len ok_len (by rfl) B.b_len (by decide +kernel) (pad_cons (pdv 1) pad_nil)) pd_int) (psd_one (psd_append (pdv 1) pd_int)) psd_nil)
    (psd_one (psd_ret (pdv 1))))))
theorem sc__law_draw : FnScope ["row", "at", "limit", "mixed"] ["row", "at", "limit"] (defScope s__law_draw) := ⟨rfl, rfl, rfl, by decide +kernel, rfl, by decide +kernel, by decide +kernel⟩
theorem d__law_draw (F : DefAt K mg "_law_draw" "_law_draw" s__law_draw ["row", "at", "limit"]) (B : Bt K mg cl) : DefOk P w K mg base cl CX0 1 "_law_draw" ["row", "at", "limit"] f__law_draw := by
  refine DefAt.ok2 (k := 0) (m := m__law_draw) f__law_draw_eq rfl rfl rfl F sc__law_draw fun f cdv A outer s H E hr => ?_
  have hu := hr.units
  have hu5 : _ + 65 < cLine := Nat.lt_of_le_of_lt (Nat.add_le_add_left (by decide : 65 ≤ 16 * 0 + 200) _) (by have := hr.un; omega)
  unfold m__law_draw
  exact (psd_cons (psd_if (ptd_cmp op_ltA ok_lt (pdv 1) (pd_callB call_len ok_len (by rfl) B.b_len (by decide +kernel) (pad_cons (pdv 0) pad_nil))) (psd_one (psd_ret (pd_op op_mdA ok_mod (pd_callTy call_int1 ok_int (by rfl) B.b_int (by decide +kernel) (pad_cons (pd_ix (pdv 0) (pdv 1)) pad_nil)) (pdv 2)))) psd_nil)
    (psd_cons (psd_set sc__law_draw.nd rfl (by first | exact Or.inl rfl | exact Or.inr rfl) (pd_op op_mdA ok_mod (pd_callTy call_int1 ok_int (by rfl) B.b_int (by decide +kernel) (pad_cons (pd_op op_addA ok_add (pd_op op_addA ok_add (pd_op op_muA ok_mul (pd_ix (pdv 0) (pd_op op_mdA ok_mod (pd_callTy call_int1 ok_int (by rfl) B.b_int (by decide +kernel) (pad_cons (pdv 1) pad_nil)) (pd_callB call_len ok_len (by rfl) B.b_len (by decide +kernel) (pad_cons (pdv 0) pad_nil)))) pd_int) (pd_op op_muA ok_mul (pdv 1) pd_int)) pd_int) pad_nil)) pd_int))
    (psd_one (psd_ret (pd_op op_mdA ok_mod (pd_callTy call_int1 ok_int (by rfl) B.b_int (by decide +kernel) (pad_cons (pd_op op_mdA ok_mod (pd_callTy call_int1 ok_int (by rfl) B.b_int (by decide +kernel) (pad_cons (pd_op op_addA ok_add (pd_op op_muA ok_mul (pdv 3) pd_int) (pdv 1)) pad_nil)) pd_int) pad_nil)) (pdv 2))))))
theorem sc__law_take : FnScope ["row", "spot", "limit"] ["row", "spot", "limit"] (defScope s__law_take) := ⟨rfl, rfl, rfl, by decide +kernel, rfl, by decide +kernel, by decide +kernel⟩
theorem d__law_take (F : DefAt K mg "_law_take" "_law_take" s__law_take ["row", "spot", "limit"]) (B : Bt K mg cl) (h__law_draw : DefOk P w K mg base cl CX0 1 "_law_draw" ["row", "at", "limit"] f__law_draw) : DefOk P w K mg base cl CX0 2 "_law_take" ["row", "spot", "limit"] f__law_take := by
  refine DefAt.ok2 (k := 1) (m := m__law_take) f__law_take_eq rfl rfl rfl F sc__law_take fun f cdv A outer s H E hr => ?_
  have hu := hr.units
  have hu5 : _ + 65 < cLine := Nat.lt_of_le_of_lt (Nat.add_le_add_left (by decide : 65 ≤ 16 * 1 + 200) _) (by have := hr.un; omega)
  unfold m__law_take
  exact (psd_cons (psd_setIx (pdv 1) pd_int (pd_op op_addA ok_add (pd_ix (pdv 1) pd_int) pd_int))
    (psd_one (psd_ret (pd_fn h__law_draw (hr.mono (by decide)) (by rfl) (pad_cons (pdv 0) (pad_cons (pd_op op_subT ok_sub (pd_ix (pdv 1) pd_int) pd_int) (pad_cons (pdv 2) pad_nil)))))))
theorem sc__law_of : FnScope ["value", "made"] ["value"] (defScope s__law_of) := ⟨rfl, rfl, rfl, by decide +kernel, rfl, by decide +kernel, by decide +kernel⟩
theorem d__law_of (F : DefAt K mg "_law_of" "_law_of" s__law_of ["value"]) (B : Bt K mg cl) : DefOk P w K mg base cl CX0 1 "_law_of" ["value"] f__law_of := by
  refine DefAt.ok2 (k := 0) (m := m__law_of) f__law_of_eq rfl rfl rfl F sc__law_of fun f cdv A outer s H E hr => ?_
  have hu := hr.units
  have hu5 : _ + 65 < cLine := Nat.lt_of_le_of_lt (Nat.add_le_add_left (by decide : 65 ≤ 16 * 0 + 200) _) (by have := hr.un; omega)
  unfold m__law_of
  exact (psd_cons (psd_set sc__law_of.nd rfl (by first | exact Or.inl rfl | exact Or.inr rfl) (pd_fz (pn_lst (pad_cons (pd_isx (B.errs.kO (by decide)) (by rfl) B.b_isinstance (by rfl) (B.errs.gl 0 (by decide)) (pdv 0)) (pad_cons (pd_isx (B.errs.kO (by decide)) (by rfl) B.b_isinstance (by rfl) (B.errs.gl 1 (by decide)) (pdv 0)) (pad_cons (pd_isx (B.errs.kO (by decide)) (by rfl) B.b_isinstance (by rfl) (B.errs.gl 2 (by decide)) (pdv 0)) pad_nil))))))
    (psd_one (psd_ret (pd_fz (pn_cat (pdv 1) (pd_fz (pn_lst (pad_cons (pd_isx (B.errs.kO (by decide)) (by rfl) B.b_isinstance (by rfl) (B.errs.gl 3 (by decide)) (pdv 0)) (pad_cons (pd_isx (B.errs.kO (by decide)) (by rfl) B.b_isinstance (by rfl) (B.errs.gl 4 (by decide)) (pdv 0)) (pad_cons (pd_isx (B.errs.kO (by decide)) (by rfl) B.b_isinstance (by rfl) (B.errs.gl 5 (by decide)) (pdv 0)) pad_nil))))))))))
theorem sc__law_foreign : FnScope ["value"] ["value"] (defScope s__law_foreign) := ⟨rfl, rfl, rfl, by decide +kernel, rfl, by decide +kernel, by decide +kernel⟩
theorem d__law_foreign (F : DefAt K mg "_law_foreign" "_law_foreign" s__law_foreign ["value"]) (B : Bt K mg cl) : DefOk P w K mg base cl CX0 1 "_law_foreign" ["value"] f__law_foreign := by
  refine DefAt.ok2 (k := 0) (m := m__law_foreign) f__law_foreign_eq rfl rfl rfl F sc__law_foreign fun f cdv A outer s H E hr => ?_
  have hu := hr.units
  have hu5 : _ + 65 < cLine := Nat.lt_of_le_of_lt (Nat.add_le_add_left (by decide : 65 ≤ 16 * 0 + 200) _) (by have := hr.un; omega)
  unfold m__law_foreign
  exact (psd_cons (psd_if (PW.pt (pwd_or (ptd_truth (pd_isxB (n := "ValueError") (B.errs.kA B.errs.ve) (by rfl) B.b_isinstance (by rfl) B.b_ValueError (by decide +kernel) (pdv 0))) (pwd_or1 (ptd_truth (pd_isxB (n := "LookupError") (B.errs.kA B.errs.le) (by rfl) B.b_isinstance (by rfl) B.b_LookupError (by decide +kernel) (pdv 0)))))) (psd_one (psd_ret pd_bl)) psd_nil)
    (psd_one (psd_ret (pdo_or (pd_isxB (n := "ArithmeticError") (B.errs.kA B.errs.ae) (by rfl) B.b_isinstance (by rfl) B.b_ArithmeticError (by decide +kernel) (pdv 0)) (pdo_one (pdo_not (pd_isxB (n := "Exception") (B.errs.kA B.errs.ex) (by rfl) B.b_isinstance (by rfl) B.b_Exception (by decide +kernel) (pdv 0))))))))
theorem sc__law_caught : FnScope ["at", "wrong"] ["at"] (defScope s__law_caught) := ⟨rfl, rfl, rfl, by decide +kernel, rfl, by decide +kernel, by decide +kernel⟩
theorem d__law_caught (F : DefAt K mg "_law_caught" "_law_caught" s__law_caught ["at"]) (B : Bt K mg cl) : DefOk P w K mg base cl CX0 1 "_law_caught" ["at"] f__law_caught := by
  refine DefAt.ok2 (k := 0) (m := m__law_caught) f__law_caught_eq rfl rfl rfl F sc__law_caught fun f cdv A outer s H E hr => ?_
  have hu := hr.units
  have hu5 : _ + 65 < cLine := Nat.lt_of_le_of_lt (Nat.add_le_add_left (by decide : 65 ≤ 16 * 0 + 200) _) (by have := hr.un; omega)
  unfold m__law_caught
  exact (psd_one (psd_tryIs (i := 1) (B.errs.gl 13 (by decide)) (B.errs.gl 3 (by decide)) B.b_isinstance (B.errs.kO (by decide)) (B.errs.te (by decide)) rfl rfl sc__law_caught.nd rfl rfl (by rfl) (by rfl) (by rfl) (by first | exact Or.inl rfl | exact Or.inr (Or.inl rfl) | exact Or.inr (Or.inr rfl)) (fun W pn xe tk pe => (psd_cons (psd_if (ptd_cmp (op_eqD hu) ok_eq (pdv 0) pd_int) (psd_one (psd_raise0 PySem.F.excBase_Exception B.errs.t5 (B.errs.gl 5 (by decide)) (B.errs.kp 5 (by decide)) (B.errs.ra rfl (by decide)) rfl tk (by rfl))) psd_nil)
    (psd_one (psd_raiseNm (Exists.choose_spec B.x_NoPiece) rfl hr tk (pdv 0) (by rfl)))))))
theorem sc_law : FnScope ["script", "row", "spot", "at", "other", "made", "every", "k", "one"] ["script"] (defScope s_law) := ⟨rfl, rfl, rfl, by decide +kernel, rfl, by decide +kernel, by decide +kernel⟩
theorem d_law {fa : Addr} {fd : FuncData} (F : Fun K "law" "law" s_law fa fd) (B : Bt K mg cl) (h__law_numbers : DefOk P w K mg base cl CX0 1 "_law_numbers" ["script"] f__law_numbers) (h__law_take : DefOk P w K mg base cl CX0 2 "_law_take" ["row", "spot", "limit"] f__law_take) (h__law_so : DefOk P w K mg base cl CX0 13 "_law_so" ["found", "meant"] (f__law_so 12)) (h__law_of : DefOk P w K mg base cl CX0 1 "_law_of" ["value"] f__law_of) (h__law_foreign : DefOk P w K mg base cl CX0 1 "_law_foreign" ["value"] f__law_foreign) (h__law_caught : DefOk P w K mg base cl CX0 1 "_law_caught" ["at"] f__law_caught) : FnOk P w K mg base CX0 14 fa fd ["script"] (spD ⟨K, cl⟩ f_law_k00) := by
  refine fnOk2 (k := 13) (m := m_law_k00) f_law_k00_eq rfl rfl F sc_law fun cdv A outer s H E hr => ?_
  have hu := hr.units
  have hu5 : _ + 65 < cLine := Nat.lt_of_le_of_lt (Nat.add_le_add_left (by decide : 65 ≤ 16 * 13 + 200) _) (by have := hr.un; omega)
  unfold m_law_k00
  exact (psd_cons (psd_set sc_law.nd rfl (by first | exact Or.inl rfl | exact Or.inr rfl) (pd_fn h__law_numbers (hr.mono (by decide)) (by rfl) (pad_cons (pdv 0) pad_nil)))
    (psd_cons (psd_set sc_law.nd rfl (by first | exact Or.inl rfl | exact Or.inr rfl) (pd_ref (pn_lst (pad_cons pd_int pad_nil))))
    (psd_cons (psd_set sc_law.nd rfl (by first | exact Or.inl rfl | exact Or.inr rfl) (pd_op op_subT ok_sub (pd_fn h__law_take (hr.mono (by decide)) (by rfl) (pad_cons (pdv 1) (pad_cons (pdv 2) (pad_cons pd_int pad_nil)))) pd_int))
    (psd_cons (psd_set sc_law.nd rfl (by first | exact Or.inl rfl | exact Or.inr rfl) (pd_ix (pd_fz (pn_lst (pad_cons pd_non (pad_cons (pd_un un_neg ok_neg (pdv 3)) (pad_cons pd_str (pad_cons (pd_tup (pad_cons (pdv 3) (pad_cons pd_int pad_nil))) (pad_cons pd_bl pad_nil))))))) (pd_fn h__law_take (hr.mono (by decide)) (by rfl) (pad_cons (pdv 1) (pad_cons (pdv 2) (pad_cons pd_int pad_nil))))))
    (psd_cons (psd_for (ts := [5]) PassesOwn.never rfl (pid_seq (pd_fz (pn_lst (pad_cons (pd_mkEx (AtTxt.err (Exists.choose_spec B.x_BadValue)) (B.errs.gl 0 (by decide)) hr (by rfl) (pad_cons (pdv 3) pad_nil)) (pad_cons (pd_mkEx (AtTxt.err (Exists.choose_spec B.x_BadText)) (B.errs.gl 1 (by decide)) hr (by rfl) (pad_cons (pdv 3) pad_nil)) (pad_cons (pd_mkEx (AtTxt.err (Exists.choose_spec B.x_BadPaper)) (B.errs.gl 2 (by decide)) hr (by rfl) (pad_cons (pdv 3) pad_nil)) (pad_cons (pd_mkExK (AtTxt.err (Exists.choose_spec B.x_BadValue)) (B.errs.gl 0 (by decide)) hr (by rfl) (pkd_cons (pdv 3) pkd_nil)) (pad_cons (pd_mkExK (AtTxt.err (Exists.choose_spec B.x_BadText)) (B.errs.gl 1 (by decide)) hr (by rfl) (pkd_cons (pdv 3) pkd_nil)) (pad_cons (pd_mkExK (AtTxt.err (Exists.choose_spec B.x_BadPaper)) (B.errs.gl 2 (by decide)) hr (by rfl) (pkd_cons (pdv 3) pkd_nil)) pad_nil))))))))) (pgd_name (i := 5) sc_law.nd rfl (by first | exact Or.inl rfl | exact Or.inr rfl)) (psd_one (psd_if (ptd_not (ptd_truth (pd_fn h__law_so (hr.mono (by decide)) (by rfl) (pad_cons (pd_xf (xf3 (AtTxt.err (Exists.choose_spec B.x_BadValue)) (AtTxt.err (Exists.choose_spec B.x_BadText)) (AtTxt.err (Exists.choose_spec B.x_BadPaper))) (pdv 5)) (pad_cons (pdv 3) pad_nil))))) (psd_one (psd_ret pd_bl)) psd_nil)))
    (psd_cons (psd_for (ts := [5]) PassesOwn.never rfl (pid_seq (pd_fz (pn_lst (pad_cons (pd_mkEx (NmTxt.err (Exists.choose_spec B.x_NoPiece)) (B.errs.gl 3 (by decide)) hr (by rfl) (pad_cons (pdv 4) pad_nil)) (pad_cons (pd_mkEx (NmTxt.err (Exists.choose_spec B.x_TakenName)) (B.errs.gl 4 (by decide)) hr (by rfl) (pad_cons (pdv 4) pad_nil)) (pad_cons (pd_mkExK (NmTxt.err (Exists.choose_spec B.x_NoPiece)) (B.errs.gl 3 (by decide)) hr (by rfl) (pkd_cons (pdv 4) pkd_nil)) (pad_cons (pd_mkExK (NmTxt.err (Exists.choose_spec B.x_TakenName)) (B.errs.gl 4 (by decide)) hr (by rfl) (pkd_cons (pdv 4) pkd_nil)) pad_nil))))))) (pgd_name (i := 5) sc_law.nd rfl (by first | exact Or.inl rfl | exact Or.inr rfl)) (psd_one (psd_if (ptd_not (ptd_truth (pd_fn h__law_so (hr.mono (by decide)) (by rfl) (pad_cons (pd_xf (xf2 (NmTxt.err (Exists.choose_spec B.x_NoPiece)) (NmTxt.err (Exists.choose_spec B.x_TakenName))) (pdv 5)) (pad_cons (pdv 4) pad_nil))))) (psd_one (psd_ret pd_bl)) psd_nil)))
    (psd_cons (psd_set sc_law.nd rfl (by first | exact Or.inl rfl | exact Or.inr rfl) (pd_fz (pn_lst (pad_cons (pd_mkEx (AtTxt.err (Exists.choose_spec B.x_BadValue)) (B.errs.gl 0 (by decide)) hr (by rfl) (pad_cons (pdv 3) pad_nil)) (pad_cons (pd_mkEx (AtTxt.err (Exists.choose_spec B.x_BadText)) (B.errs.gl 1 (by decide)) hr (by rfl) (pad_cons (pdv 3) pad_nil)) (pad_cons (pd_mkEx (AtTxt.err (Exists.choose_spec B.x_BadPaper)) (B.errs.gl 2 (by decide)) hr (by rfl) (pad_cons (pdv 3) pad_nil)) (pad_cons (pd_mkEx (NmTxt.err (Exists.choose_spec B.x_NoPiece)) (B.errs.gl 3 (by decide)) hr (by rfl) (pad_cons (pdv 4) pad_nil)) (pad_cons (pd_mkEx (NmTxt.err (Exists.choose_spec B.x_TakenName)) (B.errs.gl 4 (by decide)) hr (by rfl) (pad_cons (pdv 4) pad_nil)) (pad_cons (pd_mkEx0 PySem.F.excBase_Exception B.errs.t5 (B.errs.gl 5 (by decide)) (B.errs.kp 5 (by decide)) (by rfl)) pad_nil)))))))))
    (psd_cons (psd_for (ts := [7]) PassesOwn.never rfl (pid_range1 (by rfl) B.b_range (pad_cons pd_int pad_nil)) (pgd_name (i := 7) sc_law.nd rfl (by first | exact Or.inl rfl | exact Or.inr rfl)) (psd_one (psd_if (PW.pt (pwd_or (ptd_cmp (op_neD hu) ok_ne (pd_fn h__law_of (hr.mono (by decide)) (by rfl) (pad_cons (pd_ix (pdv 6) (pdv 7)) pad_nil)) (pd_fz (pn_lc (own := [("one", 8)]) (ts := [8]) rfl sc_law.nd (PI.k (pid_range1 (by rfl) B.b_range (pad_cons pd_int pad_nil))) (blkOk_by (own := [("one", 8)]) (N := (["script", "row", "spot", "at", "other", "made", "every", "k", "one"] : List Str)) (sc := (defScope s_law)) (by decide +kernel)) (by decide) (fun _ _ _ _ _ => (pgd_name (i := 8) sc_law.nd rfl (by first | exact Or.inl rfl | exact Or.inr rfl))) (fun _ _ _ _ _ => ptsd_nil) (fun _ _ _ _ _ => (pd_cmp (op_eqD hu) ok_eq (pdv 8) (pdv 7)))))) (pwd_or (ptd_truth (pd_fn h__law_foreign (hr.mono (by decide)) (by rfl) (pad_cons (pd_ix (pdv 6) (pdv 7)) pad_nil))) (pwd_or1 (ptd_not (ptd_truth (pd_isx (B.errs.kA B.errs.lay) (by rfl) B.b_isinstance (by rfl) (B.errs.gl 13 (by decide)) (pd_ix (pdv 6) (pdv 7))))))))) (psd_one (psd_ret pd_bl)) psd_nil)))
    (psd_one (psd_ret (pdo_and (pdo_not (pd_fn h__law_caught (hr.mono (by decide)) (by rfl) (pad_cons pd_int pad_nil))) (pdo_one (pd_fn h__law_caught (hr.mono (by decide)) (by rfl) (pad_cons (pd_op op_addA ok_add pd_int (pd_fn h__law_take (hr.mono (by decide)) (by rfl) (pad_cons (pdv 1) (pad_cons (pdv 2) (pad_cons pd_int pad_nil))))) pad_nil))))))))))))))
end
end Dm
namespace Dm
open PySem PySem.Spec L2

theorem law_all {w : World} {K : PySem.W.Frag} {mg : Str → Option Value} {base : Heap} {cl : Nat → Addr} {P : Program} {fa : Addr} {fd : FuncData} (B : Bt K mg cl) (A__law_so : DefAt K mg "_law_so" "_law_so" s__law_so ["found", "meant"]) (A__law_numbers : DefAt K mg "_law_numbers" "_law_numbers" s__law_numbers ["script"]) (A__law_draw : DefAt K mg "_law_draw" "_law_draw" s__law_draw ["row", "at", "limit"]) (A__law_take : DefAt K mg "_law_take" "_law_take" s__law_take ["row", "spot", "limit"]) (A__law_of : DefAt K mg "_law_of" "_law_of" s__law_of ["value"]) (A__law_foreign : DefAt K mg "_law_foreign" "_law_foreign" s__law_foreign ["value"]) (A__law_caught : DefAt K mg "_law_caught" "_law_caught" s__law_caught ["at"]) (F : Fun K "law" "law" s_law fa fd) : FnOk P w K mg base CX0 14 fa fd ["script"] (spD ⟨K, cl⟩ f_law_k00) := by
  have h__law_so := d__law_so (P := P) (w := w) (base := base) (cl := cl) A__law_so B 12
  have h__law_numbers := d__law_numbers (P := P) (w := w) (base := base) (cl := cl) A__law_numbers B
  have h__law_draw := d__law_draw (P := P) (w := w) (base := base) (cl := cl) A__law_draw B
  have h__law_take := d__law_take (P := P) (w := w) (base := base) (cl := cl) A__law_take B h__law_draw
  have h__law_of := d__law_of (P := P) (w := w) (base := base) (cl := cl) A__law_of B
  have h__law_foreign := d__law_foreign (P := P) (w := w) (base := base) (cl := cl) A__law_foreign B
  have h__law_caught := d__law_caught (P := P) (w := w) (base := base) (cl := cl) A__law_caught B
  exact d_law F B h__law_numbers h__law_take h__law_so h__law_of h__law_foreign h__law_caught
end Dm
namespace Dm
open PySem PySem.Spec L2

theorem head_fm {l : PySem.W.OpenLaw} {w : World} {K : PySem.W.Frag} {h : Heap} {mg : Str → Option Value} {fa : Addr} (X : K.In h) (G : h.Ns mainGlobals mg) (hfa : mg "law" = some (.ref fa)) (c : SaysM Hd.fm Hd.df K) :
    ∃ fd : FuncData, (∀ (s : Shared) (u : Value), BindsTo s fd ⟨[u], []⟩ [("script", u)]) ∧ ∀ base : Heap, K.In base → base.Ns mainGlobals mg → FnOk l.prog w K mg base CX0 14 fa fd ["script"] (spD ⟨K, clE K⟩ f_law_k00) := by
  have A__law_so : DefAt K mg "_law_so" "_law_so" s__law_so ["found", "meant"] := c.defP X G 0 rfl (by kernel_rfl) (fun as _ _ _ _ _ _ _ _ us ha hl => match as, ha, us, hl with | [⟨_, _, _⟩, ⟨_, _, _⟩], rfl, [_, _], _ => rfl) (fun as _ _ _ _ _ _ _ _ us ha hl => match as, ha, us, hl with | [⟨_, _, _⟩, ⟨_, _, _⟩], rfl, [_, _], _ => rfl)
  have A__law_numbers : DefAt K mg "_law_numbers" "_law_numbers" s__law_numbers ["script"] := c.defP X G 1 rfl (by kernel_rfl) (fun as _ _ _ _ _ _ _ _ us ha hl => match as, ha, us, hl with | [⟨_, _, _⟩], rfl, [_], _ => rfl) (fun as _ _ _ _ _ _ _ _ us ha hl => match as, ha, us, hl with | [⟨_, _, _⟩], rfl, [_], _ => rfl)
  have A__law_draw : DefAt K mg "_law_draw" "_law_draw" s__law_draw ["row", "at", "limit"] := c.defP X G 2 rfl (by kernel_rfl) (fun as _ _ _ _ _ _ _ _ us ha hl => match as, ha, us, hl with | [⟨_, _, _⟩, ⟨_, _, _⟩, ⟨_, _, _⟩], rfl, [_, _, _], _ => rfl) (fun as _ _ _ _ _ _ _ _ us ha hl => match as, ha, us, hl with | [⟨_, _, _⟩, ⟨_, _, _⟩, ⟨_, _, _⟩], rfl, [_, _, _], _ => rfl)
  have A__law_take : DefAt K mg "_law_take" "_law_take" s__law_take ["row", "spot", "limit"] := c.defP X G 3 rfl (by kernel_rfl) (fun as _ _ _ _ _ _ _ _ us ha hl => match as, ha, us, hl with | [⟨_, _, _⟩, ⟨_, _, _⟩, ⟨_, _, _⟩], rfl, [_, _, _], _ => rfl) (fun as _ _ _ _ _ _ _ _ us ha hl => match as, ha, us, hl with | [⟨_, _, _⟩, ⟨_, _, _⟩, ⟨_, _, _⟩], rfl, [_, _, _], _ => rfl)
  have A__law_of : DefAt K mg "_law_of" "_law_of" s__law_of ["value"] := c.defP X G 4 rfl (by kernel_rfl) (fun as _ _ _ _ _ _ _ _ us ha hl => match as, ha, us, hl with | [⟨_, _, _⟩], rfl, [_], _ => rfl) (fun as _ _ _ _ _ _ _ _ us ha hl => match as, ha, us, hl with | [⟨_, _, _⟩], rfl, [_], _ => rfl)
  have A__law_foreign : DefAt K mg "_law_foreign" "_law_foreign" s__law_foreign ["value"] := c.defP X G 5 rfl (by kernel_rfl) (fun as _ _ _ _ _ _ _ _ us ha hl => match as, ha, us, hl with | [⟨_, _, _⟩], rfl, [_], _ => rfl) (fun as _ _ _ _ _ _ _ _ us ha hl => match as, ha, us, hl with | [⟨_, _, _⟩], rfl, [_], _ => rfl)
  have A__law_caught : DefAt K mg "_law_caught" "_law_caught" s__law_caught ["at"] := c.defP X G 6 rfl (by kernel_rfl) (fun as _ _ _ _ _ _ _ _ us ha hl => match as, ha, us, hl with | [⟨_, _, _⟩], rfl, [_], _ => rfl) (fun as _ _ _ _ _ _ _ _ us ha hl => match as, ha, us, hl with | [⟨_, _, _⟩], rfl, [_], _ => rfl)
  have B : Bt K mg (clE K) := ⟨c.free X G 0, c.free X G 1, c.free X G 2, c.free X G 3, c.free X G 4, c.free X G 5, c.free X G 6, c.errs X G 7, c.free X G 8, c.free X G 9, c.free X G 10, c.free X G 11, (c.xnm X G 12 8 (x := "NoPiece") (q := "NoPiece.__init__") (st := s_NoPiece_init) rfl rfl ⟨_, _, rfl⟩ ⟨_, _, _, _, rfl⟩ rfl), (c.xat X G 13 9 (x := "BadPaper") (q := "BadPaper.__init__") (st := s_BadPaper_init) rfl rfl ⟨_, _, rfl⟩ ⟨_, _, _, _, rfl⟩ rfl), (c.xat X G 14 10 (x := "BadText") (q := "BadText.__init__") (st := s_BadText_init) rfl rfl ⟨_, _, rfl⟩ ⟨_, _, _, _, rfl⟩ rfl), (c.xat X G 15 11 (x := "BadValue") (q := "BadValue.__init__") (st := s_BadValue_init) rfl rfl ⟨_, _, rfl⟩ ⟨_, _, _, _, rfl⟩ rfl), (c.xnm X G 16 12 (x := "TakenName") (q := "TakenName.__init__") (st := s_TakenName_init) rfl rfl ⟨_, _, rfl⟩ ⟨_, _, _, _, rfl⟩ rfl)⟩
  obtain ⟨kV, doc, pm, an, cdv, ct, F⟩ := c.law X G 7 (x := "law") (st := s_law) rfl hfa
  exact ⟨_, fun s v => .of_eq rfl, fun base _ _ => law_all B A__law_so A__law_numbers A__law_draw A__law_take A__law_of A__law_foreign A__law_caught F⟩
end Dm

open PySem PySem.W PySem.Calls PyProof.Rows in
set_option maxRecDepth 100000 in
set_option maxHeartbeats 0 in
theorem PySem.Challenge.cw_snuglay_k00_errors_holds : PySem.Challenge.rw_snuglay_k00_errors.Holds := by
  refine Dm.Hd.top (Dm.walkM (F := Dm.f_law_k00) (l := PySem.Challenge.rw_snuglay_k00_errors) (k := 14) Dm.Hd.most63 Dm.Hd.noDefaults ⟨rfl, by decide, by decide⟩ Dm.p_law_k00 ?F)
  intro w K mg fa h KX G hmg0 c
  have hmg : mg ("law" : PySem.Str) = some (.ref fa) := by
    rw [← Dm.Hd.itsName]
    exact hmg0
  exact Dm.head_fm KX G hmg c
