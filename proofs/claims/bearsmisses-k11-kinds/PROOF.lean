import PyProof.Rows.All
import Wide.All
import OpenK.AllK
import Wide.FinOn
import HandS.ForMost
import HandS.Evl
import HandS.ForExc
import HandS.TryMany
import HandS.ExcInit
import HandS.ExcIs
import HandS.ExcField
import HandS.IsInst
import HandS.Wide
import HandS.SortInts
import HandS.Zip
import HandS.Defaults
import HandS.ClsMeth
import HandS.Property
import HandS.OwnEq
import HandS.FStr
import HandS.RaiseMore
import HandS.EndBits
import HandS.Flow
import HandS.Rev
import HandS.Style
import HandS.DictComp
import HandS.DictTup
import HandS.GenBody
import HandS.GenYield
import HandS.GenCall
import HandS.Head0
import HandS.Head1
import HandS.Head2
import HandS.HeadEnd
import HandS.HeadHook1
import HandS.HeadHook2
import HandS.Conv
import HandS.TupAny
import HandS.More
import PySem.Challenge.RW_bearsmisses_k11_kinds
set_option Elab.async false
set_option autoImplicit false
set_option linter.all false
set_option maxRecDepth 100000
set_option maxHeartbeats 4000000
/-! DA: data trees, what they are in the abstract heap, owned trees, the state of a body -/
namespace DL
open PySem L2

/-- plain data; obj: a finished instance -/
inductive D where
  | non | bl (b : Bool) | int (i : Int) | str (x : Str)
  | scr (ns : List Int) | lst (xs : List D) | tup (xs : List D) | dic (kvs : List (Key × D)) | obj (C : Addr) (fs : List (Str × D))

/-- a tree that one slot (or one pending value) owns -/
inductive OT where
  | fz (d : D) | own (xs : List OT) | tup (xs : List OT) | oob (C : Addr) (fs : List (Str × OT))

mutual
def OT.frz : OT → D
  | .fz d => d
  | .own xs => .lst (frzL xs)
  | .tup xs => .tup (frzL xs)
  | .oob C fs => .obj C (frzF fs)
def frzL : List OT → List D
  | [] => []
  | t :: r => t.frz :: frzL r
def frzF : List (Str × OT) → List (Str × D)
  | [] => []
  | (f, t) :: r => (f, t.frz) :: frzF r
end

section
variable (K : PySem.W.Frag) (B H : Hp)
mutual
def Is : D → V → Prop
  | .non, v => v = .non
  | .bl b, v => v = .bl b
  | .int i, v => v = .int i
  | .str x, v => v = .str x
  | .scr ns, v => ∃ a, v = .ref a ∧ SqL K B a (ns.map V.int)
  | .lst ds, v => ∃ a vs, v = .ref a ∧ B a = some (.lst vs) ∧ IsA ds vs
  | .tup ds, v => ∃ a vs, v = .ref a ∧ SqT K B a vs ∧ IsA ds vs
  | .dic kvs, v => ∃ a ks, v = .ref a ∧ B a = some (.dK ks) ∧ IsK kvs ks
  | .obj C fs, v => ∃ a dx ks, v = .ref a ∧ B a = some (.ins C dx ks) ∧ B dx = some (.own a) ∧ IsF fs ks
def IsA : List D → List V → Prop
  | [], vs => vs = []
  | d :: ds, vs => ∃ v r, vs = v :: r ∧ Is d v ∧ IsA ds r
def IsK : List (Key × D) → List (Key × V) → Prop
  | [], ks => ks = []
  | (k, d) :: r, ks => ∃ v t, ks = (k, v) :: t ∧ Is d v ∧ IsK r t
def IsF : List (Str × D) → List (Str × V) → Prop
  | [], ks => ks = []
  | (f, d) :: r, ks => ∃ v t, ks = (f, v) :: t ∧ Is d v ∧ IsF r t
end
mutual
def Rep : OT → V → List Addr → Prop
  | .fz d, v, F => F = [] ∧ Is K B d v
  | .own ts, v, F => ∃ a vs G, v = .ref a ∧ F = a :: G ∧ H a = some (.lst vs) ∧ B a = none ∧ RepA ts vs G
  | .tup ts, v, F => ∃ a vs, v = .ref a ∧ SqT K B a vs ∧ RepA ts vs F
  | .oob C fs, v, F => ∃ a dx ks G, v = .ref a ∧ F = a :: dx :: G ∧ H a = some (.ins C dx ks) ∧ H dx = some (.own a) ∧ B a = none ∧ B dx = none ∧ RepF fs ks G
def RepA : List OT → List V → List Addr → Prop
  | [], vs, F => vs = [] ∧ F = []
  | t :: ts, vs, F => ∃ v r F1 F2, vs = v :: r ∧ F = F1 ++ F2 ∧ Rep t v F1 ∧ RepA ts r F2
def RepF : List (Str × OT) → List (Str × V) → List Addr → Prop
  | [], ks, F => ks = [] ∧ F = []
  | (f, t) :: ts, ks, F => ∃ v r F1 F2, ks = (f, v) :: r ∧ F = F1 ++ F2 ∧ Rep t v F1 ∧ RepF ts r F2
end
end

abbrev SD := List (Option OT)
/-- the slots -/
def RepS (K : PySem.W.Frag) (B H : Hp) : SD → St → List Addr → Prop
  | [], σ, F => σ = [] ∧ F = []
  | none :: ts, σ, F => ∃ o r, σ = o :: r ∧ RepS K B H ts r F
  | some t :: ts, σ, F => ∃ v r F1 F2, σ = some v :: r ∧ F = F1 ++ F2 ∧ Rep K B H t v F1 ∧ RepS K B H ts r F2

theorem ex_l {K : PySem.W.Frag} {H H' : Hp} {a : Addr} {xs : List V} (e : Evl.Ex H H') (h : SqL K H a xs) : SqL K H' a xs := Evl.ex_l e h
section
variable {K : PySem.W.Frag} {B B' H H' : Hp}
mutual
theorem Is.mono (e : Evl.Ex B B') : ∀ {d : D} {v : V}, Is K B d v → Is K B' d v
  | .non, _, h => h
  | .bl _, _, h => h
  | .int _, _, h => h
  | .str _, _, h => h
  | .scr _, _, ⟨a, h1, h2⟩ => ⟨a, h1, Evl.ex_l e h2⟩
  | .lst _, _, ⟨a, vs, h1, h2, h3⟩ => ⟨a, vs, h1, e _ _ h2, IsA.mono e h3⟩
  | .tup _, _, ⟨a, vs, h1, h2, h3⟩ => ⟨a, vs, h1, Evl.ex_t e h2, IsA.mono e h3⟩
  | .dic _, _, ⟨a, ks, h1, h2, h3⟩ => ⟨a, ks, h1, e _ _ h2, IsK.mono e h3⟩
  | .obj _ _, _, ⟨a, dx, ks, h1, h2, h3, h4⟩ => ⟨a, dx, ks, h1, e _ _ h2, e _ _ h3, IsF.mono e h4⟩
theorem IsA.mono (e : Evl.Ex B B') : ∀ {ds : List D} {vs : List V}, IsA K B ds vs → IsA K B' ds vs
  | [], _, h => h
  | _ :: _, _, ⟨v, r, h1, h2, h3⟩ => ⟨v, r, h1, Is.mono e h2, IsA.mono e h3⟩
theorem IsK.mono (e : Evl.Ex B B') : ∀ {ds : List (Key × D)} {vs : List (Key × V)}, IsK K B ds vs → IsK K B' ds vs
  | [], _, h => h
  | (_, _) :: _, _, ⟨v, r, h1, h2, h3⟩ => ⟨v, r, h1, Is.mono e h2, IsK.mono e h3⟩
theorem IsF.mono (e : Evl.Ex B B') : ∀ {ds : List (Str × D)} {vs : List (Str × V)}, IsF K B ds vs → IsF K B' ds vs
  | [], _, h => h
  | (_, _) :: _, _, ⟨v, r, h1, h2, h3⟩ => ⟨v, r, h1, Is.mono e h2, IsF.mono e h3⟩
end
mutual
theorem Rep.mono (e : Evl.Ex B B') : ∀ {t : OT} {v : V} {F : List Addr}, (∀ a ∈ F, H' a = H a ∧ B' a = none) → Rep K B H t v F → Rep K B' H' t v F
  | .fz _, _, _, _, ⟨h1, h2⟩ => ⟨h1, Is.mono e h2⟩
  | .own _, _, _, k, ⟨a, vs, G, h1, h2, h3, h4, h5⟩ => by
    subst h2
    exact ⟨a, vs, G, h1, rfl, (k a List.mem_cons_self).1.trans h3, (k a List.mem_cons_self).2, RepA.mono e (fun b hb => k b (List.mem_cons_of_mem _ hb)) h5⟩
  | .tup _, _, _, k, ⟨a, vs, h1, h2, h3⟩ => ⟨a, vs, h1, Evl.ex_t e h2, RepA.mono e k h3⟩
  | .oob _ _, _, _, k, ⟨a, dx, ks, G, h1, h2, h3, h4, h5, h6, h7⟩ => by
    subst h2
    have m1 : a ∈ a :: dx :: G := List.mem_cons_self
    have m2 : dx ∈ a :: dx :: G := List.mem_cons_of_mem _ List.mem_cons_self
    exact ⟨a, dx, ks, G, h1, rfl, (k a m1).1.trans h3, (k dx m2).1.trans h4, (k a m1).2, (k dx m2).2, RepF.mono e (fun b hb => k b (List.mem_cons_of_mem _ (List.mem_cons_of_mem _ hb))) h7⟩
theorem RepA.mono (e : Evl.Ex B B') : ∀ {ts : List OT} {vs : List V} {F : List Addr}, (∀ a ∈ F, H' a = H a ∧ B' a = none) → RepA K B H ts vs F → RepA K B' H' ts vs F
  | [], _, _, _, h => h
  | _ :: _, _, _, k, ⟨v, r, F1, F2, h1, h2, h3, h4⟩ => by
    subst h2
    exact ⟨v, r, F1, F2, h1, rfl, Rep.mono e (fun b hb => k b (List.mem_append_left _ hb)) h3, RepA.mono e (fun b hb => k b (List.mem_append_right _ hb)) h4⟩
theorem RepF.mono (e : Evl.Ex B B') : ∀ {ts : List (Str × OT)} {vs : List (Str × V)} {F : List Addr}, (∀ a ∈ F, H' a = H a ∧ B' a = none) → RepF K B H ts vs F → RepF K B' H' ts vs F
  | [], _, _, _, h => h
  | (_, _) :: _, _, _, k, ⟨v, r, F1, F2, h1, h2, h3, h4⟩ => by
    subst h2
    exact ⟨v, r, F1, F2, h1, rfl, Rep.mono e (fun b hb => k b (List.mem_append_left _ hb)) h3, RepF.mono e (fun b hb => k b (List.mem_append_right _ hb)) h4⟩
end
theorem RepS.mono (e : Evl.Ex B B') : ∀ {ts : SD} {σ : St} {F : List Addr}, (∀ a ∈ F, H' a = H a ∧ B' a = none) → RepS K B H ts σ F → RepS K B' H' ts σ F
  | [], _, _, _, h => h
  | none :: _, _, _, k, ⟨o, r, h1, h2⟩ => ⟨o, r, h1, RepS.mono e k h2⟩
  | some _ :: _, _, _, k, ⟨v, r, F1, F2, h1, h2, h3, h4⟩ => by
    subst h2
    exact ⟨v, r, F1, F2, h1, rfl, Rep.mono e (fun b hb => k b (List.mem_append_left _ hb)) h3, RepS.mono e (fun b hb => k b (List.mem_append_right _ hb)) h4⟩

/- own nodes stand in H, not in B -/
mutual
theorem Rep.there : ∀ {t : OT} {v : V} {F : List Addr}, Rep K B H t v F → ∀ a ∈ F, B a = none ∧ ∃ o, H a = some o
  | .fz _, _, _, ⟨h1, _⟩, a, ha => by subst h1; cases ha
  | .own _, _, _, ⟨b, vs, G, h1, h2, h3, h4, h5⟩, a, ha => by
    subst h2
    rcases List.mem_cons.mp ha with rfl | ha
    · exact ⟨h4, _, h3⟩
    · exact RepA.there h5 a ha
  | .tup _, _, _, ⟨_, _, _, _, h3⟩, a, ha => RepA.there h3 a ha
  | .oob _ _, _, _, ⟨b, dx, ks, G, h1, h2, h3, h4, h5, h6, h7⟩, a, ha => by
    subst h2
    rcases List.mem_cons.mp ha with rfl | ha
    · exact ⟨h5, _, h3⟩
    · rcases List.mem_cons.mp ha with rfl | ha
      · exact ⟨h6, _, h4⟩
      · exact RepF.there h7 a ha
theorem RepA.there : ∀ {ts : List OT} {vs : List V} {F : List Addr}, RepA K B H ts vs F → ∀ a ∈ F, B a = none ∧ ∃ o, H a = some o
  | [], _, _, ⟨_, h⟩, a, ha => by subst h; cases ha
  | _ :: _, _, _, ⟨v, r, F1, F2, h1, h2, h3, h4⟩, a, ha => by
    subst h2
    rcases List.mem_append.mp ha with ha | ha
    · exact Rep.there h3 a ha
    · exact RepA.there h4 a ha
theorem RepF.there : ∀ {ts : List (Str × OT)} {vs : List (Str × V)} {F : List Addr}, RepF K B H ts vs F → ∀ a ∈ F, B a = none ∧ ∃ o, H a = some o
  | [], _, _, ⟨_, h⟩, a, ha => by subst h; cases ha
  | (_, _) :: _, _, _, ⟨v, r, F1, F2, h1, h2, h3, h4⟩, a, ha => by
    subst h2
    rcases List.mem_append.mp ha with ha | ha
    · exact Rep.there h3 a ha
    · exact RepF.there h4 a ha
end
theorem RepS.there : ∀ {ts : SD} {σ : St} {F : List Addr}, RepS K B H ts σ F → ∀ a ∈ F, B a = none ∧ ∃ o, H a = some o
  | [], _, _, ⟨_, h⟩, a, ha => by subst h; cases ha
  | none :: _, _, _, ⟨o, r, h1, h2⟩, a, ha => RepS.there h2 a ha
  | some _ :: _, _, _, ⟨v, r, F1, F2, h1, h2, h3, h4⟩, a, ha => by
    subst h2
    rcases List.mem_append.mp ha with ha | ha
    · exact Rep.there h3 a ha
    · exact RepS.there h4 a ha

/-- freezing: the own nodes go over to B -/
def thaw (B H : Hp) (F : List Addr) : Hp := fun a => if a ∈ F then H a else B a
theorem thaw_ex {F : List Addr} (h : ∀ a ∈ F, B a = none) : Evl.Ex B (thaw B H F) := fun a o e => by
  unfold thaw
  by_cases m : a ∈ F
  · rw [h a m] at e; cases e
  · rw [if_neg m]; exact e
mutual
theorem Rep.frozen (ex : Evl.Ex B B') : ∀ {t : OT} {v : V} {F : List Addr}, (∀ a ∈ F, B' a = H a) → Rep K B H t v F → Is K B' t.frz v
  | .fz _, _, _, _, ⟨_, h⟩ => by
    rw [OT.frz]
    exact Is.mono ex h
  | .own _, _, _, k, ⟨b, vs, G, h1, h2, h3, h4, h5⟩ => by
    subst h2
    rw [OT.frz]
    exact ⟨b, vs, h1, (k b List.mem_cons_self).trans h3, RepA.frozen ex (fun a ha => k a (List.mem_cons_of_mem _ ha)) h5⟩
  | .tup _, _, _, k, ⟨b, vs, h1, h2, h3⟩ => by
    rw [OT.frz]
    exact ⟨b, vs, h1, Evl.ex_t ex h2, RepA.frozen ex k h3⟩
  | .oob _ _, _, _, k, ⟨b, dx, ks, G, h1, h2, h3, h4, h5, h6, h7⟩ => by
    subst h2
    rw [OT.frz]
    exact ⟨b, dx, ks, h1, (k b List.mem_cons_self).trans h3, (k dx (List.mem_cons_of_mem _ List.mem_cons_self)).trans h4, RepF.frozen ex (fun a ha => k a (List.mem_cons_of_mem _ (List.mem_cons_of_mem _ ha))) h7⟩
theorem RepA.frozen (ex : Evl.Ex B B') : ∀ {ts : List OT} {vs : List V} {F : List Addr}, (∀ a ∈ F, B' a = H a) → RepA K B H ts vs F → IsA K B' (frzL ts) vs
  | [], _, _, _, ⟨h, _⟩ => by
    rw [frzL]
    exact h
  | _ :: _, _, _, k, ⟨v, r, F1, F2, h1, h2, h3, h4⟩ => by
    subst h2
    rw [frzL]
    exact ⟨v, r, h1, Rep.frozen ex (fun a ha => k a (List.mem_append_left _ ha)) h3, RepA.frozen ex (fun a ha => k a (List.mem_append_right _ ha)) h4⟩
theorem RepF.frozen (ex : Evl.Ex B B') : ∀ {ts : List (Str × OT)} {vs : List (Str × V)} {F : List Addr}, (∀ a ∈ F, B' a = H a) → RepF K B H ts vs F → IsF K B' (frzF ts) vs
  | [], _, _, _, ⟨h, _⟩ => by
    rw [frzF]
    exact h
  | (_, _) :: _, _, _, k, ⟨v, r, F1, F2, h1, h2, h3, h4⟩ => by
    subst h2
    rw [frzF]
    exact ⟨v, r, h1, Rep.frozen ex (fun a ha => k a (List.mem_append_left _ ha)) h3, RepF.frozen ex (fun a ha => k a (List.mem_append_right _ ha)) h4⟩
end
end
end DL

/-! DB: the state of a body over trees; results; judgements -/
namespace DL
open PySem L2

/-- the entry: what was stable, the heap, what the callee was given to own -/
structure Ent (fx : List Nat) where
  s0 : St
  B : Hp
  H : Hp
  F : List Addr
structure Go {fx : List Nat} (E : Ent fx) (B H : Hp) (F : List Addr) : Prop where
  ex : Evl.Ex E.B B
  keep : ∀ a o, E.H a = some o → a ∉ E.F → H a = some o
  ever : ∀ a o, E.H a = some o → ∃ u, H a = some u
  neu : ∀ a o, B a = some o → E.B a = some o ∨ E.H a = none ∨ a ∈ E.F
  own : ∀ a ∈ F, E.H a = none ∨ a ∈ E.F
theorem Go.fresh {fx : List Nat} {E : Ent fx} {B H : Hp} {F : List Addr} (g : Go E B H F) {p : Addr} (h : H p = none) : E.H p = none := by
  cases q : E.H p with
  | none => rfl
  | some o =>
    obtain ⟨u, hu⟩ := g.ever p o q
    rw [h] at hu; cases hu

/-- what is wanted of exceptions; the slots that keep what they held at the entry -/
structure WF where
  w : WX
  fx : List Nat
instance : CoeFun WF (fun _ => WX) := ⟨WF.w⟩
abbrev PV := List (V × OT)
/-- the state with its stable part told -/
structure RpB {fx : List Nat} (K : PySem.W.Frag) (E : Ent fx) (B : Hp) (σ : St) (sd : SD) (P : PV) (H : Hp) (Fp Fs : List Addr) : Prop where
  fix : ∀ i ∈ fx, σ[i]? = E.s0[i]?
  sub : Evl.Ex B H
  pe : RepA K B H (P.map (·.2)) (P.map (·.1)) Fp
  sl : RepS K B H sd σ Fs
  nd : (Fp ++ Fs).Nodup
  go : Go E B H (Fp ++ Fs)
def Rp {fx : List Nat} (K : PySem.W.Frag) (E : Ent fx) (σ : St) (sd : SD) (P : PV) (H : Hp) : Prop := ∃ B Fp Fs, RpB K E B σ sd P H Fp Fs

/-- an own error: its class, its fields -/
structure Exn where
  C : Addr
  fs : List (Str × D)
def Rx {fx : List Nat} (K : PySem.W.Frag) (E : Ent fx) (σ : St) (sd : SD) (P : PV) (e : Exn) (cls : Value) (dd : Option Addr) (H : Hp) : Prop :=
  ∃ B Fp Fs, RpB K E B σ sd P H Fp Fs ∧ cls = .ref e.C ∧ ∃ d ks, dd = some d ∧ H d = some (.xd ks) ∧ IsF K B e.fs ks ∧ B d = some (.xd ks)

inductive R (α : Type) where
  | ok (a : α) (s : SD) | ex (e : Exn) (s : SD) | no
def R.bind {α β : Type} (r : R α) (k : α → SD → R β) : R β := match r with
  | .ok a s => k a s
  | .ex e s => .ex e s
  | .no => .no
inductive RS where
  | nx (s : SD) | rt (t : OT) (s : SD) | bk (s : SD) | ct (s : SD) | ex (e : Exn) (s : SD) | no
def R.thn {α : Type} (r : R α) (k : α → SD → RS) : RS := match r with
  | .ok a s => k a s
  | .ex e s => .ex e s
  | .no => .no
def RS.seq (r : RS) (k : SD → RS) : RS := match r with
  | .nx s => k s
  | .rt t s => .rt t s
  | .bk s => .bk s
  | .ct s => .ct s
  | .ex e s => .ex e s
  | .no => .no

section
variable (K : PySem.W.Frag) (W : WF) (E : Ent W.fx) (σ : St) (P : PV)
def okE (Q : VK) : R OT → Prop
  | .ok t s => ∀ v H', Rp K E σ s ((v, t) :: P) H' → Q v H'
  | .ex e s => ∀ cls dd H', Rx K E σ s P e cls dd H' → W cls dd σ H'
  | .no => False
def okB (Q : Bool → Hp → Prop) : R Bool → Prop
  | .ok b s => ∀ H', Rp K E σ s P H' → Q b H'
  | .ex e s => ∀ cls dd H', Rx K E σ s P e cls dd H' → W cls dd σ H'
  | .no => False
def okA (Q : List V → Hp → Prop) : R (List OT) → Prop
  | .ok ts s => ∀ vs H', vs.length = ts.length → Rp K E σ s (vs.zip ts ++ P) H' → Q vs H'
  | .ex e s => ∀ cls dd H', Rx K E σ s P e cls dd H' → W cls dd σ H'
  | .no => False
end
def okS (K : PySem.W.Frag) (W : WF) (E : Ent W.fx) (P : PV) (D : Ends) : RS → Prop
  | .nx s => ∀ σ' H', Rp K E σ' s P H' → D.nx σ' H'
  | .rt t s => ∀ v σ' H', Rp K E σ' s ((v, t) :: P) H' → D.rt v H'
  | .bk s => ∀ σ' H', Rp K E σ' s P H' → D.bk σ' H'
  | .ct s => ∀ σ' H', Rp K E σ' s P H' → D.ct σ' H'
  | .ex e s => ∀ cls dd σ' H', Rx K E σ' s P e cls dd H' → W cls dd σ' H'
  | .no => False

/-- THE JUDGEMENTS: an expression, a test, arguments, a statement, a block -/
structure ED (X : Cx) (W : WF) (e : Expr) (f : SD → R OT) : Prop where
  ex : ∃ te, PE X e te ∧ ∀ E σ sd P H Q, Rp X.K E σ sd P H → okE X.K W E σ P Q (f sd) → te σ H Q
structure TD (X : Cx) (W : WF) (e : Expr) (f : SD → R Bool) : Prop where
  ex : ∃ te, PT X e te ∧ ∀ E σ sd P H Q, Rp X.K E σ sd P H → okB X.K W E σ P Q (f sd) → te σ H Q
structure AD (X : Cx) (W : WF) (es : List Expr) (f : SD → R (List OT)) : Prop where
  ex : ∃ te, PA X es te ∧ ∀ E σ sd P H Q, Rp X.K E σ sd P H → okA X.K W E σ P Q (f sd) → te σ H Q
structure SDs (X : Cx) (W : WF) (st : Stmt) (f : SD → RS) : Prop where
  ex : ∃ te, PS X st te ∧ ∀ E σ sd P H D, Rp X.K E σ sd P H → okS X.K W E P D (f sd) → te D σ H
structure BD (X : Cx) (W : WF) (st : List Stmt) (f : SD → RS) : Prop where
  ex : ∃ te, PSs X st te ∧ ∀ E σ sd P H D, Rp X.K E σ sd P H → okS X.K W E P D (f sd) → te D σ H

/-! ### lists of owned addresses -/
theorem nd_swap {A M M' Z : List Addr} (h : (A ++ (M ++ Z)).Nodup) (hm : M'.Nodup) (hn : ∀ x ∈ M', x ∈ M ∨ (x ∉ A ∧ x ∉ Z)) : (A ++ (M' ++ Z)).Nodup := by
  rw [List.nodup_append] at h ⊢
  obtain ⟨h1, h2, h3⟩ := h
  rw [List.nodup_append] at h2 ⊢
  obtain ⟨h4, h5, h6⟩ := h2
  refine ⟨h1, ⟨hm, h5, fun a ha b hb => ?_⟩, fun a ha b hb => ?_⟩
  · rcases hn a ha with m | ⟨_, m⟩
    · exact h6 a m b hb
    · rintro rfl
      exact m hb
  · rcases List.mem_append.mp hb with hb | hb
    · rcases hn b hb with m | ⟨m, _⟩
      · exact h3 a ha b (List.mem_append_left _ m)
      · rintro rfl
        exact m ha
    · exact h3 a ha b (List.mem_append_right _ hb)
theorem nd_tail {A Z : List Addr} (h : (A ++ Z).Nodup) : Z.Nodup := (List.nodup_append.mp h).2.1
theorem nd_head {A Z : List Addr} (h : (A ++ Z).Nodup) : A.Nodup := (List.nodup_append.mp h).1
theorem nd_ne {A Z : List Addr} (h : (A ++ Z).Nodup) {a : Addr} (ha : a ∈ A) : a ∉ Z := fun hz => (List.nodup_append.mp h).2.2 a ha a hz rfl

section
variable {fx : List Nat} {K : PySem.W.Frag} {E : Ent fx} {B H : Hp} {σ : St} {sd : SD} {P : PV} {Fp Fs : List Addr}
theorem RpB.there (r : RpB K E B σ sd P H Fp Fs) : ∀ a ∈ Fp ++ Fs, B a = none ∧ ∃ o, H a = some o := fun a ha => by
  rcases List.mem_append.mp ha with ha | ha
  · exact r.pe.there a ha
  · exact r.sl.there a ha
/-- the first pending value goes -/
theorem Rp.drop {v : V} {t : OT} (h : Rp K E σ sd ((v, t) :: P) H) : Rp K E σ sd P H := by
  obtain ⟨B, Fp, Fs, r⟩ := h
  obtain ⟨v', vr, F1, F2, e1, e2, h1, h2⟩ := r.pe
  cases e1
  subst e2
  refine ⟨B, F2, Fs, r.fix, r.sub, h2, r.sl, ?_, r.go.ex, r.go.keep, r.go.ever, r.go.neu, fun a ha => r.go.own a ?_⟩
  · have := r.nd
    rw [List.append_assoc] at this
    exact nd_tail this
  · rw [List.append_assoc]
    exact List.mem_append_right _ ha
theorem Rx.drop {v : V} {t : OT} {e : Exn} {cls : Value} {dd : Option Addr} (h : Rx K E σ sd ((v, t) :: P) e cls dd H) : Rx K E σ sd P e cls dd H := by
  obtain ⟨B, Fp, Fs, r, k⟩ := h
  obtain ⟨v', vr, F1, F2, e1, e2, h1, h2⟩ := r.pe
  cases e1
  subst e2
  refine ⟨B, F2, Fs, ⟨r.fix, r.sub, h2, r.sl, ?_, r.go.ex, r.go.keep, r.go.ever, r.go.neu, fun a ha => r.go.own a ?_⟩, k⟩
  · have := r.nd
    rw [List.append_assoc] at this
    exact nd_tail this
  · rw [List.append_assoc]
    exact List.mem_append_right _ ha
/-- a pending value is frozen, and read -/
theorem Rp.cold {v : V} {t : OT} (h : Rp K E σ sd ((v, t) :: P) H) : ∃ B Fp Fs, RpB K E B σ sd P H Fp Fs ∧ Is K B t.frz v := by
  obtain ⟨B, Fp, Fs, r⟩ := h
  obtain ⟨v', vr, F1, F2, e1, e2, h1, h2⟩ := r.pe
  cases e1
  subst e2
  have nd := r.nd
  rw [List.append_assoc] at nd
  have th := r.there
  have ex : Evl.Ex B (thaw B H F1) := thaw_ex fun a ha => (h1.there a ha).1
  have out : ∀ a, a ∉ F1 → thaw B H F1 a = B a := fun a ha => if_neg ha
  have k2 : ∀ a ∈ F2 ++ Fs, H a = H a ∧ thaw B H F1 a = none := fun a ha => ⟨rfl, by
    rw [out a fun z => nd_ne nd z ha]
    rcases List.mem_append.mp ha with ha | ha
    · exact (h2.there a ha).1
    · exact (r.sl.there a ha).1⟩
  refine ⟨thaw B H F1, F2, Fs, ⟨r.fix, fun a o e => ?_, h2.mono ex fun a ha => k2 a (List.mem_append_left _ ha), r.sl.mono ex fun a ha => k2 a (List.mem_append_right _ ha), nd_tail nd, ?_, r.go.keep, r.go.ever, fun a o e => ?_, fun a ha => r.go.own a ?_⟩, h1.frozen ex fun a ha => if_pos ha⟩
  · unfold thaw at e
    by_cases m : a ∈ F1
    · rw [if_pos m] at e; exact e
    · rw [if_neg m] at e; exact r.sub a o e
  · exact fun a o e => ex a o (r.go.ex a o e)
  · by_cases m : a ∈ F1
    · rcases r.go.own a (by rw [List.append_assoc]; exact List.mem_append_left _ m) with z | z
      · exact .inr (.inl z)
      · exact .inr (.inr z)
    · rw [out a m] at e
      exact r.go.neu a o e
  · rw [List.append_assoc]
    exact List.mem_append_right _ ha
theorem RpB.rp (r : RpB K E B σ sd P H Fp Fs) : Rp K E σ sd P H := ⟨B, Fp, Fs, r⟩
/-- stable data may be pending -/
theorem RpB.put (r : RpB K E B σ sd P H Fp Fs) {d : D} {v : V} (h : Is K B d v) : RpB K E B σ sd ((v, .fz d) :: P) H Fp Fs :=
  ⟨r.fix, r.sub, ⟨v, _, [], Fp, rfl, rfl, ⟨rfl, h⟩, r.pe⟩, r.sl, r.nd, r.go⟩
/-- pending data, as it stands -/
theorem RpB.top {v : V} {d : D} (r : RpB K E B σ sd ((v, .fz d) :: P) H Fp Fs) : Is K B d v ∧ RpB K E B σ sd P H Fp Fs := by
  obtain ⟨v', vr, F1, F2, e1, e2, ⟨e3, h1⟩, h2⟩ := r.pe
  cases e1
  subst e3 e2
  exact ⟨h1, r.fix, r.sub, h2, r.sl, r.nd, r.go⟩
theorem Rp.cold2 {v u : V} {t q : OT} (h : Rp K E σ sd ((v, t) :: (u, q) :: P) H) : ∃ B Fp Fs, RpB K E B σ sd P H Fp Fs ∧ Is K B t.frz v ∧ Is K B q.frz u := by
  obtain ⟨B, Fp, Fs, r, h1⟩ := h.cold
  -- the second, over the first put in last place
  have r1 : RpB K E B σ sd ((v, .fz t.frz) :: (u, q) :: P) H Fp Fs := r.put h1
  obtain ⟨u', vr, F1, F2, e1, e2, h2, h3⟩ := r.pe
  cases e1
  subst e2
  have nd := r.nd
  rw [List.append_assoc] at nd
  have ex : Evl.Ex B (thaw B H F1) := thaw_ex fun a ha => (h2.there a ha).1
  have out : ∀ a, a ∉ F1 → thaw B H F1 a = B a := fun a ha => if_neg ha
  have k2 : ∀ a ∈ F2 ++ Fs, H a = H a ∧ thaw B H F1 a = none := fun a ha => ⟨rfl, by
    rw [out a fun z => nd_ne nd z ha]
    rcases List.mem_append.mp ha with ha | ha
    · exact (h3.there a ha).1
    · exact (r.sl.there a ha).1⟩
  refine ⟨thaw B H F1, F2, Fs, ⟨r.fix, fun a o e => ?_, h3.mono ex fun a ha => k2 a (List.mem_append_left _ ha), r.sl.mono ex fun a ha => k2 a (List.mem_append_right _ ha), nd_tail nd, ?_, r.go.keep, r.go.ever, fun a o e => ?_, fun a ha => r.go.own a ?_⟩, h1.mono ex, h2.frozen ex fun a ha => if_pos ha⟩
  · unfold thaw at e
    by_cases m : a ∈ F1
    · rw [if_pos m] at e; exact e
    · rw [if_neg m] at e; exact r.sub a o e
  · exact fun a o e => ex a o (r.go.ex a o e)
  · by_cases m : a ∈ F1
    · rcases r.go.own a (by rw [List.append_assoc]; exact List.mem_append_left _ m) with z | z
      · exact .inr (.inl z)
      · exact .inr (.inr z)
    · rw [out a m] at e
      exact r.go.neu a o e
  · rw [List.append_assoc]
    exact List.mem_append_right _ ha
/-- the heap grows at p, untracked so far: a stable thing -/
theorem RpB.newB (r : RpB K E B σ sd P H Fp Fs) {p : Addr} {o : HO} (hp : H p = none) : RpB K E (upd B p o) σ sd P (upd H p o) Fp Fs := by
  have bp : B p = none := by
    cases q : B p with
    | none => rfl
    | some u =>
      have := r.sub p u q
      rw [hp] at this; cases this
  have ex : Evl.Ex B (upd B p o) := Evl.Ex.new bp
  have k : ∀ a ∈ Fp ++ Fs, upd H p o a = H a ∧ upd B p o a = none := fun a ha => by
    obtain ⟨h1, u, h2⟩ := r.there a ha
    have ne : a ≠ p := fun z => by rw [z, hp] at h2; cases h2
    rw [upd_ne ne, upd_ne ne]
    exact ⟨rfl, h1⟩
  refine ⟨r.fix, fun a u e => ?_, r.pe.mono ex fun a ha => k a (List.mem_append_left _ ha), r.sl.mono ex fun a ha => k a (List.mem_append_right _ ha), r.nd, ?_, fun a u e n => ?_, fun a u e => ?_, fun a u e => ?_, r.go.own⟩
  · by_cases m : a = p
    · subst m
      rw [upd_same] at e ⊢
      exact e
    · rw [upd_ne m] at e ⊢
      exact r.sub a u e
  · exact fun a u e => ex a u (r.go.ex a u e)
  · have h := r.go.keep a u e n
    rw [upd_ne fun z => by rw [z, hp] at h; cases h]
    exact h
  · obtain ⟨w, h⟩ := r.go.ever a u e
    exact ⟨w, by rw [upd_ne fun z => by rw [z, hp] at h; cases h]; exact h⟩
  · by_cases m : a = p
    · subst m
      exact .inr (.inl (r.go.fresh hp))
    · rw [upd_ne m] at e
      exact r.go.neu a u e
/-- .. a thing that the first pending value owns -/
theorem RpB.newO (r : RpB K E B σ sd P H Fp Fs) {p : Addr} {vs : List V} {ds : List D} (hp : H p = none) (h : IsA K B ds vs) : Rp K E σ sd ((.ref p, .own (ds.map .fz)) :: P) (upd H p (.lst vs)) := by
  have bp : B p = none := by
    cases q : B p with
    | none => rfl
    | some u =>
      have := r.sub p u q
      rw [hp] at this; cases this
  have nin : p ∉ Fp ++ Fs := fun z => by
    obtain ⟨_, u, h2⟩ := r.there p z
    rw [hp] at h2; cases h2
  have k : ∀ a ∈ Fp ++ Fs, upd H p (.lst vs) a = H a ∧ B a = none := fun a ha => by
    obtain ⟨h1, u, h2⟩ := r.there a ha
    have ne : a ≠ p := fun z => by rw [z, hp] at h2; cases h2
    rw [upd_ne ne]
    exact ⟨rfl, h1⟩
  have all : ∀ {ds : List D} {vs : List V}, IsA K B ds vs → RepA K B (upd H p (.lst vs)) (ds.map .fz) vs [] := by
    intro ds
    induction ds with
    | nil => intro vs h; exact ⟨h, rfl⟩
    | cons d ds ih =>
      rintro vs ⟨v, r, rfl, h1, h2⟩
      exact ⟨v, r, [], [], rfl, rfl, ⟨rfl, h1⟩, (ih h2).mono (Evl.Ex.refl _) fun a ha => absurd ha List.not_mem_nil⟩
  refine ⟨B, p :: Fp, Fs, r.fix, fun a u e => ?_, ⟨.ref p, _, [p], Fp, rfl, rfl, ⟨p, vs, [], rfl, rfl, upd_same, bp, (all h).mono (Evl.Ex.refl _) fun a ha => absurd ha List.not_mem_nil⟩, r.pe.mono (Evl.Ex.refl _) fun a ha => k a (List.mem_append_left _ ha)⟩, r.sl.mono (Evl.Ex.refl _) fun a ha => k a (List.mem_append_right _ ha), List.nodup_cons.mpr ⟨nin, r.nd⟩, r.go.ex, fun a u e n => ?_, fun a u e => ?_, r.go.neu, fun a ha => ?_⟩
  · have h2 := r.sub a u e
    rw [upd_ne fun z => by rw [z, hp] at h2; cases h2]
    exact h2
  · have h := r.go.keep a u e n
    rw [upd_ne fun z => by rw [z, hp] at h; cases h]
    exact h
  · obtain ⟨w, h⟩ := r.go.ever a u e
    exact ⟨w, by rw [upd_ne fun z => by rw [z, hp] at h; cases h]; exact h⟩
  · rcases List.mem_cons.mp ha with e | ha
    · rw [e]
      exact .inl (r.go.fresh hp)
    · exact r.go.own a ha
end
end DL

/-! DC: moving owned things about -/
namespace DL
open PySem L2
section
variable {K : PySem.W.Frag} {fx : List Nat} {E : Ent fx} {B B' H H' : Hp} {σ : St} {sd : SD} {P : PV} {Fp Fs : List Addr}
def RepL (K : PySem.W.Frag) (B H : Hp) (L : PV) (F : List Addr) : Prop := RepA K B H (L.map (·.2)) (L.map (·.1)) F
theorem RepL.nil_iff {F : List Addr} : RepL K B H [] F ↔ F = [] := ⟨fun h => h.2, fun h => ⟨rfl, h⟩⟩
theorem RepL.cons_iff {p : V × OT} {L : PV} {F : List Addr} : RepL K B H (p :: L) F ↔ ∃ F1 F2, F = F1 ++ F2 ∧ Rep K B H p.2 p.1 F1 ∧ RepL K B H L F2 := by
  constructor
  · rintro ⟨v, r, F1, F2, e1, e2, h1, h2⟩
    cases e1
    exact ⟨F1, F2, e2, h1, h2⟩
  · rintro ⟨F1, F2, e2, h1, h2⟩
    exact ⟨p.1, _, F1, F2, rfl, e2, h1, h2⟩
theorem RepL.append_iff : ∀ {L M : PV} {F : List Addr}, RepL K B H (L ++ M) F ↔ ∃ F1 F2, F = F1 ++ F2 ∧ RepL K B H L F1 ∧ RepL K B H M F2
  | [], M, F => ⟨fun h => ⟨[], F, rfl, RepL.nil_iff.mpr rfl, h⟩, by
      rintro ⟨F1, F2, rfl, h1, h2⟩
      rw [RepL.nil_iff] at h1
      subst h1
      exact h2⟩
  | p :: L, M, F => by
    rw [List.cons_append, RepL.cons_iff]
    constructor
    · rintro ⟨F1, F2, rfl, h1, h2⟩
      obtain ⟨G1, G2, rfl, h3, h4⟩ := RepL.append_iff.mp h2
      exact ⟨F1 ++ G1, G2, by rw [List.append_assoc], RepL.cons_iff.mpr ⟨F1, G1, rfl, h1, h3⟩, h4⟩
    · rintro ⟨F1, F2, rfl, h1, h2⟩
      obtain ⟨G1, G2, rfl, h3, h4⟩ := RepL.cons_iff.mp h1
      exact ⟨G1, G2 ++ F2, by rw [List.append_assoc], h3, RepL.append_iff.mpr ⟨G2, F2, rfl, h4, h2⟩⟩
theorem RepL.perm {L M : PV} (p : L.Perm M) : ∀ {F : List Addr}, RepL K B H L F → ∃ G, F.Perm G ∧ RepL K B H M G := by
  induction p with
  | nil => exact fun {F} h => ⟨F, .refl _, h⟩
  | cons x _ ih =>
    intro F h
    obtain ⟨F1, F2, rfl, h1, h2⟩ := RepL.cons_iff.mp h
    obtain ⟨G, g1, g2⟩ := ih h2
    exact ⟨F1 ++ G, g1.append_left F1, RepL.cons_iff.mpr ⟨F1, G, rfl, h1, g2⟩⟩
  | swap x y l =>
    intro F h
    obtain ⟨F1, F2, rfl, h1, h2⟩ := RepL.cons_iff.mp h
    obtain ⟨F3, F4, rfl, h3, h4⟩ := RepL.cons_iff.mp h2
    exact ⟨F3 ++ (F1 ++ F4), by
      rw [← List.append_assoc, ← List.append_assoc]
      exact List.perm_append_comm.append_right F4, RepL.cons_iff.mpr ⟨F3, _, rfl, h3, RepL.cons_iff.mpr ⟨F1, F4, rfl, h1, h4⟩⟩⟩
  | trans _ _ ih1 ih2 =>
    intro F h
    obtain ⟨G, g1, g2⟩ := ih1 h
    obtain ⟨G', g3, g4⟩ := ih2 g2
    exact ⟨G', g1.trans g3, g4⟩
theorem RepL.sub {L M : PV} (p : L.Sublist M) : ∀ {F : List Addr}, RepL K B H M F → ∃ G : List Addr, G.Sublist F ∧ RepL K B H L G := by
  induction p with
  | slnil => exact fun {F} h => ⟨F, .refl _, h⟩
  | cons x _ ih =>
    intro F h
    obtain ⟨F1, F2, rfl, h1, h2⟩ := RepL.cons_iff.mp h
    obtain ⟨G, g1, g2⟩ := ih h2
    exact ⟨G, g1.trans (List.sublist_append_right _ _), g2⟩
  | cons_cons x _ ih =>
    intro F h
    obtain ⟨F1, F2, rfl, h1, h2⟩ := RepL.cons_iff.mp h
    obtain ⟨G, g1, g2⟩ := ih h2
    exact ⟨F1 ++ G, (List.Sublist.refl F1).append g1, RepL.cons_iff.mpr ⟨F1, G, rfl, h1, g2⟩⟩
theorem RepA.length : ∀ {ts : List OT} {vs : List V} {F : List Addr}, RepA K B H ts vs F → vs.length = ts.length
  | [], _, _, ⟨h, _⟩ => by rw [h] <;> rfl
  | _ :: _, _, _, ⟨v, r, _, _, h1, _, _, h4⟩ => by
    rw [h1, List.length_cons, List.length_cons, RepA.length h4]
theorem map_zip1 : ∀ {vs : List V} {ts : List OT}, vs.length = ts.length → (vs.zip ts).map (·.1) = vs
  | [], [], _ => rfl
  | v :: vs, t :: ts, h => by rw [List.zip_cons_cons, List.map_cons, map_zip1 (Nat.succ.inj h)]
theorem map_zip2 : ∀ {vs : List V} {ts : List OT}, vs.length = ts.length → (vs.zip ts).map (·.2) = ts
  | [], [], _ => rfl
  | v :: vs, t :: ts, h => by rw [List.zip_cons_cons, List.map_cons, map_zip2 (Nat.succ.inj h)]
theorem RepA.zip {ts : List OT} {vs : List V} {F : List Addr} (h : RepA K B H ts vs F) : RepL K B H (vs.zip ts) F := by
  unfold RepL
  rw [map_zip1 h.length, map_zip2 h.length]
  exact h
theorem RepL.unzip {ts : List OT} {vs : List V} {F : List Addr} (hl : vs.length = ts.length) (h : RepL K B H (vs.zip ts) F) : RepA K B H ts vs F := by
  unfold RepL at h
  rw [map_zip1 hl, map_zip2 hl] at h
  exact h

/-- a slot, and what may stand there -/
theorem RepS.at_ : ∀ {sd : SD} {σ : St} {F : List Addr} {i : Nat} {t : OT}, RepS K B H sd σ F → sd[i]? = some (some t) →
    ∃ v F1 F2 F3, σ[i]? = some (some v) ∧ F = F1 ++ (F2 ++ F3) ∧ Rep K B H t v F2 ∧
      ∀ B' H', Evl.Ex B B' → (∀ a ∈ F1 ++ F3, H' a = H a ∧ B' a = none) → (∀ t' v' G, Rep K B' H' t' v' G → RepS K B' H' (sd.set i (some t')) (σ.set i (some v')) (F1 ++ (G ++ F3))) ∧ RepS K B' H' (sd.set i none) σ (F1 ++ F3)
  | [], _, _, _, _, _, e => by cases e
  | none :: sd, _, _, 0, _, _, e => by cases e
  | none :: sd, _, _, i + 1, t, ⟨o, r, e1, h⟩, e => by
    subst e1
    obtain ⟨v, F1, F2, F3, g1, g2, g3, g4⟩ := RepS.at_ (i := i) (t := t) h e
    refine ⟨v, F1, F2, F3, g1, g2, g3, fun B' H' ex k => ?_⟩
    obtain ⟨k1, k2⟩ := g4 B' H' ex k
    exact ⟨fun t' v' G hr => ⟨o, _, rfl, k1 t' v' G hr⟩, ⟨o, _, rfl, k2⟩⟩
  | some t0 :: sd, _, _, 0, t, ⟨v, r, F1, F2, e1, e2, h1, h2⟩, e => by
    cases e
    subst e1 e2
    refine ⟨v, [], F1, F2, rfl, rfl, h1, fun B' H' ex k => ⟨fun t' v' G hr => ⟨v', r, G, F2, rfl, rfl, hr, h2.mono ex k⟩, ⟨some v, r, rfl, h2.mono ex k⟩⟩⟩
  | some t0 :: sd, _, _, i + 1, t, ⟨v0, r, G1, G2, e1, e2, h1, h2⟩, e => by
    subst e1 e2
    obtain ⟨v, F1, F2, F3, g1, g2, g3, g4⟩ := RepS.at_ (i := i) (t := t) h2 e
    subst g2
    refine ⟨v, G1 ++ F1, F2, F3, g1, by rw [List.append_assoc], g3, fun B' H' ex k => ?_⟩
    obtain ⟨k1, k2⟩ := g4 B' H' ex fun a ha => k a (by rw [List.append_assoc]; exact List.mem_append_right _ ha)
    have h1' := h1.mono ex fun a ha => k a (by rw [List.append_assoc]; exact List.mem_append_left _ ha)
    exact ⟨fun t' v' G hr => ⟨v0, _, G1, _, rfl, by rw [List.append_assoc], h1', k1 t' v' G hr⟩, ⟨v0, _, G1, _, rfl, by rw [List.append_assoc], h1', k2⟩⟩
theorem RepS.length : ∀ {sd : SD} {σ : St} {F : List Addr}, RepS K B H sd σ F → σ.length = sd.length
  | [], _, _, ⟨h, _⟩ => by rw [h] <;> rfl
  | none :: _, _, _, ⟨o, r, h, h2⟩ => by rw [h, List.length_cons, List.length_cons, RepS.length h2]
  | some _ :: _, _, _, ⟨v, r, _, _, h, _, _, h2⟩ => by rw [h, List.length_cons, List.length_cons, RepS.length h2]
/-- a slot is filled anew -/
theorem RepS.put : ∀ {sd : SD} {σ : St} {F : List Addr} {i : Nat}, RepS K B H sd σ F → i < sd.length →
    ∃ F1 F2 F3, F = F1 ++ (F2 ++ F3) ∧ (∀ t v G, Rep K B H t v G → RepS K B H (sd.set i (some t)) (σ.set i (some v)) (F1 ++ (G ++ F3))) ∧ RepS K B H (sd.set i none) (σ.set i none) (F1 ++ F3)
  | [], _, _, _, _, h => absurd h (Nat.not_lt_zero _)
  | none :: sd, _, F, 0, ⟨o, r, e1, h⟩, _ => by
    subst e1
    exact ⟨[], [], F, rfl, fun t v G hr => ⟨v, r, G, F, rfl, rfl, hr, h⟩, ⟨none, r, rfl, h⟩⟩
  | some t0 :: sd, _, _, 0, ⟨v0, r, F1, F2, e1, e2, h1, h2⟩, _ => by
    subst e1 e2
    exact ⟨[], F1, F2, rfl, fun t v G hr => ⟨v, r, G, F2, rfl, rfl, hr, h2⟩, ⟨none, r, rfl, h2⟩⟩
  | none :: sd, _, F, i + 1, ⟨o, r, e1, h⟩, hi => by
    subst e1
    obtain ⟨F1, F2, F3, g1, g2, g3⟩ := RepS.put (i := i) h (Nat.lt_of_succ_lt_succ hi)
    exact ⟨F1, F2, F3, g1, fun t v G hr => ⟨o, _, rfl, g2 t v G hr⟩, ⟨o, _, rfl, g3⟩⟩
  | some t0 :: sd, _, _, i + 1, ⟨v0, r, G1, G2, e1, e2, h1, h2⟩, hi => by
    subst e1 e2
    obtain ⟨F1, F2, F3, g1, g2, g3⟩ := RepS.put (i := i) h2 (Nat.lt_of_succ_lt_succ hi)
    subst g1
    exact ⟨G1 ++ F1, F2, F3, by rw [List.append_assoc], fun t v G hr => ⟨v0, _, G1, _, rfl, by rw [List.append_assoc], h1, g2 t v G hr⟩, ⟨v0, _, G1, _, rfl, by rw [List.append_assoc], h1, g3⟩⟩

theorem own_frz : ∀ (ts : List OT), frzL ts = ts.map OT.frz
  | [] => rfl
  | t :: ts => by rw [frzL, List.map_cons, own_frz ts]
/-- many pending values are frozen, and read -/
theorem Rp.colds {vs : List V} {ts : List OT} (hl : vs.length = ts.length) (h : Rp K E σ sd (vs.zip ts ++ P) H) : ∃ B Fp Fs, RpB K E B σ sd P H Fp Fs ∧ IsA K B (ts.map OT.frz) vs := by
  obtain ⟨B, Fp, Fs, r⟩ := h
  obtain ⟨F1, F2, e, h1, h2⟩ := RepL.append_iff.mp (show RepL K B H _ Fp from r.pe)
  subst e
  have nd := r.nd
  rw [List.append_assoc] at nd
  have g1 := RepL.unzip hl h1
  have ex : Evl.Ex B (thaw B H F1) := thaw_ex fun a ha => (g1.there a ha).1
  have out : ∀ a, a ∉ F1 → thaw B H F1 a = B a := fun a ha => if_neg ha
  have k2 : ∀ a ∈ F2 ++ Fs, H a = H a ∧ thaw B H F1 a = none := fun a ha => ⟨rfl, by
    rw [out a fun z => nd_ne nd z ha]
    rcases List.mem_append.mp ha with ha | ha
    · exact (RepA.there h2 a ha).1
    · exact (r.sl.there a ha).1⟩
  refine ⟨thaw B H F1, F2, Fs, ⟨r.fix, fun a o e => ?_, RepA.mono ex (fun a ha => k2 a (List.mem_append_left _ ha)) h2, r.sl.mono ex fun a ha => k2 a (List.mem_append_right _ ha), nd_tail nd, ?_, r.go.keep, r.go.ever, fun a o e => ?_, fun a ha => r.go.own a ?_⟩, ?_⟩
  · unfold thaw at e
    by_cases m : a ∈ F1
    · rw [if_pos m] at e; exact e
    · rw [if_neg m] at e; exact r.sub a o e
  · exact fun a o e => ex a o (r.go.ex a o e)
  · by_cases m : a ∈ F1
    · rcases r.go.own a (by rw [List.append_assoc]; exact List.mem_append_left _ m) with z | z
      · exact .inr (.inl z)
      · exact .inr (.inr z)
    · rw [out a m] at e
      exact r.go.neu a o e
  · rw [List.append_assoc]
    exact List.mem_append_right _ ha
  · rw [← own_frz]
    exact g1.frozen ex fun a ha => if_pos ha

/-- the list that a slot owns is changed: things go between it and the first pending values, none is doubled -/
theorem Rp.alter {Pt : PV} {i : Nat} {ts : List OT} (h : Rp K E σ sd (Pt ++ P) H) (hs : sd[i]? = some (some (.own ts))) :
    ∃ a vs, σ[i]? = some (some (.ref a)) ∧ H a = some (.lst vs) ∧ vs.length = ts.length ∧
      ∀ (vs' : List V) (ts' : List OT) (Pt' : PV), vs'.length = ts'.length → (∃ M : PV, (Pt' ++ vs'.zip ts').Sublist M ∧ M.Perm (Pt ++ vs.zip ts)) →
        Rp K E σ (sd.set i (some (.own ts'))) (Pt' ++ P) (upd H a (.lst vs')) := by
  obtain ⟨B, Fp, Fs, r⟩ := h
  obtain ⟨F1, F2, e, h1, h2⟩ := RepL.append_iff.mp (show RepL K B H _ Fp from r.pe)
  subst e
  obtain ⟨v, S1, S2, S3, g1, g2, ⟨a, vs, G, rfl, rfl, g3, g4, g5⟩, g6⟩ := RepS.at_ r.sl hs
  subst g2
  refine ⟨a, vs, g1, g3, g5.length, fun vs' ts' Pt' hl' hM => ?_⟩
  obtain ⟨M, m1, m2⟩ := hM
  have all : RepL K B H (Pt ++ vs.zip ts) (F1 ++ G) := RepL.append_iff.mpr ⟨F1, G, rfl, h1, g5.zip⟩
  obtain ⟨FM, q1, q2⟩ := RepL.perm m2.symm all
  obtain ⟨FN, q3, q4⟩ := RepL.sub m1 q2
  obtain ⟨N1, N2, rfl, n1, n2⟩ := RepL.append_iff.mp q4
  -- the addresses
  have nd : ((F1 ++ F2) ++ (S1 ++ ((a :: G) ++ S3))).Nodup := r.nd
  have memN : ∀ x, x ∈ N1 ++ N2 → x ∈ F1 ++ G := fun x hx => q1.symm.subset (q3.subset hx)
  have ndFG : (F1 ++ G).Nodup := by
    rw [List.nodup_append]
    have n1 := nd_head (nd_head nd)
    have n2 : (a :: G).Nodup := nd_head (nd_tail (nd_tail nd))
    exact ⟨n1, (List.nodup_cons.mp n2).2, fun x hx y hy e => by
      subst e
      exact nd_ne nd (List.mem_append_left _ hx) (List.mem_append_right _ (List.mem_append_left _ (List.mem_cons_of_mem _ hy)))⟩
  have ndN : (N1 ++ N2).Nodup := List.Nodup.sublist q3 (q1.nodup_iff.mp ndFG)
  have aF1 : a ∉ F1 := fun z => nd_ne nd (List.mem_append_left _ z) (List.mem_append_right _ (List.mem_append_left _ List.mem_cons_self))
  have aF2 : a ∉ F2 := fun z => nd_ne nd (List.mem_append_right _ z) (List.mem_append_right _ (List.mem_append_left _ List.mem_cons_self))
  have ndS := nd_tail nd
  have aS1 : a ∉ S1 := fun z => nd_ne ndS z (List.mem_append_left _ List.mem_cons_self)
  have ndA := nd_tail ndS
  have aG : a ∉ G := (List.nodup_cons.mp (nd_head ndA)).1
  have aS3 : a ∉ S3 := fun z => nd_ne ndA List.mem_cons_self z
  have up : ∀ b, b ≠ a → upd H a (.lst vs') b = H b := fun b hb => upd_ne hb
  have keepL : ∀ {L : PV} {F : List Addr}, RepL K B H L F → a ∉ F → RepL K B (upd H a (.lst vs')) L F := fun {L F} hL ha => RepA.mono (Evl.Ex.refl _) (fun b hb => ⟨up b fun z => ha (z ▸ hb), (RepA.there hL b hb).1⟩) hL
  have aN : a ∉ N1 ++ N2 := fun z => (List.mem_append.mp (memN a z)).elim aF1 aG
  have n1' := keepL n1 fun z => aN (List.mem_append_left _ z)
  have n2' := keepL n2 fun z => aN (List.mem_append_right _ z)
  have F2' := keepL h2 aF2
  obtain ⟨k1, _⟩ := g6 B (upd H a (.lst vs')) (Evl.Ex.refl _) fun b hb => ⟨up b fun z => by
    subst z
    exact (List.mem_append.mp hb).elim aS1 aS3, (r.sl.there b (by
      rcases List.mem_append.mp hb with hb | hb
      · exact List.mem_append_left _ hb
      · exact List.mem_append_right _ (List.mem_append_right _ hb))).1⟩
  have sl' := k1 (.own ts') (.ref a) (a :: N2) ⟨a, vs', N2, rfl, rfl, upd_same, g4, n2'.unzip hl'⟩
  have es : σ.set i (some (.ref a)) = σ := by
    obtain ⟨hi, e⟩ := List.getElem?_eq_some_iff.mp g1
    rw [← e]
    exact List.set_getElem_self hi
  rw [es] at sl'
  have memAll : ∀ x, x ∈ (N1 ++ F2) ++ (S1 ++ ((a :: N2) ++ S3)) → x ∈ (F1 ++ F2) ++ (S1 ++ ((a :: G) ++ S3)) := fun x hx => by
    have m : ∀ y, y ∈ N1 ++ N2 → y ∈ (F1 ++ F2) ++ (S1 ++ ((a :: G) ++ S3)) := fun y hy => by
      rcases List.mem_append.mp (memN y hy) with z | z
      · exact List.mem_append_left _ (List.mem_append_left _ z)
      · exact List.mem_append_right _ (List.mem_append_right _ (List.mem_append_left _ (List.mem_cons_of_mem _ z)))
    simp only [List.mem_append, List.mem_cons] at hx m ⊢
    rcases hx with (z | z) | z | (z | z) | z
    · exact m x (.inl z)
    · exact .inl (.inr z)
    · exact .inr (.inl z)
    · exact .inr (.inr (.inl (.inl z)))
    · exact m x (.inr z)
    · exact .inr (.inr (.inr z))
  refine ⟨B, N1 ++ F2, S1 ++ ((a :: N2) ++ S3), r.fix, fun b o e => ?_, RepL.append_iff.mpr ⟨N1, F2, rfl, n1', F2'⟩, sl', ?_, r.go.ex, fun b o e n => ?_, fun b o e => ?_, r.go.neu, fun b hb => r.go.own b (memAll b hb)⟩
  · have hb : b ≠ a := fun z => by rw [z, g4] at e; cases e
    rw [up b hb]
    exact r.sub b o e
  · -- nothing twice
    have pm : ∀ X Y : List Addr, ((X ++ F2) ++ (S1 ++ ((a :: Y) ++ S3))).Perm ((X ++ Y) ++ (F2 ++ (S1 ++ (a :: S3)))) := fun X Y => by
      rw [List.perm_iff_count]
      intro b
      simp only [List.count_append, List.count_cons, List.cons_append]
      omega
    have q := (pm F1 G).nodup_iff.mp nd
    refine (pm N1 N2).nodup_iff.mpr ?_
    rw [List.nodup_append] at q ⊢
    exact ⟨ndN, q.2.1, fun x hx y hy => q.2.2 x (memN x hx) y hy⟩
  · by_cases hb : b = a
    · subst hb
      rcases r.go.own b (List.mem_append_right _ (List.mem_append_right _ (List.mem_append_left _ List.mem_cons_self))) with z | z
      · rw [z] at e; cases e
      · exact absurd z n
    · rw [up b hb]
      exact r.go.keep b o e n
  · by_cases hb : b = a
    · subst hb
      exact ⟨_, upd_same⟩
    · rw [up b hb]
      exact r.go.ever b o e
end
end DL

/-! DD: expressions over trees: names, constants, operators, tests -/
namespace DL
open PySem L2

/-- what an operation gives: stable data, a new list, a tuple -/
inductive Rt where
  | v (d : D) | l (ds : List D) | t (ds : List D)
def Rt.ot : Rt → OT
  | .v d => .fz d
  | .l ds => .own (ds.map .fz)
  | .t ds => .fz (.tup ds)
def ResG (K : PySem.W.Frag) (B H : Hp) (Q : VK) : Rt → Prop
  | .v z => ∀ v, Is K B z v → Q v H
  | .l ds => ∀ p vs, H p = none → IsA K B ds vs → Q (.ref p) (upd H p (.lst vs))
  | .t ds => (∀ v, Is K B (.tup ds) v → Q v H) ∧ ∀ p vs, H p = none → IsA K B ds vs → Q (.ref p) (upd H p (.tup vs))
/-- rules by values, over data -/
def OpG (K : PySem.W.Frag) (r : R2) (g : D → D → Option Rt) : Prop := ∀ B H x y d e t Q, Evl.Ex B H → Is K B d x → Is K B e y → g d e = some t → ResG K B H Q t → r x y H Q
def UnG (K : PySem.W.Frag) (r : V → Hp → VK → Prop) (g : D → Option Rt) : Prop := ∀ B H x d t Q, Evl.Ex B H → Is K B d x → g d = some t → ResG K B H Q t → r x H Q
def CaG (K : PySem.W.Frag) (r : List V → Hp → VK → Prop) (g : List D → Option Rt) : Prop := ∀ B H xs ds t Q, Evl.Ex B H → IsA K B ds xs → g ds = some t → ResG K B H Q t → r xs H Q

section
variable {K : PySem.W.Frag} {W : WF} {E : Ent W.fx} {B H : Hp} {σ : St} {sd : SD} {P : PV} {Fp Fs : List Addr} {Q : VK}
theorem res_of (r : RpB K E B σ sd P H Fp Fs) : ∀ {t : Rt}, (∀ v H', Rp K E σ sd ((v, t.ot) :: P) H' → Q v H') → ResG K B H Q t
  | .v d, q => fun v h => q v H (r.put h).rp
  | .l ds, q => fun p vs hp h => q _ _ (r.newO hp h)
  | .t ds, q => ⟨fun v h => q v H (r.put h).rp, fun p vs hp h => q _ _ (((r.newB hp).put (d := .tup ds) ⟨p, vs, rfl, .inl (.inl upd_same), h.mono (Evl.Ex.new (by
      cases z : B p with
      | none => rfl
      | some u =>
        have := r.sub p u z
        rw [hp] at this; cases this))⟩).rp)⟩

abbrev SimE (K : PySem.W.Frag) (W : WF) (te : TE) (f : SD → R OT) : Prop := ∀ E σ sd P H Q, Rp K E σ sd P H → okE K W E σ P Q (f sd) → te σ H Q
abbrev SimB (K : PySem.W.Frag) (W : WF) (te : TT) (f : SD → R Bool) : Prop := ∀ E σ sd P H Q, Rp K E σ sd P H → okB K W E σ P Q (f sd) → te σ H Q
abbrev SimA (K : PySem.W.Frag) (W : WF) (te : TA) (f : SD → R (List OT)) : Prop := ∀ E σ sd P H Q, Rp K E σ sd P H → okA K W E σ P Q (f sd) → te σ H Q
abbrev SimS (K : PySem.W.Frag) (W : WF) (te : TS) (f : SD → RS) : Prop := ∀ E σ sd P H D, Rp K E σ sd P H → okS K W E P D (f sd) → te D σ H

/-- an expression, then something -/
theorem SimE.on {te : TE} {f : SD → R OT} (h : SimE K W te f) (r : Rp K E σ sd P H) {Z : VK} (ok : ∀ x s1, f sd = .ok x s1 → ∀ v H', Rp K E σ s1 ((v, x) :: P) H' → Z v H')
    (ex : ∀ e s, f sd = .ex e s → ∀ cls dd H', Rx K E σ s P e cls dd H' → W cls dd σ H') (no : f sd ≠ .no) : te σ H Z := by
  refine h E σ sd P H Z r ?_
  cases e : f sd with
  | ok x s1 => exact ok x s1 e
  | ex a s => exact ex a s e
  | no => exact absurd e no
theorem SimB.on {te : TT} {f : SD → R Bool} (h : SimB K W te f) (r : Rp K E σ sd P H) {Z : Bool → Hp → Prop} (ok : ∀ x s1, f sd = .ok x s1 → ∀ H', Rp K E σ s1 P H' → Z x H')
    (ex : ∀ e s, f sd = .ex e s → ∀ cls dd H', Rx K E σ s P e cls dd H' → W cls dd σ H') (no : f sd ≠ .no) : te σ H Z := by
  refine h E σ sd P H Z r ?_
  cases e : f sd with
  | ok x s1 => exact ok x s1 e
  | ex a s => exact ex a s e
  | no => exact absurd e no
theorem SimA.on {te : TA} {f : SD → R (List OT)} (h : SimA K W te f) (r : Rp K E σ sd P H) {Z : List V → Hp → Prop} (ok : ∀ ts s1, f sd = .ok ts s1 → ∀ vs H', vs.length = ts.length → Rp K E σ s1 (vs.zip ts ++ P) H' → Z vs H')
    (ex : ∀ e s, f sd = .ex e s → ∀ cls dd H', Rx K E σ s P e cls dd H' → W cls dd σ H') (no : f sd ≠ .no) : te σ H Z := by
  refine h E σ sd P H Z r ?_
  cases e : f sd with
  | ok x s1 => exact ok x s1 e
  | ex a s => exact ex a s e
  | no => exact absurd e no
end

/-! ### the functions -/
def fVar (i : Nat) : SD → R OT := fun sd => match sd[i]? with
  | some (some (.fz d)) => .ok (.fz d) sd
  | _ => .no
/-- the slot's own list is frozen, and read -/
def fVarF (i : Nat) : SD → R OT := fun sd => match sd[i]? with
  | some (some t) => .ok (.fz t.frz) (sd.set i (some (.fz t.frz)))
  | _ => .no
/-- the slot is given away -/
def fMov (i : Nat) : SD → R OT := fun sd => match sd[i]? with
  | some (some t) => .ok t (sd.set i none)
  | _ => .no
def fC (d : D) : SD → R OT := fun sd => .ok (.fz d) sd
def R.of (o : Option Rt) (s : SD) : R OT := match o with
  | some t => .ok t.ot s
  | none => .no
def fOp (g : D → D → Option Rt) (fa fb : SD → R OT) : SD → R OT := fun sd => (fa sd).bind fun x s1 => (fb s1).bind fun y s2 => R.of (g x.frz y.frz) s2
def fUn (g : D → Option Rt) (fa : SD → R OT) : SD → R OT := fun sd => (fa sd).bind fun x s1 => R.of (g x.frz) s1
def fNil : SD → R (List OT) := fun sd => .ok [] sd
def fCons (fa : SD → R OT) (fr : SD → R (List OT)) : SD → R (List OT) := fun sd => (fa sd).bind fun x s1 => (fr s1).bind fun xs s2 => .ok (x :: xs) s2
def fCa (g : List D → Option Rt) (fa : SD → R (List OT)) : SD → R OT := fun sd => (fa sd).bind fun xs s1 => R.of (g (xs.map OT.frz)) s1
/-- a value as a test -/
def fB (fa : SD → R OT) : SD → R Bool := fun sd => (fa sd).bind fun x s1 => match x.frz with
  | .bl b => .ok b s1
  | _ => .no
def fNot (fa : SD → R Bool) : SD → R Bool := fun sd => (fa sd).bind fun x s1 => .ok (!x) s1
def fAnd (fa fb : SD → R Bool) : SD → R Bool := fun sd => (fa sd).bind fun x s1 => if x = true then fb s1 else .ok false s1
def fOr (fa fb : SD → R Bool) : SD → R Bool := fun sd => (fa sd).bind fun x s1 => if x = true then .ok true s1 else fb s1
def fAndV (fa fb : SD → R OT) : SD → R OT := fun sd => (fa sd).bind fun x s1 => match x.frz with
  | .bl b => if b = true then fb s1 else .ok (.fz (.bl false)) s1
  | _ => .no
def fOrV (fa fb : SD → R OT) : SD → R OT := fun sd => (fa sd).bind fun x s1 => match x.frz with
  | .bl b => if b = true then .ok (.fz (.bl true)) s1 else fb s1
  | _ => .no
def fNotV (fa : SD → R OT) : SD → R OT := fun sd => (fa sd).bind fun x s1 => match x.frz with
  | .bl b => .ok (.fz (.bl (!b))) s1
  | _ => .no
def fIf (fc : SD → R Bool) (fa fb : SD → R OT) : SD → R OT := fun sd => (fc sd).bind fun c s1 => if c = true then fa s1 else fb s1
/-- a op1 b op2 c -/
def fChain (g g' : D → D → Option Rt) (fa fb fc : SD → R OT) : SD → R OT := fun sd => (fa sd).bind fun x s1 => (fb s1).bind fun y s2 => match g x.frz y.frz with
  | some (.v (.bl b)) => if b = true then (fc s2).bind fun z s3 => R.of (g' y.frz z.frz) s3 else .ok (.fz (.bl false)) s2
  | _ => .no
def fLst (fa : SD → R (List OT)) : SD → R OT := fun sd => (fa sd).bind fun xs s1 => if xs.length ≤ sizeLine then .ok (.own (xs.map fun x => .fz x.frz)) s1 else .no
def fTup (fa : SD → R (List OT)) : SD → R OT := fun sd => (fa sd).bind fun xs s1 => if xs.length ≤ sizeLine then .ok (.fz (.tup (xs.map OT.frz))) s1 else .no

theorem nb {α β : Type} {r : R α} {k : α → SD → R β} (h : r.bind k ≠ .no) : r ≠ .no := fun z => h (by rw [z] <;> rfl)

section
variable {X : Cx} {W : WF} {a b c : Expr} {fa fb fc : SD → R OT} {pos : Pos}
theorem ed_var {i : Nat} {x : Str} (h : PE X (.Name x pos) (tVar i)) : ED X W (.Name x pos) (fVar i) := by
  refine ⟨_, h, fun E σ sd P H Q r q => ?_⟩
  obtain ⟨B, Fp, Fs, rb⟩ := r
  unfold fVar at q
  split at q
  · rename_i d e
    obtain ⟨v, F1, F2, F3, g1, g2, ⟨_, g3⟩, _⟩ := RepS.at_ rb.sl e
    exact ⟨v, g1, q v H (rb.put g3).rp⟩
  · exact q.elim
theorem ed_varF {i : Nat} {x : Str} (h : PE X (.Name x pos) (tVar i)) : ED X W (.Name x pos) (fVarF i) := by
  refine ⟨_, h, fun E σ sd P H Q r q => ?_⟩
  obtain ⟨B, Fp, Fs, rb⟩ := r
  unfold fVarF at q
  split at q
  · rename_i t e
    obtain ⟨v, F1, F2, F3, g1, g2, g3, g4⟩ := RepS.at_ rb.sl e
    subst g2
    refine ⟨v, g1, q v H ?_⟩
    have nd := rb.nd
    have ex : Evl.Ex B (thaw B H F2) := thaw_ex fun a ha => (g3.there a ha).1
    have out : ∀ a, a ∉ F2 → thaw B H F2 a = B a := fun a ha => if_neg ha
    have nS := nd_tail nd
    have k1 : ∀ a ∈ F1 ++ F3, H a = H a ∧ thaw B H F2 a = none := fun a ha => ⟨rfl, by
      rw [out a fun z => ?_]
      · exact (rb.sl.there a (by
          rcases List.mem_append.mp ha with ha | ha
          · exact List.mem_append_left _ ha
          · exact List.mem_append_right _ (List.mem_append_right _ ha))).1
      · rcases List.mem_append.mp ha with ha | ha
        · exact nd_ne nS ha (List.mem_append_left _ z)
        · exact nd_ne (nd_tail nS) z ha⟩
    have kP : ∀ a ∈ Fp, H a = H a ∧ thaw B H F2 a = none := fun a ha => ⟨rfl, by
      rw [out a fun z => nd_ne nd ha (List.mem_append_right _ (List.mem_append_left _ z))]
      exact (rb.pe.there a ha).1⟩
    obtain ⟨k2, _⟩ := g4 (thaw B H F2) H ex k1
    have fr := g3.frozen ex fun a ha => if_pos ha
    have sl' := k2 (.fz t.frz) v [] ⟨rfl, fr⟩
    have es : σ.set i (some v) = σ := by
      obtain ⟨hi, e⟩ := List.getElem?_eq_some_iff.mp g1
      rw [← e]
      exact List.set_getElem_self hi
    rw [es] at sl'
    have rb' : RpB X.K E (thaw B H F2) σ (sd.set i (some (.fz t.frz))) P H Fp (F1 ++ ([] ++ F3)) := by
      refine ⟨rb.fix, fun a o e => ?_, rb.pe.mono ex kP, sl', nd_swap_nil nd, fun a o e => ex a o (rb.go.ex a o e), rb.go.keep, rb.go.ever, fun a o e => ?_, fun a ha => rb.go.own a ?_⟩
      · unfold thaw at e
        by_cases m : a ∈ F2
        · rw [if_pos m] at e; exact e
        · rw [if_neg m] at e; exact rb.sub a o e
      · by_cases m : a ∈ F2
        · rcases rb.go.own a (List.mem_append_right _ (List.mem_append_right _ (List.mem_append_left _ m))) with z | z
          · exact .inr (.inl z)
          · exact .inr (.inr z)
        · rw [out a m] at e
          exact rb.go.neu a o e
      · simp only [List.mem_append, List.nil_append] at ha ⊢
        rcases ha with ha | ha | ha
        · exact .inl ha
        · exact .inr (.inl ha)
        · exact .inr (.inr (.inr ha))
    exact (rb'.put fr).rp
  · exact q.elim
where
  nd_swap_nil {Fp F1 F2 F3 : List Addr} (h : (Fp ++ (F1 ++ (F2 ++ F3))).Nodup) : (Fp ++ (F1 ++ ([] ++ F3))).Nodup := by
    refine List.Nodup.sublist ?_ h
    exact (List.Sublist.refl Fp).append ((List.Sublist.refl F1).append ((List.nil_sublist F2).append (List.Sublist.refl F3)))
theorem ed_c {d : D} {v : V} {e : Expr} (h : PE X e (tC v)) (hd : ∀ B, Is X.K B d v) : ED X W e (fC d) := by
  refine ⟨_, h, fun E σ sd P H Q r q => ?_⟩
  obtain ⟨B, Fp, Fs, rb⟩ := r
  exact q v H (rb.put (hd B)).rp
theorem ed_int {i : Int} {j} : ED X W (.Constant (.int i) j pos) (fC (.int i)) := ed_c pe_int fun _ => rfl
theorem ed_bl {i : Bool} {j} : ED X W (.Constant (.bool i) j pos) (fC (.bl i)) := ed_c pe_bl fun _ => rfl
theorem ed_non {j} : ED X W (.Constant .none j pos) (fC .non) := ed_c pe_non fun _ => rfl
theorem ed_str {x : Str} {j} : ED X W (.Constant (.str x) j pos) (fC (.str x)) := ed_c pe_str fun _ => rfl
theorem ed_glob {x : Str} {i : Int} {t : Tok} (hg : Gl X x) (hm : X.mg x = some (.int i t)) (hd : (x == ("__debug__" : Str)) = false := by decide) : ED X W (.Name x pos) (fC (.int i)) := ed_c (pe_glob hg hm (v := .int i) ⟨t, rfl⟩ hd) fun _ => rfl

/-- the heart of an operator -/
theorem sim_op {K : PySem.W.Frag} {r : R2} {g : D → D → Option Rt} {ta tb : TE} (hg : OpG K r g) (ha : SimE K W ta fa) (hb : SimE K W tb fb) : SimE K W (tOp r ta tb) (fOp g fa fb) := by
  intro E σ sd P H Q rp q
  unfold fOp at q
  refine ha.on rp (fun x s1 e1 v H1 r1 => ?_) (fun e s e1 => by rw [e1] at q; exact q) (fun z => by rw [z] at q; exact q)
  rw [e1] at q
  refine SimE.on hb r1 (fun y s2 e2 u H2 r2 => ?_) (fun e s e2 cls dd H' rx => ?_) (fun z => ?_)
  · have q' : okE K W E σ P Q ((fb s1).bind fun y s2 => R.of (g x.frz y.frz) s2) := q
    rw [e2] at q'
    have q2 : okE K W E σ P Q (R.of (g x.frz y.frz) s2) := q'
    obtain ⟨B, Fp, Fs, rb, h1, h2⟩ := r2.cold2
    cases eg : g x.frz y.frz with
    | none =>
      rw [eg] at q2
      exact False.elim q2
    | some t =>
      rw [eg] at q2
      exact hg B H2 v u _ _ t Q rb.sub h2 h1 eg (res_of rb q2)
  · have q' : okE K W E σ P Q ((fb s1).bind fun y s2 => R.of (g x.frz y.frz) s2) := q
    rw [e2] at q'
    exact q' cls dd H' rx.drop
  · have q' : okE K W E σ P Q ((fb s1).bind fun y s2 => R.of (g x.frz y.frz) s2) := q
    rw [z] at q'
    exact q'
theorem ed_op {op : Operator} {r : R2} {g : D → D → Option Rt} (ho : OpR X (binaryOp op) r) (hg : OpG X.K r g) (ha : ED X W a fa) (hb : ED X W b fb) : ED X W (.BinOp a op b pos) (fOp g fa fb) := by
  obtain ⟨ta, pa, sa⟩ := ha
  obtain ⟨tb, pb, sb⟩ := hb
  exact ⟨_, pe_op ho pa pb, sim_op hg sa sb⟩
theorem ed_cmp {op : CmpOp} {r : R2} {g : D → D → Option Rt} (ho : OpR X (compareOp op) r) (hg : OpG X.K r g) (ha : ED X W a fa) (hb : ED X W b fb) (hm : behindInMarks op b = false) : ED X W (.Compare a [op] [b] pos) (fOp g fa fb) := by
  obtain ⟨ta, pa, sa⟩ := ha
  obtain ⟨tb, pb, sb⟩ := hb
  exact ⟨_, pe_cmpR ho pa pb hm, sim_op hg sa sb⟩
theorem sim_un {K : PySem.W.Frag} {r : V → Hp → VK → Prop} {g : D → Option Rt} {ta : TE} (hg : UnG K r g) (ha : SimE K W ta fa) : SimE K W (tUn r ta) (fUn g fa) := by
  intro E σ sd P H Q rp q
  unfold fUn at q
  refine ha.on rp (fun x s1 e1 v H1 r1 => ?_) (fun e s e1 => by rw [e1] at q; exact q) (fun z => by rw [z] at q; exact q)
  rw [e1] at q
  have q2 : okE K W E σ P Q (R.of (g x.frz) s1) := q
  obtain ⟨B, Fp, Fs, rb, h1⟩ := r1.cold
  cases eg : g x.frz with
  | none =>
    rw [eg] at q2
    exact False.elim q2
  | some t =>
    rw [eg] at q2
    exact hg B H1 v _ t Q rb.sub h1 eg (res_of rb q2)
theorem ed_un {op : UnaryOp} {r : V → Hp → VK → Prop} {g : D → Option Rt} (ho : UnR X (unaryOp op) r) (hg : UnG X.K r g) (ha : ED X W a fa) : ED X W (.UnaryOp op a pos) (fUn g fa) := by
  obtain ⟨ta, pa, sa⟩ := ha
  exact ⟨_, pe_un ho pa, sim_un hg sa⟩

/-! ### tests -/
theorem td_b {ta : TE} (hp : PT X a (tB ta)) (sa : SimE X.K W ta fa) : TD X W a (fB fa) := by
  refine ⟨_, hp, fun E σ sd P H Q rp q => ?_⟩
  unfold fB at q
  refine sa.on rp (fun x s1 e1 v H1 r1 => ?_) (fun e s e1 => by rw [e1] at q; exact q) (fun z => by rw [z] at q; exact q)
  rw [e1] at q
  obtain ⟨B, Fp, Fs, rb, h1⟩ := r1.cold
  have q2 : okB X.K W E σ P Q (match x.frz with
    | .bl b => .ok b s1
    | _ => .no) := q
  cases ex : x.frz with
  | bl b =>
    rw [ex] at q2 h1
    exact ⟨b, h1, q2 H1 rb.rp⟩
  | _ =>
    rw [ex] at q2
    exact False.elim q2
/-- a call, a name .. that gives a truth -/
theorem td_val (ha : ED X W a fa) (he : ∀ whole, isTrue a X.env whole = (do let v ← whole; standAt a.pos; holding [v] (truthy v)) := by intro _; rfl) : TD X W a (fB fa) := by
  obtain ⟨ta, pa, sa⟩ := ha
  exact td_b (pt_val pa he) sa
theorem td_cmp {op : CmpOp} {r : R2} {g : D → D → Option Rt} (ho : OpR X (compareOp op) r) (hg : OpG X.K r g) (ha : ED X W a fa) (hb : ED X W b fb) (hm : behindInMarks op b = false) : TD X W (.Compare a [op] [b] pos) (fB (fOp g fa fb)) := by
  obtain ⟨ta, pa, sa⟩ := ha
  obtain ⟨tb, pb, sb⟩ := hb
  exact td_b (pt_cmpR ho pa pb hm) (sim_op hg sa sb)
theorem sim_chain {K : PySem.W.Frag} {r r' : R2} {g g' : D → D → Option Rt} {ta tb tc : TE} (hg : OpG K r g) (hg' : OpG K r' g') (ha : SimE K W ta fa) (hb : SimE K W tb fb) (hc : SimE K W tc fc) : SimE K W (tChain r r' ta tb tc) (fChain g g' fa fb fc) := by
  intro E σ sd P H Q rp q
  unfold fChain at q
  refine ha.on rp (fun x s1 e1 v H1 r1 => ?_) (fun e s e1 => by rw [e1] at q; exact q) (fun z => by rw [z] at q; exact q)
  rw [e1] at q
  have q' : okE K W E σ P Q ((fb s1).bind fun y s2 => match g x.frz y.frz with
    | some (.v (.bl b)) => if b = true then (fc s2).bind fun z s3 => R.of (g' y.frz z.frz) s3 else .ok (.fz (.bl false)) s2
    | _ => .no) := q
  refine SimE.on hb r1 (fun y s2 e2 u H2 r2 => ?_) (fun e s e2 cls dd H' rx => by rw [e2] at q'; exact q' cls dd H' rx.drop) (fun z => by rw [z] at q'; exact q')
  rw [e2] at q'
  obtain ⟨B, Fp, Fs, rb, h1, h2⟩ := r2.cold2
  have q2 : okE K W E σ P Q (match g x.frz y.frz with
    | some (.v (.bl b)) => if b = true then (fc s2).bind fun z s3 => R.of (g' y.frz z.frz) s3 else .ok (.fz (.bl false)) s2
    | _ => .no) := q'
  cases eg : g x.frz y.frz with
  | none =>
    rw [eg] at q2
    exact False.elim q2
  | some t =>
    rw [eg] at q2
    cases t with
    | l ds => exact False.elim q2
    | t ds => exact False.elim q2
    | v z =>
      cases z with
      | bl k =>
        refine hg B H2 v u _ _ _ _ rb.sub h2 h1 eg ?_
        intro z hz
        refine ⟨k, hz, ?_⟩
        cases k with
        | true =>
          show tc σ H2 fun w H4 => r' u w H4 Q
          have q3 : okE K W E σ P Q ((fc s2).bind fun z s3 => R.of (g' y.frz z.frz) s3) := q2
          have r3 : Rp K E σ s2 ((u, .fz y.frz) :: P) H2 := (rb.put h1).rp
          refine SimE.on hc r3 (fun z s3 e3 w H3 r4 => ?_) (fun e s e3 cls dd H' rx => by rw [e3] at q3; exact q3 cls dd H' rx.drop) (fun z => by rw [z] at q3; exact q3)
          rw [e3] at q3
          have q4 : okE K W E σ P Q (R.of (g' y.frz z.frz) s3) := q3
          obtain ⟨B', Fp', Fs', rb', k1, k2⟩ := r4.cold2
          cases eg' : g' y.frz z.frz with
          | none =>
            rw [eg'] at q4
            exact False.elim q4
          | some t =>
            rw [eg'] at q4
            exact hg' B' H3 u w _ _ t Q rb'.sub k2 k1 eg' (res_of rb' q4)
        | false =>
          show Q (.bl false) H2
          have q3 : okE K W E σ P Q (.ok (.fz (.bl false)) s2) := q2
          exact q3 _ _ (rb.put (d := .bl false) rfl).rp
      | _ => exact False.elim q2
theorem td_not {fc0 : SD → R Bool} (ha : TD X W a fc0) : TD X W (.UnaryOp .Not a pos) (fNot fc0) := by
  obtain ⟨ta, pa, sa⟩ := ha
  refine ⟨_, pt_not pa, fun E σ sd P H Q rp q => ?_⟩
  unfold fNot at q
  refine SimB.on sa rp (fun x s1 e1 H1 r1 => ?_) (fun e s e1 => by rw [e1] at q; exact q) (fun z => by rw [z] at q; exact q)
  rw [e1] at q
  have q2 : okB X.K W E σ P Q (.ok (!x) s1) := q
  exact q2 H1 r1
end
end DL

/-! DE: and, or, if, chains, arguments, displays, calls of built-ins -/
namespace DL
open PySem L2
structure WD (X : Cx) (W : WF) (e : Expr) (f : SD → R Bool) : Prop where
  ex : ∃ te, PW X e te ∧ SimB X.K W te f
section
variable {X : Cx} {W : WF} {a b c : Expr} {fa fb fc : SD → R OT} {ga gb gc : SD → R Bool} {pos : Pos} {rest : List Expr}
theorem WD.td (h : WD X W a ga) : TD X W a ga := let ⟨te, p, s⟩ := h.ex; ⟨te, p.pt, s⟩
theorem wd_and1 (ha : TD X W a ga) : WD X W (.BoolOp .And [a] pos) ga := let ⟨te, p, s⟩ := ha.ex; ⟨te, pw_and1 p, s⟩
theorem wd_or1 (ha : TD X W a ga) : WD X W (.BoolOp .Or [a] pos) ga := let ⟨te, p, s⟩ := ha.ex; ⟨te, pw_or1 p, s⟩
theorem wd_and (ha : TD X W a ga) (hb : WD X W (.BoolOp .And (b :: rest) pos) gb) : WD X W (.BoolOp .And (a :: b :: rest) pos) (fAnd ga gb) := by
  obtain ⟨ta, pa, sa⟩ := ha
  obtain ⟨tb, pb, sb⟩ := hb
  refine ⟨_, pw_and pa pb, fun E σ sd P H Q rp q => ?_⟩
  unfold fAnd at q
  refine SimB.on sa rp (fun x s1 e1 H1 r1 => ?_) (fun e s e1 => by rw [e1] at q; exact q) (fun z => by rw [z] at q; exact q)
  rw [e1] at q
  have q2 : okB X.K W E σ P Q (if x = true then gb s1 else .ok false s1) := q
  cases x with
  | true => exact sb E σ s1 P H1 Q r1 q2
  | false => exact (show okB X.K W E σ P Q (.ok false s1) from q2) H1 r1
theorem wd_or (ha : TD X W a ga) (hb : WD X W (.BoolOp .Or (b :: rest) pos) gb) : WD X W (.BoolOp .Or (a :: b :: rest) pos) (fOr ga gb) := by
  obtain ⟨ta, pa, sa⟩ := ha
  obtain ⟨tb, pb, sb⟩ := hb
  refine ⟨_, pw_or pa pb, fun E σ sd P H Q rp q => ?_⟩
  unfold fOr at q
  refine SimB.on sa rp (fun x s1 e1 H1 r1 => ?_) (fun e s e1 => by rw [e1] at q; exact q) (fun z => by rw [z] at q; exact q)
  rw [e1] at q
  have q2 : okB X.K W E σ P Q (if x = true then .ok true s1 else gb s1) := q
  cases x with
  | true => exact (show okB X.K W E σ P Q (.ok true s1) from q2) H1 r1
  | false => exact sb E σ s1 P H1 Q r1 q2
theorem ed_one {op} (ha : ED X W a fa) : ED X W (.BoolOp op [a] pos) fa := let ⟨te, p, s⟩ := ha.ex; ⟨te, pe_one p, s⟩
theorem ed_and (ha : ED X W a fa) (hb : ED X W (.BoolOp .And (b :: rest) pos) fb) : ED X W (.BoolOp .And (a :: b :: rest) pos) (fAndV fa fb) := by
  obtain ⟨ta, pa, sa⟩ := ha
  obtain ⟨tb, pb, sb⟩ := hb
  refine ⟨_, pe_and pa pb, fun E σ sd P H Q rp q => ?_⟩
  unfold fAndV at q
  refine SimE.on sa rp (fun x s1 e1 v H1 r1 => ?_) (fun e s e1 => by rw [e1] at q; exact q) (fun z => by rw [z] at q; exact q)
  rw [e1] at q
  obtain ⟨B, Fp, Fs, rb, h1⟩ := r1.cold
  have q2 : okE X.K W E σ P Q (match x.frz with
    | .bl b => if b = true then fb s1 else .ok (.fz (.bl false)) s1
    | _ => .no) := q
  cases ex : x.frz with
  | bl k =>
    rw [ex] at q2 h1
    refine ⟨k, h1, ?_⟩
    cases k with
    | true => exact sb E σ s1 P H1 Q rb.rp q2
    | false => exact (show okE X.K W E σ P Q (.ok (.fz (.bl false)) s1) from q2) _ _ (rb.put (d := .bl false) rfl).rp
  | _ =>
    rw [ex] at q2
    exact False.elim q2
theorem ed_or (ha : ED X W a fa) (hb : ED X W (.BoolOp .Or (b :: rest) pos) fb) : ED X W (.BoolOp .Or (a :: b :: rest) pos) (fOrV fa fb) := by
  obtain ⟨ta, pa, sa⟩ := ha
  obtain ⟨tb, pb, sb⟩ := hb
  refine ⟨_, pe_or pa pb, fun E σ sd P H Q rp q => ?_⟩
  unfold fOrV at q
  refine SimE.on sa rp (fun x s1 e1 v H1 r1 => ?_) (fun e s e1 => by rw [e1] at q; exact q) (fun z => by rw [z] at q; exact q)
  rw [e1] at q
  obtain ⟨B, Fp, Fs, rb, h1⟩ := r1.cold
  have q2 : okE X.K W E σ P Q (match x.frz with
    | .bl b => if b = true then .ok (.fz (.bl true)) s1 else fb s1
    | _ => .no) := q
  cases ex : x.frz with
  | bl k =>
    rw [ex] at q2 h1
    refine ⟨k, h1, ?_⟩
    cases k with
    | true => exact (show okE X.K W E σ P Q (.ok (.fz (.bl true)) s1) from q2) _ _ (rb.put (d := .bl true) rfl).rp
    | false => exact sb E σ s1 P H1 Q rb.rp q2
  | _ =>
    rw [ex] at q2
    exact False.elim q2
theorem ed_not (ha : ED X W a fa) : ED X W (.UnaryOp .Not a pos) (fNotV fa) := by
  obtain ⟨ta, pa, sa⟩ := ha
  refine ⟨_, pe_not pa, fun E σ sd P H Q rp q => ?_⟩
  unfold fNotV at q
  refine SimE.on sa rp (fun x s1 e1 v H1 r1 => ?_) (fun e s e1 => by rw [e1] at q; exact q) (fun z => by rw [z] at q; exact q)
  rw [e1] at q
  obtain ⟨B, Fp, Fs, rb, h1⟩ := r1.cold
  have q2 : okE X.K W E σ P Q (match x.frz with
    | .bl b => .ok (.fz (.bl (!b))) s1
    | _ => .no) := q
  cases ex : x.frz with
  | bl k =>
    rw [ex] at q2 h1
    exact ⟨k, h1, q2 _ _ (rb.put (d := .bl (!k)) rfl).rp⟩
  | _ =>
    rw [ex] at q2
    exact False.elim q2
theorem ed_if (hc : TD X W c gc) (ha : ED X W a fa) (hb : ED X W b fb) : ED X W (.IfExp c a b pos) (fIf gc fa fb) := by
  obtain ⟨tc, pc, sc⟩ := hc
  obtain ⟨ta, pa, sa⟩ := ha
  obtain ⟨tb, pb, sb⟩ := hb
  refine ⟨_, pe_ifExp pc pa pb, fun E σ sd P H Q rp q => ?_⟩
  unfold fIf at q
  refine SimB.on sc rp (fun x s1 e1 H1 r1 => ?_) (fun e s e1 => by rw [e1] at q; exact q) (fun z => by rw [z] at q; exact q)
  rw [e1] at q
  have q2 : okE X.K W E σ P Q (if x = true then fa s1 else fb s1) := q
  cases x with
  | true => exact sa E σ s1 P H1 Q r1 q2
  | false => exact sb E σ s1 P H1 Q r1 q2
theorem ed_chain {op op' : CmpOp} {r r' : R2} {g g' : D → D → Option Rt} (ho : OpR X (compareOp op) r) (ho' : OpR X (compareOp op') r') (hg : OpG X.K r g) (hg' : OpG X.K r' g') (ha : ED X W a fa) (hb : ED X W b fb) (hc : ED X W c fc)
    (p : ∀ ta tb tc, PE X a ta → PE X b tb → PE X c tc → PE X (.Compare a [op, op'] [b, c] pos) (tChain r r' ta tb tc)) : ED X W (.Compare a [op, op'] [b, c] pos) (fChain g g' fa fb fc) := by
  obtain ⟨ta, pa, sa⟩ := ha
  obtain ⟨tb, pb, sb⟩ := hb
  obtain ⟨tc, pc, sc⟩ := hc
  exact ⟨_, p _ _ _ pa pb pc, sim_chain hg hg' sa sb sc⟩

/-! ### arguments, displays -/
theorem ad_nil : AD X W [] fNil := ⟨_, pa_nil, fun E σ sd P H Q rp q => q [] H rfl rp⟩
theorem zip_snoc {v : V} {t : OT} {P : PV} : ∀ {vs : List V} {ts : List OT}, (vs.zip ts ++ (v, t) :: P).Perm ((v, t) :: (vs.zip ts) ++ P) := fun {vs ts} => List.perm_middle
theorem Rp.perm {fx : List Nat} {K : PySem.W.Frag} {E : Ent fx} {σ : St} {sd : SD} {P P' : PV} {H : Hp} (p : P.Perm P') (h : Rp K E σ sd P H) : Rp K E σ sd P' H := by
  obtain ⟨B, Fp, Fs, r⟩ := h
  obtain ⟨G, g1, g2⟩ := RepL.perm p (show RepL K B H P Fp from r.pe)
  have m : ∀ x, x ∈ G → x ∈ Fp := fun x hx => g1.symm.subset hx
  refine ⟨B, G, Fs, r.fix, r.sub, g2, r.sl, ?_, r.go.ex, r.go.keep, r.go.ever, r.go.neu, fun a ha => r.go.own a ?_⟩
  · exact (List.Perm.append_right Fs g1).nodup_iff.mp r.nd
  · rcases List.mem_append.mp ha with ha | ha
    · exact List.mem_append_left _ (m a ha)
    · exact List.mem_append_right _ ha
theorem ad_cons {es : List Expr} {fr : SD → R (List OT)} (ha : ED X W a fa) (hr : AD X W es fr) (hs : starEach (a :: es) X.env = (false, eval a X.env) :: starEach es X.env := by rfl) : AD X W (a :: es) (fCons fa fr) := by
  obtain ⟨ta, pa, sa⟩ := ha
  obtain ⟨tr, pr, sr⟩ := hr
  refine ⟨_, pa_cons pa pr hs, fun E σ sd P H Q rp q => ?_⟩
  unfold fCons at q
  refine SimE.on sa rp (fun x s1 e1 v H1 r1 => ?_) (fun e s e1 => by rw [e1] at q; exact q) (fun z => by rw [z] at q; exact q)
  rw [e1] at q
  have q' : okA X.K W E σ P Q ((fr s1).bind fun xs s2 => .ok (x :: xs) s2) := q
  refine SimA.on sr r1 (fun xs s2 e2 vs H2 hl r2 => ?_) (fun e s e2 cls dd H' rx => by rw [e2] at q'; exact q' cls dd H' rx.drop) (fun z => by rw [z] at q'; exact q')
  rw [e2] at q'
  have q2 : okA X.K W E σ P Q (.ok (x :: xs) s2) := q'
  exact q2 (v :: vs) H2 (by rw [List.length_cons, List.length_cons, hl]) (r2.perm zip_snoc)
theorem isA_map {K : PySem.W.Frag} {B : Hp} : ∀ {ts : List OT} {vs : List V}, IsA K B (ts.map OT.frz) vs → vs.length = ts.length
  | [], _, h => by rw [show _ = [] from h] <;> rfl
  | _ :: _, _, ⟨v, r, h1, _, h3⟩ => by rw [h1, List.length_cons, List.length_cons, isA_map h3]
theorem ed_lst {es : List Expr} {fs : SD → R (List OT)} (ha : AD X W es fs) : ED X W (.List es pos) (fLst fs) := by
  obtain ⟨ta, pa, sa⟩ := ha
  refine ⟨_, pe_lst pa, fun E σ sd P H Q rp q => ?_⟩
  unfold fLst at q
  refine SimA.on sa rp (fun ts s1 e1 vs H1 hl r1 => ?_) (fun e s e1 => by rw [e1] at q; exact q) (fun z => by rw [z] at q; exact q)
  rw [e1] at q
  have q2 : okE X.K W E σ P Q (if ts.length ≤ sizeLine then .ok (.own (ts.map fun x => .fz x.frz)) s1 else .no) := q
  by_cases hz : ts.length ≤ sizeLine
  · rw [if_pos hz] at q2
    obtain ⟨B, Fp, Fs, rb, h1⟩ := r1.colds hl
    refine ⟨by rw [hl]; exact hz, fun p hp => q2 _ _ ?_⟩
    have := rb.newO hp h1
    rw [List.map_map] at this
    exact this
  · rw [if_neg hz] at q2
    exact False.elim q2
theorem ed_tup {es : List Expr} {fs : SD → R (List OT)} {k} (ha : AD X W es fs) : ED X W (.Tuple es k pos) (fTup fs) := by
  obtain ⟨ta, pa, sa⟩ := ha
  refine ⟨_, pe_tup pa, fun E σ sd P H Q rp q => ?_⟩
  unfold fTup at q
  refine SimA.on sa rp (fun ts s1 e1 vs H1 hl r1 => ?_) (fun e s e1 => by rw [e1] at q; exact q) (fun z => by rw [z] at q; exact q)
  rw [e1] at q
  have q2 : okE X.K W E σ P Q (if ts.length ≤ sizeLine then .ok (.fz (.tup (ts.map OT.frz))) s1 else .no) := q
  by_cases hz : ts.length ≤ sizeLine
  · rw [if_pos hz] at q2
    obtain ⟨B, Fp, Fs, rb, h1⟩ := r1.colds hl
    refine ⟨by rw [hl]; exact hz, fun p hp => ?_⟩
    exact (res_of (t := .t (ts.map OT.frz)) rb q2).2 p vs hp h1
  · rw [if_neg hz] at q2
    exact False.elim q2
/-- a call of a built-in, by values -/
theorem sim_ca {K : PySem.W.Frag} {r : List V → Hp → VK → Prop} {g : List D → Option Rt} {ta : TA} {fs : SD → R (List OT)} (hg : CaG K r g) (sa : SimA K W ta fs) : SimE K W (tCB r ta) (fCa g fs) := by
  intro E σ sd P H Q rp q
  unfold fCa at q
  refine SimA.on sa rp (fun ts s1 e1 vs H1 hl r1 => ?_) (fun e s e1 => by rw [e1] at q; exact q) (fun z => by rw [z] at q; exact q)
  rw [e1] at q
  have q2 : okE K W E σ P Q (R.of (g (ts.map OT.frz)) s1) := q
  obtain ⟨B, Fp, Fs, rb, h1⟩ := r1.colds hl
  cases eg : g (ts.map OT.frz) with
  | none =>
    rw [eg] at q2
    exact False.elim q2
  | some t =>
    rw [eg] at q2
    exact hg B H1 vs _ t Q rb.sub h1 eg (res_of rb q2)
theorem ed_callB {x : Str} {p : Pos} {e : Expr} {es : List Expr} {id : String} {r : List V → Hp → VK → Prop} {g : List D → Option Rt} {fs : SD → R (List OT)} (hc : CallR X (.builtin id) r) (hg : CaG X.K r g) (gl : Gl X x) (hm : X.mg x = none) (hv : bootBuiltins x = some (.builtin id)) (ha : AD X W (e :: es) fs)
    (hn : x ≠ "__name__" := by decide) (hdb : (x == ("__debug__" : Str)) = false := by decide)
    (he : starEach (e :: es) X.env = (false, eval e X.env) :: starEach es X.env := by rfl) (hpl : (backTo pos (starEach es X.env)).any (·.1) = false := by rfl) : ED X W (.Call (.Name x p) (e :: es) [] pos) (fCa g fs) := by
  obtain ⟨ta, pa, sa⟩ := ha
  exact ⟨_, pe_callB hc gl hm hv pa hn hdb he hpl, sim_ca hg sa⟩
theorem ed_callT {x : Str} {p : Pos} {e : Expr} {es : List Expr} {id : String} {r : List V → Hp → VK → Prop} {g : List D → Option Rt} {fs : SD → R (List OT)} (hc : CallR X (.type id) r) (hg : CaG X.K r g) (gl : Gl X x) (hm : X.mg x = none) (hv : bootBuiltins x = some (.type id)) (ha : AD X W (e :: es) fs)
    (hn : x ≠ "__name__" := by decide) (hdb : (x == ("__debug__" : Str)) = false := by decide)
    (he : starEach (e :: es) X.env = (false, eval e X.env) :: starEach es X.env := by rfl) (hpl : (backTo pos (starEach es X.env)).any (·.1) = false := by rfl) : ED X W (.Call (.Name x p) (e :: es) [] pos) (fCa g fs) := by
  obtain ⟨ta, pa, sa⟩ := ha
  exact ⟨_, pe_callTy hc gl hm hv pa hn hdb he hpl, sim_ca hg sa⟩
/-- a subscript, by values -/
theorem ed_ix {r : R2} {g : D → D → Option Rt} (hr : IxR X r) (hg : OpG X.K r g) (ha : ED X W a fa) (hb : ED X W b fb) (hs : PlainIx b := by exact fun _ _ => rfl) : ED X W (.Subscript a b pos) (fOp g fa fb) := by
  obtain ⟨ta, pa, sa⟩ := ha
  obtain ⟨tb, pb, sb⟩ := hb
  exact ⟨_, pe_ix hr pa pb hs, sim_op hg sa sb⟩
/-- a slice: the parts, ints or left out -/
abbrev FO := SD → R (Option Int)
def oNo : FO := fun sd => .ok none sd
def oSome (fa : SD → R OT) : FO := fun sd => (fa sd).bind fun x s1 => match x.frz with
  | .int i => .ok (some i) s1
  | _ => .no
structure OD (X : Cx) (W : WF) (e : Option Expr) (f : FO) : Prop where
  ex : ∃ te, PO X e te ∧ ∀ (E : Ent W.fx) σ sd P H (Q : Option Int → Hp → Prop), Rp X.K E σ sd P H → (match f sd with
    | .ok o s => ∀ H', Rp X.K E σ s P H' → Q o H'
    | .ex e s => ∀ cls dd H', Rx X.K E σ s P e cls dd H' → W cls dd σ H'
    | .no => False) → te σ H Q
theorem od_none : OD X W none oNo := ⟨_, po_none, fun E σ sd P H Q rp q => q H rp⟩
theorem od_some (ha : ED X W a fa) : OD X W (some a) (oSome fa) := by
  obtain ⟨ta, pa, sa⟩ := ha
  refine ⟨_, po_some pa, fun E σ sd P H Q rp q => ?_⟩
  unfold oSome at q
  refine SimE.on sa rp (fun x s1 e1 v H1 r1 => ?_) (fun e s e1 => by rw [e1] at q; exact q) (fun z => by rw [z] at q; exact q)
  rw [e1] at q
  obtain ⟨B, Fp, Fs, rb, h1⟩ := r1.cold
  cases ex : x.frz with
  | int i =>
    rw [ex] at h1
    refine ⟨i, h1, ?_⟩
    have q2 : (match (match x.frz with
      | .int i => (R.ok (some i) s1 : R (Option Int))
      | _ => .no) with
      | .ok o s => ∀ H', Rp X.K E σ s P H' → Q o H'
      | .ex e s => ∀ cls dd H', Rx X.K E σ s P e cls dd H' → W cls dd σ H'
      | .no => False) := q
    rw [ex] at q2
    exact q2 H1 rb.rp
  | _ =>
    have q2 : (match (match x.frz with
      | .int i => (R.ok (some i) s1 : R (Option Int))
      | _ => .no) with
      | .ok o s => ∀ H', Rp X.K E σ s P H' → Q o H'
      | .ex e s => ∀ cls dd H', Rx X.K E σ s P e cls dd H' → W cls dd σ H'
      | .no => False) := q
    rw [ex] at q2
    exact False.elim q2
def SlG (K : PySem.W.Frag) (r : V → Option Int → Option Int → Hp → VK → Prop) (g : D → Option Int → Option Int → Option Rt) : Prop := ∀ B H x d lo hi t Q, Evl.Ex B H → Is K B d x → g d lo hi = some t → ResG K B H Q t → r x lo hi H Q
def fSl (g : D → Option Int → Option Int → Option Rt) (fa : SD → R OT) (fl fh : FO) : SD → R OT := fun sd => (fa sd).bind fun x s1 => (fl s1).bind fun lo s2 => (fh s2).bind fun hi s3 => R.of (g x.frz lo hi) s3
theorem ed_slice {r : V → Option Int → Option Int → Hp → VK → Prop} {g : D → Option Int → Option Int → Option Rt} {lo hi : Option Expr} {fl fh : FO} {p2 : Pos} (hr : SlR X r) (hg : SlG X.K r g) (ha : ED X W a fa) (hl : OD X W lo fl) (hh : OD X W hi fh) : ED X W (.Subscript a (.Slice lo hi none p2) pos) (fSl g fa fl fh) := by
  obtain ⟨ta, pa, sa⟩ := ha
  obtain ⟨tl, pl, sl⟩ := hl
  obtain ⟨th, ph, sh⟩ := hh
  refine ⟨_, pe_slice hr pa pl ph, fun E σ sd P H Q rp q => ?_⟩
  unfold fSl at q
  refine SimE.on sa rp (fun x s1 e1 v H1 r1 => ?_) (fun e s e1 => by rw [e1] at q; exact q) (fun z => by rw [z] at q; exact q)
  rw [e1] at q
  have q' : okE X.K W E σ P Q ((fl s1).bind fun lo s2 => (fh s2).bind fun hi s3 => R.of (g x.frz lo hi) s3) := q
  refine sl E σ s1 _ H1 _ r1 ?_
  cases e2 : fl s1 with
  | no => rw [e2] at q'; exact q'
  | ex e s => rw [e2] at q'; exact fun cls dd H' rx => q' cls dd H' rx.drop
  | ok l s2 =>
    rw [e2] at q'
    intro H2 r2
    have q'' : okE X.K W E σ P Q ((fh s2).bind fun hi s3 => R.of (g x.frz l hi) s3) := q'
    refine sh E σ s2 _ H2 _ r2 ?_
    cases e3 : fh s2 with
    | no => rw [e3] at q''; exact q''
    | ex e s => rw [e3] at q''; exact fun cls dd H' rx => q'' cls dd H' rx.drop
    | ok h s3 =>
      rw [e3] at q''
      intro H3 r3
      have q3 : okE X.K W E σ P Q (R.of (g x.frz l h) s3) := q''
      obtain ⟨B, Fp, Fs, rb, h1⟩ := r3.cold
      cases eg : g x.frz l h with
      | none =>
        rw [eg] at q3
        exact False.elim q3
      | some t =>
        rw [eg] at q3
        exact hg B H3 v _ l h t Q rb.sub h1 eg (res_of rb q3)
end
end DL

/-! DF: statements, targets, loops over trees -/
namespace DL
open PySem L2

/-! ### the functions -/
def sNil : SD → RS := fun sd => .nx sd
def sSeq (f g : SD → RS) : SD → RS := fun sd => (f sd).seq g
def sSet (i : Nat) (fe : SD → R OT) : SD → RS := fun sd => (fe sd).thn fun x s1 => .nx (s1.set i (some x))
def sSetF (i : Nat) (fe : SD → R OT) : SD → RS := fun sd => (fe sd).thn fun x s1 => .nx (s1.set i (some (.fz x.frz)))
def sRet (fe : SD → R OT) : SD → RS := fun sd => (fe sd).thn fun x s1 => .rt x s1
def sRetF (fe : SD → R OT) : SD → RS := fun sd => (fe sd).thn fun x s1 => .rt (.fz x.frz) s1
def sRetN : SD → RS := fun sd => .rt (.fz .non) sd
def sDrop (fe : SD → R OT) : SD → RS := fun sd => (fe sd).thn fun _ s1 => .nx s1
def sIf (fc : SD → R Bool) (f g : SD → RS) : SD → RS := fun sd => (fc sd).thn fun c s1 => if c = true then f s1 else g s1
def sAsg (fe : SD → R OT) (g : OT → SD → RS) : SD → RS := fun sd => (fe sd).thn fun x s1 => g x s1
def gNm (i : Nat) : OT → SD → RS := fun x s => .nx (s.set i (some x))
def gNmF (i : Nat) : OT → SD → RS := fun x s => .nx (s.set i (some (.fz x.frz)))
def gAll : List (OT → SD → RS) → List D → SD → RS
  | [], [], s => .nx s
  | g :: gs, d :: ds, s => (g (.fz d) s).seq fun s1 => gAll gs ds s1
  | _, _, _ => .no
def gTu (gs : List (OT → SD → RS)) : OT → SD → RS := fun x s => match x.frz with
  | .tup ds => if ds.length = gs.length then gAll gs ds s else .no
  | _ => .no
def gLs (gs : List (OT → SD → RS)) : OT → SD → RS := fun x s => match x.frz with
  | .lst ds => if ds.length = gs.length then gAll gs ds s else .no
  | _ => .no
/-- the end of a loop's turn -/
def RS.turn (r : RS) (k : SD → RS) : RS := match r with
  | .nx s => k s
  | .ct s => k s
  | .bk s => .nx s
  | .rt t s => .rt t s
  | .ex e s => .ex e s
  | .no => .no
def forL (g : OT → SD → RS) (fb : SD → RS) : List D → SD → RS
  | [], s => .nx s
  | d :: ds, s => match g (.fz d) s with
    | .nx s1 => (fb s1).turn (forL g fb ds)
    | _ => .no
def sFor (fi : SD → R (List D)) (g : OT → SD → RS) (fb : SD → RS) : SD → RS := fun sd => (fi sd).thn fun ds s1 => forL g fb ds s1
def whileL (fc : SD → R Bool) (fb : SD → RS) : Nat → SD → RS
  | 0, _ => .no
  | n + 1, s => (fc s).thn fun c s1 => if c = true then (fb s1).turn (whileL fc fb n) else .nx s1
def sAug (i : Nat) (g : D → D → Option Rt) (fe : SD → R OT) : SD → RS := fun sd => match sd[i]? with
  | some (some (.fz d)) => (fe sd).thn fun y s1 => match g d y.frz with
    | some (.v z) => .nx (s1.set i (some (.fz z)))
    | _ => .no
  | _ => .no

section
variable {K : PySem.W.Frag} {fx : List Nat} {E : Ent fx} {B H : Hp} {σ : St} {sd : SD} {P : PV} {Fp Fs : List Addr}
theorem fix_set {fx : List Nat} {σ σ0 : St} {i : Nat} {o : Option V} (hv : i ∉ fx) (h : ∀ j ∈ fx, σ[j]? = σ0[j]?) : ∀ j ∈ fx, (σ.set i o)[j]? = σ0[j]? := fun j hj => by
  rw [List.getElem?_set_ne fun (z : i = j) => hv (by rw [z]; exact hj)]
  exact h j hj
/-- the first pending value goes into a slot -/
theorem Rp.store {v : V} {t : OT} (i : Nat) (hv : i ∉ fx) (h : Rp K E σ sd ((v, t) :: P) H) : Rp K E (σ.set i (some v)) (sd.set i (some t)) P H := by
  by_cases hi : i < sd.length
  · obtain ⟨B, Fp, Fs, r⟩ := h
    obtain ⟨v', vr, F1, F2, e1, e2, h1, h2⟩ := r.pe
    cases e1
    subst e2
    obtain ⟨S1, S2, S3, g1, g2, _⟩ := RepS.put r.sl hi
    subst g1
    have pm : ∀ X : List Addr, ((F1 ++ F2) ++ (S1 ++ (X ++ S3))).Perm (X ++ (F2 ++ (S1 ++ (F1 ++ S3)))) := fun X => by
      rw [List.perm_iff_count]
      intro b
      simp only [List.count_append]
      omega
    refine ⟨B, F2, S1 ++ (F1 ++ S3), fix_set hv r.fix, r.sub, h2, g2 t v F1 h1, nd_tail ((pm S2).nodup_iff.mp r.nd), r.go.ex, r.go.keep, r.go.ever, r.go.neu, fun a ha => r.go.own a ?_⟩
    exact (pm S2).symm.subset (List.mem_append_right _ ha)
  · have hl : ∃ B Fp Fs, RpB K E B σ sd ((v, t) :: P) H Fp Fs := h
    obtain ⟨B, Fp, Fs, r⟩ := hl
    have hs := r.sl.length
    rw [List.set_eq_of_length_le (by omega), List.set_eq_of_length_le (by omega)]
    exact h.drop
/-- .. frozen -/
theorem Rp.coldTop {v : V} {t : OT} (h : Rp K E σ sd ((v, t) :: P) H) : Rp K E σ sd ((v, .fz t.frz) :: P) H := by
  obtain ⟨B, Fp, Fs, rb, h1⟩ := h.cold
  exact (rb.put h1).rp
theorem Rp.forget (i : Nat) (hv : i ∉ fx) (h : Rp K E σ sd P H) : Rp K E (σ.set i none) (sd.set i none) P H := by
  by_cases hi : i < sd.length
  · obtain ⟨B, Fp, Fs, r⟩ := h
    obtain ⟨S1, S2, S3, g1, _, g3⟩ := RepS.put r.sl hi
    subst g1
    have sb : (Fp ++ (S1 ++ S3)).Sublist (Fp ++ (S1 ++ (S2 ++ S3))) := (List.Sublist.refl Fp).append ((List.Sublist.refl S1).append (List.sublist_append_right S2 S3))
    exact ⟨B, Fp, S1 ++ S3, fix_set hv r.fix, r.sub, r.pe, g3, List.Nodup.sublist sb r.nd, r.go.ex, r.go.keep, r.go.ever, r.go.neu, fun a ha => r.go.own a (sb.subset ha)⟩
  · obtain ⟨B, Fp, Fs, r⟩ := h
    have hs := r.sl.length
    rw [List.set_eq_of_length_le (by omega), List.set_eq_of_length_le (by omega)]
    exact ⟨B, Fp, Fs, r⟩
end

/-! ### blocks, small statements -/
section
variable {X : Cx} {W : WF} {st : Stmt} {rest : List Stmt} {e : Expr} {f g : SD → RS} {fe : SD → R OT} {gc : SD → R Bool} {pos : Pos}
theorem bd_nil : BD X W [] sNil := ⟨_, pss_nil, fun E σ sd P H D rp q => q σ H rp⟩
theorem sim_seq {t u : TS} (h1 : SimS X.K W t f) (h2 : SimS X.K W u g) : SimS X.K W (tSeq t u) (sSeq f g) := by
  intro E σ sd P H D rp q
  unfold sSeq at q
  refine h1 E σ sd P H { D with nx := u D } rp ?_
  cases e : f sd with
  | nx s => rw [e] at q; exact fun σ' H' r' => h2 E σ' s P H' D r' q
  | rt t s => rw [e] at q; exact q
  | bk s => rw [e] at q; exact q
  | ct s => rw [e] at q; exact q
  | ex x s => rw [e] at q; exact q
  | no => rw [e] at q; exact q
theorem bd_cons (h1 : SDs X W st f) (h2 : BD X W rest g) : BD X W (st :: rest) (sSeq f g) := by
  obtain ⟨t, p, s⟩ := h1
  obtain ⟨u, p2, s2⟩ := h2
  exact ⟨_, pss_cons p p2, sim_seq s s2⟩
theorem bd_one (h1 : SDs X W st f) : BD X W [st] f := by
  obtain ⟨t, p, s⟩ := h1
  exact ⟨_, pss_one p, s⟩
theorem sd_pass : SDs X W (.Pass pos) sNil := ⟨_, ps_pass, fun E σ sd P H D rp q => q σ H rp⟩
theorem sd_break : SDs X W (.Break pos) (fun sd => .bk sd) := ⟨_, ps_break, fun E σ sd P H D rp q => q σ H rp⟩
theorem sd_continue : SDs X W (.Continue pos) (fun sd => .ct sd) := ⟨_, ps_continue, fun E σ sd P H D rp q => q σ H rp⟩
theorem sd_never : SDs X W st (fun _ => .no) := ⟨_, ps_never, fun _ _ _ _ _ _ _ q => q⟩
theorem bd_never {sts : List Stmt} : BD X W sts (fun _ => .no) := ⟨_, pss_never, fun _ _ _ _ _ _ _ q => q⟩
theorem sd_expr (h : ED X W e fe) (hs : swapsWith e none pos.line X.env = pure false := by rfl) : SDs X W (.Expr e pos) (sDrop fe) := by
  obtain ⟨t, p, s⟩ := h
  refine ⟨_, ps_expr p hs, fun E σ sd P H D rp q => ?_⟩
  unfold sDrop at q
  refine SimE.on s rp (fun x s1 e1 v H1 r1 => ?_) (fun a s e1 cls dd H' rx => by rw [e1] at q; exact q cls dd σ H' rx) (fun z => by rw [z] at q; exact q)
  rw [e1] at q
  exact q σ H1 r1.drop
theorem sd_ret (h : ED X W e fe) : SDs X W (.Return (some e) pos) (sRet fe) := by
  obtain ⟨t, p, s⟩ := h
  refine ⟨_, ps_ret p, fun E σ sd P H D rp q => ?_⟩
  unfold sRet at q
  refine SimE.on s rp (fun x s1 e1 v H1 r1 => ?_) (fun a s e1 cls dd H' rx => by rw [e1] at q; exact q cls dd σ H' rx) (fun z => by rw [z] at q; exact q)
  rw [e1] at q
  exact q v σ H1 r1
theorem sd_retF (h : ED X W e fe) : SDs X W (.Return (some e) pos) (sRetF fe) := by
  obtain ⟨t, p, s⟩ := h
  refine ⟨_, ps_ret p, fun E σ sd P H D rp q => ?_⟩
  unfold sRetF at q
  refine SimE.on s rp (fun x s1 e1 v H1 r1 => ?_) (fun a s e1 cls dd H' rx => by rw [e1] at q; exact q cls dd σ H' rx) (fun z => by rw [z] at q; exact q)
  rw [e1] at q
  exact q v σ H1 r1.coldTop
theorem sd_retN : SDs X W (.Return none pos) sRetN := ⟨_, ps_retN, fun E σ sd P H D rp q => by
  obtain ⟨B, Fp, Fs, rb⟩ := rp
  exact q .non σ H (rb.put (d := .non) rfl).rp⟩
theorem sd_if {c : Expr} {a b : List Stmt} (hc : TD X W c gc) (ha : BD X W a f) (hb : BD X W b g) : SDs X W (.If c a b pos) (sIf gc f g) := by
  obtain ⟨tc, pc, sc⟩ := hc
  obtain ⟨t, p, s⟩ := ha
  obtain ⟨u, p2, s2⟩ := hb
  refine ⟨_, ps_if pc p p2, fun E σ sd P H D rp q => ?_⟩
  unfold sIf at q
  refine SimB.on sc rp (fun x s1 e1 H1 r1 => ?_) (fun a s e1 cls dd H' rx => by rw [e1] at q; exact q cls dd σ H' rx) (fun z => by rw [z] at q; exact q)
  rw [e1] at q
  have q2 : okS X.K W E P D (if x = true then f s1 else g s1) := q
  cases x with
  | true => exact s E σ s1 P H1 D r1 q2
  | false => exact s2 E σ s1 P H1 D r1 q2

/-! ### targets -/
structure GD (X : Cx) (W : WF) (tg : Expr) (g : OT → SD → RS) : Prop where
  ex : ∃ t, PG X tg t ∧ ∀ (E : Ent W.fx) σ sd P H v x (Q : St → Hp → Prop), Rp X.K E σ sd ((v, x) :: P) H → (match g x sd with
    | .nx s => ∀ σ' H', Rp X.K E σ' s P H' → Q σ' H'
    | _ => False) → t v σ H Q
theorem gd_name {i : Nat} {x : Str} (h : PG X (.Name x pos) (gName i)) (hv : i ∉ W.fx := by first | decide | (dsimp only; decide)) : GD X W (.Name x pos) (gNm i) := ⟨_, h, fun E σ sd P H v x Q rp q => q _ H (rp.store i hv)⟩
theorem gd_nameF {i : Nat} {x : Str} (h : PG X (.Name x pos) (gName i)) (hv : i ∉ W.fx := by first | decide | (dsimp only; decide)) : GD X W (.Name x pos) (gNmF i) := ⟨_, h, fun E σ sd P H v x Q rp q => q _ H (rp.coldTop.store i hv)⟩
structure GDs (X : Cx) (W : WF) (ts : List Expr) (gs : List (OT → SD → RS)) : Prop where
  ex : ∃ t, PGs X ts t ∧ ∀ (E : Ent W.fx) σ sd P H vs ds (Q : St → Hp → Prop), vs.length = ds.length → Rp X.K E σ sd (vs.zip (ds.map .fz) ++ P) H → (match gAll gs ds sd with
    | .nx s => ∀ σ' H', Rp X.K E σ' s P H' → Q σ' H'
    | _ => False) → t vs σ H Q
theorem gds_nil : GDs X W [] [] := ⟨_, pgs_nil, fun E σ sd P H vs ds Q hl rp q => by
  cases ds with
  | nil =>
    cases vs with
    | nil => exact ⟨rfl, q σ H rp⟩
    | cons _ _ => cases hl
  | cons _ _ => exact False.elim q⟩
theorem gds_cons {e : Expr} {es : List Expr} {g : OT → SD → RS} {gs : List (OT → SD → RS)} (h1 : GD X W e g) (h2 : GDs X W es gs) (hs : (assignEach (e :: es) X.env).map (·.2) = assign e X.env :: (assignEach es X.env).map (·.2) := by rfl) : GDs X W (e :: es) (g :: gs) := by
  obtain ⟨t, p, s⟩ := h1
  obtain ⟨u, p2, s2⟩ := h2
  refine ⟨_, pgs_cons p p2 hs, fun E σ sd P H vs ds Q hl rp q => ?_⟩
  cases ds with
  | nil => exact False.elim q
  | cons d ds =>
    cases vs with
    | nil => cases hl
    | cons v vs =>
      have q' : (match (g (.fz d) sd).seq fun s1 => gAll gs ds s1 with
        | .nx s => ∀ σ' H', Rp X.K E σ' s P H' → Q σ' H'
        | _ => False) := q
      refine ⟨v, vs, rfl, s E σ sd _ H v (.fz d) _ rp ?_⟩
      cases eg : g (.fz d) sd with
      | nx s1 =>
        rw [eg] at q'
        exact fun σ1 H1 r1 => s2 E σ1 s1 P H1 vs ds Q (Nat.succ.inj hl) r1 q'
      | _ =>
        rw [eg] at q'
        exact False.elim q'
theorem isA_len {K : PySem.W.Frag} {B : Hp} : ∀ {ds : List D} {vs : List V}, IsA K B ds vs → vs.length = ds.length
  | [], _, h => by rw [show _ = [] from h] <;> rfl
  | _ :: _, _, ⟨v, r, h1, _, h3⟩ => by rw [h1, List.length_cons, List.length_cons, isA_len h3]
theorem RpB.puts {fx : List Nat} {K : PySem.W.Frag} {E : Ent fx} {B H : Hp} {σ : St} {sd : SD} {P : PV} {Fp Fs : List Addr} (r : RpB K E B σ sd P H Fp Fs) : ∀ {ds : List D} {vs : List V}, IsA K B ds vs → RpB K E B σ sd (vs.zip (ds.map .fz) ++ P) H Fp Fs
  | [], _, h => by
    rw [show _ = [] from h]
    exact r
  | d :: ds, _, ⟨v, vr, h1, h2, h3⟩ => by
    subst h1
    exact (RpB.puts r h3).put h2
theorem gd_tup {es : List Expr} {gs : List (OT → SD → RS)} {k : Nat} (hc : X.calm = true) (h : GDs X W es gs) (hn : (assignEach es X.env).length = gs.length := by rfl) (hst : (assignEach es X.env).findIdx? (·.1) = none := by rfl) :
    GD X W (.Tuple es k pos) (gTu gs) := by
  obtain ⟨t, p, s⟩ := h
  refine ⟨_, pg_tup hc p hn hst, fun E σ sd P H v x Q rp q => ?_⟩
  obtain ⟨B, Fp, Fs, rb, h1⟩ := rp.cold
  have q' : (match (match x.frz with
    | .tup ds => if ds.length = gs.length then gAll gs ds sd else .no
    | _ => .no : RS) with
    | .nx s => ∀ σ' H', Rp X.K E σ' s P H' → Q σ' H'
    | _ => False) := q
  cases ex : x.frz with
  | tup ds =>
    rw [ex] at q' h1
    obtain ⟨a, vs, e1, e2, e3⟩ := h1
    by_cases hl : ds.length = gs.length
    · have q2 : (match (if ds.length = gs.length then gAll gs ds sd else .no : RS) with
        | .nx s => ∀ σ' H', Rp X.K E σ' s P H' → Q σ' H'
        | _ => False) := q'
      rw [if_pos hl] at q2
      exact ⟨a, vs, e1, Evl.ex_t rb.sub e2, by rw [isA_len e3, hl], s E σ sd P H vs ds Q (isA_len e3) (rb.puts e3).rp q2⟩
    · have q2 : (match (if ds.length = gs.length then gAll gs ds sd else .no : RS) with
        | .nx s => ∀ σ' H', Rp X.K E σ' s P H' → Q σ' H'
        | _ => False) := q'
      rw [if_neg hl] at q2
      exact False.elim q2
  | _ =>
    rw [ex] at q'
    exact False.elim q'
theorem gds_len {es : List Expr} {gs : List (OT → SD → RS)} : True := trivial
/-- target = value -/
theorem sd_asg {tg : Expr} {g : OT → SD → RS} (he : ED X W e fe) (hg : GD X W tg g) (hgx : ∀ x s, (∃ s', g x s = .nx s') ∨ g x s = .no) (hs : swapsWithSole [tg] e pos.line X.env = pure false := by rfl) (hw : swappedStores [tg] e X.env = pure none := by rfl)
    (h1 : (assignEach [tg] X.env).map (·.2) = [assign tg X.env] := by rfl) : SDs X W (.Assign [tg] e pos) (sAsg fe g) := by
  obtain ⟨t, p, s⟩ := he
  obtain ⟨u, p2, s2⟩ := hg
  refine ⟨_, ps_asg p p2 hs hw h1, fun E σ sd P H D rp q => ?_⟩
  unfold sAsg at q
  refine SimE.on s rp (fun x s1 e1 v H1 r1 => ?_) (fun a s e1 cls dd H' rx => by rw [e1] at q; exact q cls dd σ H' rx) (fun z => by rw [z] at q; exact q)
  rw [e1] at q
  have q2 : okS X.K W E P D (g x s1) := q
  refine s2 E σ s1 P H1 v x _ r1 ?_
  rcases hgx x s1 with ⟨s', e2⟩ | e2
  · rw [e2] at q2 ⊢
    exact q2
  · rw [e2] at q2
    exact False.elim q2
theorem sd_set {i : Nat} {x : Str} {p' : Pos} (hN : X.N.Nodup) (hi : X.N[i]? = some x) (hx : Loc X.env.scope x) (he : ED X W e fe) (hs : swapsWith e (some (.Name x p')) pos.line X.env = pure false := by rfl) (hf : X.fn x = true ∨ X.env.scope.names.lookup x = some .local := by first | exact .inl rfl | exact .inr rfl | assumption) (hv : i ∉ W.fx := by first | decide | (dsimp only; decide)) :
    SDs X W (.Assign [.Name x p'] e pos) (sSet i fe) := by
  obtain ⟨t, p, s⟩ := he
  refine ⟨_, ps_set hN hi hx p hs hf, fun E σ sd P H D rp q => ?_⟩
  unfold sSet at q
  refine SimE.on s rp (fun x s1 e1 v H1 r1 => ?_) (fun a s e1 cls dd H' rx => by rw [e1] at q; exact q cls dd σ H' rx) (fun z => by rw [z] at q; exact q)
  rw [e1] at q
  exact q _ H1 (r1.store i hv)
theorem sd_setF {i : Nat} {x : Str} {p' : Pos} (hN : X.N.Nodup) (hi : X.N[i]? = some x) (hx : Loc X.env.scope x) (he : ED X W e fe) (hs : swapsWith e (some (.Name x p')) pos.line X.env = pure false := by rfl) (hf : X.fn x = true ∨ X.env.scope.names.lookup x = some .local := by first | exact .inl rfl | exact .inr rfl | assumption) (hv : i ∉ W.fx := by first | decide | (dsimp only; decide)) :
    SDs X W (.Assign [.Name x p'] e pos) (sSetF i fe) := by
  obtain ⟨t, p, s⟩ := he
  refine ⟨_, ps_set hN hi hx p hs hf, fun E σ sd P H D rp q => ?_⟩
  unfold sSetF at q
  refine SimE.on s rp (fun x s1 e1 v H1 r1 => ?_) (fun a s e1 cls dd H' rx => by rw [e1] at q; exact q cls dd σ H' rx) (fun z => by rw [z] at q; exact q)
  rw [e1] at q
  exact q _ H1 (r1.coldTop.store i hv)
/-- x op= e, x a plain name that holds data -/
def IpG (K : PySem.W.Frag) (t : TIp) (g : D → D → Option Rt) : Prop := ∀ B H x y d e z Q, Evl.Ex B H → Is K B d x → Is K B e y → g d e = some (.v z) → (∀ v, Is K B z v → Q v H) → t x y H Q
theorem sd_aug {i : Nat} {x : Str} {op : Operator} {ti : TIp} {g : D → D → Option Rt} {p' : Pos} (hN : X.N.Nodup) (hi : X.N[i]? = some x) (hx : Loc X.env.scope x) (he : ED X W e fe) (ho : PIp X op ti) (hg : IpG X.K ti g) (hf : X.fn x = true ∨ X.env.scope.names.lookup x = some .local := by first | exact .inl rfl | exact .inr rfl | assumption) (hv : i ∉ W.fx := by first | decide | (dsimp only; decide)) :
    SDs X W (.AugAssign (.Name x p') op e pos) (sAug i g fe) := by
  obtain ⟨t, p, s⟩ := he
  refine ⟨_, ps_aug hN hi hx p ho hf, fun E σ sd P H D rp q => ?_⟩
  unfold sAug at q
  split at q
  · rename_i d ed
    have rp0 := rp
    obtain ⟨B, Fp, Fs, rb⟩ := rp
    obtain ⟨v, F1, F2, F3, g1, g2, ⟨_, g3⟩, _⟩ := RepS.at_ rb.sl ed
    refine ⟨v, g1, ?_⟩
    have r0 : Rp X.K E σ sd ((v, .fz d) :: P) H := (rb.put g3).rp
    refine SimE.on s r0 (fun y s1 e1 u H1 r1 => ?_) (fun a s e1 cls dd H' rx => by rw [e1] at q; exact q cls dd σ H' rx.drop) (fun z => by rw [z] at q; exact q)
    rw [e1] at q
    obtain ⟨B', Fp', Fs', rb', k1, k2⟩ := r1.cold2
    have q2 : okS X.K W E P D (match g d y.frz with
      | some (.v z) => .nx (s1.set i (some (.fz z)))
      | _ => .no) := q
    cases eg : g d y.frz with
    | none => rw [eg] at q2; exact False.elim q2
    | some r =>
      cases r with
      | v z =>
        rw [eg] at q2
        exact hg B' H1 v u d _ z _ rb'.sub k2 k1 eg fun w hw => q2 _ H1 ((rb'.put hw).rp.store i hv)
      | l _ => rw [eg] at q2; exact False.elim q2
      | t _ => rw [eg] at q2; exact False.elim q2
  · exact False.elim q

/-! ### what is walked -/
def ItOk (K : PySem.W.Frag) (J : It) (Pj : PV) (ds : List D) : Prop := ∀ (fx : List Nat) (E : Ent fx) σ sd P H i, Rp K E σ sd (Pj ++ P) H →
  (∀ d, ds[i]? = some d → J.go i H ∧ ∀ x H', J.yld i H x H' → Rp K E σ sd ((x, .fz d) :: Pj ++ P) H') ∧ (ds.length ≤ i → J.stop i H)
structure ID (X : Cx) (W : WF) (tg e : Expr) (f : SD → R (List D)) : Prop where
  ex : ∃ w, PI X tg e w ∧ ∀ (E : Ent W.fx) σ sd P H (Q : It → Hp → Prop), Rp X.K E σ sd P H → (match f sd with
    | .ok ds s => ∀ J Pj H', Rp X.K E σ s (Pj ++ P) H' → ItOk X.K J Pj ds → Q J H'
    | .ex e s => ∀ cls dd H', Rx X.K E σ s P e cls dd H' → W cls dd σ H'
    | .no => False) → w σ H Q
theorem Rp.drops {fx : List Nat} {K : PySem.W.Frag} {E : Ent fx} {σ : St} {sd : SD} {P : PV} {H : Hp} : ∀ (Pj : PV), Rp K E σ sd (Pj ++ P) H → Rp K E σ sd P H
  | [], h => h
  | (v, t) :: Pj, h => Rp.drops Pj h.drop
theorem Rx.drops {fx : List Nat} {K : PySem.W.Frag} {E : Ent fx} {σ : St} {sd : SD} {P : PV} {H : Hp} {e : Exn} {cls : Value} {dd : Option Addr} : ∀ (Pj : PV), Rx K E σ sd (Pj ++ P) e cls dd H → Rx K E σ sd P e cls dd H
  | [], h => h
  | (v, t) :: Pj, h => Rx.drops Pj h.drop
theorem Rp.dropAt {fx : List Nat} {K : PySem.W.Frag} {E : Ent fx} {σ : St} {sd : SD} {P : PV} {H : Hp} {v : V} {t : OT} : ∀ (Pj : PV), Rp K E σ sd ((v, t) :: Pj ++ P) H → Rp K E σ sd ((v, t) :: P) H := fun Pj h => by
  have h2 : Rp K E σ sd (Pj ++ (v, t) :: P) H := h.perm (by
    rw [List.cons_append]
    exact List.perm_middle.symm)
  exact h2.drops Pj
theorem sd_for {tg iter : Expr} {body : List Stmt} {fi : SD → R (List D)} {g : OT → SD → RS} (hp : PassesOwn (model X.prog X.w) X.A X.env X.xe) (hc : X.calm = true) (hi : ID X W tg iter fi) (hg : GD X W tg g) (hb : BD X W body f)
    (hs : ∀ x, foldedSetIterable iter X.env x = pure x := by intro _; rfl) : SDs X W (.For tg iter body [] pos) (sFor fi g f) := by
  obtain ⟨w, pw, sw⟩ := hi
  obtain ⟨u, pg, sg⟩ := hg
  obtain ⟨t, pb, sb⟩ := hb
  refine ⟨_, ps_for hp hc pw pg pb hs, fun E σ sd P H D rp q => ?_⟩
  unfold sFor at q
  refine sw E σ sd P H _ rp ?_
  cases ei : fi sd with
  | no => rw [ei] at q; exact q
  | ex e s => rw [ei] at q; exact fun cls dd H' rx => q cls dd σ H' rx
  | ok ds s1 =>
    rw [ei] at q
    have q1 : okS X.K W E P D (forL g f ds s1) := q
    intro J Pj H1 r1 hJ
    refine ⟨fun i m σ H => m = ds.length - i ∧ i ≤ ds.length ∧ ∃ sd, Rp X.K E σ sd (Pj ++ P) H ∧ okS X.K W E P D (forL g f (ds.drop i) sd), ⟨ds.length, by simp, Nat.zero_le _, s1, r1, q1⟩, ?_⟩
    rintro i m σ2 H2 ⟨rfl, hle, sd2, r2, q2⟩
    obtain ⟨j1, j2⟩ := hJ W.fx E σ2 sd2 P H2 i r2
    by_cases hlt : i < ds.length
    · obtain ⟨j3, j4⟩ := j1 ds[i] (by simp [hlt])
      rw [List.drop_eq_getElem_cons hlt] at q2
      have q3 : okS X.K W E P D (match g (.fz ds[i]) sd2 with
        | .nx s1 => (f s1).turn (forL g f (ds.drop (i + 1)))
        | _ => .no) := q2
      refine .inr ⟨j3, fun σ' H' => ∃ sd, Rp X.K E σ' sd (Pj ++ P) H' ∧ okS X.K W E P D (forL g f (ds.drop (i + 1)) sd), fun σ' H' ⟨sd', r', q'⟩ => ⟨ds.length - (i + 1), by omega, rfl, hlt, sd', r', q'⟩, fun x H' y => ?_⟩
      have r3 := j4 x H' y
      refine sg E σ2 sd2 (Pj ++ P) H' x (.fz ds[i]) _ r3 ?_
      cases eg : g (.fz ds[i]) sd2 with
      | nx s3 =>
        rw [eg] at q3
        intro σ4 H4 r4
        have q4 : okS X.K W E P D ((f s3).turn (forL g f (ds.drop (i + 1)))) := q3
        refine sb E σ4 s3 (Pj ++ P) H4 _ r4 ?_
        cases ef : f s3 with
        | nx s => rw [ef] at q4; exact fun σ' H' r' => ⟨s, r', q4⟩
        | ct s => rw [ef] at q4; exact fun σ' H' r' => ⟨s, r', q4⟩
        | bk s => rw [ef] at q4; exact fun σ' H' r' => q4 σ' H' (r'.drops Pj)
        | rt t s => rw [ef] at q4; exact fun v σ' H' r' => q4 v σ' H' (Rp.dropAt Pj r')
        | ex e s => rw [ef] at q4; exact fun cls dd σ' H' rx => q4 cls dd σ' H' (rx.drops Pj)
        | no => rw [ef] at q4; exact q4
      | _ =>
        rw [eg] at q3
        exact False.elim q3
    · have e : i = ds.length := by omega
      subst e
      rw [List.drop_length] at q2
      exact .inl ⟨j2 (Nat.le_refl _), q2 σ2 H2 (r2.drops Pj)⟩
theorem sd_while {c : Expr} {body : List Stmt} (n : Nat) (hp : PassesOwn (model X.prog X.w) X.A X.env X.xe) (hc : TD X W c gc) (hb : BD X W body f) : SDs X W (.While c body [] pos) (whileL gc f n) := by
  obtain ⟨tc, pc, sc⟩ := hc
  obtain ⟨t, pb, sb⟩ := hb
  refine ⟨_, ps_while hp pc pb, fun E σ sd P H D rp q => ?_⟩
  refine ⟨fun m σ H => ∃ sd, Rp X.K E σ sd P H ∧ okS X.K W E P D (whileL gc f m sd), ⟨n, sd, rp, q⟩, ?_⟩
  rintro m σ2 H2 ⟨sd2, r2, q2⟩
  cases m with
  | zero => exact False.elim q2
  | succ m =>
    have q3 : okS X.K W E P D ((gc sd2).thn fun c s1 => if c = true then (f s1).turn (whileL gc f m) else .nx s1) := q2
    refine SimB.on sc r2 (fun x s1 e1 H1 r1 => ?_) (fun a s e1 cls dd H' rx => by rw [e1] at q3; exact q3 cls dd σ2 H' rx) (fun z => by rw [z] at q3; exact q3)
    rw [e1] at q3
    have q4 : okS X.K W E P D (if x = true then (f s1).turn (whileL gc f m) else .nx s1) := q3
    cases x with
    | false => exact q4 σ2 H1 r1
    | true =>
      have q5 : okS X.K W E P D ((f s1).turn (whileL gc f m)) := q4
      refine ⟨fun σ' H' => ∃ sd, Rp X.K E σ' sd P H' ∧ okS X.K W E P D (whileL gc f m sd), fun σ' H' ⟨sd', r', q'⟩ => ⟨m, Nat.lt_succ_self m, sd', r', q'⟩, ?_⟩
      refine sb E σ2 s1 P H1 _ r1 ?_
      cases ef : f s1 with
      | nx s => rw [ef] at q5; exact fun σ' H' r' => ⟨s, r', q5⟩
      | ct s => rw [ef] at q5; exact fun σ' H' r' => ⟨s, r', q5⟩
      | bk s => rw [ef] at q5; exact q5
      | rt t s => rw [ef] at q5; exact q5
      | ex e s => rw [ef] at q5; exact q5
      | no => rw [ef] at q5; exact q5
end
end DL

/-! DG: what is walked; comprehensions; the lists that slots own -/
namespace DL
open PySem L2

/-! ### iterables -/
def iLs (fa : SD → R OT) : SD → R (List D) := fun sd => (fa sd).bind fun x s1 => match x.frz with
  | .lst ds => .ok ds s1
  | _ => .no
def iTu (fa : SD → R OT) : SD → R (List D) := fun sd => (fa sd).bind fun x s1 => match x.frz with
  | .tup ds => .ok ds s1
  | _ => .no
def iRg1 (fa : SD → R (List OT)) : SD → R (List D) := fun sd => (fa sd).bind fun xs s1 => match xs.map OT.frz with
  | [.int j] => if -(2 ^ 62) ≤ j ∧ j < 2 ^ 62 then .ok ((List.range j.toNat).map fun k => .int (k : Nat)) s1 else .no
  | _ => .no
def iRg2 (fa : SD → R (List OT)) : SD → R (List D) := fun sd => (fa sd).bind fun xs s1 => match xs.map OT.frz with
  | [.int i, .int j] => if -(2 ^ 62) ≤ i ∧ i < 2 ^ 62 ∧ -(2 ^ 62) ≤ j ∧ j < 2 ^ 62 then .ok ((List.range (j - i).toNat).map fun k => .int (i + (k : Nat))) s1 else .no
  | _ => .no
def enumD (ds : List D) : List D := ds.zipIdx.map fun p => .tup [.int (p.2 : Nat), p.1]
def iEn (fa : SD → R (List OT)) : SD → R (List D) := fun sd => (fa sd).bind fun xs s1 => match xs.map OT.frz with
  | [.lst ds] => .ok (enumD ds) s1
  | _ => .no
def zipD (ds es : List D) : List D := (ds.zip es).map fun p => .tup [p.1, p.2]
def iZp (fa : SD → R (List OT)) : SD → R (List D) := fun sd => (fa sd).bind fun xs s1 => match xs.map OT.frz with
  | [.lst ds, .lst es] => .ok (zipD ds es) s1
  | _ => .no
theorem isA_get {K : PySem.W.Frag} {B : Hp} : ∀ {ds : List D} {vs : List V} {i : Nat} {d : D}, IsA K B ds vs → ds[i]? = some d → ∃ v, vs[i]? = some v ∧ Is K B d v
  | [], _, _, _, _, e => by cases e
  | d0 :: ds, _, 0, d, ⟨v, r, h1, h2, h3⟩, e => by
    cases e
    subst h1
    exact ⟨v, rfl, h2⟩
  | d0 :: ds, _, i + 1, d, ⟨v, r, h1, h2, h3⟩, e => by
    subst h1
    exact isA_get (i := i) h3 e
section
variable {K : PySem.W.Frag} {fx : List Nat} {E : Ent fx} {B H : Hp} {σ : St} {sd : SD} {P : PV} {Fp Fs : List Addr}
theorem RpB.free {p : Addr} (r : RpB K E B σ sd P H Fp Fs) (hp : H p = none) : B p = none := by
  cases z : B p with
  | none => rfl
  | some u =>
    have := r.sub p u z
    rw [hp] at this; cases this
theorem itok_list {a : Addr} {ds : List D} : ItOk K (Itl K a) [(.ref a, .fz (.lst ds))] ds := by
  intro fx E σ sd P H i rp
  obtain ⟨B, Fp, Fs, rb⟩ := rp
  obtain ⟨⟨a', vs, e1, e2, e3⟩, rb2⟩ := RpB.top rb
  cases e1
  have hS : SqL K H a vs := .inl (.inl (rb.sub _ _ e2))
  refine ⟨fun d hd => ?_, fun h => ⟨vs, hS, by rw [isA_len e3]; exact h⟩⟩
  obtain ⟨v, hv, hi⟩ := isA_get e3 hd
  refine ⟨⟨vs, v, hS, hv⟩, fun x H' y => ?_⟩
  obtain ⟨rfl, y2⟩ := y
  have := y2 vs hS
  rw [hv] at this
  cases this
  exact (rb.put hi).rp
theorem itok_tup {a : Addr} {ds : List D} : ItOk K (Itt K a) [(.ref a, .fz (.tup ds))] ds := by
  intro fx E σ sd P H i rp
  obtain ⟨B, Fp, Fs, rb⟩ := rp
  obtain ⟨⟨a', vs, e1, e2, e3⟩, rb2⟩ := RpB.top rb
  cases e1
  have hS : SqT K H a vs := Evl.ex_t rb.sub e2
  refine ⟨fun d hd => ?_, fun h => ⟨vs, hS, by rw [isA_len e3]; exact h⟩⟩
  obtain ⟨v, hv, hi⟩ := isA_get e3 hd
  refine ⟨⟨vs, v, hS, hv⟩, fun x H' y => ?_⟩
  obtain ⟨rfl, y2⟩ := y
  have := y2 vs hS
  rw [hv] at this
  cases this
  exact (rb.put hi).rp
theorem itok_range {lo : Int} {n : Nat} : ItOk K (Itr lo n) [] ((List.range n).map fun k => .int (lo + (k : Nat))) := by
  intro fx E σ sd P H i rp
  obtain ⟨B, Fp, Fs, rb⟩ := rp
  refine ⟨fun d hd => ?_, fun h => (show n ≤ i by simpa using h)⟩
  rw [List.getElem?_map] at hd
  cases hi : (List.range n)[i]? with
  | none => rw [hi] at hd; cases hd
  | some k =>
    rw [hi] at hd
    cases hd
    obtain ⟨h1, h2⟩ := List.getElem?_eq_some_iff.mp hi
    rw [List.getElem_range] at h2
    subst h2
    rw [List.length_range] at h1
    refine ⟨h1, fun x H' y => ?_⟩
    obtain ⟨rfl, rfl⟩ := y
    exact (rb.put (d := .int (lo + (i : Nat))) rfl).rp
theorem itok_enum {a : Addr} {ds : List D} : ItOk K (Ite K a) [(.ref a, .fz (.lst ds))] (enumD ds) := by
  intro fx E σ sd P H i rp
  obtain ⟨B, Fp, Fs, rb⟩ := rp
  obtain ⟨⟨a', vs, e1, e2, e3⟩, rb2⟩ := RpB.top rb
  cases e1
  have hS : SqL K H a vs := .inl (.inl (rb.sub _ _ e2))
  refine ⟨fun d hd => ?_, fun h => ⟨vs, hS, by rw [isA_len e3]; simpa [enumD] using h⟩⟩
  unfold enumD at hd
  rw [List.getElem?_map, List.getElem?_zipIdx] at hd
  cases hi : ds[i]? with
  | none => rw [hi] at hd; cases hd
  | some d0 =>
    rw [hi] at hd
    have hd' : D.tup [.int ((0 + i : Nat) : Int), d0] = d := Option.some.inj hd
    rw [Nat.zero_add] at hd'
    subst hd'
    obtain ⟨v, hv, hi⟩ := isA_get e3 hi
    refine ⟨⟨vs, v, hS, hv⟩, fun x H' y => ?_⟩
    obtain ⟨T, x', rfl, hT, rfl, y2⟩ := y
    have := y2 vs hS
    rw [hv] at this
    cases this
    have ex : Evl.Ex B (upd B T (.tup [.int (i : Nat), v])) := Evl.Ex.new (rb.free hT)
    exact ((rb.newB hT).put (d := .tup [.int (i : Nat), d0]) ⟨T, _, rfl, .inl (.inl upd_same), _, _, rfl, rfl, _, _, rfl, hi.mono ex, rfl⟩).rp
theorem itok_zip {a b : Addr} {ds es : List D} : ItOk K (Itz K a b) [(.ref a, .fz (.lst ds)), (.ref b, .fz (.lst es))] (zipD ds es) := by
  intro fx E σ sd P H i rp
  obtain ⟨B, Fp, Fs, rb⟩ := rp
  obtain ⟨⟨a', vs, e1, e2, e3⟩, rb2⟩ := RpB.top rb
  obtain ⟨⟨b', us, f1, f2, f3⟩, rb3⟩ := RpB.top rb2
  cases e1
  cases f1
  have hS : SqL K H a vs := .inl (.inl (rb.sub _ _ e2))
  have hU : SqL K H b us := .inl (.inl (rb.sub _ _ f2))
  refine ⟨fun d hd => ?_, fun h => ⟨vs, us, hS, hU, by
    rw [isA_len e3, isA_len f3]
    unfold zipD at h
    rw [List.length_map, List.length_zip] at h
    omega⟩⟩
  unfold zipD at hd
  rw [List.getElem?_map] at hd
  cases hz : (ds.zip es)[i]? with
  | none => rw [hz] at hd; cases hd
  | some p =>
    rw [hz] at hd
    have hd' : D.tup [p.1, p.2] = d := Option.some.inj hd
    subst hd'
    obtain ⟨z1, z2⟩ := List.getElem?_zip_eq_some.mp hz
    obtain ⟨v, hv, hi⟩ := isA_get e3 z1
    obtain ⟨u, hu, hj⟩ := isA_get f3 z2
    refine ⟨⟨vs, us, v, u, hS, hU, hv, hu⟩, fun x H' y => ?_⟩
    obtain ⟨T, x', y', rfl, hT, rfl, y2, y3⟩ := y
    have := y2 vs hS
    rw [hv] at this
    cases this
    have := y3 us hU
    rw [hu] at this
    cases this
    have ex : Evl.Ex B (upd B T (.tup [v, u])) := Evl.Ex.new (rb.free hT)
    exact ((rb.newB hT).put (d := .tup [p.1, p.2]) ⟨T, _, rfl, .inl (.inl upd_same), _, _, rfl, hi.mono ex, _, _, rfl, hj.mono ex, rfl⟩).rp
end
section
variable {X : Cx} {W : WF} {tg e : Expr} {fa : SD → R OT} {fs : SD → R (List OT)}
theorem id_list (h : ED X W e fa) : ID X W tg e (iLs fa) := by
  obtain ⟨t, p, s⟩ := h
  refine ⟨_, pi_list p, fun E σ sd P H Q rp q => ?_⟩
  unfold iLs at q
  refine SimE.on s rp (fun x s1 e1 v H1 r1 => ?_) (fun a s e1 cls dd H' rx => by rw [e1] at q; exact q cls dd H' rx) (fun z => by rw [z] at q; exact q)
  rw [e1] at q
  obtain ⟨B, Fp, Fs, rb, h1⟩ := r1.cold
  have q2 : (match (match x.frz with
      | .lst ds => (.ok ds s1 : R (List D))
      | _ => .no) with
    | .ok ds s => ∀ J Pj H', Rp X.K E σ s (Pj ++ P) H' → ItOk X.K J Pj ds → Q J H'
    | .ex e s => ∀ cls dd H', Rx X.K E σ s P e cls dd H' → W cls dd σ H'
    | .no => False) := q
  cases ex : x.frz with
  | lst ds =>
    rw [ex] at q2 h1
    obtain ⟨a, vs, e1, e2, e3⟩ := id h1
    subst e1
    exact ⟨a, rfl, ⟨vs, .inl (.inl (rb.sub _ _ e2))⟩, q2 _ _ H1 (rb.put h1).rp itok_list⟩
  | _ => rw [ex] at q2; exact False.elim q2
theorem id_tup (h : ED X W e fa) : ID X W tg e (iTu fa) := by
  obtain ⟨t, p, s⟩ := h
  refine ⟨_, pi_tup p, fun E σ sd P H Q rp q => ?_⟩
  unfold iTu at q
  refine SimE.on s rp (fun x s1 e1 v H1 r1 => ?_) (fun a s e1 cls dd H' rx => by rw [e1] at q; exact q cls dd H' rx) (fun z => by rw [z] at q; exact q)
  rw [e1] at q
  obtain ⟨B, Fp, Fs, rb, h1⟩ := r1.cold
  have q2 : (match (match x.frz with
      | .tup ds => (.ok ds s1 : R (List D))
      | _ => .no) with
    | .ok ds s => ∀ J Pj H', Rp X.K E σ s (Pj ++ P) H' → ItOk X.K J Pj ds → Q J H'
    | .ex e s => ∀ cls dd H', Rx X.K E σ s P e cls dd H' → W cls dd σ H'
    | .no => False) := q
  cases ex : x.frz with
  | tup ds =>
    rw [ex] at q2 h1
    obtain ⟨a, vs, e1, e2, e3⟩ := id h1
    subst e1
    exact ⟨a, rfl, ⟨vs, Evl.ex_t rb.sub e2⟩, q2 _ _ H1 (rb.put h1).rp itok_tup⟩
  | _ => rw [ex] at q2; exact False.elim q2
/-- arguments that give one thing, two things -/
theorem isA_one {K : PySem.W.Frag} {B : Hp} {d : D} {vs : List V} (h : IsA K B [d] vs) : ∃ v, vs = [v] ∧ Is K B d v := by
  obtain ⟨v, r, h1, h2, h3⟩ := h
  rw [show r = [] from h3] at h1
  exact ⟨v, h1, h2⟩
theorem isA_two {K : PySem.W.Frag} {B : Hp} {d e : D} {vs : List V} (h : IsA K B [d, e] vs) : ∃ v u, vs = [v, u] ∧ Is K B d v ∧ Is K B e u := by
  obtain ⟨v, r, h1, h2, h3⟩ := h
  obtain ⟨u, h4, h5⟩ := isA_one h3
  rw [h4] at h1
  exact ⟨v, u, h1, h2, h5⟩
section
variable {a b : Expr} {p pos : Pos}
theorem id_range1 (hg : Gl X "range") (hm : X.mg "range" = none) (ha : AD X W [a] fs) (hs : starEach [a] X.env = [(false, eval a X.env)] := by rfl) : ID X W tg (.Call (.Name "range" p) [a] [] pos) (iRg1 fs) := by
  obtain ⟨t, pa, s⟩ := ha
  refine ⟨_, pi_range1 hg hm pa hs, fun E σ sd P H Q rp q => ?_⟩
  unfold iRg1 at q
  refine SimA.on s rp (fun xs s1 e1 vs H1 hl r1 => ?_) (fun a s e1 cls dd H' rx => by rw [e1] at q; exact q cls dd H' rx) (fun z => by rw [z] at q; exact q)
  rw [e1] at q
  obtain ⟨B, Fp, Fs, rb, h1⟩ := r1.colds hl
  have q2 : (match (match xs.map OT.frz with
      | [.int j] => if -(2 ^ 62) ≤ j ∧ j < 2 ^ 62 then (.ok ((List.range j.toNat).map fun k => .int (k : Nat)) s1 : R (List D)) else .no
      | _ => .no) with
    | .ok ds s => ∀ J Pj H', Rp X.K E σ s (Pj ++ P) H' → ItOk X.K J Pj ds → Q J H'
    | .ex e s => ∀ cls dd H', Rx X.K E σ s P e cls dd H' → W cls dd σ H'
    | .no => False) := q
  split at q2
  · rename_i ds s ed
    split at ed
    · rename_i j ej
      split at ed
      · rename_i hj
        cases ed
        rw [ej] at h1
        obtain ⟨v, rfl, hv⟩ := isA_one h1
        refine ⟨j, by rw [show v = .int j from hv], hj.1, hj.2, q2 _ [] H1 rb.rp ?_⟩
        have := itok_range (K := X.K) (lo := 0) (n := j.toNat)
        simpa using this
      · cases ed
    · cases ed
  · rename_i e s ed
    split at ed
    · split at ed <;> cases ed
    · cases ed
  · exact False.elim q2
theorem id_range2 (hg : Gl X "range") (hm : X.mg "range" = none) (ha : AD X W [a, b] fs) (hs : starEach [a, b] X.env = [(false, eval a X.env), (false, eval b X.env)] := by rfl) (hs2 : starEach [b] X.env = [(false, eval b X.env)] := by rfl) : ID X W tg (.Call (.Name "range" p) [a, b] [] pos) (iRg2 fs) := by
  obtain ⟨t, pa, s⟩ := ha
  refine ⟨_, pi_range2 hg hm pa hs hs2, fun E σ sd P H Q rp q => ?_⟩
  unfold iRg2 at q
  refine SimA.on s rp (fun xs s1 e1 vs H1 hl r1 => ?_) (fun a s e1 cls dd H' rx => by rw [e1] at q; exact q cls dd H' rx) (fun z => by rw [z] at q; exact q)
  rw [e1] at q
  obtain ⟨B, Fp, Fs, rb, h1⟩ := r1.colds hl
  have q2 : (match (match xs.map OT.frz with
      | [.int i, .int j] => if -(2 ^ 62) ≤ i ∧ i < 2 ^ 62 ∧ -(2 ^ 62) ≤ j ∧ j < 2 ^ 62 then (.ok ((List.range (j - i).toNat).map fun k => .int (i + (k : Nat))) s1 : R (List D)) else .no
      | _ => .no) with
    | .ok ds s => ∀ J Pj H', Rp X.K E σ s (Pj ++ P) H' → ItOk X.K J Pj ds → Q J H'
    | .ex e s => ∀ cls dd H', Rx X.K E σ s P e cls dd H' → W cls dd σ H'
    | .no => False) := q
  split at q2
  · rename_i ds s ed
    split at ed
    · rename_i i j ej
      split at ed
      · rename_i hj
        cases ed
        rw [ej] at h1
        obtain ⟨v, u, rfl, hv, hu⟩ := isA_two h1
        exact ⟨i, j, by rw [show v = .int i from hv, show u = .int j from hu], hj, q2 _ [] H1 rb.rp itok_range⟩
      · cases ed
    · cases ed
  · rename_i e s ed
    split at ed
    · split at ed <;> cases ed
    · cases ed
  · exact False.elim q2
theorem id_enum {elts : List Expr} {kk : Nat} {tpos : Pos} (hg : Gl X "enumerate") (hm : X.mg "enumerate" = none) (ha : AD X W [a] fs) (hs : starEach [a] X.env = [(false, eval a X.env)] := by rfl) : ID X W (.Tuple elts kk tpos) (.Call (.Name "enumerate" p) [a] [] pos) (iEn fs) := by
  obtain ⟨t, pa, s⟩ := ha
  refine ⟨_, pi_enum hg hm pa hs, fun E σ sd P H Q rp q => ?_⟩
  unfold iEn at q
  refine SimA.on s rp (fun xs s1 e1 vs H1 hl r1 => ?_) (fun a s e1 cls dd H' rx => by rw [e1] at q; exact q cls dd H' rx) (fun z => by rw [z] at q; exact q)
  rw [e1] at q
  obtain ⟨B, Fp, Fs, rb, h1⟩ := r1.colds hl
  have q2 : (match (match xs.map OT.frz with
      | [.lst ds] => (.ok (enumD ds) s1 : R (List D))
      | _ => .no) with
    | .ok ds s => ∀ J Pj H', Rp X.K E σ s (Pj ++ P) H' → ItOk X.K J Pj ds → Q J H'
    | .ex e s => ∀ cls dd H', Rx X.K E σ s P e cls dd H' → W cls dd σ H'
    | .no => False) := q
  split at q2
  · rename_i ds s ed
    split at ed
    · rename_i ds0 e0
      cases ed
      rw [e0] at h1
      obtain ⟨v, rfl, hv⟩ := isA_one h1
      obtain ⟨a, us, rfl, e2, e3⟩ := id hv
      exact ⟨a, us, rfl, .inl (.inl (rb.sub _ _ e2)), q2 _ _ H1 (rb.put hv).rp itok_enum⟩
    · cases ed
  · rename_i e s ed
    split at ed <;> cases ed
  · exact False.elim q2
theorem id_zip {elts : List Expr} {kk : Nat} {tpos : Pos} (hg : Gl X "zip") (hm : X.mg "zip" = none) (ha : AD X W [a, b] fs) (hs : starEach [a, b] X.env = (false, eval a X.env) :: starEach [b] X.env := by rfl) (hpl : (backTo pos (starEach [b] X.env)).any (·.1) = false := by rfl) :
    ID X W (.Tuple elts kk tpos) (.Call (.Name "zip" p) [a, b] [] pos) (iZp fs) := by
  obtain ⟨t, pa, s⟩ := ha
  refine ⟨_, pi_zip hg hm pa hs hpl, fun E σ sd P H Q rp q => ?_⟩
  unfold iZp at q
  refine SimA.on s rp (fun xs s1 e1 vs H1 hl r1 => ?_) (fun a s e1 cls dd H' rx => by rw [e1] at q; exact q cls dd H' rx) (fun z => by rw [z] at q; exact q)
  rw [e1] at q
  obtain ⟨B, Fp, Fs, rb, h1⟩ := r1.colds hl
  have q2 : (match (match xs.map OT.frz with
      | [.lst ds, .lst es] => (.ok (zipD ds es) s1 : R (List D))
      | _ => .no) with
    | .ok ds s => ∀ J Pj H', Rp X.K E σ s (Pj ++ P) H' → ItOk X.K J Pj ds → Q J H'
    | .ex e s => ∀ cls dd H', Rx X.K E σ s P e cls dd H' → W cls dd σ H'
    | .no => False) := q
  split at q2
  · rename_i ds s ed
    split at ed
    · rename_i ds0 es0 e0
      cases ed
      rw [e0] at h1
      obtain ⟨v, u, rfl, hv, hu⟩ := isA_two h1
      obtain ⟨a, us, rfl, e2, e3⟩ := id hv
      obtain ⟨b, ws, rfl, f2, f3⟩ := id hu
      exact ⟨a, b, us, ws, rfl, .inl (.inl (rb.sub _ _ e2)), .inl (.inl (rb.sub _ _ f2)), q2 _ _ H1 ((rb.put hu).put hv).rp itok_zip⟩
    · cases ed
  · rename_i e s ed
    split at ed <;> cases ed
  · exact False.elim q2
end
end
end DL

/-! DH: comprehensions -/
namespace DL
open PySem L2

def wipeD (sd : SD) : List Nat → SD
  | [] => sd
  | v :: vs => (wipeD sd vs).set v none
def lcL (g : OT → SD → RS) (ft : SD → R Bool) (fe : SD → R OT) (vs : List Nat) : List D → SD → R (List D)
  | [], s => .ok [] s
  | d :: ds, s => match g (.fz d) s with
    | .nx s1 => match ft s1 with
      | .ok b s2 => if b = true then (match fe s2 with
          | .ok y s3 => (lcL g ft fe vs ds (wipeD s3 vs)).bind fun ys s4 => .ok (y.frz :: ys) s4
          | _ => .no) else lcL g ft fe vs ds (wipeD s2 vs)
      | _ => .no
    | _ => .no
def fLc (fi : SD → R (List D)) (g : OT → SD → RS) (ft : SD → R Bool) (fe : SD → R OT) (vs : List Nat) : SD → R OT := fun sd => (fi sd).bind fun ds s1 =>
  if ds.length ≤ sizeLine then (lcL g ft fe vs ds (wipeD s1 vs)).bind fun ys s2 => .ok (.own (ys.map .fz)) s2 else .no
def fYes : SD → R Bool := fun sd => .ok true sd

/-- the weakest reading of a function -/
def cE (K : PySem.W.Frag) (W : WF) (f : SD → R OT) : TE := fun σ H Q => ∃ (E : Ent W.fx) (sd : SD) (P : PV), Rp K E σ sd P H ∧ okE K W E σ P Q (f sd)
def cT (K : PySem.W.Frag) (W : WF) (f : SD → R Bool) : TT := fun σ H Q => ∃ (E : Ent W.fx) (sd : SD) (P : PV), Rp K E σ sd P H ∧ okB K W E σ P Q (f sd)
def cG (K : PySem.W.Frag) (fx : List Nat) (g : OT → SD → RS) : TG := fun v σ H Q => ∃ (E : Ent fx) (sd : SD) (P : PV) (x : OT), Rp K E σ sd ((v, x) :: P) H ∧ (match g x sd with
    | .nx s => ∀ σ' H', Rp K E σ' s P H' → Q σ' H'
    | _ => False)
theorem ED.canon {X : Cx} {W : WF} {e : Expr} {f : SD → R OT} (h : ED X W e f) : PE X e (cE X.K W f) := by
  obtain ⟨te, p, s⟩ := h
  exact ⟨fun pins st σ H Q I ⟨E, sd, P, rp, ok⟩ => p.run pins st σ H Q I (s E σ sd P H Q rp ok)⟩
structure TsD (X : Cx) (W : WF) (es : List Expr) (f : SD → R Bool) : Prop where
  ex : ∃ te, PTs X es te ∧ SimB X.K W te f
theorem tsd_nil {X : Cx} {W : WF} : TsD X W [] fYes := ⟨_, pts_nil, fun E σ sd P H Q rp q => q H rp⟩
theorem tsd_one {X : Cx} {W : WF} {e : Expr} {f : SD → R Bool} (h : TD X W e f) : TsD X W [e] f := let ⟨te, p, s⟩ := h.ex; ⟨_, pts_one p, s⟩
theorem TsD.canon {X : Cx} {W : WF} {es : List Expr} {f : SD → R Bool} (h : TsD X W es f) : PTs X es (cT X.K W f) := by
  obtain ⟨te, p, s⟩ := h
  exact ⟨fun pins st σ H Q I ⟨E, sd, P, rp, ok⟩ => p.run pins st σ H Q I (s E σ sd P H Q rp ok)⟩
theorem GD.canon {X : Cx} {W : WF} {e : Expr} {g : OT → SD → RS} (h : GD X W e g) : PG X e (cG X.K W.fx g) := by
  obtain ⟨te, p, s⟩ := h
  exact ⟨fun pins st σ H v u Q I r ⟨E, sd, P, x, rp, ok⟩ => p.run pins st σ H v u Q I r (s E σ sd P H v x Q rp ok)⟩

section
variable {K : PySem.W.Frag} {fx : List Nat} {E : Ent fx} {B H : Hp} {σ : St} {sd : SD} {P : PV} {Fp Fs : List Addr}
theorem Rp.wipe (h : Rp K E σ sd P H) : ∀ vs : List Nat, (∀ i ∈ vs, i ∉ fx) → Rp K E (L2.wipe σ vs) (wipeD sd vs) P H
  | [], _ => h
  | v :: vs, hv => (Rp.wipe h vs fun i hi => hv i (List.mem_cons_of_mem _ hi)).forget v (hv v List.mem_cons_self)
theorem wipeD_len (sd : SD) : ∀ vs : List Nat, (wipeD sd vs).length = sd.length
  | [] => rfl
  | v :: vs => by unfold wipeD; rw [List.length_set, wipeD_len sd vs]
theorem wipeD_none {sd : SD} : ∀ {vs : List Nat} {i : Nat} {t : OT}, i ∈ vs → (wipeD sd vs)[i]? ≠ some (some t)
  | [], _, _, h => by cases h
  | v :: vs, i, t, h => by
    unfold wipeD
    by_cases e : v = i
    · subst e
      by_cases hv : v < (wipeD sd vs).length
      · rw [List.getElem?_set_self hv]
        exact fun z => by cases z
      · rw [List.getElem?_eq_none (by simpa using hv)]
        exact fun z => by cases z
    · rw [List.getElem?_set_ne e]
      rcases List.mem_cons.mp h with z | z
      · exact absurd z.symm e
      · exact wipeD_none z
/-- a slot of which nothing is known may hold anything -/
theorem RepS.other : ∀ {sd : SD} {σ σ' : St} {F : List Addr}, RepS K B H sd σ F → σ'.length = σ.length → (∀ (i : Nat) (t : OT), sd[i]? = some (some t) → σ'[i]? = σ[i]?) → RepS K B H sd σ' F
  | [], _, σ', _, ⟨h1, h2⟩, hl, _ => by
    subst h1
    exact ⟨List.length_eq_zero_iff.mp hl, h2⟩
  | none :: sd, _, [], _, ⟨o, r, h1, h2⟩, hl, _ => by
    subst h1
    cases hl
  | none :: sd, _, o' :: r', _, ⟨o, r, h1, h2⟩, hl, k => by
    subst h1
    exact ⟨o', r', rfl, RepS.other h2 (Nat.succ.inj hl) fun i t e => k (i + 1) t e⟩
  | some t :: sd, _, [], _, ⟨v, r, _, _, h1, _⟩, hl, _ => by
    subst h1
    cases hl
  | some t :: sd, _, o' :: r', _, ⟨v, r, F1, F2, h1, h2, h3, h4⟩, hl, k => by
    subst h1
    have e := k 0 t rfl
    cases e
    exact ⟨v, r', F1, F2, rfl, h2, h3, RepS.other h4 (Nat.succ.inj hl) fun i t e => k (i + 1) t e⟩
theorem Rp.unwipe {vs : List Nat} (hv : ∀ i ∈ vs, i ∉ fx) (h : Rp K E (L2.wipe σ vs) (wipeD sd vs) P H) : Rp K E σ (wipeD sd vs) P H := by
  obtain ⟨B, Fp, Fs, r⟩ := h
  refine ⟨B, Fp, Fs, fun i hi => ?_, r.sub, r.pe, r.sl.other (by rw [wipe_length]) fun i t e => ?_, r.nd, r.go⟩
  · rw [← r.fix i hi]
    exact (wipe_out fun z => hv i z hi).symm
  have hn : i ∉ vs := fun z => wipeD_none z e
  exact (wipe_out hn).symm
/-- the list that the second pending value owns takes the first one -/
theorem Rp.push {v : V} {t : OT} {a : Addr} {ts : List OT} (h : Rp K E σ sd ((v, t) :: (.ref a, .own ts) :: P) H) :
    ∃ vs, H a = some (.lst vs) ∧ vs.length = ts.length ∧ Rp K E σ sd ((.ref a, .own (ts ++ [t])) :: P) (upd H a (.lst (vs ++ [v]))) := by
  obtain ⟨B, Fp, Fs, r⟩ := h
  obtain ⟨F1, F2, e, h1, h2⟩ := RepL.cons_iff.mp (show RepL K B H _ Fp from r.pe)
  obtain ⟨F3, F4, e', ⟨a', vs, G, ea, eF, g3, g4, g5⟩, h4⟩ := RepL.cons_iff.mp h2
  cases ea
  subst eF e' e
  refine ⟨vs, g3, g5.length, ?_⟩
  have nd : ((F1 ++ (a :: G ++ F4)) ++ Fs).Nodup := r.nd
  have pm : ((F1 ++ (a :: G ++ F4)) ++ Fs).Perm (a :: ((G ++ F1) ++ (F4 ++ Fs))) := by
    rw [List.perm_iff_count]
    intro b
    simp only [List.count_append, List.count_cons, List.cons_append]
    omega
  have nd2 := pm.nodup_iff.mp nd
  have na : a ∉ (G ++ F1) ++ (F4 ++ Fs) := (List.nodup_cons.mp nd2).1
  have up : ∀ b, b ≠ a → upd H a (.lst (vs ++ [v])) b = H b := fun b hb => upd_ne hb
  have keepL : ∀ {L : PV} {F : List Addr}, RepL K B H L F → a ∉ F → RepL K B (upd H a (.lst (vs ++ [v]))) L F := fun {L F} hL ha => RepA.mono (Evl.Ex.refl _) (fun b hb => ⟨up b fun z => ha (z ▸ hb), (RepA.there hL b hb).1⟩) hL
  have aG : a ∉ G := fun z => na (List.mem_append_left _ (List.mem_append_left _ z))
  have aF1 : a ∉ F1 := fun z => na (List.mem_append_left _ (List.mem_append_right _ z))
  have aF4 : a ∉ F4 := fun z => na (List.mem_append_right _ (List.mem_append_left _ z))
  have aFs : a ∉ Fs := fun z => na (List.mem_append_right _ (List.mem_append_right _ z))
  have g5' := keepL g5.zip aG
  have h1' : RepL K B (upd H a (.lst (vs ++ [v]))) [(v, t)] F1 := RepL.cons_iff.mpr ⟨F1, [], by simp, h1.mono (Evl.Ex.refl _) (fun b hb => ⟨up b fun z => aF1 (z ▸ hb), (h1.there b hb).1⟩), RepL.nil_iff.mpr rfl⟩
  have both : RepL K B (upd H a (.lst (vs ++ [v]))) ((vs ++ [v]).zip (ts ++ [t])) (G ++ F1) := by
    rw [List.zip_append (by exact g5.length)]
    exact RepL.append_iff.mpr ⟨G, F1, rfl, g5', h1'⟩
  refine ⟨B, a :: (G ++ F1) ++ F4, Fs, r.fix, fun b o e => ?_, RepL.cons_iff.mpr ⟨a :: (G ++ F1), F4, rfl, ⟨a, vs ++ [v], G ++ F1, rfl, rfl, upd_same, g4, both.unzip (by rw [List.length_append, List.length_append, g5.length] <;> rfl)⟩, keepL h4 aF4⟩,
    r.sl.mono (Evl.Ex.refl _) (fun b hb => ⟨up b fun z => aFs (z ▸ hb), (r.sl.there b hb).1⟩), ?_, r.go.ex, fun b o e n => ?_, fun b o e => ?_, r.go.neu, fun b hb => r.go.own b (pm.symm.subset ?_)⟩
  · have hb : b ≠ a := fun z => by rw [z, g4] at e; cases e
    rw [up b hb]
    exact r.sub b o e
  · rw [List.cons_append, List.cons_append, List.append_assoc]
    exact nd2
  · by_cases hb : b = a
    · subst hb
      rcases r.go.own b (pm.symm.subset List.mem_cons_self) with z | z
      · rw [z] at e; cases e
      · exact absurd z n
    · rw [up b hb]
      exact r.go.keep b o e n
  · by_cases hb : b = a
    · subst hb
      exact ⟨_, upd_same⟩
    · rw [up b hb]
      exact r.go.ever b o e
  · rw [List.cons_append, List.cons_append, List.append_assoc] at hb
    exact hb
end
/-- no wish at all -/
abbrev W0 (fx : List Nat) : WF := ⟨fun _ _ _ _ => False, fx⟩
theorem mid {v : V} {t : OT} {Pj P : PV} : ((v, t) :: Pj ++ P).Perm (Pj ++ (v, t) :: P) := by
  rw [List.cons_append]
  exact List.perm_middle.symm
theorem wipe_get {σ : St} : ∀ (vs : List Nat) (i : Nat), (L2.wipe σ vs)[i]? = if i ∈ vs ∧ i < σ.length then some none else σ[i]?
  | [], i => by simp [L2.wipe]
  | v :: vs, i => by
    have ih := wipe_get (σ := σ) vs i
    unfold L2.wipe
    by_cases e : v = i
    · subst e
      by_cases hv : v < σ.length
      · rw [List.getElem?_set_self (by rw [wipe_length]; exact hv), if_pos ⟨List.mem_cons_self, hv⟩]
      · rw [List.getElem?_eq_none (by rw [List.length_set, wipe_length]; omega), if_neg fun z => hv z.2, List.getElem?_eq_none (by omega)]
    · rw [List.getElem?_set_ne e, ih]
      have m : (i ∈ v :: vs) ↔ i ∈ vs := ⟨fun z => (List.mem_cons.mp z).resolve_left fun q => e q.symm, List.mem_cons_of_mem _⟩
      simp only [m]
theorem wipe_ext {σ τ : St} {vs : List Nat} (hl : τ.length = σ.length) (h : ∀ (i : Nat), i ∉ vs → τ[i]? = σ[i]?) : L2.wipe τ vs = L2.wipe σ vs := by
  apply List.ext_getElem?
  intro i
  rw [wipe_get, wipe_get, hl]
  by_cases hi : i ∈ vs
  · by_cases hz : i < σ.length
    · rw [if_pos ⟨hi, hz⟩, if_pos ⟨hi, hz⟩]
    · rw [if_neg fun z => hz z.2, if_neg fun z => hz z.2, List.getElem?_eq_none (by omega), List.getElem?_eq_none (by omega)]
  · rw [if_neg fun z => hi z.1, if_neg fun z => hi z.1]
    exact h i hi
/-- a target that touches the slots vs alone -/
def SimG (K : PySem.W.Frag) (fx : List Nat) (t : TG) (g : OT → SD → RS) (vs : List Nat) : Prop := ∀ (E : Ent fx) σ sd P H v x (Q : St → Hp → Prop), Rp K E σ sd ((v, x) :: P) H → (match g x sd with
  | .nx s => ∀ σ' H', Rp K E σ' s P H' → σ'.length = σ.length → (∀ (i : Nat), i ∉ vs → σ'[i]? = σ[i]?) → Q σ' H'
  | _ => False) → t v σ H Q
theorem set_out {σ : St} {j : Nat} {o : Option V} {vs : List Nat} (hj : j ∈ vs) (i : Nat) (hi : i ∉ vs) : (σ.set j o)[i]? = σ[i]? := List.getElem?_set_ne (fun (z : j = i) => hi (by rw [← z]; exact hj))
theorem simg_name {K : PySem.W.Frag} {fx : List Nat} {j : Nat} {vs : List Nat} (hj : j ∈ vs) (hv : ∀ i ∈ vs, i ∉ fx) : SimG K fx (gName j) (gNmF j) vs := fun E σ sd P H v x Q rp q => q _ H (rp.coldTop.store j (hv j hj)) (by rw [List.length_set]) (set_out hj)
def tgs : List Nat → TGs
  | [] => gNil
  | j :: js => gCons (gName j) (tgs js)
theorem simg_names {K : PySem.W.Frag} {fx : List Nat} {vs : List Nat} (hv : ∀ i ∈ vs, i ∉ fx) : ∀ {js : List Nat}, (∀ j ∈ js, j ∈ vs) → ∀ (E : Ent fx) σ sd P H us ds (Q : St → Hp → Prop), us.length = ds.length → Rp K E σ sd (us.zip (ds.map .fz) ++ P) H → (match gAll (js.map gNmF) ds sd with
    | .nx s => ∀ σ' H', Rp K E σ' s P H' → σ'.length = σ.length → (∀ (i : Nat), i ∉ vs → σ'[i]? = σ[i]?) → Q σ' H'
    | _ => False) → tgs js us σ H Q
  | [], _, E, σ, sd, P, H, us, ds, Q, hl, rp, q => by
    cases ds with
    | nil =>
      cases us with
      | nil => exact ⟨rfl, q σ H rp rfl fun _ _ => rfl⟩
      | cons _ _ => cases hl
    | cons _ _ => exact False.elim q
  | j :: js, hj, E, σ, sd, P, H, us, ds, Q, hl, rp, q => by
    cases ds with
    | nil => exact False.elim q
    | cons d ds =>
      cases us with
      | nil => cases hl
      | cons u us =>
        refine ⟨u, us, rfl, ?_⟩
        have r1 : Rp K E (σ.set j (some u)) (sd.set j (some (.fz d))) (us.zip (ds.map .fz) ++ P) H := Rp.store j (hv j (hj j List.mem_cons_self)) (show Rp K E σ sd ((u, .fz d) :: (us.zip (ds.map .fz) ++ P)) H from rp)
        refine simg_names hv (fun i hi => hj i (List.mem_cons_of_mem _ hi)) E _ _ P H us ds Q (Nat.succ.inj hl) r1 ?_
        have q' : (match gAll (js.map gNmF) ds (sd.set j (some (.fz d))) with
          | .nx s => ∀ σ' H', Rp K E σ' s P H' → σ'.length = σ.length → (∀ (i : Nat), i ∉ vs → σ'[i]? = σ[i]?) → Q σ' H'
          | _ => False) := q
        split at q'
        · rename_i s es
          intro σ' H' r' l' k'
          refine q' σ' H' r' (by rw [l', List.length_set]) fun i hi => ?_
          rw [k' i hi]
          exact set_out (hj j List.mem_cons_self) i hi
        · exact False.elim q'
theorem simg_tup {K : PySem.W.Frag} {fx : List Nat} {vs js : List Nat} (hj : ∀ j ∈ js, j ∈ vs) (hv : ∀ i ∈ vs, i ∉ fx) : SimG K fx (gTup K js.length (tgs js)) (gTu (js.map gNmF)) vs := by
  intro E σ sd P H v x Q rp q
  obtain ⟨B, Fp, Fs, rb, h1⟩ := rp.cold
  unfold gTu at q
  split at q
  · rename_i s es
    split at es
    · rename_i ds ed
      split at es
      · rename_i hl
        rw [ed] at h1
        obtain ⟨a, us, e1, e2, e3⟩ := h1
        refine ⟨a, us, e1, Evl.ex_t rb.sub e2, by rw [isA_len e3, hl, List.length_map], simg_names hv hj E σ sd P H us ds Q (isA_len e3) (rb.puts e3).rp ?_⟩
        rw [es]
        exact q
      · cases es
    · cases es
  · exact False.elim q
/-- the reading of a comprehension -/
theorem sim_lc {K : PySem.W.Frag} {W : WF} {wi : TI} {tg : TG} {fi : SD → R (List D)} {g : OT → SD → RS} {ft : SD → R Bool} {fe : SD → R OT} {vs : List Nat}
    (hw : ∀ (E : Ent W.fx) σ sd P H (Q : It → Hp → Prop), Rp K E σ sd P H → (match fi sd with
      | .ok ds s => ∀ J Pj H', Rp K E σ s (Pj ++ P) H' → ItOk K J Pj ds → Q J H'
      | .ex e s => ∀ cls dd H', Rx K E σ s P e cls dd H' → W cls dd σ H'
      | .no => False) → wi σ H Q) (hg : SimG K W.fx tg g vs) (hv : ∀ i ∈ vs, i ∉ W.fx) : SimE K W (tLc wi tg (cT K (W0 W.fx) ft) (cE K (W0 W.fx) fe) vs) (fLc fi g ft fe vs) := by
  intro E σ sd P H Q rp q
  unfold fLc at q
  refine hw E σ sd P H _ rp ?_
  cases ei : fi sd with
  | no => rw [ei] at q; exact q
  | ex e s => rw [ei] at q; exact q
  | ok ds s1 =>
    rw [ei] at q
    have q1 : okE K W E σ P Q (if ds.length ≤ sizeLine then (lcL g ft fe vs ds (wipeD s1 vs)).bind fun ys s2 => .ok (.own (ys.map .fz)) s2 else .no) := q
    by_cases hz : ds.length ≤ sizeLine
    · rw [if_pos hz] at q1
      intro J Pj H1 r1 hJ L0 hD
      -- the word
      refine ⟨fun i m H => m = ds.length - i ∧ i ≤ ds.length ∧ ∃ sd acc, Rp K E (L2.wipe σ vs) (wipeD sd vs) (Pj ++ (.ref L0, .own acc) :: P) H ∧ acc.length ≤ i ∧
        (∀ x ∈ acc, ∃ d, x = OT.fz d) ∧ (match lcL g ft fe vs (ds.drop i) (wipeD sd vs) with
          | .ok ys s2 => ∀ v H', Rp K E σ s2 ((v, .own (acc ++ ys.map .fz)) :: P) H' → Q v H'
          | _ => False), ⟨ds.length, by simp, Nat.zero_le _, s1, [], ?_, Nat.le_refl _, fun x hx => absurd hx List.not_mem_nil, ?_⟩, ?_⟩
      · obtain ⟨B, Fp, Fs, rb⟩ := r1
        have := (rb.newO (vs := []) (ds := []) hD rfl)
        exact (this.wipe vs hv).perm mid
      · rw [List.drop_zero]
        cases el : lcL g ft fe vs ds (wipeD s1 vs) with
        | ok ys s2 => rw [el] at q1; exact q1
        | ex e s => rw [el] at q1; exact (lc_noex el).elim
        | no => rw [el] at q1; exact q1
      · rintro i m H2 ⟨rfl, hle, sd2, acc, r2, hac, hfz, q2⟩
        obtain ⟨j1, j2⟩ := hJ W.fx E (L2.wipe σ vs) (wipeD sd2 vs) ((.ref L0, .own acc) :: P) H2 i r2
        by_cases hlt : i < ds.length
        · obtain ⟨j3, j4⟩ := j1 ds[i] (by simp [hlt])
          rw [List.drop_eq_getElem_cons hlt] at q2
          refine .inr ⟨j3, fun H' => ∃ sd acc, Rp K E (L2.wipe σ vs) (wipeD sd vs) (Pj ++ (.ref L0, .own acc) :: P) H' ∧ acc.length ≤ i + 1 ∧ (∀ x ∈ acc, ∃ d, x = OT.fz d) ∧ (match lcL g ft fe vs (ds.drop (i + 1)) (wipeD sd vs) with
            | .ok ys s2 => ∀ v H', Rp K E σ s2 ((v, .own (acc ++ ys.map .fz)) :: P) H' → Q v H'
            | _ => False), fun H' ⟨sd', acc', r', a1, a2, q'⟩ => ⟨ds.length - (i + 1), by omega, rfl, hlt, sd', acc', r', a1, a2, q'⟩, fun x H' y => ?_⟩
          have r3 := j4 x H' y
          have q3 : (match (match g (.fz ds[i]) (wipeD sd2 vs) with
              | .nx s1 => (match ft s1 with
                | .ok b s2 => if b = true then (match fe s2 with
                    | .ok y s3 => (lcL g ft fe vs (ds.drop (i + 1)) (wipeD s3 vs)).bind fun ys s4 => .ok (y.frz :: ys) s4
                    | _ => .no) else lcL g ft fe vs (ds.drop (i + 1)) (wipeD s2 vs)
                | _ => .no)
              | _ => .no : R (List D)) with
            | .ok ys s2 => ∀ v H', Rp K E σ s2 ((v, .own (acc ++ ys.map .fz)) :: P) H' → Q v H'
            | _ => False) := q2
          refine hg E _ _ _ H' x (.fz ds[i]) _ r3 ?_
          cases eg : g (.fz ds[i]) (wipeD sd2 vs) with
          | nx s3 =>
            rw [eg] at q3
            intro σ4 H4 r4 l4 k4
            have w4 : L2.wipe σ4 vs = L2.wipe σ vs := wipe_ext (by rw [l4, wipe_length]) fun i hi => by
              rw [k4 i hi, wipe_get, if_neg fun z => hi z.1]
            refine ⟨w4, E, s3, _, r4, ?_⟩
            have q4 : (match (match ft s3 with
                | .ok b s2 => if b = true then (match fe s2 with
                    | .ok y s3 => (lcL g ft fe vs (ds.drop (i + 1)) (wipeD s3 vs)).bind fun ys s4 => .ok (y.frz :: ys) s4
                    | _ => .no) else lcL g ft fe vs (ds.drop (i + 1)) (wipeD s2 vs)
                | _ => .no : R (List D)) with
              | .ok ys s2 => ∀ v H', Rp K E σ s2 ((v, .own (acc ++ ys.map .fz)) :: P) H' → Q v H'
              | _ => False) := q3
            cases et : ft s3 with
            | no => rw [et] at q4; exact False.elim q4
            | ex e s => rw [et] at q4; exact False.elim q4
            | ok b s4 =>
              rw [et] at q4
              intro H5 r5
              have q5 : (match (if b = true then (match fe s4 with
                    | .ok y s3 => (lcL g ft fe vs (ds.drop (i + 1)) (wipeD s3 vs)).bind fun ys s4 => .ok (y.frz :: ys) s4
                    | _ => .no) else lcL g ft fe vs (ds.drop (i + 1)) (wipeD s4 vs) : R (List D)) with
                | .ok ys s2 => ∀ v H', Rp K E σ s2 ((v, .own (acc ++ ys.map .fz)) :: P) H' → Q v H'
                | _ => False) := q4
              cases b with
              | false =>
                show ∃ sd acc, _
                refine ⟨s4, acc, ?_, Nat.le_succ_of_le hac, hfz, q5⟩
                rw [← w4]
                exact r5.wipe vs hv
              | true =>
                show cE K (W0 W.fx) fe σ4 H5 _
                refine ⟨E, s4, _, r5, ?_⟩
                have q6 : (match (match fe s4 with
                    | .ok y s3 => (lcL g ft fe vs (ds.drop (i + 1)) (wipeD s3 vs)).bind fun ys s4 => .ok (y.frz :: ys) s4
                    | _ => .no : R (List D)) with
                  | .ok ys s2 => ∀ v H', Rp K E σ s2 ((v, .own (acc ++ ys.map .fz)) :: P) H' → Q v H'
                  | _ => False) := q5
                cases ef : fe s4 with
                | no => rw [ef] at q6; exact False.elim q6
                | ex e s => rw [ef] at q6; exact False.elim q6
                | ok y s5 =>
                  rw [ef] at q6
                  intro v H6 r6
                  have r7 : Rp K E σ4 s5 ((v, .fz y.frz) :: (.ref L0, .own acc) :: (Pj ++ P)) H6 := by
                    refine Rp.perm (List.Perm.cons _ List.perm_middle) ?_
                    exact r6.coldTop
                  obtain ⟨us, e1, e2, r8⟩ := r7.push
                  refine ⟨us, e1, by rw [e2]; exact Nat.lt_of_le_of_lt hac (Nat.lt_of_lt_of_le hlt hz), ?_⟩
                  refine ⟨s5, acc ++ [.fz y.frz], ?_, by rw [List.length_append]; exact Nat.succ_le_succ hac, fun x hx => ?_, ?_⟩
                  · rw [← w4]
                    exact (r8.wipe vs hv).perm mid
                  · rcases List.mem_append.mp hx with hx | hx
                    · exact hfz x hx
                    · exact ⟨_, List.mem_singleton.mp hx⟩
                  · have q7 : (match (lcL g ft fe vs (ds.drop (i + 1)) (wipeD s5 vs)).bind fun ys s4 => .ok (y.frz :: ys) s4 with
                      | .ok ys s2 => ∀ v H', Rp K E σ s2 ((v, .own (acc ++ ys.map .fz)) :: P) H' → Q v H'
                      | _ => False) := q6
                    cases el : lcL g ft fe vs (ds.drop (i + 1)) (wipeD s5 vs) with
                    | no => rw [el] at q7; exact False.elim q7
                    | ex e s => rw [el] at q7; exact False.elim q7
                    | ok ys s6 =>
                      rw [el] at q7
                      have q8 : ∀ v H', Rp K E σ s6 ((v, .own (acc ++ (y.frz :: ys).map .fz)) :: P) H' → Q v H' := q7
                      intro v' H' r'
                      refine q8 v' H' ?_
                      rw [List.map_cons, List.append_cons]
                      exact r'
          | _ => rw [eg] at q3; exact False.elim q3
        · have e : i = ds.length := by omega
          subst e
          rw [List.drop_length] at q2
          have q3 : ∀ v H', Rp K E σ (wipeD sd2 vs) ((v, .own (acc ++ [])) :: P) H' → Q v H' := q2
          refine .inl ⟨j2 (Nat.le_refl _), q3 _ _ ?_⟩
          rw [List.append_nil]
          exact (r2.unwipe hv).drops Pj
    · rw [if_neg hz] at q1
      exact False.elim q1
where
  lc_noex {g : OT → SD → RS} {ft : SD → R Bool} {fe : SD → R OT} {vs : List Nat} : ∀ {ds : List D} {s : SD} {e : Exn} {s' : SD}, lcL g ft fe vs ds s ≠ .ex e s'
    | [], _, _, _ => fun z => by cases z
    | d :: ds, s, e, s' => fun z => by
      unfold lcL at z
      split at z
      · split at z
        · split at z
          · split at z
            · rename_i y s3 _
              cases el : lcL g ft fe vs ds (wipeD s3 vs) with
              | ok a b => rw [el] at z; cases z
              | ex a b => exact lc_noex el
              | no => rw [el] at z; cases z
            · cases z
          · exact lc_noex z
        · cases z
      · cases z
section
variable {X : Cx} {W : WF}
theorem ed_lc {elt tg iter : Expr} {ifs : List Expr} {scope : Scope} {own : List (Str × Nat)} {pos : Pos} {t : TG} {fi : SD → R (List D)} {g : OT → SD → RS} {ft : SD → R Bool} {fe : SD → R OT} (hc : X.calm = true) (hN : X.N.Nodup) (hi : ID X W tg iter fi) (ok : BlkOk X.N X.env.scope scope own)
    (hg : ∀ (s : Shared) (H : Hp) (C : Addr) (cl : List (Str × Addr)) (fp : List Addr), PG (X.blk s H scope (compEnvC scope cl C X.env) fp) tg t) (sg : SimG X.K W.fx t g (own.map (·.2)))
    (ht : ∀ (s : Shared) (H : Hp) (C : Addr) (cl : List (Str × Addr)) (fp : List Addr), TsD (X.blk s H scope (compEnvC scope cl C X.env) fp) (W0 W.fx) ifs ft)
    (he : ∀ (s : Shared) (H : Hp) (C : Addr) (cl : List (Str × Addr)) (fp : List Addr), ED (X.blk s H scope (compEnvC scope cl C X.env) fp) (W0 W.fx) elt fe) (hs : ∀ x, foldedSetIterable iter X.env x = pure x := by intro _; rfl) (hv : ∀ i ∈ own.map (·.2), i ∉ W.fx := by first | decide | (dsimp only; decide)) :
    ED X W (.ListComp elt [⟨tg, iter, ifs, 0⟩] scope pos) (fLc fi g ft fe (own.map (·.2))) := by
  obtain ⟨w, pw, sw⟩ := hi
  exact ⟨_, pe_lc (te := cE X.K (W0 W.fx) fe) (tt := cT X.K (W0 W.fx) ft) hc hN pw ok hg (fun s H C cl fp => (ht s H C cl fp).canon) (fun s H C cl fp => (he s H C cl fp).canon) hs, sim_lc sw sg hv⟩
theorem sd_setLc {i : Nat} {y : Str} {py : Pos} {elt tg iter : Expr} {ifs : List Expr} {scope : Scope} {own : List (Str × Nat)} {pos spos : Pos} {t : TG} {fi : SD → R (List D)} {g : OT → SD → RS} {ft : SD → R Bool} {fe : SD → R OT} (hc : X.calm = true) (hN : X.N.Nodup) (hy : X.N[i]? = some y) (hyl : X.env.scope.names.lookup y = some .local)
    (hsw : swapsWith (.ListComp elt [⟨tg, iter, ifs, 0⟩] scope pos) (some (.Name y py)) spos.line X.env = pure true) (hi : ID X W tg iter fi) (ok : BlkOk X.N X.env.scope scope own)
    (hg : ∀ (s : Shared) (H : Hp) (C : Addr) (cl : List (Str × Addr)) (fp : List Addr), PG (X.blk s H scope (compEnvC scope cl C X.env) fp) tg t) (sg : SimG X.K W.fx t g (own.map (·.2)))
    (ht : ∀ (s : Shared) (H : Hp) (C : Addr) (cl : List (Str × Addr)) (fp : List Addr), TsD (X.blk s H scope (compEnvC scope cl C X.env) fp) (W0 W.fx) ifs ft)
    (he : ∀ (s : Shared) (H : Hp) (C : Addr) (cl : List (Str × Addr)) (fp : List Addr), ED (X.blk s H scope (compEnvC scope cl C X.env) fp) (W0 W.fx) elt fe) (hs : ∀ x, foldedSetIterable iter X.env x = pure x := by intro _; rfl) (k : Bool) (hv : ∀ i ∈ own.map (·.2), i ∉ W.fx := by first | decide | (dsimp only; decide)) (hvi : i ∉ W.fx := by first | decide | (dsimp only; decide)) :
    SDs X W (.Assign [.Name y py] (.ListComp elt [⟨tg, iter, ifs, 0⟩] scope pos) spos) (if k = true then sSet i (fLc fi g ft fe (own.map (·.2))) else sSetF i (fLc fi g ft fe (own.map (·.2)))) := by
  obtain ⟨w, pw, sw⟩ := hi
  refine ⟨_, ps_setLc (te := cE X.K (W0 W.fx) fe) (tt := cT X.K (W0 W.fx) ft) hc hN hy hyl hsw pw ok hg (fun s H C cl fp => (ht s H C cl fp).canon) (fun s H C cl fp => (he s H C cl fp).canon) hs, fun E σ sd P H D rp q => ?_⟩
  have s := sim_lc (W := W) (ft := ft) (fe := fe) sw sg hv
  cases k with
  | true =>
    have q : okS X.K W E P D ((fLc fi g ft fe (own.map (·.2)) sd).thn fun x s1 => .nx (s1.set i (some x))) := q
    refine SimE.on s rp (fun x s1 e1 v H1 r1 => ?_) (fun a s e1 cls dd H' rx => by rw [e1] at q; exact q cls dd σ H' rx) (fun z => by rw [z] at q; exact q)
    rw [e1] at q
    exact q _ H1 (r1.store i hvi)
  | false =>
    have q : okS X.K W E P D ((fLc fi g ft fe (own.map (·.2)) sd).thn fun x s1 => .nx (s1.set i (some (.fz x.frz)))) := q
    refine SimE.on s rp (fun x s1 e1 v H1 r1 => ?_) (fun a s e1 cls dd H' rx => by rw [e1] at q; exact q cls dd σ H' rx) (fun z => by rw [z] at q; exact q)
    rw [e1] at q
    exact q _ H1 (r1.coldTop.store i hvi)
end
end DL

/-! DI: the lists that slots own: read and changed -/
namespace DL
open PySem L2
section
variable {K : PySem.W.Frag} {fx : List Nat} {E : Ent fx} {B H : Hp} {σ : St} {sd : SD} {P : PV} {Fp Fs : List Addr}
theorem RpB.ownAt (r : RpB K E B σ sd P H Fp Fs) {i : Nat} {ts : List OT} (h : sd[i]? = some (some (.own ts))) : ∃ a vs G, σ[i]? = some (some (.ref a)) ∧ H a = some (.lst vs) ∧ B a = none ∧ RepA K B H ts vs G := by
  obtain ⟨v, F1, F2, F3, g1, g2, ⟨a, vs, G, rfl, rfl, g3, g4, g5⟩, _⟩ := RepS.at_ r.sl h
  exact ⟨a, vs, G, g1, g3, g4, g5⟩
theorem RepA.get : ∀ {ts : List OT} {vs : List V} {F : List Addr} {j : Nat} {d : D}, RepA K B H ts vs F → ts[j]? = some (.fz d) → ∃ v, vs[j]? = some v ∧ Is K B d v
  | [], _, _, _, _, _, e => by cases e
  | t :: ts, _, _, 0, d, ⟨v, r, F1, F2, h1, h2, h3, h4⟩, e => by
    cases e
    subst h1
    exact ⟨v, rfl, h3.2⟩
  | t :: ts, _, _, j + 1, d, ⟨v, r, F1, F2, h1, h2, h3, h4⟩, e => by
    subst h1
    exact RepA.get (j := j) h4 e
theorem allFz {ts : List OT} {ds : List D} {vs : List V} {F : List Addr} (e : ts = ds.map .fz) (h : RepA K B H ts vs F) : IsA K B ds vs := by
  subst e
  have := RepA.frozen (B' := B) (Evl.Ex.refl B) (fun a ha => ?_) h
  · rw [own_frz, List.map_map] at this
    have e : ds.map (OT.frz ∘ OT.fz) = ds := by
      induction ds with
      | nil => rfl
      | cons d ds ih => rw [List.map_cons, isA_id ds]; rfl
    rw [e] at this
    exact this
  · exact absurd ha (no_own h a)
where
  isA_id : ∀ ds : List D, ds.map (OT.frz ∘ OT.fz) = ds
    | [] => rfl
    | d :: ds => by rw [List.map_cons, isA_id ds]; rfl
  no_own : ∀ {ds : List D} {vs : List V} {F : List Addr}, RepA K B H (ds.map .fz) vs F → ∀ a, a ∉ F
    | [], _, _, ⟨_, h⟩, a, ha => by subst h; cases ha
    | d :: ds, _, _, ⟨v, r, F1, F2, _, h2, ⟨h3, _⟩, h4⟩, a, ha => by
      subst h2 h3
      exact no_own h4 a (by simpa using ha)
end
/-- the data of a list, if none of it is owned -/
def coldL : List OT → Option (List D)
  | [] => some []
  | .fz d :: ts => (coldL ts).map (d :: ·)
  | _ :: _ => none
theorem coldL_eq : ∀ {ts : List OT} {ds : List D}, coldL ts = some ds → ts = ds.map .fz
  | [], _, h => by cases h; rfl
  | .fz d :: ts, ds, h => by
    unfold coldL at h
    cases e : coldL ts with
    | none => rw [e] at h; cases h
    | some es =>
      rw [e] at h
      cases h
      rw [List.map_cons, ← coldL_eq e]
  | .own _ :: _, _, h => by cases h
  | .tup _ :: _, _, h => by cases h
  | .oob _ _ :: _, _, h => by cases h
def isOwn (sd : SD) (i : Nat) : Bool := match sd[i]? with
  | some (some (.own _)) => true
  | _ => false
theorem isOwn_iff {sd : SD} {i : Nat} (h : isOwn sd i = true) : ∃ ts, sd[i]? = some (some (.own ts)) := by
  unfold isOwn at h
  split at h
  · exact ⟨_, by assumption⟩
  · cases h
/-- x[k], x the slot's own list -/
def fIxS (i : Nat) (fk : SD → R OT) : SD → R OT := fun sd => if isOwn sd i = true then (fk sd).bind fun k s1 => match s1[i]?, k.frz with
  | some (some (.own ts)), .int n => (match atI ts n with
    | some (.fz d) => .ok (.fz d) s1
    | _ => .no)
  | _, _ => .no else .no
def fLenS (i : Nat) : SD → R OT := fun sd => match sd[i]? with
  | some (some (.own ts)) => .ok (.fz (.int (ts.length : Nat))) sd
  | _ => .no
/-- list(x) -/
def fListS (i : Nat) : SD → R OT := fun sd => match sd[i]? with
  | some (some (.own ts)) => (match coldL ts with
    | some ds => .ok (.own (ds.map .fz)) sd
    | none => .no)
  | _ => .no
def Rt.flat : Rt → Option D
  | .v (.bl b) => some (.bl b)
  | .v (.int i) => some (.int i)
  | .v (.str x) => some (.str x)
  | .v .non => some .non
  | _ => none
/-- x op y, x the slot's own list -/
def fOpS (g : D → D → Option Rt) (i : Nat) (fb : SD → R OT) : SD → R OT := fun sd => if isOwn sd i = true then (fb sd).bind fun y s1 => match s1[i]? with
  | some (some t) => (match (g t.frz y.frz).bind Rt.flat with
    | some z => .ok (.fz z) s1
    | none => .no)
  | _ => .no else .no

theorem is_flat {r : Rt} {z : D} (h : r.flat = some z) : r = .v z ∧ ∀ {K : PySem.W.Frag} {B B' : Hp} {v : V}, Is K B z v → Is K B' z v := by
  cases r with
  | l _ => cases h
  | t _ => cases h
  | v d =>
    cases d with
    | bl b => cases h; exact ⟨rfl, fun h => h⟩
    | int b => cases h; exact ⟨rfl, fun h => h⟩
    | str b => cases h; exact ⟨rfl, fun h => h⟩
    | non => cases h; exact ⟨rfl, fun h => h⟩
    | _ => cases h
section
variable {X : Cx} {W : WF} {a b : Expr} {fb fk fe : SD → R OT} {x : Str} {p pos : Pos} {i : Nat}
theorem atI_map {ts : List OT} {vs : List V} {n : Int} {d : D} (hl : vs.length = ts.length) (h : atI ts n = some (.fz d)) : ∃ j, ixN vs.length n = some j ∧ ts[j]? = some (.fz d) := by
  unfold atI at h
  cases e : ixN ts.length n with
  | none => rw [e] at h; cases h
  | some j =>
    rw [e] at h
    exact ⟨j, by rw [hl]; exact e, h⟩
theorem ed_ixS (hp : PE X (.Name x p) (tVar i)) (hk : ED X W b fk) (hs : PlainIx b := by exact fun _ _ => rfl) : ED X W (.Subscript (.Name x p) b pos) (fIxS i fk) := by
  obtain ⟨tk, pk, sk⟩ := hk
  refine ⟨_, pe_ix ix_list hp pk hs, fun E σ sd P H Q rp q => ?_⟩
  unfold fIxS at q
  by_cases ho : isOwn sd i = true
  · rw [if_pos ho] at q
    obtain ⟨ts0, e0⟩ := isOwn_iff ho
    have rp0 := rp
    obtain ⟨B0, Fp0, Fs0, rb0⟩ := rp
    obtain ⟨a0, vs0, G0, g1, _⟩ := rb0.ownAt e0
    refine ⟨_, g1, ?_⟩
    refine SimE.on sk rp0 (fun k s1 e1 v H1 r1 => ?_) (fun a s e1 cls dd H' rx => by rw [e1] at q; exact q cls dd H' rx) (fun z => by rw [z] at q; exact q)
    rw [e1] at q
    obtain ⟨B, Fp, Fs, rb, h1⟩ := r1.cold
    have q2 : okE X.K W E σ P Q (match s1[i]?, k.frz with
      | some (some (.own ts)), .int n => (match atI ts n with
        | some (.fz d) => .ok (.fz d) s1
        | _ => .no)
      | _, _ => .no) := q
    split at q2
    · rename_i ts n es ek
      split at q2
      · rename_i d ea
        obtain ⟨a, vs, G, k1, k2, k3, k4⟩ := rb.ownAt es
        rw [k1] at g1
        cases g1
        rw [ek] at h1
        obtain ⟨j, j1, j2⟩ := atI_map k4.length ea
        obtain ⟨u, u1, u2⟩ := k4.get j2
        refine ⟨_, vs, n, u, rfl, h1, .inl (.inl k2), ?_, q2 u H1 (rb.put u2).rp⟩
        unfold atI
        rw [j1]
        exact u1
      · exact False.elim q2
    · exact False.elim q2
  · rw [if_neg ho] at q
    exact False.elim q
theorem ed_lenS {pc pn : Pos} (hp : PE X (.Name x p) (tVar i)) (gl : Gl X "len") (hm : X.mg "len" = none) (he : starEach (.Name x p :: []) X.env = (false, eval (.Name x p) X.env) :: starEach [] X.env := by rfl) (hpl : (backTo pc (starEach [] X.env)).any (·.1) = false := by rfl) :
    ED X W (.Call (.Name "len" pn) [.Name x p] [] pc) (fLenS i) := by
  refine ⟨_, pe_callB call_len_seq gl hm PySem.boot_len (pa_cons hp pa_nil he) (by decide) (by decide) he hpl, fun E σ sd P H Q rp q => ?_⟩
  unfold fLenS at q
  split at q
  · rename_i ts e0
    have rp0 := rp
    obtain ⟨B0, Fp0, Fs0, rb0⟩ := rp
    obtain ⟨a, vs, G, g1, g2, g3, g4⟩ := rb0.ownAt e0
    refine ⟨_, g1, a, vs, rfl, .inl (.inl (.inl g2)), ?_⟩
    rw [g4.length]
    exact q _ H (rb0.put (d := .int (ts.length : Nat)) rfl).rp
  · exact False.elim q
theorem ed_listS {pc pn : Pos} (hp : PE X (.Name x p) (tVar i)) (gl : Gl X "list") (hm : X.mg "list" = none) (hv : bootBuiltins "list" = some (.type "list")) (he : starEach (.Name x p :: []) X.env = (false, eval (.Name x p) X.env) :: starEach [] X.env := by rfl) (hpl : (backTo pc (starEach [] X.env)).any (·.1) = false := by rfl) :
    ED X W (.Call (.Name "list" pn) [.Name x p] [] pc) (fListS i) := by
  refine ⟨_, pe_callTy call_list_of gl hm hv (pa_cons hp pa_nil he) (by decide) (by decide) he hpl, fun E σ sd P H Q rp q => ?_⟩
  unfold fListS at q
  split at q
  · rename_i ts e0
    split at q
    · rename_i ds ec
      have rp0 := rp
      obtain ⟨B0, Fp0, Fs0, rb0⟩ := rp
      obtain ⟨a, vs, G, g1, g2, g3, g4⟩ := rb0.ownAt e0
      exact ⟨_, g1, a, vs, rfl, .inl (.inl (.inl g2)), fun l hl => q _ _ (rb0.newO hl (allFz (coldL_eq ec) g4))⟩
    · exact False.elim q
  · exact False.elim q
theorem td_opS {op : CmpOp} {r : R2} {g : D → D → Option Rt} (ho : OpR X (compareOp op) r) (hg : OpG X.K r g) (hp : PE X (.Name x p) (tVar i)) (hb : ED X W b fb) (hm : behindInMarks op b = false) : TD X W (.Compare (.Name x p) [op] [b] pos) (fB (fOpS g i fb)) := by
  obtain ⟨tb, pb, sb⟩ := hb
  refine td_b (pt_cmpR ho hp pb hm) ?_
  intro E σ sd P H Q rp q
  unfold fOpS at q
  by_cases hw : isOwn sd i = true
  · rw [if_pos hw] at q
    obtain ⟨ts0, e0⟩ := isOwn_iff hw
    have rp0 := rp
    obtain ⟨B0, Fp0, Fs0, rb0⟩ := rp
    obtain ⟨a0, vs0, G0, g1, _⟩ := rb0.ownAt e0
    refine ⟨_, g1, ?_⟩
    refine SimE.on sb rp0 (fun y s1 e1 v H1 r1 => ?_) (fun a s e1 cls dd H' rx => by rw [e1] at q; exact q cls dd H' rx) (fun z => by rw [z] at q; exact q)
    rw [e1] at q
    obtain ⟨B, Fp, Fs, rb, h1⟩ := r1.cold
    have q2 : okE X.K W E σ P Q (match s1[i]? with
      | some (some t) => (match (g t.frz y.frz).bind Rt.flat with
        | some z => .ok (.fz z) s1
        | none => .no)
      | _ => .no) := q
    split at q2
    · rename_i t es
      split at q2
      · rename_i z ez
        obtain ⟨u, F1, F2, F3, k1, k2, k3, _⟩ := RepS.at_ rb.sl es
        rw [k1] at g1
        cases g1
        cases eg : g t.frz y.frz with
        | none => rw [eg] at ez; cases ez
        | some rt =>
          rw [eg] at ez
          obtain ⟨er, tr⟩ := is_flat (show rt.flat = some z from ez)
          subst er
          have ex : Evl.Ex B (thaw B H1 F2) := thaw_ex fun a ha => (k3.there a ha).1
          have sub : Evl.Ex (thaw B H1 F2) H1 := fun a o e => by
            unfold thaw at e
            by_cases m : a ∈ F2
            · rw [if_pos m] at e; exact e
            · rw [if_neg m] at e; exact rb.sub a o e
          exact hg (thaw B H1 F2) H1 _ v _ _ _ _ sub (k3.frozen ex fun a ha => if_pos ha) (h1.mono ex) eg fun w hw => q2 w H1 (rb.put (tr hw)).rp
      · exact False.elim q2
    · exact False.elim q2
  · rw [if_neg hw] at q
    exact False.elim q

/-! ### changes -/
/-- x[k] = .. -/
def gIx (i : Nat) (fk : SD → R OT) : OT → SD → RS := fun x s => if isOwn s i = true then (match fk s with
  | .ok k s1 => (match s1[i]?, k.frz with
    | some (some (.own ts)), .int n => (match ixN ts.length n with
      | some j => .nx (s1.set i (some (.own (ts.set j (.fz x.frz)))))
      | none => .no)
    | _, _ => .no)
  | _ => .no) else .no
theorem zip_set : ∀ {vs : List V} {ts : List OT} {j : Nat} {v : V} {t : OT}, (vs.set j v).zip (ts.set j t) = (vs.zip ts).set j (v, t)
  | [], _, _, _, _ => by simp
  | _ :: _, [], _, _, _ => by simp
  | _ :: _, _ :: _, 0, _, _ => rfl
  | a :: vs, b :: ts, j + 1, v, t => by
    show (a, b) :: ((vs.set j v).zip (ts.set j t)) = (a, b) :: (vs.zip ts).set j (v, t)
    rw [zip_set]
theorem set_sub {p : V × OT} : ∀ {L : PV} {j : Nat}, ∃ M : PV, (L.set j p).Sublist M ∧ M.Perm (p :: L)
  | [], j => ⟨[p], by simp, .refl _⟩
  | x :: L, 0 => ⟨p :: x :: L, by
      show (p :: L).Sublist (p :: x :: L)
      exact (List.sublist_cons_self x L).cons_cons p, .refl _⟩
  | x :: L, j + 1 => by
    obtain ⟨M, h1, h2⟩ := set_sub (p := p) (L := L) (j := j)
    exact ⟨x :: M, h1.cons_cons x, (h2.cons x).trans (List.Perm.swap p x L)⟩
theorem isOwn_or {sd : SD} {i : Nat} : True := trivial
theorem gd_ix (hp : PE X (.Name x p) (tVar i)) (hk : ED X W b fk)
    (ha : ∀ v, assign (.Subscript (.Name x p) b pos) X.env v = (do
      let ov ← holding [v] (eval (.Name x p) X.env)
      let iv ← holding [v, ov] (eval b X.env)
      standAt pos
      holding [v, ov, iv] (setItem ov iv v)
      release [v, ov, iv] []) := by intro _; rfl) : GD X W (.Subscript (.Name x p) b pos) (gIx i fk) := by
  obtain ⟨tk, pk, sk⟩ := hk
  refine ⟨_, pg_sub hp pk set_list ha, fun E σ sd P H v y Q rp q => ?_⟩
  unfold gIx at q
  by_cases hw : isOwn sd i = true
  · rw [if_pos hw] at q
    cases e1 : fk sd with
    | no => rw [e1] at q; exact False.elim q
    | ex a s => rw [e1] at q; exact False.elim q
    | ok k s1 =>
      rw [e1] at q
      have q2 : (match (match s1[i]?, k.frz with
          | some (some (.own ts)), .int n => (match ixN ts.length n with
            | some j => .nx (s1.set i (some (.own (ts.set j (.fz y.frz)))))
            | none => .no)
          | _, _ => .no : RS) with
        | .nx s => ∀ σ' H', Rp X.K E σ' s P H' → Q σ' H'
        | _ => False) := q
      split at q2
      · rename_i s es
        split at es
        · rename_i ts n et ek
          split at es
          · rename_i j ej
            cases es
            obtain ⟨ts0, e0⟩ := isOwn_iff hw
            have rp0 := rp
            obtain ⟨B0, Fp0, Fs0, rb0⟩ := rp
            obtain ⟨a0, vs0, G0, g1, _⟩ := rb0.ownAt e0
            refine ⟨_, g1, ?_⟩
            refine SimE.on sk rp0 (fun k' s1' e1' u H1 r1 => ?_) (fun a s e1' => by rw [e1] at e1'; cases e1') (fun z => by rw [e1] at z; cases z)
            rw [e1] at e1'
            cases e1'
            obtain ⟨B, Fp, Fs, rb, h1⟩ := r1.cold
            rw [ek] at h1
            have r2 : Rp X.K E σ s1 ((v, .fz y.frz) :: P) H1 := rb.rp.coldTop
            obtain ⟨a, vs, k1, k2, k3, k4⟩ := Rp.alter (Pt := [(v, .fz y.frz)]) (P := P) r2 et
            rw [k1] at g1
            cases g1
            refine ⟨_, vs, n, j, rfl, h1, k2, by rw [k3]; exact ej, q2 σ _ ?_⟩
            refine k4 (vs.set j v) (ts.set j (.fz y.frz)) [] (by rw [List.length_set, List.length_set, k3]) ?_
            rw [zip_set]
            obtain ⟨M, m1, m2⟩ := set_sub (p := (v, OT.fz y.frz)) (L := vs.zip ts) (j := j)
            exact ⟨M, m1, m2⟩
          · cases es
        · cases es
      · exact False.elim q2
  · rw [if_neg hw] at q
    exact False.elim q
/-- targets that only store or stop -/
def Ng (g : OT → SD → RS) : Prop := ∀ x s, (∃ s', g x s = .nx s') ∨ g x s = .no
theorem ng_nm {i : Nat} : Ng (gNm i) := fun x s => .inl ⟨_, rfl⟩
theorem ng_nmF {i : Nat} : Ng (gNmF i) := fun x s => .inl ⟨_, rfl⟩
theorem ng_ix {i : Nat} {fk : SD → R OT} : Ng (gIx i fk) := fun x s => by
  unfold gIx
  split
  · split
    · split
      · split
        · exact .inl ⟨_, rfl⟩
        · exact .inr rfl
      · exact .inr rfl
    · exact .inr rfl
  · exact .inr rfl
theorem ng_all : ∀ {gs : List (OT → SD → RS)} (h : ∀ g ∈ gs, Ng g) (ds : List D) (s : SD), (∃ s', gAll gs ds s = .nx s') ∨ gAll gs ds s = .no
  | [], _, [], s => .inl ⟨s, rfl⟩
  | [], _, _ :: _, s => .inr rfl
  | _ :: _, _, [], s => .inr rfl
  | g :: gs, h, d :: ds, s => by
    unfold gAll
    rcases h g List.mem_cons_self (.fz d) s with ⟨s', e⟩ | e
    · rw [e]
      exact ng_all (fun g' hg => h g' (List.mem_cons_of_mem _ hg)) ds s'
    · rw [e]
      exact .inr rfl
theorem ng_tu {gs : List (OT → SD → RS)} (h : ∀ g ∈ gs, Ng g) : Ng (gTu gs) := fun x s => by
  unfold gTu
  split
  · split
    · exact ng_all h _ _
    · exact .inr rfl
  · exact .inr rfl
theorem ng_nil : ∀ g ∈ ([] : List (OT → SD → RS)), Ng g := fun _ h => by cases h
theorem ng_cons {g : OT → SD → RS} {gs : List (OT → SD → RS)} (h : Ng g) (hs : ∀ g ∈ gs, Ng g) : ∀ g' ∈ g :: gs, Ng g' := fun g' hg => (List.mem_cons.mp hg).elim (fun e => by rw [e]; exact h) (hs g')

/-! ### methods that change the slot's own list -/
def sApp (i : Nat) (fe : SD → R OT) : SD → RS := fun sd => if isOwn sd i = true then (fe sd).thn fun y s1 => match s1[i]? with
  | some (some (.own ts)) => if ts.length < sizeLine then .nx (s1.set i (some (.own (ts ++ [.fz y.frz])))) else .no
  | _ => .no else .no
theorem sd_app {apos : Pos} (hp : PE X (.Name x p) (tVar i)) (he : ED X W a fe)
    (pb : ∀ t te, PA X [a] t → PE X (.Name x p) te → PE X (.Call (.Attribute (.Name x p) "append" apos) [a] [] pos) (tBM X.K "list" rAppend te t)) {pos2 : Pos} (hs : swapsWith (.Call (.Attribute (.Name x p) "append" apos) [a] [] pos) none pos2.line X.env = pure false := by rfl)
    (hst : starEach (a :: []) X.env = (false, eval a X.env) :: starEach [] X.env := by rfl) : SDs X W (.Expr (.Call (.Attribute (.Name x p) "append" apos) [a] [] pos) pos2) (sApp i fe) := by
  obtain ⟨te, pe, se⟩ := he
  refine ⟨_, ps_expr (pb _ _ (pa_cons pe pa_nil hst) hp) hs, fun E σ sd P H D rp q => ?_⟩
  unfold sApp at q
  by_cases hw : isOwn sd i = true
  · rw [if_pos hw] at q
    obtain ⟨ts0, e0⟩ := isOwn_iff hw
    have rp0 := rp
    obtain ⟨B0, Fp0, Fs0, rb0⟩ := rp
    obtain ⟨a0, vs0, G0, g1, g2, _⟩ := rb0.ownAt e0
    refine ⟨_, g1, .inl ⟨rfl, _, .inl (.inl g2)⟩, ?_⟩
    refine SimE.on se rp0 (fun y s1 e1 v H1 r1 => ?_) (fun a s e1 cls dd H' rx => by rw [e1] at q; exact q cls dd σ H' rx) (fun z => by rw [z] at q; exact q)
    rw [e1] at q
    have q2 : okS X.K W E P D (match s1[i]? with
      | some (some (.own ts)) => if ts.length < sizeLine then .nx (s1.set i (some (.own (ts ++ [.fz y.frz])))) else .no
      | _ => .no) := q
    split at q2
    · rename_i ts es
      split at q2
      · rename_i hz
        obtain ⟨a, vs, k1, k2, k3, k4⟩ := Rp.alter (Pt := [(v, .fz y.frz)]) (P := P) r1.coldTop es
        rw [k1] at g1
        cases g1
        refine ⟨_, vs, v, rfl, rfl, k2, by rw [k3]; exact hz, q2 σ _ ?_⟩
        refine k4 (vs ++ [v]) (ts ++ [.fz y.frz]) [] (by rw [List.length_append, List.length_append, k3] <;> rfl) ⟨_, List.Sublist.refl _, ?_⟩
        rw [List.nil_append, List.zip_append (by exact k3)]
        exact List.perm_append_comm
      · exact False.elim q2
    · exact False.elim q2
  · rw [if_neg hw] at q
    exact False.elim q
/-- x.pop() -/
def fPop (i : Nat) : SD → R OT := fun sd => match sd[i]? with
  | some (some (.own ts)) => (match ts[ts.length - 1]? with
    | some t => .ok t (sd.set i (some (.own ts.dropLast)))
    | none => .no)
  | _ => .no
/-- x.pop(k) -/
def fPopAt (i : Nat) (fk : SD → R OT) : SD → R OT := fun sd => if isOwn sd i = true then (fk sd).bind fun k s1 => match s1[i]?, k.frz with
  | some (some (.own ts)), .int n => if -(2 ^ 63) ≤ n ∧ n < 2 ^ 63 then (match seqIndex? n ts.length with
    | some j => (match ts[j]? with
      | some t => .ok t (s1.set i (some (.own (ts.eraseIdx j))))
      | none => .no)
    | none => .no) else .no
  | _, _ => .no else .no
theorem erase_perm {α : Type} : ∀ {l : List α} {j : Nat} {x : α}, l[j]? = some x → (x :: l.eraseIdx j).Perm l
  | [], _, _, h => by cases h
  | y :: l, 0, x, h => by cases h; exact .refl _
  | y :: l, j + 1, x, h => (List.Perm.swap y x _).trans ((erase_perm (l := l) (j := j) h).cons y)
theorem zip_erase : ∀ {vs : List V} {ts : List OT} {j : Nat}, (vs.eraseIdx j).zip (ts.eraseIdx j) = (vs.zip ts).eraseIdx j
  | [], _, _ => by simp
  | _ :: _, [], _ => by simp
  | _ :: _, _ :: _, 0 => rfl
  | a :: vs, b :: ts, j + 1 => by
    show (a, b) :: ((vs.eraseIdx j).zip (ts.eraseIdx j)) = (a, b) :: (vs.zip ts).eraseIdx j
    rw [zip_erase]
theorem zip_at {vs : List V} {ts : List OT} {j : Nat} {v : V} {t : OT} (h1 : vs[j]? = some v) (h2 : ts[j]? = some t) : (vs.zip ts)[j]? = some (v, t) := List.getElem?_zip_eq_some.mpr ⟨h1, h2⟩
theorem len_at {vs : List V} {ts : List OT} (hl : vs.length = ts.length) {j : Nat} {t : OT} (h : ts[j]? = some t) : ∃ v, vs[j]? = some v := by
  obtain ⟨h1, _⟩ := List.getElem?_eq_some_iff.mp h
  exact ⟨vs[j], by simp [hl, h1]⟩
theorem ed_popAt {apos : Pos} (hp : PE X (.Name x p) (tVar i)) (he : ED X W a fk)
    (pb : ∀ t te, PA X [a] t → PE X (.Name x p) te → PE X (.Call (.Attribute (.Name x p) "pop" apos) [a] [] pos) (tBM X.K "list" rPopAt te t))
    (hst : starEach (a :: []) X.env = (false, eval a X.env) :: starEach [] X.env := by rfl) : ED X W (.Call (.Attribute (.Name x p) "pop" apos) [a] [] pos) (fPopAt i fk) := by
  obtain ⟨te, pe, se⟩ := he
  refine ⟨_, pb _ _ (pa_cons pe pa_nil hst) hp, fun E σ sd P H Q rp q => ?_⟩
  unfold fPopAt at q
  by_cases hw : isOwn sd i = true
  · rw [if_pos hw] at q
    obtain ⟨ts0, e0⟩ := isOwn_iff hw
    have rp0 := rp
    obtain ⟨B0, Fp0, Fs0, rb0⟩ := rp
    obtain ⟨a0, vs0, G0, g1, g2, _⟩ := rb0.ownAt e0
    refine ⟨_, g1, .inl ⟨rfl, _, .inl (.inl g2)⟩, ?_⟩
    refine SimE.on se rp0 (fun k s1 e1 v H1 r1 => ?_) (fun a s e1 cls dd H' rx => by rw [e1] at q; exact q cls dd H' rx) (fun z => by rw [z] at q; exact q)
    rw [e1] at q
    obtain ⟨B, Fp, Fs, rb, h1⟩ := r1.cold
    have q2 : okE X.K W E σ P Q (match s1[i]?, k.frz with
      | some (some (.own ts)), .int n => if -(2 ^ 63) ≤ n ∧ n < 2 ^ 63 then (match seqIndex? n ts.length with
        | some j => (match ts[j]? with
          | some t => .ok t (s1.set i (some (.own (ts.eraseIdx j))))
          | none => .no)
        | none => .no) else .no
      | _, _ => .no) := q
    split at q2
    · rename_i ts n es ek
      split at q2
      · rename_i hn
        split at q2
        · rename_i j ej
          split at q2
          · rename_i t et
            rw [ek] at h1
            obtain ⟨a, vs, k1, k2, k3, k4⟩ := Rp.alter (Pt := []) (P := P) rb.rp es
            rw [k1] at g1
            cases g1
            obtain ⟨u, eu⟩ := len_at k3 et
            refine ⟨_, vs, n, j, u, rfl, by rw [show v = .int n from h1], k2, hn.1, hn.2, by rw [k3]; exact ej, eu, q2 u _ ?_⟩
            refine k4 (vs.eraseIdx j) (ts.eraseIdx j) [(u, t)] (by rw [List.length_eraseIdx, List.length_eraseIdx, k3]) ⟨_, List.Sublist.refl _, ?_⟩
            rw [zip_erase]
            exact erase_perm (zip_at eu et)
          · exact False.elim q2
        · exact False.elim q2
      · exact False.elim q2
    · exact False.elim q2
  · rw [if_neg hw] at q
    exact False.elim q
/-- x.insert(k, e) -/
def sIns (i : Nat) (fk fe : SD → R OT) : SD → RS := fun sd => if isOwn sd i = true then (fk sd).thn fun k s1 => (fe s1).thn fun y s2 => match s2[i]?, k.frz with
  | some (some (.own ts)), .int n => if ts.length < sizeLine ∧ 0 ≤ n ∧ n < 2 ^ 63 then .nx (s2.set i (some (.own (ts.take n.toNat ++ [.fz y.frz] ++ ts.drop n.toNat)))) else .no
  | _, _ => .no else .no
abbrev rInsert : V → List V → Hp → VK → Prop := fun x vs H Q => ∃ (l : Addr) (xs : List V) (i : Int) (y : V), x = .ref l ∧ vs = [.int i, y] ∧ H l = some (.lst xs) ∧ xs.length < sizeLine ∧ 0 ≤ i ∧ i < 2 ^ 63 ∧
    Q .non (upd H l (.lst (xs.take i.toNat ++ [y] ++ xs.drop i.toNat)))
theorem zip_take : ∀ {vs : List V} {ts : List OT} (n : Nat), (vs.take n).zip (ts.take n) = (vs.zip ts).take n
  | [], _, _ => by simp
  | _ :: _, [], _ => by simp
  | _ :: _, _ :: _, 0 => rfl
  | a :: vs, b :: ts, n + 1 => by
    show (a, b) :: ((vs.take n).zip (ts.take n)) = (a, b) :: (vs.zip ts).take n
    rw [zip_take]
theorem zip_drop : ∀ {vs : List V} {ts : List OT} (n : Nat), (vs.drop n).zip (ts.drop n) = (vs.zip ts).drop n
  | [], _, _ => by simp
  | _ :: _, [], _ => by simp
  | _ :: _, _ :: _, 0 => rfl
  | _ :: vs, _ :: ts, n + 1 => zip_drop (vs := vs) (ts := ts) n
theorem sd_ins {apos pos2 : Pos} (hp : PE X (.Name x p) (tVar i)) (hk : ED X W a fk) (he : ED X W b fe)
    (pb : ∀ t te, PA X [a, b] t → PE X (.Name x p) te → PE X (.Call (.Attribute (.Name x p) "insert" apos) [a, b] [] pos) (tBM X.K "list" rInsert te t)) (hs : swapsWith (.Call (.Attribute (.Name x p) "insert" apos) [a, b] [] pos) none pos2.line X.env = pure false := by rfl)
    (hst : starEach (a :: [b]) X.env = (false, eval a X.env) :: starEach [b] X.env := by rfl) (hst2 : starEach (b :: []) X.env = (false, eval b X.env) :: starEach [] X.env := by rfl) : SDs X W (.Expr (.Call (.Attribute (.Name x p) "insert" apos) [a, b] [] pos) pos2) (sIns i fk fe) := by
  obtain ⟨tk, pk, sk⟩ := hk
  obtain ⟨te, pe, se⟩ := he
  refine ⟨_, ps_expr (pb _ _ (pa_cons pk (pa_cons pe pa_nil hst2) hst) hp) hs, fun E σ sd P H D rp q => ?_⟩
  unfold sIns at q
  by_cases hw : isOwn sd i = true
  · rw [if_pos hw] at q
    obtain ⟨ts0, e0⟩ := isOwn_iff hw
    have rp0 := rp
    obtain ⟨B0, Fp0, Fs0, rb0⟩ := rp
    obtain ⟨a0, vs0, G0, g1, g2, _⟩ := rb0.ownAt e0
    refine ⟨_, g1, .inl ⟨rfl, _, .inl (.inl g2)⟩, ?_⟩
    refine SimE.on sk rp0 (fun k s1 e1 w H1 r1 => ?_) (fun a s e1 cls dd H' rx => by rw [e1] at q; exact q cls dd σ H' rx) (fun z => by rw [z] at q; exact q)
    rw [e1] at q
    have q1 : okS X.K W E P D ((fe s1).thn fun y s2 => match s2[i]?, k.frz with
      | some (some (.own ts)), .int n => if ts.length < sizeLine ∧ 0 ≤ n ∧ n < 2 ^ 63 then .nx (s2.set i (some (.own (ts.take n.toNat ++ [.fz y.frz] ++ ts.drop n.toNat)))) else .no
      | _, _ => .no) := q
    refine SimE.on se r1 (fun y s2 e2 v H2 r2 => ?_) (fun a s e2 cls dd H' rx => by rw [e2] at q1; exact q1 cls dd σ H' rx.drop) (fun z => by rw [z] at q1; exact q1)
    rw [e2] at q1
    have q2 : okS X.K W E P D (match s2[i]?, k.frz with
      | some (some (.own ts)), .int n => if ts.length < sizeLine ∧ 0 ≤ n ∧ n < 2 ^ 63 then .nx (s2.set i (some (.own (ts.take n.toNat ++ [.fz y.frz] ++ ts.drop n.toNat)))) else .no
      | _, _ => .no) := q1
    have r3 : Rp X.K E σ s2 ((w, k) :: (v, .fz y.frz) :: P) H2 := r2.coldTop.perm (List.Perm.swap _ _ _)
    obtain ⟨B, Fp, Fs, rb, h1⟩ := r3.cold
    split at q2
    · rename_i ts n es ek
      split at q2
      · rename_i hz
        rw [ek] at h1
        obtain ⟨a, vs, k1, k2, k3, k4⟩ := Rp.alter (Pt := [(v, .fz y.frz)]) (P := P) rb.rp es
        rw [k1] at g1
        cases g1
        refine ⟨_, vs, n, v, rfl, by rw [show w = .int n from h1], k2, by rw [k3]; exact hz.1, hz.2.1, hz.2.2, q2 σ _ ?_⟩
        refine k4 (vs.take n.toNat ++ [v] ++ vs.drop n.toNat) (ts.take n.toNat ++ [.fz y.frz] ++ ts.drop n.toNat) [] (by simp only [List.length_append, List.length_take, List.length_drop, List.length_singleton, k3]) ⟨_, List.Sublist.refl _, ?_⟩
        rw [List.nil_append, List.zip_append (by simp only [List.length_append, List.length_take, List.length_singleton, k3]), List.zip_append (by simp only [List.length_take, k3]), zip_take, zip_drop]
        have e : (vs.zip ts).take n.toNat ++ (vs.zip ts).drop n.toNat = vs.zip ts := List.take_append_drop _ _
        have pm : ((vs.zip ts).take n.toNat ++ ([v].zip [OT.fz y.frz] ++ (vs.zip ts).drop n.toNat)).Perm ((v, OT.fz y.frz) :: ((vs.zip ts).take n.toNat ++ (vs.zip ts).drop n.toNat)) := List.perm_middle
        rw [e] at pm
        rw [List.append_assoc]
        exact pm
      · exact False.elim q2
    · exact False.elim q2
  · rw [if_neg hw] at q
    exact False.elim q
theorem zip_rev : ∀ {vs : List V} {ts : List OT}, vs.length = ts.length → vs.reverse.zip ts.reverse = (vs.zip ts).reverse
  | [], [], _ => rfl
  | v :: vs, t :: ts, h => by
    rw [List.reverse_cons, List.reverse_cons, List.zip_append (by rw [List.length_reverse, List.length_reverse]; exact Nat.succ.inj h), zip_rev (Nat.succ.inj h)]
    exact (List.reverse_cons (a := (v, t)) (as := vs.zip ts)).symm
/-- x.reverse() -/
def sRev (i : Nat) : SD → RS := fun sd => match sd[i]? with
  | some (some (.own ts)) => .nx (sd.set i (some (.own ts.reverse)))
  | _ => .no
theorem sd_rev {apos pos2 : Pos} (hp : PE X (.Name x p) (tVar i))
    (pb : ∀ te, PE X (.Name x p) te → PE X (.Call (.Attribute (.Name x p) "reverse" apos) [] [] pos) (tBM0 X.K "list" rReverse te)) (hs : swapsWith (.Call (.Attribute (.Name x p) "reverse" apos) [] [] pos) none pos2.line X.env = pure false := by rfl) :
    SDs X W (.Expr (.Call (.Attribute (.Name x p) "reverse" apos) [] [] pos) pos2) (sRev i) := by
  refine ⟨_, ps_expr (pb _ hp) hs, fun E σ sd P H D rp q => ?_⟩
  unfold sRev at q
  split at q
  · rename_i ts es
    obtain ⟨a, vs, k1, k2, k3, k4⟩ := Rp.alter (Pt := []) (P := P) rp es
    refine ⟨_, k1, .inl ⟨rfl, _, .inl (.inl k2)⟩, _, vs, rfl, rfl, k2, q σ _ ?_⟩
    refine k4 vs.reverse ts.reverse [] (by rw [List.length_reverse, List.length_reverse, k3]) ⟨_, List.Sublist.refl _, ?_⟩
    rw [List.nil_append]
    have e : vs.reverse.zip ts.reverse = (vs.zip ts).reverse := by
      exact zip_rev k3
    rw [e]
    exact List.reverse_perm _
  · exact False.elim q
end
end DL

/-! DJ: data as the library's data: ==, repr -/
namespace DL
open PySem L2 PySem.Spec PyProof.Rows

def keyP : Key → PyData
  | .inl i => .int i
  | .inr x => .str x
mutual
def D.py : D → PyData
  | .non => .none
  | .bl b => .bool b
  | .int i => .int i
  | .str x => .str x
  | .scr ns => .list (ns.map .int)
  | .lst xs => .list (pyL xs)
  | .tup xs => .tuple (pyL xs)
  | .dic kvs => .dict (pyK kvs)
  | .obj _ _ => .none
def pyL : List D → List PyData
  | [] => []
  | d :: ds => d.py :: pyL ds
def pyK : List (Key × D) → List (PyData × PyData)
  | [] => []
  | (k, d) :: r => (keyP k, d.py) :: pyK r
end
/-- plain data, at most n deep; with dicts, without -/
def nrm : Nat → D → Bool
  | _, .non => true
  | _, .bl _ => true
  | _, .int _ => true
  | _, .str _ => true
  | n + 1, .lst xs => xs.all (nrm n)
  | n + 1, .tup xs => xs.all (nrm n)
  | n + 1, .dic kvs => kvs.all fun p => nrm n p.2
  | _, _ => false
def shp : Nat → D → Bool
  | _, .non => true
  | _, .bl _ => true
  | _, .int _ => true
  | _, .str x => PyData.strOk x
  | n + 1, .lst xs => xs.all (shp n)
  | n + 1, .tup xs => xs.all (shp n)
  | _, _ => false
section
variable {X : Cx} {pins : List (Addr × Obj)} {σ : L2.St} {B H : Hp} {s : Shared}
theorem dp_of (ex : Evl.Ex B H) : ∀ (n : Nat) {d : D} {v : V}, shp n d = true → Is X.K B d v → Dp X.K H v d.py := by
  intro n
  induction n with
  | zero =>
    intro d v h hi
    cases d with
    | non => rw [show v = .non from hi, D.py]; exact .non
    | bl b => rw [show v = .bl b from hi, D.py]; exact .bl b
    | int i => rw [show v = .int i from hi, D.py]; exact .int i
    | str x => rw [show v = .str x from hi, D.py]; exact .str x
    | _ => cases h
  | succ n ih =>
    have all : ∀ (ds : List D) (vs : List V), ds.all (shp n) = true → IsA X.K B ds vs → DpAll X.K H vs (pyL ds) := by
      intro ds
      induction ds with
      | nil =>
        intro vs _ hi
        rw [show vs = [] from hi, pyL]
        exact .nil
      | cons d ds ih2 =>
        rintro vs h ⟨v, r, rfl, h1, h2⟩
        rw [List.all_cons, Bool.and_eq_true] at h
        rw [pyL]
        exact .cons (ih h.1 h1) (ih2 r h.2 h2)
    intro d v h hi
    cases d with
    | non => rw [show v = .non from hi, D.py]; exact .non
    | bl b => rw [show v = .bl b from hi, D.py]; exact .bl b
    | int i => rw [show v = .int i from hi, D.py]; exact .int i
    | str x => rw [show v = .str x from hi, D.py]; exact .str x
    | lst xs =>
      obtain ⟨a, vs, rfl, h2, h3⟩ := hi
      rw [D.py]
      exact .lst (.inl (.inl (ex _ _ h2))) (all xs vs h h3)
    | tup xs =>
      obtain ⟨a, vs, rfl, h2, h3⟩ := hi
      rw [D.py]
      exact .tup (Evl.ex_t ex h2) (all xs vs h h3)
    | _ => cases h
theorem depth_shp : ∀ (n : Nat) {d : D}, shp n d = true → d.py.depth ≤ n ∧ d.py.canLay0 = true := by
  intro n
  induction n with
  | zero =>
    intro d h
    cases d with
    | non => rw [D.py]; exact ⟨by simp [PyData.depth], by simp [PyData.canLay0]⟩
    | bl b => rw [D.py]; exact ⟨by simp [PyData.depth], by simp [PyData.canLay0]⟩
    | int i => rw [D.py]; exact ⟨by simp [PyData.depth], by simp [PyData.canLay0]⟩
    | str x => rw [D.py]; exact ⟨by simp [PyData.depth], by rw [PyData.canLay0]; exact h⟩
    | _ => cases h
  | succ n ih =>
    have all : ∀ (ds : List D), ds.all (shp n) = true → PyData.depthAll (pyL ds) ≤ n ∧ PyData.canLayAll0 (pyL ds) = true := by
      intro ds
      induction ds with
      | nil => intro _; rw [pyL]; exact ⟨by simp [PyData.depthAll], by simp [PyData.canLayAll0]⟩
      | cons d ds ih2 =>
        intro h
        rw [List.all_cons, Bool.and_eq_true] at h
        rw [pyL]
        have h1 := ih h.1
        have h2 := ih2 h.2
        exact ⟨by rw [PyData.depthAll]; omega, by rw [PyData.canLayAll0, h1.2, h2.2] <;> rfl⟩
    intro d h
    cases d with
    | non => rw [D.py]; exact ⟨by simp [PyData.depth], by simp [PyData.canLay0]⟩
    | bl b => rw [D.py]; exact ⟨by simp [PyData.depth], by simp [PyData.canLay0]⟩
    | int i => rw [D.py]; exact ⟨by simp [PyData.depth], by simp [PyData.canLay0]⟩
    | str x => rw [D.py]; exact ⟨by simp [PyData.depth], by rw [PyData.canLay0]; exact h⟩
    | lst xs =>
      have := all xs h
      rw [D.py]
      exact ⟨by rw [PyData.depth]; omega, by rw [PyData.canLay0]; exact this.2⟩
    | tup xs =>
      have := all xs h
      rw [D.py]
      exact ⟨by rw [PyData.depth]; omega, by rw [PyData.canLay0]; exact this.2⟩
    | _ => cases h
theorem shaped_of {d : D} (h : shp 40 d = true) : SeqAt.shaped d.py = true := by
  obtain ⟨h1, h2⟩ := depth_shp 40 h
  unfold SeqAt.shaped
  rw [h2, Bool.true_and]
  exact decide_eq_true (by omega)
/-- what stands in the heap, as the library reads it -/
theorem reads_of (I : Inv X pins σ H s) (ex : Evl.Ex B H) : ∀ (n : Nat) {d : D} {v : V} {u : Value}, nrm n d = true → Is X.K B d v → RelV v u → ∃ as, Reads s.heap u d.py as := by
  intro n
  have flat : ∀ {d : D} {v : V} {u : Value}, nrm 0 d = true → Is X.K B d v → RelV v u → ∃ as, Reads s.heap u d.py as := by
    intro d v u h hi r
    cases d with
    | non =>
      rw [show v = .non from hi] at r
      rw [D.py, show u = Value.none from r]
      exact ⟨_, .none⟩
    | bl b =>
      rw [show v = .bl b from hi] at r
      rw [D.py, show u = Value.bool b from r]
      exact ⟨_, .bool b⟩
    | int i =>
      rw [show v = .int i from hi] at r
      obtain ⟨t, rfl⟩ := r
      rw [D.py]
      exact ⟨_, .int i t⟩
    | str x =>
      rw [show v = .str x from hi] at r
      obtain ⟨t, rfl⟩ := r
      rw [D.py]
      exact ⟨_, .str x t⟩
    | _ => cases h
  induction n with
  | zero => exact flat
  | succ n ih =>
    have all : ∀ (ds : List D) (vs : List V) (us : List Value), ds.all (nrm n) = true → IsA X.K B ds vs → Vals vs us → ∃ as, ReadsAll s.heap us (pyL ds) as := by
      intro ds
      induction ds with
      | nil =>
        intro vs us _ hi r
        rw [show vs = [] from hi] at r
        cases r
        rw [pyL]
        exact ⟨_, .nil⟩
      | cons d ds ih2 =>
        rintro vs us h ⟨v, r, rfl, h1, h2⟩ rr
        rw [List.all_cons, Bool.and_eq_true] at h
        cases rr with
        | cons r1 r2 =>
          obtain ⟨as, q1⟩ := ih h.1 h1 r1
          obtain ⟨bs, q2⟩ := ih2 _ _ h.2 h2 r2
          rw [pyL]
          exact ⟨_, .cons q1 q2⟩
    have allK : ∀ (kvs : List (Key × D)) (ks : List (Key × V)) (vs : List (Key × Value)) (es : List DictEntry), (kvs.all fun p => nrm n p.2) = true → IsK X.K B kvs ks → KV ks vs → Pairs (mixKind X.prog X.w) es vs →
        (∃ as, ReadsAll s.heap (es.map (·.key)) ((pyK kvs).map (·.1)) as) ∧ ∃ as, ReadsAll s.heap (es.map (·.val)) ((pyK kvs).map (·.2)) as := by
      intro kvs
      induction kvs with
      | nil =>
        intro ks vs es _ hi hk hp
        rw [show ks = [] from hi] at hk
        cases hk
        cases hp
        rw [pyK]
        exact ⟨⟨_, .nil⟩, ⟨_, .nil⟩⟩
      | cons kd kvs ih2 =>
        obtain ⟨k, d⟩ := kd
        rintro ks vs es h ⟨v, t, rfl, h1, h2⟩ hk hp
        rw [List.all_cons, Bool.and_eq_true] at h
        cases hk with
        | @cons _ kv _ vs' r1 r2 =>
          cases hp with
          | @cons e _ es' _ p1 p2 p3 =>
            obtain ⟨⟨as, q1⟩, ⟨bs, q2⟩⟩ := ih2 _ _ _ h.2 h2 r2 p3
            obtain ⟨cs, q3⟩ := ih h.1 h1 r1.2
            have e1 : k = kv.1 := r1.1
            have key : ∃ ds, Reads s.heap e.key (keyP k) ds := by
              have p1' : keyIs kv.1 e.key = true := p1
              rw [← e1] at p1'
              rcases keyIs_shape p1' with ⟨i, t, rfl, e2⟩ | ⟨x, t, rfl, e2⟩
              · rw [e2]; exact ⟨_, .int i t⟩
              · rw [e2]; exact ⟨_, .str x t⟩
            obtain ⟨ds, q4⟩ := key
            rw [pyK]
            rw [← p2] at q3
            exact ⟨⟨_, .cons q4 q1⟩, ⟨_, .cons q3 q2⟩⟩
    intro d v u h hi r
    cases d with
    | non => exact flat (by rfl) hi r
    | bl b => exact flat (by rfl) hi r
    | int i => exact flat (by rfl) hi r
    | str x => exact flat (by rfl) hi r
    | lst xs =>
      obtain ⟨a, vs, rfl, h2, h3⟩ := hi
      cases r
      obtain ⟨its, rv, ⟨o, m, ho, hc, _, hd⟩, _⟩ := I.list (.inl (.inl (ex _ _ h2)))
      obtain ⟨as, hr⟩ := all xs vs its h h3 rv
      rw [D.py]
      exact ⟨_, .list ho hc hd hr⟩
    | tup xs =>
      obtain ⟨a, vs, rfl, h2, h3⟩ := hi
      cases r
      obtain ⟨its, rv, ⟨o, ho, hc, m, hd⟩, _⟩ := I.tuple (Evl.ex_t ex h2)
      obtain ⟨as, hr⟩ := all xs vs its h h3 rv
      rw [D.py]
      exact ⟨_, .tuple ho hc hd hr⟩
    | dic kvs =>
      obtain ⟨a, ks, rfl, h2, h3⟩ := hi
      cases r
      obtain ⟨_, hy, vs, hk, o, es, ep, ho, hx, hd, _, hp, _⟩ := I.hok a _ (ex _ _ h2)
      obtain ⟨⟨as, q1⟩, ⟨bs, q2⟩⟩ := allK kvs ks vs es.toList h h3 hk hp
      rw [D.py]
      exact ⟨_, .dict ho hx.1 hd q1 q2⟩
    | _ => cases h
theorem repr_at (I : Inv X pins σ H s) (ex : Evl.Ex B H) : ∀ (n : Nat) {d : D} {v : V} {u : Value}, nrm n d = true → Is X.K B d v → RelV v u → d.py.showable = true → d.py.shown.length ≤ sizeLine →
    ∃ bs, ReadAtMost s.heap d.py.depth bs ∧ ReprK X.prog X.w bs s.heap d.py.depth u d.py.shown := by
  intro n
  have flat : ∀ {d : D} {v : V} {u : Value}, nrm 0 d = true → Is X.K B d v → RelV v u → d.py.showable = true → d.py.shown.length ≤ sizeLine → ∃ bs, ReadAtMost s.heap d.py.depth bs ∧ ReprK X.prog X.w bs s.heap d.py.depth u d.py.shown := by
    intro d v u h hi r hs hz
    cases d with
    | non =>
      rw [show v = .non from hi] at r
      rw [D.py, show u = Value.none from r]
      exact ⟨[], (fun _ h => nomatch h), by simp only [PyData.shown]; exact .of_is ReprIs.none _ _ _⟩
    | bl b =>
      rw [show v = .bl b from hi] at r
      rw [D.py, show u = Value.bool b from r]
      exact ⟨[], (fun _ h => nomatch h), by simp only [PyData.shown]; exact .of_is (ReprIs.bool b) _ _ _⟩
    | int i =>
      rw [show v = .int i from hi] at r
      obtain ⟨t, rfl⟩ := r
      rw [D.py] at hs ⊢
      exact ⟨[], (fun _ h => nomatch h), by simp only [PyData.shown]; exact .of_is (ReprIs.int t (by simpa [PyData.showable] using hs)) _ _ _⟩
    | str x =>
      rw [show v = .str x from hi] at r
      obtain ⟨t, rfl⟩ := r
      rw [D.py] at hz ⊢
      exact ⟨[], (fun _ h => nomatch h), by simp only [PyData.shown]; exact .of_is (ReprIs.str x t (by simpa only [PyData.shown] using hz)) _ _ _⟩
    | _ => cases h
  induction n with
  | zero => exact flat
  | succ n ih =>
    have all : ∀ (ds : List D) (vs : List V) (us : List Value), ds.all (nrm n) = true → IsA X.K B ds vs → Vals vs us → PyData.showableAll (pyL ds) = true → (∀ t ∈ PyData.shownAll (pyL ds), t.length ≤ sizeLine) →
        ∃ bs, ReadAtMost s.heap (PyData.depthAll (pyL ds)) bs ∧ ReprAllK X.prog X.w bs s.heap (PyData.depthAll (pyL ds)) us (PyData.shownAll (pyL ds)) := by
      intro ds
      induction ds with
      | nil =>
        intro vs us _ hi r _ _
        rw [show vs = [] from hi] at r
        cases r
        rw [pyL]
        exact ⟨[], (fun _ h => nomatch h), by simp only [PyData.shownAll]; exact .nil⟩
      | cons d ds ih2 =>
        rintro vs us h ⟨v, r, rfl, h1, h2⟩ rr hs hz
        rw [List.all_cons, Bool.and_eq_true] at h
        rw [pyL] at hs hz ⊢
        have hs' : d.py.showable = true ∧ PyData.showableAll (pyL ds) = true := by simpa [PyData.showableAll] using hs
        cases rr with
        | cons r1 r2 =>
          obtain ⟨b1, hb1, k1⟩ := ih h.1 h1 r1 hs'.1 (hz _ (by simp only [PyData.shownAll]; exact List.mem_cons_self))
          obtain ⟨b2, hb2, k2⟩ := ih2 _ _ h.2 h2 r2 hs'.2 fun t ht => hz t (by simp only [PyData.shownAll]; exact List.mem_cons_of_mem _ ht)
          simp only [PyData.depthAll, PyData.shownAll]
          exact ⟨b1 ++ b2, (hb1.mono (Nat.le_max_left _ _)).append (hb2.mono (Nat.le_max_right _ _)), .cons ((k1.more fun b hb => List.mem_append_left _ hb).level_le (Nat.le_max_left _ _)) (k2.more_le (fun b hb => List.mem_append_right _ hb) (Nat.le_max_right _ _))⟩
    have allK : ∀ (kvs : List (Key × D)) (ks : List (Key × V)) (vs : List (Key × Value)) (es : List DictEntry), (kvs.all fun p => nrm n p.2) = true → IsK X.K B kvs ks → KV ks vs → Pairs (mixKind X.prog X.w) es vs → PyData.showableKv (pyK kvs) = true → (∀ t ∈ PyData.shownKv (pyK kvs), t.length ≤ sizeLine) →
        ∃ bs, ReadAtMost s.heap (PyData.depthKv (pyK kvs)) bs ∧ ReprEntriesK X.prog X.w bs s.heap (PyData.depthKv (pyK kvs)) es (PyData.shownKv (pyK kvs)) := by
      intro kvs
      induction kvs with
      | nil =>
        intro ks vs es _ hi hk hp _ _
        rw [show ks = [] from hi] at hk
        cases hk
        cases hp
        rw [pyK]
        exact ⟨[], (fun _ h => nomatch h), by simp only [PyData.shownKv]; exact .nil⟩
      | cons kd kvs ih2 =>
        obtain ⟨k, d⟩ := kd
        rintro ks vs es h ⟨v, t, rfl, h1, h2⟩ hk hp hs hz
        rw [List.all_cons, Bool.and_eq_true] at h
        rw [pyK] at hs hz ⊢
        have hs' : ((keyP k).showable = true ∧ d.py.showable = true) ∧ PyData.showableKv (pyK kvs) = true := by simpa [PyData.showableKv] using hs
        cases hk with
        | @cons _ kv _ vs' r1 r2 =>
          cases hp with
          | @cons e _ es' _ p1 p2 p3 =>
            have z0 := hz _ (by simp only [PyData.shownKv]; exact List.mem_cons_self)
            rw [strLen_append, strLen_append] at z0
            obtain ⟨b2, hb2, k2⟩ := ih2 _ _ _ h.2 h2 r2 p3 hs'.2 fun t ht => hz t (by simp only [PyData.shownKv]; exact List.mem_cons_of_mem _ ht)
            obtain ⟨b1, hb1, k1⟩ := ih (d := d) h.1 h1 r1.2 hs'.1.2 (by omega)
            have e1 : k = kv.1 := r1.1
            have key : ∀ as h₀ m, ReprK X.prog X.w as h₀ m e.key (keyP k).shown := by
              have p1' : keyIs kv.1 e.key = true := p1
              rw [← e1] at p1'
              intro as h₀ m
              rcases keyIs_shape p1' with ⟨i, t, rfl, e2⟩ | ⟨x, t, rfl, e2⟩
              · rw [e2, keyP, PyData.shown]
                exact .of_is (ReprIs.int t (by simpa [PyData.showable, keyP] using hs'.1.1)) _ _ _
              · rw [e2, keyP, PyData.shown]
                have z1 : (reprText x).length ≤ sizeLine := by
                  have : ((keyP (Sum.inr x)).shown).length ≤ sizeLine := by omega
                  simpa only [keyP, PyData.shown] using this
                exact .of_is (ReprIs.str x t z1) _ _ _
            simp only [PyData.shownKv]
            have dk : (keyP k).depth = 0 := by cases k <;> rfl
            refine ⟨b1 ++ b2, ?_, ?_⟩
            · exact (hb1.mono (by rw [PyData.depthKv, dk]; omega)).append (hb2.mono (by rw [PyData.depthKv]; omega))
            · refine .cons (key _ _ _) ?_ ?_
              · rw [p2]
                exact (k1.more fun b hb => List.mem_append_left _ hb).level_le (by rw [PyData.depthKv, dk]; omega)
              · exact entries_more (fun b hb => List.mem_append_right _ hb) (by rw [PyData.depthKv]; omega) k2
    intro d v u h hi r hs hz
    cases d with
    | non => exact flat (by rfl) hi r hs hz
    | bl b => exact flat (by rfl) hi r hs hz
    | int i => exact flat (by rfl) hi r hs hz
    | str x => exact flat (by rfl) hi r hs hz
    | lst xs =>
      obtain ⟨as, hR⟩ := reads_of I ex (n + 1) (d := .lst xs) h hi r
      obtain ⟨a, vs, rfl, h2, h3⟩ := hi
      cases r
      obtain ⟨its, rv, ⟨o, m, ho, hc, _, hd⟩, _⟩ := I.list (.inl (.inl (ex _ _ h2)))
      rw [D.py] at hs hz hR ⊢
      have hz' : (listText (PyData.shownAll (pyL xs))).length ≤ sizeLine := by simpa only [PyData.shown] using hz
      obtain ⟨bs, hb, hk⟩ := all xs vs its h h3 rv (by simpa [PyData.showable] using hs) fun t ht => Nat.le_trans (listText_mem_le ht) hz'
      have hna : a ∉ bs := not_mem_of_deeper hR (by simp only [PyData.depth]; omega) hb
      refine ⟨a :: bs, ReadAtMost.cons hR (by simp only [PyData.depth]; omega) hb, ?_⟩
      simp only [PyData.depth, PyData.shown]
      cases its with
      | nil =>
        cases rv
        cases xs with
        | nil =>
          simp only [pyL, PyData.shownAll, listText_nil]
          exact ReprK.listEmpty ho hc hd
        | cons _ _ =>
          obtain ⟨_, _, e, _⟩ := h3
          cases e
      | cons x l => exact ReprK.list ho hc hd hna (by simpa using hk.length_eq) fun i y e => hk.item i y (by simpa using e)
    | tup xs =>
      obtain ⟨as, hR⟩ := reads_of I ex (n + 1) (d := .tup xs) h hi r
      obtain ⟨a, vs, rfl, h2, h3⟩ := hi
      cases r
      obtain ⟨its, rv, ⟨o, ho, hc, m, hd⟩, _⟩ := I.tuple (Evl.ex_t ex h2)
      rw [D.py] at hs hz hR ⊢
      have hz' : (tupleText (PyData.shownAll (pyL xs))).length ≤ sizeLine := by simpa only [PyData.shown] using hz
      obtain ⟨bs, hb, hk⟩ := all xs vs its h h3 rv (by simpa [PyData.showable] using hs) fun t ht => Nat.le_trans (tupleText_mem_le ht) hz'
      have hna : a ∉ bs := not_mem_of_deeper hR (by simp only [PyData.depth]; omega) hb
      refine ⟨a :: bs, ReadAtMost.cons hR (by simp only [PyData.depth]; omega) hb, ?_⟩
      simp only [PyData.depth, PyData.shown]
      exact ReprK.tuple ho hc hd hna hk
    | dic kvs =>
      obtain ⟨as, hR⟩ := reads_of I ex (n + 1) (d := .dic kvs) h hi r
      obtain ⟨a, ks, rfl, h2, h3⟩ := hi
      cases r
      obtain ⟨_, hy, vs, hk, o, es, ep, ho, hx, hd, _, hp, _⟩ := I.hok a _ (ex _ _ h2)
      rw [D.py] at hs hz hR ⊢
      have hz' : (dictText (PyData.shownKv (pyK kvs))).length ≤ sizeLine := by simpa only [PyData.shown] using hz
      obtain ⟨bs, hb, hE⟩ := allK kvs ks vs es.toList h h3 hk hp (by simpa [PyData.showable] using hs) fun t ht => Nat.le_trans (dictText_mem_le ht) hz'
      have hna : a ∉ bs := not_mem_of_deeper hR (by simp only [PyData.depth]; omega) hb
      refine ⟨a :: bs, ReadAtMost.cons hR (by simp only [PyData.depth]; omega) hb, ?_⟩
      simp only [PyData.depth, PyData.shown]
      exact ReprK.dict ho hx.1 hd hy hna hE
    | _ => cases h
where
  entries_more {prog : Program} {w : World} {h₀ : Heap} {as as' : List Addr} {d d' : Nat} (hsub : ∀ b ∈ as, b ∈ as') (hd : d ≤ d') : ∀ {l : List DictEntry} {ts : List Str}, ReprEntriesK prog w as h₀ d l ts → ReprEntriesK prog w as' h₀ d' l ts
    | _, _, .nil => .nil
    | _, _, .cons hx hy hl => .cons ((hx.more hsub).level_le hd) ((hy.more hsub).level_le hd) (entries_more hsub hd hl)
end
end DL

/-! DK: operators and built-ins over data -/
namespace DL
open PySem L2

theorem isA_nil {K : PySem.W.Frag} {B : Hp} {vs : List V} (h : IsA K B [] vs) : vs = [] := h
theorem isA_app {K : PySem.W.Frag} {B : Hp} : ∀ {ds es : List D} {vs us : List V}, IsA K B ds vs → IsA K B es us → IsA K B (ds ++ es) (vs ++ us)
  | [], _, _, _, h, k => by rw [isA_nil h]; exact k
  | d :: ds, es, _, us, ⟨v, r, h1, h2, h3⟩, k => by
    subst h1
    exact ⟨v, r ++ us, rfl, h2, isA_app h3 k⟩
theorem isA_rev {K : PySem.W.Frag} {B : Hp} : ∀ {ds : List D} {vs : List V}, IsA K B ds vs → IsA K B ds.reverse vs.reverse
  | [], _, h => by rw [isA_nil h]; exact rfl
  | d :: ds, _, ⟨v, r, h1, h2, h3⟩ => by
    subst h1
    rw [List.reverse_cons, List.reverse_cons]
    exact isA_app (isA_rev h3) ⟨v, [], rfl, h2, rfl⟩
theorem isA_take {K : PySem.W.Frag} {B : Hp} : ∀ {ds : List D} {vs : List V} (n : Nat), IsA K B ds vs → IsA K B (ds.take n) (vs.take n)
  | _, _, 0, _ => rfl
  | [], _, _ + 1, h => by rw [isA_nil h]; exact rfl
  | d :: ds, _, n + 1, ⟨v, r, h1, h2, h3⟩ => by
    subst h1
    exact ⟨v, r.take n, rfl, h2, isA_take n h3⟩
theorem isA_drop {K : PySem.W.Frag} {B : Hp} : ∀ {ds : List D} {vs : List V} (n : Nat), IsA K B ds vs → IsA K B (ds.drop n) (vs.drop n)
  | _, _, 0, h => h
  | [], _, _ + 1, h => by rw [isA_nil h]; exact rfl
  | d :: ds, _, n + 1, ⟨v, r, h1, h2, h3⟩ => by
    subst h1
    exact isA_drop n h3
theorem isA_flat {K : PySem.W.Frag} {B : Hp} {ds : List D} {vs : List V} (h : IsA K B ds vs) : ∀ n : Nat, IsA K B (List.replicate n ds).flatten (List.replicate n vs).flatten
  | 0 => rfl
  | n + 1 => by
    rw [List.replicate_succ, List.replicate_succ, List.flatten_cons, List.flatten_cons]
    exact isA_app h (isA_flat h n)
theorem isA_ints {K : PySem.W.Frag} {B : Hp} : ∀ {ns : List Int} {vs : List V}, IsA K B (ns.map .int) vs → vs = ns.map V.int
  | [], _, h => isA_nil h
  | n :: ns, _, ⟨v, r, h1, h2, h3⟩ => by
    subst h1
    rw [show v = .int n from h2, isA_ints h3] <;> rfl
theorem ints_isA {K : PySem.W.Frag} {B : Hp} : ∀ (ns : List Int), IsA K B (ns.map .int) (ns.map V.int)
  | [] => rfl
  | n :: ns => ⟨_, _, rfl, rfl, ints_isA ns⟩
theorem isA_bls {K : PySem.W.Frag} {B : Hp} : ∀ {ns : List Bool} {vs : List V}, IsA K B (ns.map .bl) vs → vs = ns.map V.bl
  | [], _, h => isA_nil h
  | n :: ns, _, ⟨v, r, h1, h2, h3⟩ => by
    subst h1
    rw [show v = .bl n from h2, isA_bls h3] <;> rfl

/-! ### + - * // % ** -/
def gAdd : D → D → Option Rt
  | .int i, .int j => some (.v (.int (i + j)))
  | .str a, .str b => if a.length + b.length ≤ sizeLine then some (.v (.str (a ++ b))) else none
  | .lst a, .lst b => if a.length + b.length ≤ sizeLine then some (.l (a ++ b)) else none
  | .tup a, .tup b => if a.length + b.length ≤ sizeLine then some (.t (a ++ b)) else none
  | _, _ => none
def gSub : D → D → Option Rt
  | .int i, .int j => some (.v (.int (i - j)))
  | _, _ => none
def gMul : D → D → Option Rt
  | .int i, .int j => if i.natAbs.log2 + j.natAbs.log2 < 1000000 then some (.v (.int (i * j))) else none
  | .lst a, .int k => if -(2 ^ 63) ≤ k ∧ k < 2 ^ 63 ∧ a.length * k.toNat ≤ sizeLine then some (.l (List.replicate k.toNat a).flatten) else none
  | _, _ => none
def gDiv : D → D → Option Rt
  | .int i, .int j => if 0 < j ∧ j.natAbs.log2 < 9000 then some (.v (.int (i / j))) else none
  | _, _ => none
def gMod : D → D → Option Rt
  | .int i, .int j => if 0 < j then some (.v (.int (i % j))) else none
  | _, _ => none
def gPow : D → D → Option Rt
  | .int i, .int j => if 0 ≤ j ∧ j ≤ 1000000 ∧ i.natAbs < 2 ^ 64 then some (.v (.int (i ^ j.toNat))) else none
  | _, _ => none
section
variable {X : Cx}
abbrev rStr2 : R2 := fun x y H Q => ∃ i j, x = .str i ∧ y = .str j ∧ i.length + j.length ≤ sizeLine ∧ Q (.str (i ++ j)) H
abbrev rAddAll (K : PySem.W.Frag) : R2 := fun x y H Q => (((rI0 fun i j => V.int (i + j)) x y H Q ∨ rStr2 x y H Q) ∨ rCat x y H Q) ∨ rCatA K x y H Q
theorem op_addAll : OpR X (binaryOp .Add) (rAddAll X.K) := ((op_add.or op_add_str).or op_cat).or op_catA
theorem g_add : OpG X.K (rAddAll X.K) gAdd := by
  intro B H x y d e t Q ex hx hy hg q
  unfold gAdd at hg
  split at hg
  · rename_i i j
    cases hg
    exact .inl (.inl (.inl ⟨i, j, hx, hy, q _ rfl⟩))
  · rename_i a b
    split at hg
    · rename_i hz
      cases hg
      exact .inl (.inl (.inr ⟨a, b, hx, hy, hz, q _ rfl⟩))
    · cases hg
  · rename_i a b
    split at hg
    · rename_i hz
      cases hg
      obtain ⟨l, vs, rfl, h2, h3⟩ := hx
      obtain ⟨m, us, rfl, h5, h6⟩ := hy
      exact .inl (.inr ⟨l, m, vs, us, rfl, rfl, ex _ _ h2, ex _ _ h5, by rw [isA_len h3, isA_len h6]; exact hz, fun p hp => q p _ hp (isA_app h3 h6)⟩)
    · cases hg
  · rename_i a b
    split at hg
    · rename_i hz
      cases hg
      obtain ⟨l, vs, rfl, h2, h3⟩ := hx
      obtain ⟨m, us, rfl, h5, h6⟩ := hy
      refine .inr ⟨l, m, vs, us, rfl, rfl, Evl.ex_t ex h2, Evl.ex_t ex h5, by rw [isA_len h3, isA_len h6]; exact hz, fun e => q.1 _ ⟨m, us, rfl, h5, ?_⟩, fun e e2 => q.1 _ ⟨l, vs, rfl, h2, ?_⟩, fun _ _ p hp => q.2 p _ hp (isA_app h3 h6)⟩
      · subst e
        have := isA_len h3
        cases a with
        | nil => exact h6
        | cons _ _ => cases this
      · subst e2
        have := isA_len h6
        cases b with
        | nil => rw [List.append_nil]; exact h3
        | cons _ _ => cases this
    · cases hg
  · cases hg
theorem g_sub : OpG X.K (rI0 fun i j => V.int (i - j)) gSub := by
  intro B H x y d e t Q ex hx hy hg q
  unfold gSub at hg
  split at hg
  · cases hg
    exact ⟨_, _, hx, hy, q _ rfl⟩
  · cases hg
abbrev rMulAll : R2 := fun x y H Q => rI CMulW (fun i j => V.int (i * j)) x y H Q ∨ rRep x y H Q
theorem op_mulAll : OpR X (binaryOp .Mult) rMulAll := op_mulW.or op_rep
theorem g_mul : OpG X.K rMulAll gMul := by
  intro B H x y d e t Q ex hx hy hg q
  unfold gMul at hg
  split at hg
  · split at hg
    · rename_i hz
      cases hg
      exact .inl ⟨_, _, hx, hy, hz, q _ rfl⟩
    · cases hg
  · rename_i a k
    split at hg
    · rename_i hz
      cases hg
      obtain ⟨l, vs, rfl, h2, h3⟩ := hx
      exact .inr ⟨l, k, vs, rfl, hy, ex _ _ h2, hz.1, hz.2.1, by rw [isA_len h3]; exact hz.2.2, fun p hp => q p _ hp (isA_flat h3 _)⟩
    · cases hg
  · cases hg
theorem g_div : OpG X.K (rI CDivW fun i j => V.int (i / j)) gDiv := by
  intro B H x y d e t Q ex hx hy hg q
  unfold gDiv at hg
  split at hg
  · split at hg
    · rename_i hz
      cases hg
      exact ⟨_, _, hx, hy, hz, q _ rfl⟩
    · cases hg
  · cases hg
theorem g_mod : OpG X.K (rI (fun _ j => 0 < j) fun i j => V.int (i % j)) gMod := by
  intro B H x y d e t Q ex hx hy hg q
  unfold gMod at hg
  split at hg
  · split at hg
    · rename_i hz
      cases hg
      exact ⟨_, _, hx, hy, hz, q _ rfl⟩
    · cases hg
  · cases hg
theorem g_pow : OpG X.K (rI CPow fun i j => V.int (i ^ j.toNat)) gPow := by
  intro B H x y d e t Q ex hx hy hg q
  unfold gPow at hg
  split at hg
  · split at hg
    · rename_i hz
      cases hg
      exact ⟨_, _, hx, hy, hz, q _ rfl⟩
    · cases hg
  · cases hg
def gNeg : D → Option Rt
  | .int i => some (.v (.int (-i)))
  | _ => none
theorem g_neg : UnG X.K (rU fun i => .int (-i)) gNeg := by
  intro B H x d t Q ex hx hg q
  unfold gNeg at hg
  split at hg
  · cases hg
    exact ⟨_, hx, q _ rfl⟩
  · cases hg
/-! ### comparisons -/
def gCmp (f : Int → Int → Bool) : D → D → Option Rt
  | .int i, .int j => some (.v (.bl (f i j)))
  | _, _ => none
theorem g_cmp {f : Int → Int → Bool} : OpG X.K (rI0 fun i j => V.bl (f i j)) (gCmp f) := by
  intro B H x y d e t Q ex hx hy hg q
  unfold gCmp at hg
  split at hg
  · cases hg
    exact ⟨_, _, hx, hy, q _ rfl⟩
  · cases hg
abbrev gLt := gCmp fun i j => decide (i < j)
abbrev gLe := gCmp fun i j => decide (i ≤ j)
abbrev gGt := gCmp fun i j => decide (j < i)
abbrev gGe := gCmp fun i j => decide (j ≤ i)
def gEq : D → D → Option Rt := fun d e => if shp 40 d = true ∧ shp 40 e = true then some (.v (.bl (PyData.eqv d.py e.py))) else none
def gNe : D → D → Option Rt := fun d e => if shp 40 d = true ∧ shp 40 e = true then some (.v (.bl (!PyData.eqv d.py e.py))) else none
theorem g_eq : OpG X.K (rEqD X.K) gEq := by
  intro B H x y d e t Q ex hx hy hg q
  unfold gEq at hg
  split at hg
  · rename_i h
    cases hg
    exact ⟨_, _, dp_of ex 40 h.1 hx, dp_of ex 40 h.2 hy, shaped_of h.1, shaped_of h.2, q _ rfl⟩
  · cases hg
theorem g_ne : OpG X.K (rNeD X.K) gNe := by
  intro B H x y d e t Q ex hx hy hg q
  unfold gNe at hg
  split at hg
  · rename_i h
    cases hg
    exact ⟨_, _, dp_of ex 40 h.1 hx, dp_of ex 40 h.2 hy, shaped_of h.1, shaped_of h.2, q _ rfl⟩
  · cases hg
/-- is None -/
def D.isNon : D → Bool
  | .non => true
  | _ => false
def gIs : D → D → Option Rt
  | d, .non => some (.v (.bl d.isNon))
  | _, _ => none
def gIsNot : D → D → Option Rt
  | d, .non => some (.v (.bl (!d.isNon)))
  | _, _ => none
theorem non_iff {K : PySem.W.Frag} {B : Hp} {d : D} {v : V} (h : Is K B d v) : decide (v = .non) = d.isNon := by
  cases d with
  | non => rw [show v = .non from h] <;> rfl
  | bl b => rw [show v = .bl b from h] <;> rfl
  | int b => rw [show v = .int b from h] <;> rfl
  | str b => rw [show v = .str b from h] <;> rfl
  | scr b => obtain ⟨a, rfl, _⟩ := h; rfl
  | lst b => obtain ⟨a, _, rfl, _⟩ := h; rfl
  | tup b => obtain ⟨a, _, rfl, _⟩ := h; rfl
  | dic b => obtain ⟨a, _, rfl, _⟩ := h; rfl
  | obj b _ => obtain ⟨a, _, _, rfl, _⟩ := h; rfl
theorem g_is : OpG X.K (fun x y H Q => y = .non ∧ Q (.bl (decide (x = .non))) H) gIs := by
  intro B H x y d e t Q ex hx hy hg q
  unfold gIs at hg
  split at hg
  · cases hg
    exact ⟨hy, q _ (by rw [non_iff hx] <;> rfl)⟩
  · cases hg
theorem g_isnot : OpG X.K (fun x y H Q => y = .non ∧ Q (.bl (!decide (x = .non))) H) gIsNot := by
  intro B H x y d e t Q ex hx hy hg q
  unfold gIsNot at hg
  split at hg
  · cases hg
    exact ⟨hy, q _ (by rw [non_iff hx] <;> rfl)⟩
  · cases hg
/-- in a list, a tuple of plain things -/
def D.flat : D → Bool
  | .non => true
  | .bl _ => true
  | .int _ => true
  | .str _ => true
  | _ => false
def D.vf : D → V
  | .bl b => .bl b
  | .int i => .int i
  | .str x => .str x
  | _ => .non
theorem flat_v {K : PySem.W.Frag} {B : Hp} {d : D} {v : V} (f : d.flat = true) (h : Is K B d v) : v = d.vf ∧ flatV v = true := by
  cases d with
  | non => rw [show v = .non from h]; exact ⟨rfl, rfl⟩
  | bl b => rw [show v = .bl b from h]; exact ⟨rfl, rfl⟩
  | int b => rw [show v = .int b from h]; exact ⟨rfl, rfl⟩
  | str b => rw [show v = .str b from h]; exact ⟨rfl, rfl⟩
  | _ => cases f
theorem flats {K : PySem.W.Frag} {B : Hp} : ∀ {ds : List D} {vs : List V}, ds.all D.flat = true → IsA K B ds vs → vs = ds.map D.vf ∧ vs.all flatV = true
  | [], _, _, h => by rw [isA_nil h]; exact ⟨rfl, rfl⟩
  | d :: ds, _, f, ⟨v, r, h1, h2, h3⟩ => by
    subst h1
    rw [List.all_cons, Bool.and_eq_true] at f
    obtain ⟨e1, f1⟩ := flat_v f.1 h2
    obtain ⟨e2, f2⟩ := flats f.2 h3
    exact ⟨by rw [List.map_cons, ← e1, ← e2], by rw [List.all_cons, f1, f2] <;> rfl⟩
def gIn (neg : Bool) : D → D → Option Rt
  | d, .lst es => if d.flat = true ∧ es.all D.flat = true then some (.v (.bl (if neg then !inV d.vf (es.map D.vf) else inV d.vf (es.map D.vf)))) else none
  | d, .tup es => if d.flat = true ∧ es.all D.flat = true then some (.v (.bl (if neg then !inV d.vf (es.map D.vf) else inV d.vf (es.map D.vf)))) else none
  | _, _ => none
theorem g_in {neg : Bool} : OpG X.K (rIn X.K neg) (gIn neg) := by
  intro B H x y d e t Q ex hx hy hg q
  unfold gIn at hg
  split at hg
  · split at hg
    · rename_i hz
      cases hg
      obtain ⟨a, vs, rfl, h2, h3⟩ := hy
      obtain ⟨e1, f1⟩ := flat_v hz.1 hx
      obtain ⟨e2, f2⟩ := flats hz.2 h3
      refine ⟨a, vs, rfl, .inl (.inl (.inl (ex _ _ h2))), f1, f2, q _ ?_⟩
      rw [e1, e2]
      exact rfl
    · cases hg
  · split at hg
    · rename_i hz
      cases hg
      obtain ⟨a, vs, rfl, h2, h3⟩ := hy
      obtain ⟨e1, f1⟩ := flat_v hz.1 hx
      obtain ⟨e2, f2⟩ := flats hz.2 h3
      refine ⟨a, vs, rfl, .inr (Evl.ex_t ex h2), f1, f2, q _ ?_⟩
      rw [e1, e2]
      exact rfl
    · cases hg
  · cases hg
/-! ### x[i], x[a:b], x[::-1] -/
def gIx2 : D → D → Option Rt
  | .lst ds, .int i => (atI ds i).map .v
  | .tup ds, .int i => (atI ds i).map .v
  | .str z, .int i => if z.length ≤ sizeLine then (atI z.cps.toList i).map fun c => .v (.str ⟨#[c]⟩) else none
  | _, _ => none
theorem isA_atI {K : PySem.W.Frag} {B : Hp} {ds : List D} {vs : List V} {i : Int} {d : D} (h : IsA K B ds vs) (e : atI ds i = some d) : ∃ v, atI vs i = some v ∧ Is K B d v := by
  unfold atI at e ⊢
  rw [isA_len h]
  cases ej : ixN ds.length i with
  | none => rw [ej] at e; cases e
  | some j =>
    rw [ej] at e
    exact isA_get h e
theorem g_ix : OpG X.K (rIx X.K) gIx2 := by
  intro B H x y d e t Q ex hx hy hg q
  unfold gIx2 at hg
  split at hg
  · rename_i ds i
    cases ea : atI ds i with
    | none => rw [ea] at hg; cases hg
    | some z =>
      rw [ea] at hg
      cases hg
      obtain ⟨a, vs, rfl, h2, h3⟩ := hx
      obtain ⟨v, hv, hi⟩ := isA_atI h3 ea
      exact .inl ⟨a, vs, i, v, rfl, hy, .inl (.inl (ex _ _ h2)), hv, q v hi⟩
  · rename_i ds i
    cases ea : atI ds i with
    | none => rw [ea] at hg; cases hg
    | some z =>
      rw [ea] at hg
      cases hg
      obtain ⟨a, vs, rfl, h2, h3⟩ := hx
      obtain ⟨v, hv, hi⟩ := isA_atI h3 ea
      exact .inr (.inl ⟨a, vs, i, v, rfl, hy, Evl.ex_t ex h2, hv, q v hi⟩)
  · rename_i z i
    split at hg
    · rename_i hz
      cases ea : atI z.cps.toList i with
      | none => rw [ea] at hg; cases hg
      | some c =>
        rw [ea] at hg
        cases hg
        exact .inr (.inr ⟨z, i, c, hx, hy, hz, ea, q _ rfl⟩)
    · cases hg
  · cases hg
def cutD (ds : List D) (lo hi : Option Int) : List D := (ds.drop (HT.sIx ds.length 0 lo)).take (HT.sIx ds.length ds.length hi - HT.sIx ds.length 0 lo)
def gSl : D → Option Int → Option Int → Option Rt
  | .lst ds, lo, hi => some (.l (cutD ds lo hi))
  | .tup ds, lo, hi => some (.t (cutD ds lo hi))
  | .scr ns, lo, hi => some (.l ((cutV (ns.map V.int) lo hi).map fun v => match v with | .int i => .int i | _ => .non))
  | _, _, _ => none
theorem isA_cut {K : PySem.W.Frag} {B : Hp} {ds : List D} {vs : List V} (h : IsA K B ds vs) (lo hi : Option Int) : IsA K B (cutD ds lo hi) (cutV vs lo hi) := by
  unfold cutD cutV
  rw [isA_len h]
  exact isA_take _ (isA_drop _ h)
abbrev rSlAll (K : PySem.W.Frag) : V → Option Int → Option Int → Hp → VK → Prop := fun x lo hi H Q => rSlL K x lo hi H Q ∨ rSlA K x lo hi H Q
theorem sl_all : SlR X (rSlAll X.K) := sl_list.or sl_tupA
theorem cut_int (ns : List Int) (lo hi : Option Int) : cutV (ns.map V.int) lo hi = ((ns.drop (HT.sIx ns.length 0 lo)).take (HT.sIx ns.length ns.length hi - HT.sIx ns.length 0 lo)).map V.int := by
  unfold cutV
  rw [List.length_map, ← List.map_drop, ← List.map_take]
theorem g_sl : SlG X.K (rSlAll X.K) gSl := by
  intro B H x d lo hi t Q ex hx hg q
  unfold gSl at hg
  split at hg
  · cases hg
    obtain ⟨a, vs, rfl, h2, h3⟩ := hx
    exact .inl ⟨a, vs, rfl, .inl (.inl (ex _ _ h2)), fun p hp => q p _ hp (isA_cut h3 lo hi)⟩
  · cases hg
    rename_i ds
    obtain ⟨a, vs, rfl, h2, h3⟩ := hx
    refine .inr ⟨a, vs, rfl, Evl.ex_t ex h2, fun e => q.1 _ ⟨a, vs, rfl, h2, ?_⟩, fun _ p hp => q.2 p _ hp (isA_cut h3 lo hi)⟩
    have e1 : cutV vs lo hi = vs := by
      unfold cutV
      rw [e.1, e.2, List.drop_zero, Nat.sub_zero, List.take_length]
    have := isA_cut h3 lo hi
    rw [e1] at this
    exact this
  · cases hg
    rename_i ns
    obtain ⟨a, rfl, h2⟩ := hx
    refine .inl ⟨a, _, rfl, Evl.ex_l ex h2, fun p hp => q p _ hp ?_⟩
    rw [cut_int, List.map_map]
    exact ints_isA _
  · cases hg
def gRev : D → Option Rt
  | .lst ds => some (.l ds.reverse)
  | _ => none
theorem ed_rev {W : WF} {e : Expr} {fe : SD → R OT} {k : Nat} {p1 p2 p3 pos : Pos} (he : ED X W e fe) : ED X W (.Subscript e (.Slice none none (some (.UnaryOp .USub (.Constant (.int 1) k p1) p2)) p3) pos) (fUn gRev fe) := by
  obtain ⟨te, pe, se⟩ := he
  refine ⟨_, pe_revL pe, fun E σ sd P H Q rp q => ?_⟩
  have sim := sim_un (K := X.K) (W := W) (r := fun x H Q => ∃ a xs, x = .ref a ∧ SqL X.K H a xs ∧ ∀ p, H p = none → Q (.ref p) (upd H p (.lst xs.reverse))) (g := gRev) (fa := fe) (ta := te) (fun B H x d t Q ex hx hg q => by
    unfold gRev at hg
    split at hg
    · cases hg
      obtain ⟨a, vs, rfl, h2, h3⟩ := hx
      exact ⟨a, vs, rfl, .inl (.inl (ex _ _ h2)), fun p hp => q p _ hp (isA_rev h3)⟩
    · cases hg) se
  exact sim E σ sd P H Q rp q
/-! ### built-ins -/
def gLen : List D → Option Rt
  | [.lst ds] => some (.v (.int (ds.length : Nat)))
  | [.tup ds] => some (.v (.int (ds.length : Nat)))
  | [.str z] => if z.length ≤ sizeLine then some (.v (.int (z.length : Nat))) else none
  | _ => none
abbrev rLenAll (K : PySem.W.Frag) : List V → Hp → VK → Prop := fun xs H Q => (∃ p ys, xs = [.ref p] ∧ (SqL K H p ys ∨ SqT K H p ys) ∧ Q (.int ys.length) H) ∨ ∃ z, xs = [.str z] ∧ z.length ≤ sizeLine ∧ Q (.int z.length) H
theorem c_len : CallR X (.builtin "len") (rLenAll X.K) := call_len_seq.or call_len_str
theorem g_len : CaG X.K (rLenAll X.K) gLen := by
  intro B H xs ds t Q ex hx hg q
  unfold gLen at hg
  split at hg
  · cases hg
    obtain ⟨v, rfl, hv⟩ := isA_one hx
    obtain ⟨a, vs, rfl, h2, h3⟩ := hv
    exact .inl ⟨a, vs, rfl, .inl (.inl (.inl (ex _ _ h2))), q _ (by rw [isA_len h3] <;> rfl)⟩
  · cases hg
    obtain ⟨v, rfl, hv⟩ := isA_one hx
    obtain ⟨a, vs, rfl, h2, h3⟩ := hv
    exact .inl ⟨a, vs, rfl, .inr (Evl.ex_t ex h2), q _ (by rw [isA_len h3] <;> rfl)⟩
  · split at hg
    · rename_i z hz
      cases hg
      obtain ⟨v, rfl, hv⟩ := isA_one hx
      exact .inr ⟨z, by rw [show v = .str z from hv], hz, q _ rfl⟩
    · cases hg
  · cases hg
def gList : List D → Option Rt
  | [.lst ds] => some (.l ds)
  | [.tup ds] => some (.l ds)
  | _ => none
theorem g_list : CaG X.K (fun xs H Q => ∃ p ys, xs = [.ref p] ∧ (SqL X.K H p ys ∨ SqT X.K H p ys) ∧ ∀ l, H l = none → Q (.ref l) (upd H l (.lst ys))) gList := by
  intro B H xs ds t Q ex hx hg q
  unfold gList at hg
  split at hg
  · cases hg
    obtain ⟨v, rfl, hv⟩ := isA_one hx
    obtain ⟨a, vs, rfl, h2, h3⟩ := hv
    exact ⟨a, vs, rfl, .inl (.inl (.inl (ex _ _ h2))), fun l hl => q l vs hl h3⟩
  · cases hg
    obtain ⟨v, rfl, hv⟩ := isA_one hx
    obtain ⟨a, vs, rfl, h2, h3⟩ := hv
    exact ⟨a, vs, rfl, .inr (Evl.ex_t ex h2), fun l hl => q l vs hl h3⟩
  · cases hg
def gTuple : List D → Option Rt
  | [.lst ds] => some (.t ds)
  | [.tup ds] => some (.t ds)
  | _ => none
theorem g_tuple : CaG X.K (fun xs H Q => ∃ p ys, xs = [.ref p] ∧ ((SqL X.K H p ys ∧ ∀ l, H l = none → Q (.ref l) (upd H l (.tup ys))) ∨ (SqT X.K H p ys ∧ Q (.ref p) H))) gTuple := by
  intro B H xs ds t Q ex hx hg q
  unfold gTuple at hg
  split at hg
  · cases hg
    obtain ⟨v, rfl, hv⟩ := isA_one hx
    obtain ⟨a, vs, rfl, h2, h3⟩ := hv
    exact ⟨a, vs, rfl, .inl ⟨.inl (.inl (ex _ _ h2)), fun l hl => q.2 l vs hl h3⟩⟩
  · cases hg
    obtain ⟨v, rfl, hv⟩ := isA_one hx
    obtain ⟨a, vs, rfl, h2, h3⟩ := hv
    exact ⟨a, vs, rfl, .inr ⟨Evl.ex_t ex h2, q.1 _ ⟨a, vs, rfl, h2, h3⟩⟩⟩
  · cases hg
def gInt : List D → Option Rt
  | [.int i] => some (.v (.int i))
  | [.bl b] => some (.v (.int (if b then 1 else 0)))
  | _ => none
theorem g_int : CaG X.K (fun xs H Q => (∃ i, xs = [.int i] ∧ Q (.int i) H) ∨ ∃ k, xs = [.bl k] ∧ Q (.int (if k then 1 else 0)) H) gInt := by
  intro B H xs ds t Q ex hx hg q
  unfold gInt at hg
  split at hg
  · cases hg
    obtain ⟨v, rfl, hv⟩ := isA_one hx
    exact .inl ⟨_, by rw [show v = .int _ from hv], q _ rfl⟩
  · cases hg
    obtain ⟨v, rfl, hv⟩ := isA_one hx
    exact .inr ⟨_, by rw [show v = .bl _ from hv], q _ rfl⟩
  · cases hg
def gBool : List D → Option Rt
  | [.int i] => some (.v (.bl (i != 0)))
  | [.bl b] => some (.v (.bl b))
  | _ => none
theorem g_bool : CaG X.K (fun xs H Q => (∃ i, xs = [.int i] ∧ Q (.bl (i != 0)) H) ∨ ∃ k, xs = [.bl k] ∧ Q (.bl k) H) gBool := by
  intro B H xs ds t Q ex hx hg q
  unfold gBool at hg
  split at hg
  · cases hg
    obtain ⟨v, rfl, hv⟩ := isA_one hx
    exact .inl ⟨_, by rw [show v = .int _ from hv], q _ rfl⟩
  · cases hg
    obtain ⟨v, rfl, hv⟩ := isA_one hx
    exact .inr ⟨_, by rw [show v = .bl _ from hv], q _ rfl⟩
  · cases hg
def gAbs : List D → Option Rt
  | [.int i] => some (.v (.int (if i < 0 then -i else i)))
  | _ => none
theorem g_abs : CaG X.K (fun xs H Q => ∃ i, xs = [.int i] ∧ Q (.int (if i < 0 then -i else i)) H) gAbs := by
  intro B H xs ds t Q ex hx hg q
  unfold gAbs at hg
  split at hg
  · cases hg
    obtain ⟨v, rfl, hv⟩ := isA_one hx
    exact ⟨_, by rw [show v = .int _ from hv], q _ rfl⟩
  · cases hg
def gMax2 : List D → Option Rt
  | [.int i, .int j] => some (.v (.int (if j > i then j else i)))
  | _ => none
theorem g_max2 : CaG X.K (fun xs H Q => ∃ i j, xs = [.int i, .int j] ∧ Q (.int (if j > i then j else i)) H) gMax2 := by
  intro B H xs ds t Q ex hx hg q
  unfold gMax2 at hg
  split at hg
  · cases hg
    obtain ⟨v, u, rfl, hv, hu⟩ := isA_two hx
    exact ⟨_, _, by rw [show v = .int _ from hv, show u = .int _ from hu], q _ rfl⟩
  · cases hg
def gMin2 : List D → Option Rt
  | [.int i, .int j] => some (.v (.int (if j < i then j else i)))
  | _ => none
theorem g_min2 : CaG X.K (fun xs H Q => ∃ i j, xs = [.int i, .int j] ∧ Q (.int (if j < i then j else i)) H) gMin2 := by
  intro B H xs ds t Q ex hx hg q
  unfold gMin2 at hg
  split at hg
  · cases hg
    obtain ⟨v, u, rfl, hv, hu⟩ := isA_two hx
    exact ⟨_, _, by rw [show v = .int _ from hv, show u = .int _ from hu], q _ rfl⟩
  · cases hg
/-- the ints of a list -/
def intsD : List D → Option (List Int)
  | [] => some []
  | .int i :: ds => (intsD ds).map (i :: ·)
  | _ :: _ => none
theorem intsD_eq : ∀ {ds : List D} {ns : List Int}, intsD ds = some ns → ds = ns.map .int
  | [], _, h => by cases h; rfl
  | .int i :: ds, ns, h => by
    unfold intsD at h
    cases e : intsD ds with
    | none => rw [e] at h; cases h
    | some ms =>
      rw [e] at h
      cases h
      rw [List.map_cons, ← intsD_eq e]
  | .non :: _, _, h => by cases h
  | .bl _ :: _, _, h => by cases h
  | .str _ :: _, _, h => by cases h
  | .scr _ :: _, _, h => by cases h
  | .lst _ :: _, _, h => by cases h
  | .tup _ :: _, _, h => by cases h
  | .dic _ :: _, _, h => by cases h
  | .obj _ _ :: _, _, h => by cases h
theorem intsD_map : ∀ ns : List Int, intsD (ns.map .int) = some ns
  | [] => rfl
  | n :: ns => by rw [List.map_cons, intsD, intsD_map ns] <;> rfl
def blsD : List D → Option (List Bool)
  | [] => some []
  | .bl i :: ds => (blsD ds).map (i :: ·)
  | _ :: _ => none
theorem blsD_eq : ∀ {ds : List D} {ns : List Bool}, blsD ds = some ns → ds = ns.map .bl
  | [], _, h => by cases h; rfl
  | .bl i :: ds, ns, h => by
    unfold blsD at h
    cases e : blsD ds with
    | none => rw [e] at h; cases h
    | some ms =>
      rw [e] at h
      cases h
      rw [List.map_cons, ← blsD_eq e]
  | .non :: _, _, h => by cases h
  | .int _ :: _, _, h => by cases h
  | .str _ :: _, _, h => by cases h
  | .scr _ :: _, _, h => by cases h
  | .lst _ :: _, _, h => by cases h
  | .tup _ :: _, _, h => by cases h
  | .dic _ :: _, _, h => by cases h
  | .obj _ _ :: _, _, h => by cases h
theorem blsD_map : ∀ ns : List Bool, blsD (ns.map .bl) = some ns
  | [] => rfl
  | n :: ns => by rw [List.map_cons, blsD, blsD_map ns] <;> rfl
def gAll' : List D → Option Rt
  | [.lst ds] => (blsD ds).map fun bs => .v (.bl (bs.all id))
  | _ => none
theorem g_all : CaG X.K (rAll X.K) gAll' := by
  intro B H xs ds t Q ex hx hg q
  unfold gAll' at hg
  split at hg
  · rename_i ds
    cases e : blsD ds with
    | none => rw [e] at hg; cases hg
    | some bs =>
      rw [e] at hg
      cases hg
      rw [blsD_eq e] at hx
      obtain ⟨v, rfl, hv⟩ := isA_one hx
      obtain ⟨a, vs, rfl, h2, h3⟩ := hv
      rw [isA_bls h3] at h2
      exact ⟨a, bs, rfl, .inl (.inl (ex _ _ h2)), q _ rfl⟩
  · cases hg
def gAny : List D → Option Rt
  | [.lst ds] => (blsD ds).map fun bs => .v (.bl (bs.any id))
  | _ => none
theorem g_any : CaG X.K (rAny X.K) gAny := by
  intro B H xs ds t Q ex hx hg q
  unfold gAny at hg
  split at hg
  · rename_i ds
    cases e : blsD ds with
    | none => rw [e] at hg; cases hg
    | some bs =>
      rw [e] at hg
      cases hg
      rw [blsD_eq e] at hx
      obtain ⟨v, rfl, hv⟩ := isA_one hx
      obtain ⟨a, vs, rfl, h2, h3⟩ := hv
      rw [isA_bls h3] at h2
      exact ⟨a, bs, rfl, .inl (.inl (ex _ _ h2)), q _ rfl⟩
  · cases hg
def gSum : List D → Option Rt
  | [.lst ds] => (intsD ds).map fun ns => .v (.int ns.sum)
  | _ => none
theorem g_sum : CaG X.K (rSum X.K) gSum := by
  intro B H xs ds t Q ex hx hg q
  unfold gSum at hg
  split at hg
  · rename_i ds
    cases e : intsD ds with
    | none => rw [e] at hg; cases hg
    | some ns =>
      rw [e] at hg
      cases hg
      rw [intsD_eq e] at hx
      obtain ⟨v, rfl, hv⟩ := isA_one hx
      obtain ⟨a, vs, rfl, h2, h3⟩ := hv
      rw [isA_ints h3] at h2
      exact ⟨a, ns, rfl, .inl (.inl (ex _ _ h2)), q _ rfl⟩
  · cases hg
/-- the greatest, the least of some ints -/
def maxI : List Int → Option Int
  | [] => none
  | n :: ns => some (ns.foldl max n)
def minI : List Int → Option Int
  | [] => none
  | n :: ns => some (ns.foldl min n)
theorem foldl_max (ns : List Int) : ∀ n : Int, (ns.foldl max n = n ∨ ns.foldl max n ∈ ns) ∧ n ≤ ns.foldl max n ∧ ∀ y ∈ ns, y ≤ ns.foldl max n := by
  induction ns with
  | nil => exact fun n => ⟨.inl rfl, Int.le_refl n, fun y h => nomatch h⟩
  | cons m ns ih =>
    intro n
    obtain ⟨h1, h2, h3⟩ := ih (max n m)
    rw [List.foldl_cons]
    refine ⟨?_, by omega, fun y hy => ?_⟩
    · rcases h1 with h1 | h1
      · rw [h1]
        rcases Int.le_total n m with h | h
        · exact .inr (by rw [Int.max_eq_right h]; exact List.mem_cons_self)
        · exact .inl (Int.max_eq_left h)
      · exact .inr (List.mem_cons_of_mem _ h1)
    · rcases List.mem_cons.mp hy with e | hy
      · rw [e]; omega
      · exact h3 y hy
theorem foldl_min (ns : List Int) : ∀ n : Int, (ns.foldl min n = n ∨ ns.foldl min n ∈ ns) ∧ ns.foldl min n ≤ n ∧ ∀ y ∈ ns, ns.foldl min n ≤ y := by
  induction ns with
  | nil => exact fun n => ⟨.inl rfl, Int.le_refl n, fun y h => nomatch h⟩
  | cons m ns ih =>
    intro n
    obtain ⟨h1, h2, h3⟩ := ih (min n m)
    rw [List.foldl_cons]
    refine ⟨?_, by omega, fun y hy => ?_⟩
    · rcases h1 with h1 | h1
      · rw [h1]
        rcases Int.le_total n m with h | h
        · exact .inl (Int.min_eq_left h)
        · exact .inr (by rw [Int.min_eq_right h]; exact List.mem_cons_self)
      · exact .inr (List.mem_cons_of_mem _ h1)
    · rcases List.mem_cons.mp hy with e | hy
      · rw [e]; omega
      · exact h3 y hy
def gMax : List D → Option Rt
  | [.lst ds] => (intsD ds).bind fun ns => (maxI ns).map fun m => .v (.int m)
  | _ => none
def gMin : List D → Option Rt
  | [.lst ds] => (intsD ds).bind fun ns => (minI ns).map fun m => .v (.int m)
  | _ => none
theorem g_max : CaG X.K (rMax X.K) gMax := by
  intro B H xs ds t Q ex hx hg q
  unfold gMax at hg
  split at hg
  · rename_i ds
    cases e : intsD ds with
    | none => rw [e] at hg; cases hg
    | some ns =>
      rw [e] at hg
      cases ns with
      | nil => cases hg
      | cons n ns =>
        cases hg
        rw [intsD_eq e] at hx
        obtain ⟨v, rfl, hv⟩ := isA_one hx
        obtain ⟨a, vs, rfl, h2, h3⟩ := hv
        rw [isA_ints h3] at h2
        refine ⟨a, n :: ns, rfl, .inl (.inl (ex _ _ h2)), Nat.zero_lt_succ _, fun m hm hle => q _ ?_⟩
        obtain ⟨k1, k2, k3⟩ := foldl_max ns n
        have h4 := hle (ns.foldl max n) (by
          rcases k1 with k1 | k1
          · rw [k1]; exact List.mem_cons_self
          · exact List.mem_cons_of_mem _ k1)
        have h5 : m ≤ ns.foldl max n := by
          rcases List.mem_cons.mp hm with e | hm
          · rw [e]; exact k2
          · exact k3 m hm
        rw [Int.le_antisymm h5 h4]
        exact rfl
  · cases hg
theorem g_min : CaG X.K (rMin X.K) gMin := by
  intro B H xs ds t Q ex hx hg q
  unfold gMin at hg
  split at hg
  · rename_i ds
    cases e : intsD ds with
    | none => rw [e] at hg; cases hg
    | some ns =>
      rw [e] at hg
      cases ns with
      | nil => cases hg
      | cons n ns =>
        cases hg
        rw [intsD_eq e] at hx
        obtain ⟨v, rfl, hv⟩ := isA_one hx
        obtain ⟨a, vs, rfl, h2, h3⟩ := hv
        rw [isA_ints h3] at h2
        refine ⟨a, n :: ns, rfl, .inl (.inl (ex _ _ h2)), Nat.zero_lt_succ _, fun m hm hle => q _ ?_⟩
        obtain ⟨k1, k2, k3⟩ := foldl_min ns n
        have h4 := hle (ns.foldl min n) (by
          rcases k1 with k1 | k1
          · rw [k1]; exact List.mem_cons_self
          · exact List.mem_cons_of_mem _ k1)
        have h5 : ns.foldl min n ≤ m := by
          rcases List.mem_cons.mp hm with e | hm
          · rw [e]; exact k2
          · exact k3 m hm
        rw [Int.le_antisymm h4 h5]
        exact rfl
  · cases hg
/-- sorted ints -/
def sortI (ns : List Int) : List Int := ns.mergeSort fun a b => decide (a ≤ b)
theorem sortI_perm (ns : List Int) : (sortI ns).Perm ns := List.mergeSort_perm _ _
theorem sortI_pw (ns : List Int) : (sortI ns).Pairwise (· ≤ ·) := by
  have h := List.pairwise_mergeSort (le := fun a b : Int => decide (a ≤ b)) (fun a b c h1 h2 => by
    have h1 := of_decide_eq_true h1
    have h2 := of_decide_eq_true h2
    exact decide_eq_true (Int.le_trans h1 h2)) (fun a b => by
    rcases Int.le_total a b with h | h
    · rw [decide_eq_true h]; rfl
    · rw [decide_eq_true h, Bool.or_true]) ns
  exact h.imp fun h => of_decide_eq_true h
theorem sortI_uniq {ns ms : List Int} (h1 : ms.Perm ns) (h2 : ms.Pairwise (· ≤ ·)) : ms = sortI ns :=
  List.Perm.eq_of_pairwise (le := fun a b : Int => a ≤ b) (fun a b _ _ h1 h2 => Int.le_antisymm h1 h2) h2 (sortI_pw ns) (h1.trans (sortI_perm ns).symm)
def gSorted : List D → Option Rt
  | [.lst ds] => (intsD ds).map fun ns => .l ((sortI ns).map .int)
  | _ => none
theorem g_sorted : CaG X.K (rSortedI X.K) gSorted := by
  intro B H xs ds t Q ex hx hg q
  unfold gSorted at hg
  split at hg
  · rename_i ds
    cases e : intsD ds with
    | none => rw [e] at hg; cases hg
    | some ns =>
      rw [e] at hg
      cases hg
      rw [intsD_eq e] at hx
      obtain ⟨v, rfl, hv⟩ := isA_one hx
      obtain ⟨a, vs, rfl, h2, h3⟩ := hv
      rw [isA_ints h3] at h2
      refine ⟨a, ns, rfl, .inl (.inl (ex _ _ h2)), fun ns' p hp hw hn => ?_⟩
      rw [sortI_uniq hp hw]
      exact q p _ hn (ints_isA _)
  · cases hg
end
end DL

/-! DM: defs and their calls where nothing is being shown -/
namespace DL
open PySem L2 PySem.Spec PyProof.Rows

/-- room, and no repr under way -/
structure Rm (k : Nat) (A : Around) : Prop where
  room : Room k A
  gs : A.guards = some []
theorem Rm.mono {j k : Nat} {A : Around} (r : Rm k A) (h : j ≤ k) : Rm j A := ⟨r.room.mono h, r.gs⟩
theorem Rm.deeper {k : Nat} {A : Around} (r : Rm (k + 1) A) (env : Env) : Rm k (A.deeper env) := ⟨r.room.deeper env, r.gs⟩
theorem made_guards {A : Around} {C : Addr} {us : List Value} {kw : List (Str × Value)} : (A.under (.builtin "type.__call__" ⟨.ref C :: us, kw⟩)).guards = A.guards := by
  first
  | rfl
  | (cases A with
     | mk h d f g u => cases g <;> simp [Around.under, Code.guards, Code.isGuard, pushGuards, guardIds])
theorem Rm.make {k : Nat} {A : Around} (r : Rm (k + 1) A) (C : Addr) (us : List Value) (kw : List (Str × Value)) : Rm k (A.under (.builtin "type.__call__" ⟨.ref C :: us, kw⟩)) := ⟨r.room.make C us kw, made_guards.trans r.gs⟩

/-- a def keeps its promise -/
structure FnG (P : Program) (w : World) (K : PySem.W.Frag) (mg : Str → Option Value) (base : Heap) (k : Nat) (f : Addr) (fd : FuncData) (ps : List Str) (sp : Sp) : Prop where
  len : ∀ vs H Q E, sp vs H Q E → vs.length = ps.length
  run : ∀ (A : Around) (outer : List Env) (s : Shared) (H : Hp) (args : Args) (us : List Value) (vs : List V) (Q : VK) (E : XK),
    Rm k A → Env0 P w K mg base A outer s H → BindsTo s fd args (ps.zip us) → Vals vs us → sp vs H Q E → codeAny (model P w) A (.call (.ref f) args) (CR (L2.CX P w) outer P w H s Q E) s
theorem FnG.mono {P : Program} {w : World} {K : PySem.W.Frag} {mg : Str → Option Value} {base : Heap} {j k : Nat} {f : Addr} {fd : FuncData} {ps : List Str} {sp : Sp} (F : FnG P w K mg base j f fd ps sp) (h : j ≤ k) : FnG P w K mg base k f fd ps sp :=
  ⟨F.len, fun A outer s H args us vs Q E hr => F.run A outer s H args us vs Q E (hr.mono h)⟩

/-- the body's context -/
abbrev cxG (P : Program) (w : World) (K : PySem.W.Frag) (mg : Str → Option Value) (base : Heap) (N : List Str) (qual : Str) (scope : Scope) (f : Addr) (cd : Value) (A : Around) (outer : List Env) (s : Shared) (H : Hp) (E : XK) : Cx :=
  cxOf (L2.CX P w) P w K mg base N qual scope f cd A outer s H E
theorem cxG_takes {P : Program} {w : World} {K : PySem.W.Frag} {mg : Str → Option Value} {base : Heap} {N : List Str} {qual : Str} {scope : Scope} {f : Addr} {cd : Value} {A : Around} {outer : List Env} {s : Shared} {H : Hp} {E : XK} :
    Takes (cxG P w K mg base N qual scope f cd A outer s H E) (fun cls d _ H => E cls d H) := takes_of rfl rfl rfl rfl
theorem cxG_owns {P : Program} {w : World} {K : PySem.W.Frag} {mg : Str → Option Value} {base : Heap} {N : List Str} {qual : Str} {scope : Scope} {f : Addr} {cd : Value} {A : Around} {outer : List Env} {s : Shared} {H : Hp} {E : XK} :
    PassesOwn (model P w) (cxG P w K mg base N qual scope f cd A outer s H E).A (cxG P w K mg base N qual scope f cd A outer s H E).env (cxG P w K mg base N qual scope f cd A outer s H E).xe := PassesOwn.leaving

theorem FunD.okG {P : Program} {w : World} {K : PySem.W.Frag} {mg : Str → Option Value} {base : Heap} {x qual : Str} {params : Arguments} {body : List Stmt} {scope : Scope} {dvs : List V} {kws : List (Str × V)} {f : Addr} {fd : FuncData} {N ps : List Str} {k : Nat} {sp : Sp}
    (F : FunD K x qual params body scope dvs kws f fd) (S : FnScope N ps scope) (len : ∀ vs H Q E, sp vs H Q E → vs.length = ps.length)
    (hb : ∀ (cd : Value) (A : Around) (outer : List Env) (s : Shared) (H : Hp) (vs : List V) (Q : VK) (E : XK), Rm k (A.deeper (envOfC qual scope s.heap.objs.size f cd)) → sp vs H Q E →
      ∃ t, PSs (cxG P w K mg base N qual scope f cd A outer s H E) body t ∧ t { nx := fun _ H' => Q .non H', rt := Q } (start N vs) H) : FnG P w K mg base (k + 1) f fd ps sp := by
  obtain ⟨oc, od, dV, kV, doc, pm, an, cd, ct, osl, rfl, lk, hcd, _, _⟩ := F.ex
  refine ⟨len, fun A outer s H args us vs Q E room e0 bt rv hs => ?_⟩
  have hl := len _ _ _ _ hs
  have kin : K.In s.heap := e0.mod.kin.keeps fun b o e => (e0.bs b o e).1
  have nl : s.heap.NoLimit := e0.mod.nolimit.keeps fun b o e => (e0.bs b o e).1
  have known : ∀ y ∈ ps.zip us, scope.names.lookup y.1 = some .local ∨ (scope.names.lookup y.1 = some .cell ∧ ((cellsFrom (s.heap.objs.size + 1) scope.names []).lookup y.1).isSome = true) := by
    rintro ⟨n, v⟩ hy
    cases S.par n (List.of_mem_zip hy).1 with
    | inl q => exact .inl q
    | inr q => exact .inr ⟨q, PySem.W.cellsFrom_some _ _ _ (.inl q)⟩
  refine codeAny_call_function room.room.depth (kin _ _ lk) rfl S.co S.gen rfl (PySem.W.codeRec_of kin hcd) (bt _ _ _ _ ?_)
  refine wpAny_newFunctionEnv_cells S.kind known fun env ee s1 x => ?_
  subst ee
  refine ⟨nl.keeps x.toInCall.keep, codeAny_func ?_⟩
  obtain ⟨t, ht, hq⟩ := hb cd A outer s H vs Q E (room.deeper _) hs
  have I : Inv (cxG P w K mg base N qual scope f cd A outer s H E) [] (start N vs) H s1 := inv_start S room.room.hd e0 hl rv x
  refine wpAny_mono (ht.run [] s1 (start N vs) H _ I hq) (fun fl s' z => ?_) fun e s' z => z
  have done : ∀ {τ : L2.St} {G : Hp} {v : V} {u : Value}, Inv (cxG P w K mg base N qual scope f cd A outer s H E) [] τ G s' → RelV v u → Q v G → CE outer P w H s Q u s' := fun {τ G v u} J r q => ⟨v, G, J.os, J.bare, J.base, J.hok, r, q⟩
  cases fl with
  | ret u => exact let ⟨v, τ, G, J, r, q⟩ := z; done J r q
  | next => exact let ⟨τ, G, J, q⟩ := z; done (v := V.non) (u := Value.none) J rfl q
  | brk => exact let ⟨_, _, _, q⟩ := z; False.elim q
  | cont => exact let ⟨_, _, _, q⟩ := z; False.elim q

/-! ### calls -/
section
variable {X : Cx} {W : WX} {k : Nat} {f C : Addr} {fd : FuncData} {ps : List Str} {sp : Sp} {dvs : List V} {ds : List Value} {x m : Str} {p pos apos : Pos} {e o : Expr} {es : List Expr} {ta : TE} {t : TA}
def tCalD (sp : Sp) (dvs : List V) (W : WX) (t : TA) : TE := fun σ H Q => t σ H fun vs H1 => sp (vs ++ dvs) H1 Q (WE W σ)
def tMetD (C : Addr) (m : Str) (sp : Sp) (dvs : List V) (W : WX) (ta : TE) (t : TA) : TE := fun σ H Q => ta σ H fun x H1 => ∃ a dx fs, x = .ref a ∧ H1 a = some (.ins C dx fs) ∧ fs.lookup m = none ∧ t σ H1 fun vs H2 => sp (x :: (vs ++ dvs)) H2 Q (WE W σ)
def tMakD (C : Addr) (sp : Sp) (dvs : List V) (W : WX) (t : TA) : TE := fun σ H Q => t σ H fun vs H1 => ∀ x dx, H1 x = none → H1 dx = none → dx ≠ x →
  sp (.ref x :: (vs ++ dvs)) (upd (upd H1 dx (.own x)) x (.ins C dx [])) (fun v H2 => v = .non ∧ Q (.ref x) H2) (WE W σ)
theorem ended {pins : List (Addr × Obj)} {σ : L2.St} {H : Hp} {s : Shared} {Q : VK} (tk : Takes X W) (I : Inv X pins σ H s) {r : Result} {s' : Shared} (h : CR (L2.CX X.prog X.w) X.stack X.prog X.w H s Q (WE W σ) r s') :
    (match r with
      | .ok (.ret u) => EP X pins σ Q u s'
      | .ok _ => False
      | .error e => X.xe e s') := by
  cases r with
  | error e => exact passAt tk σ pins H s e s' I h
  | ok fl =>
    cases fl with
    | ret u => exact I.after h
    | _ => exact False.elim h
theorem run_g {pins : List (Addr × Obj)} {σ : L2.St} {H : Hp} {s : Shared} {Q : VK} {us : List Value} {vs : List V} (F : FnG X.prog X.w X.K X.mg X.base k f fd ps sp) (hr : Rm k X.A) (hb : Binds X.K fd ps ds) (hd : Vals dvs ds) (tk : Takes X W)
    (I : Inv X pins σ H s) (r : Vals vs us) (h : sp (vs ++ dvs) H Q (WE W σ)) : wpAny (model X.prog X.w) X.A (call (.ref f) us) (EP X pins σ Q) X.xe s := by
  have r2 := r.append hd
  have hl : (us ++ ds).length = ps.length := r2.length.symm.trans (F.len _ _ _ _ h)
  refine wpAny_call (codeAny_mono (F.run X.A X.stack s H ⟨us, []⟩ (us ++ ds) (vs ++ dvs) Q (WE W σ) hr I.env0 (hb s us I.kIn hl) r2 h) fun r s' z => ?_)
  have := ended tk I z
  cases r with
  | error e => exact this
  | ok fl =>
    cases fl with
    | ret u => exact this
    | _ => exact False.elim this
theorem pe_callG (F : FnG X.prog X.w X.K X.mg X.base k f fd ps sp) (hr : Rm k X.A) (hg : Gl X x) (hm : X.mg x = some (.ref f)) (hk : PySem.W.keepIn X.K (.ref f) = true) (hb : Binds X.K fd ps ds) (hd : Vals dvs ds) (tk : Takes X W) (ha : PA X (e :: es) t)
    (hdb : (x == ("__debug__" : Str)) = false := by decide) (hst : starEach (e :: es) X.env = (false, eval e X.env) :: starEach es X.env := by rfl) (hpl : (backTo pos (starEach es X.env)).any (·.1) = false := by rfl) : PE X (.Call (.Name x p) (e :: es) [] pos) (tCalD sp dvs W t) :=
  ⟨fun pins s σ H Q I h => wpAny_Call_Name_kw (ld_glob I hg hm (PySem.W.callWith_K (h₀ := X.base) I.ok.mod.kin hk (thn (ha.run pos pins s σ H _ I h) fun us s1 ⟨vs, H1, I1, r, q⟩ => ⟨I1.kIn, run_g F hr hb hd tk I1 r q⟩) hst hpl) hdb)⟩
theorem pe_callG0 (F : FnG X.prog X.w X.K X.mg X.base k f fd ps sp) (hr : Rm k X.A) (hg : Gl X x) (hm : X.mg x = some (.ref f)) (hk : PySem.W.keepIn X.K (.ref f) = true) (hb : Binds X.K fd ps ds) (hd : Vals dvs ds) (tk : Takes X W)
    (hdb : (x == ("__debug__" : Str)) = false := by decide) : PE X (.Call (.Name x p) [] [] pos) (tCalD sp dvs W tNil) :=
  ⟨fun pins s σ H Q I h => wpAny_Call_Name_kw (ld_glob I hg hm (PySem.W.callWith_K0 I.kIn hk (run_g (us := []) F hr hb hd tk I .nil h)) hdb)⟩
end
end DL

/-! DN: calls over trees -/
namespace DL
open PySem L2 PySem.Spec PyProof.Rows

section
variable {K : PySem.W.Frag} {fx : List Nat} {E : Ent fx} {B H : Hp} {σ : L2.St} {sd : SD} {P : PV} {Fp Fs : List Addr}
theorem set_same {σ : L2.St} {j : Nat} {v : V} (h : σ[j]? = some (some v)) : σ.set j (some v) = σ := by
  obtain ⟨hi, e⟩ := List.getElem?_eq_some_iff.mp h
  rw [← e]
  exact List.set_getElem_self hi
/-- a slot's tree becomes the first pending value -/
theorem RpB.lift {j : Nat} {t : OT} (r : RpB K E B σ sd P H Fp Fs) (hs : sd[j]? = some (some t)) : ∃ v F2 F1, σ[j]? = some (some v) ∧ RpB K E B σ (sd.set j none) ((v, t) :: P) H (F2 ++ Fp) F1 := by
  obtain ⟨v, F1, F2, F3, g1, g2, g3, g4⟩ := RepS.at_ r.sl hs
  subst g2
  have out : ∀ a ∈ F1 ++ F3, H a = H a ∧ B a = none := fun a ha => ⟨rfl, (r.sl.there a (by
    rcases List.mem_append.mp ha with z | z
    · exact List.mem_append_left _ z
    · exact List.mem_append_right _ (List.mem_append_right _ z))).1⟩
  obtain ⟨_, k2⟩ := g4 B H (Evl.Ex.refl _) out
  have pm : ((F2 ++ Fp) ++ (F1 ++ F3)).Perm (Fp ++ (F1 ++ (F2 ++ F3))) := by
    rw [List.perm_iff_count]
    intro b
    simp only [List.count_append]
    omega
  exact ⟨v, F2, F1 ++ F3, g1, r.fix, r.sub, RepL.cons_iff.mpr ⟨F2, Fp, rfl, g3, r.pe⟩, k2, pm.nodup_iff.mpr r.nd, r.go.ex, r.go.keep, r.go.ever, r.go.neu, fun a ha => r.go.own a (pm.subset ha)⟩
/-- .. and back -/
theorem RpB.lower {j : Nat} {t : OT} {v : V} (r : RpB K E B σ sd ((v, t) :: P) H Fp Fs) (hv : σ[j]? = some (some v)) : ∃ Gp Gs, RpB K E B σ (sd.set j (some t)) P H Gp Gs := by
  have hj : j < sd.length := by
    rw [← r.sl.length]
    exact (List.getElem?_eq_some_iff.mp hv).1
  obtain ⟨F1, F2, e2, h1, h2⟩ := RepL.cons_iff.mp (show RepL K B H _ Fp from r.pe)
  subst e2
  obtain ⟨S1, S2, S3, g1, g2, _⟩ := RepS.put r.sl hj
  subst g1
  have pm : ∀ X : List Addr, ((F1 ++ F2) ++ (S1 ++ (X ++ S3))).Perm (X ++ (F2 ++ (S1 ++ (F1 ++ S3)))) := fun X => by
    rw [List.perm_iff_count]
    intro b
    simp only [List.count_append]
    omega
  have sl := g2 t v F1 h1
  rw [set_same hv] at sl
  exact ⟨F2, S1 ++ (F1 ++ S3), r.fix, r.sub, h2, sl, nd_tail ((pm S2).nodup_iff.mp r.nd), r.go.ex, r.go.keep, r.go.ever, r.go.neu, fun a ha => r.go.own a ((pm S2).symm.subset (List.mem_append_right _ ha))⟩
theorem RpB.perm {P' : PV} (p : P.Perm P') (r : RpB K E B σ sd P H Fp Fs) : ∃ G, RpB K E B σ sd P' H G Fs := by
  obtain ⟨G, g1, g2⟩ := RepL.perm p (show RepL K B H P Fp from r.pe)
  refine ⟨G, r.fix, r.sub, g2, r.sl, (List.Perm.append_right Fs g1).nodup_iff.mp r.nd, r.go.ex, r.go.keep, r.go.ever, r.go.neu, fun a ha => r.go.own a ?_⟩
  rcases List.mem_append.mp ha with ha | ha
  · exact List.mem_append_left _ (g1.symm.subset ha)
  · exact List.mem_append_right _ ha
/-- behind a call: the caller's state with what the callee hands back. F1: what the callee was given -/
theorem RpB.ret {fx' : List Nat} {E' : Ent fx'} {B' H' : Hp} {σ' : L2.St} {sd' : SD} {L : PV} {F1 F2 Gp Gs : List Addr} (r : RpB K E B σ sd (P) H F2 Fs) (hnd : (F1 ++ (F2 ++ Fs)).Nodup) (hown : ∀ a ∈ F1, E.H a = none ∨ a ∈ E.F)
    (eB : E'.B = B) (eH : E'.H = H) (eF : E'.F = F1) (r' : RpB K E' B' σ' sd' L H' Gp Gs) : RpB K E B' σ sd (L ++ P) H' (Gp ++ F2) Fs := by
  have ex : Evl.Ex B B' := by rw [← eB]; exact r'.go.ex
  have keep : ∀ a ∈ F2 ++ Fs, H' a = H a ∧ B' a = none := fun a ha => by
    obtain ⟨h1, o, h2⟩ := r.there a ha
    have ni : a ∉ F1 := fun z => nd_ne hnd z ha
    refine ⟨?_, ?_⟩
    · rw [h2]
      exact r'.go.keep a o (by rw [eH]; exact h2) (by rw [eF]; exact ni)
    · cases q : B' a with
      | none => rfl
      | some u =>
        rcases r'.go.neu a u q with z | z | z
        · rw [eB, h1] at z; cases z
        · rw [eH, h2] at z; cases z
        · rw [eF] at z; exact absurd z ni
  have apart : ∀ a ∈ Gp, a ∉ F2 ++ Fs := fun a ha hz => by
    obtain ⟨h1, o, h2⟩ := r.there a hz
    rcases r'.go.own a (List.mem_append_left _ ha) with z | z
    · rw [eH, h2] at z; cases z
    · rw [eF] at z; exact nd_ne hnd z hz
  refine ⟨r.fix, r'.sub, RepL.append_iff.mpr ⟨Gp, F2, rfl, r'.pe, RepA.mono ex (fun a ha => keep a (List.mem_append_left _ ha)) r.pe⟩, r.sl.mono ex (fun a ha => keep a (List.mem_append_right _ ha)), ?_, ?_, ?_, ?_, ?_, ?_⟩
  · rw [List.append_assoc, List.nodup_append]
    exact ⟨nd_head r'.nd, r.nd, fun a ha b hb e => apart a ha (by rw [e]; exact hb)⟩
  · exact fun a o e => ex a o (r.go.ex a o e)
  · intro a o e n
    refine r'.go.keep a o (by rw [eH]; exact r.go.keep a o e n) ?_
    rw [eF]
    intro z
    rcases hown a z with q | q
    · rw [e] at q; cases q
    · exact n q
  · intro a o e
    obtain ⟨u, hu⟩ := r.go.ever a o e
    exact r'.go.ever a u (by rw [eH]; exact hu)
  · intro a o e
    rcases r'.go.neu a o e with z | z | z
    · rw [eB] at z
      exact r.go.neu a o z
    · rw [eH] at z
      exact .inr (.inl (r.go.fresh z))
    · rw [eF] at z
      exact .inr (hown a z)
  · intro a ha
    rw [List.append_assoc] at ha
    rcases List.mem_append.mp ha with ha | ha
    · rcases r'.go.own a (List.mem_append_left _ ha) with z | z
      · rw [eH] at z
        exact .inl (r.go.fresh z)
      · rw [eF] at z
        exact hown a z
    · exact r.go.own a ha
end

/-! ### what a def computes -/
inductive FR where
  | ok (t : OT) (bk : SD) | ex (e : Exn) (bk : SD) | no
def endF : RS → FR
  | .rt t s => .ok t s
  | .nx s => .ok (.fz .non) s
  | .ex e s => .ex e s
  | _ => .no
/-- m: the names that are no parameters -/
def fnD (m : Nat) (body : SD → RS) : List OT → FR := fun us => endF (body (us.map some ++ List.replicate m none))
/-- the promise: fx, the parameters that keep their values -/
def spD (K : PySem.W.Frag) (n : Nat) (fx : List Nat) (F : List OT → FR) : Sp := fun vs H Q E => vs.length = n ∧ ∃ (B : Hp) (Fa : List Addr) (us : List OT), Evl.Ex B H ∧ RepA K B H us vs Fa ∧ Fa.Nodup ∧ (match F us with
  | .ok t bk => ∀ v H' σ', Rp K (⟨vs.map some, B, H, Fa⟩ : Ent fx) σ' bk [(v, t)] H' → Q v H'
  | .ex e bk => ∀ cls dd H' σ', Rx K (⟨vs.map some, B, H, Fa⟩ : Ent fx) σ' bk [] e cls dd H' → E cls dd H'
  | .no => False)
theorem repS_none {K : PySem.W.Frag} {B H : Hp} : ∀ m : Nat, RepS K B H (List.replicate m none) (List.replicate m none) []
  | 0 => ⟨rfl, rfl⟩
  | m + 1 => ⟨none, _, rfl, repS_none m⟩
theorem repS_args {K : PySem.W.Frag} {B H : Hp} {m : Nat} : ∀ {us : List OT} {vs : List V} {F : List Addr}, RepA K B H us vs F → RepS K B H (us.map some ++ List.replicate m none) (vs.map some ++ List.replicate m none) F
  | [], _, _, ⟨h1, h2⟩ => by
    rw [h1, h2]
    exact repS_none m
  | t :: us, _, _, ⟨v, r, F1, F2, h1, h2, h3, h4⟩ => by
    rw [h1]
    exact ⟨v, _, F1, F2, rfl, h2, h3, repS_args h4⟩
section
variable {P : Program} {w : World} {K : PySem.W.Frag} {mg : Str → Option Value} {base : Heap} {x qual : Str} {params : Arguments} {body : List Stmt} {scope : Scope} {dvs : List V} {kws : List (Str × V)} {f : Addr} {fd : FuncData} {N ps : List Str} {k : Nat}
/-- a def, by the reading of its body -/
theorem FunD.okD {fx : List Nat} {m : Nat} {g : SD → RS} (F : FunD K x qual params body scope dvs kws f fd) (S : FnScope N ps scope) (hm : N.length = ps.length + m) (hfx : ∀ i ∈ fx, i < ps.length)
    (hb : ∀ (cd : Value) (A : Around) (outer : List Env) (s : Shared) (H : Hp) (E : XK), Rm k (A.deeper (envOfC qual scope s.heap.objs.size f cd)) →
      BD (cxG P w K mg base N qual scope f cd A outer s H E) ⟨fun cls d _ H => E cls d H, fx⟩ body g) : FnG P w K mg base (k + 1) f fd ps (spD K ps.length fx (fnD m g)) := by
  refine FunD.okG F S (fun vs H Q E h => h.1) fun cd A outer s H vs Q E hr h => ?_
  obtain ⟨hl, B, Fa, us, ex, ra, nd, q⟩ := h
  obtain ⟨t, pt, st⟩ := hb cd A outer s H E hr
  refine ⟨t, pt, ?_⟩
  have est : L2.start N vs = vs.map some ++ List.replicate m none := by
    unfold L2.start
    rw [hl, hm, Nat.add_sub_cancel_left]
  let En : Ent fx := ⟨vs.map some, B, H, Fa⟩
  have rp : Rp K En (L2.start N vs) (us.map some ++ List.replicate m none) [] H := by
    refine ⟨B, [], Fa, fun i hi => ?_, ex, ⟨rfl, rfl⟩, ?_, by rw [List.nil_append]; exact nd, Evl.Ex.refl _, fun a o e _ => e, fun a o e => ⟨o, e⟩, fun a o e => .inl e, fun a ha => .inr (by rw [List.nil_append] at ha; exact ha)⟩
    · rw [est]
      exact List.getElem?_append_left (by rw [List.length_map, hl]; exact hfx i hi)
    · rw [est]
      exact repS_args ra
  refine st En (L2.start N vs) _ [] H _ rp ?_
  have q' : (match endF (g (us.map some ++ List.replicate m none)) with
    | .ok t bk => ∀ v H' σ', Rp K En σ' bk [(v, t)] H' → Q v H'
    | .ex e bk => ∀ cls dd H' σ', Rx K En σ' bk [] e cls dd H' → E cls dd H'
    | .no => False) := q
  cases eg : g (us.map some ++ List.replicate m none) with
  | nx s1 =>
    rw [eg] at q'
    intro σ' H' r'
    obtain ⟨B', Fp, Fs, rb⟩ := r'
    exact q' .non H' σ' (rb.put (d := .non) rfl).rp
  | rt t1 s1 =>
    rw [eg] at q'
    exact fun v σ' H' r' => q' v H' σ' r'
  | ex e1 s1 =>
    rw [eg] at q'
    exact fun cls dd σ' H' r' => q' cls dd H' σ' r'
  | bk s1 => rw [eg] at q'; exact False.elim q'
  | ct s1 => rw [eg] at q'; exact False.elim q'
  | no => rw [eg] at q'; exact q'
end

/-! ### arguments: values, and slots that are lent -/
inductive AT where
  | v (t : OT) | s (j : Nat)
def pend : List V → List AT → PV
  | v :: vs, .v t :: ts => (v, t) :: pend vs ts
  | _ :: vs, .s _ :: ts => pend vs ts
  | _, _ => []
def atOk (σ : L2.St) : List V → List AT → Prop
  | [], [] => True
  | _ :: vs, .v _ :: ts => atOk σ vs ts
  | v :: vs, .s j :: ts => σ[j]? = some (some v) ∧ atOk σ vs ts
  | _, _ => False
def takeOut : List AT → SD → Option (List OT × SD)
  | [], s => some ([], s)
  | .v t :: ts, s => match takeOut ts s with
    | some (us, s') => some (t :: us, s')
    | none => none
  | .s j :: ts, s => match s[j]? with
    | some (some t) => (match takeOut ts (s.set j none) with
      | some (us, s') => some (t :: us, s')
      | none => none)
    | _ => none
/-- what the callee gives back: the slot, the parameter, the tree -/
def lents (fx : List Nat) (bk : SD) : Nat → List AT → List (Nat × Nat × OT)
  | _, [] => []
  | k, .v _ :: ts => lents fx bk (k + 1) ts
  | k, .s j :: ts => if k ∈ fx then (match bk[k]? with
    | some (some t) => (j, k, t) :: lents fx bk (k + 1) ts
    | _ => lents fx bk (k + 1) ts) else lents fx bk (k + 1) ts
def backs : List (Nat × Nat × OT) → SD → SD
  | [], s => s
  | (j, _, t) :: r, s => backs r (s.set j (some t))
def fCall (fx : List Nat) (F : List OT → FR) (dd : List D) (fa : SD → R (List AT)) : SD → R OT := fun sd => (fa sd).bind fun ts s1 => match takeOut ts s1 with
  | some (us, s2) => (match F (us ++ dd.map .fz) with
    | .ok t bk => .ok t (backs (lents fx bk 0 ts) s2)
    | .ex e bk => .ex e (backs (lents fx bk 0 ts) s2)
    | .no => .no)
  | none => .no
structure LD (X : Cx) (W : WF) (es : List Expr) (f : SD → R (List AT)) : Prop where
  ex : ∃ te, PA X es te ∧ ∀ (E : Ent W.fx) σ sd P H (Q : List V → Hp → Prop), Rp X.K E σ sd P H → (match f sd with
    | .ok ts s => ∀ vs H', atOk σ vs ts → Rp X.K E σ s (pend vs ts ++ P) H' → Q vs H'
    | .ex e s => ∀ cls dd H', Rx X.K E σ s P e cls dd H' → W cls dd σ H'
    | .no => False) → te σ H Q
def lNil : SD → R (List AT) := fun sd => .ok [] sd
def lCons (fa : SD → R OT) (fr : SD → R (List AT)) : SD → R (List AT) := fun sd => (fa sd).bind fun x s1 => (fr s1).bind fun xs s2 => .ok (.v x :: xs) s2
/-- a slot of which nothing need be known -/
def lLent (j : Nat) (fr : SD → R (List AT)) : SD → R (List AT) := fun sd => match sd[j]? with
  | some (some _) => (fr sd).bind fun xs s2 => .ok (.s j :: xs) s2
  | _ => .no
section
variable {X : Cx} {W : WF} {a : Expr} {es : List Expr} {fa : SD → R OT} {fr : SD → R (List AT)} {x : Str} {p : Pos}
theorem ld_nil : LD X W [] lNil := ⟨_, pa_nil, fun E σ sd P H Q rp q => q [] H trivial rp⟩
theorem ld_cons (ha : ED X W a fa) (hr : LD X W es fr) (hs : starEach (a :: es) X.env = (false, eval a X.env) :: starEach es X.env := by rfl) : LD X W (a :: es) (lCons fa fr) := by
  obtain ⟨ta, pa, sa⟩ := ha
  obtain ⟨tr, pr, sr⟩ := hr
  refine ⟨_, pa_cons pa pr hs, fun E σ sd P H Q rp q => ?_⟩
  unfold lCons at q
  refine SimE.on sa rp (fun y s1 e1 v H1 r1 => ?_) (fun e s e1 => by rw [e1] at q; exact q) (fun z => by rw [z] at q; exact q)
  rw [e1] at q
  have q' : (match (fr s1).bind fun xs s2 => R.ok (AT.v y :: xs) s2 with
    | .ok ts s => ∀ vs H', atOk σ vs ts → Rp X.K E σ s (pend vs ts ++ P) H' → Q vs H'
    | .ex e s => ∀ cls dd H', Rx X.K E σ s P e cls dd H' → W cls dd σ H'
    | .no => False) := q
  refine sr E σ s1 ((v, y) :: P) H1 _ r1 ?_
  cases e2 : fr s1 with
  | no => rw [e2] at q'; exact q'
  | ex e s => rw [e2] at q'; exact fun cls dd H' rx => q' cls dd H' rx.drop
  | ok ts s2 =>
    rw [e2] at q'
    exact fun vs H' hok r2 => q' (v :: vs) H' hok (r2.perm List.perm_middle)
theorem ld_lent {j : Nat} (hp : PE X (.Name x p) (tVar j)) (hr : LD X W es fr) (hs : starEach (.Name x p :: es) X.env = (false, eval (.Name x p) X.env) :: starEach es X.env := by rfl) : LD X W (.Name x p :: es) (lLent j fr) := by
  obtain ⟨tr, pr, sr⟩ := hr
  refine ⟨_, pa_cons hp pr hs, fun E σ sd P H Q rp q => ?_⟩
  unfold lLent at q
  cases et : sd[j]? with
  | none => rw [et] at q; exact False.elim q
  | some o =>
    cases o with
    | none => rw [et] at q; exact False.elim q
    | some t =>
      rw [et] at q
      have q1 : (match (fr sd).bind fun xs s2 => R.ok (AT.s j :: xs) s2 with
        | .ok ts s => ∀ vs H', atOk σ vs ts → Rp X.K E σ s (pend vs ts ++ P) H' → Q vs H'
        | .ex e s => ∀ cls dd H', Rx X.K E σ s P e cls dd H' → W cls dd σ H'
        | .no => False) := q
      have rp0 := rp
      obtain ⟨B, Fp, Fs, rb⟩ := rp
      obtain ⟨v, _, _, _, g1, _⟩ := RepS.at_ rb.sl et
      refine ⟨v, g1, ?_⟩
      refine sr E σ sd P H _ rp0 ?_
      cases e2 : fr sd with
      | no => rw [e2] at q1; exact q1
      | ex e s => rw [e2] at q1; exact q1
      | ok ts s2 =>
        rw [e2] at q1
        exact fun vs H' hok r2 => q1 (v :: vs) H' ⟨g1, hok⟩ r2
end
section
variable {K : PySem.W.Frag} {fx : List Nat} {E : Ent fx} {H : Hp} {σ : L2.St} {P : PV}
/-- the arguments stand ready -/
theorem take_out : ∀ {ts : List AT} {vs : List V} {sd s' : SD} {us : List OT} {P : PV}, atOk σ vs ts → takeOut ts sd = some (us, s') → Rp K E σ sd (pend vs ts ++ P) H → vs.length = us.length ∧ Rp K E σ s' (vs.zip us ++ P) H
  | [], [], sd, s', us, P, _, h, r => by
    cases h
    exact ⟨rfl, r⟩
  | [], _ :: _, _, _, _, _, h, _, _ => False.elim h
  | .v t :: ts, [], _, _, _, _, h, _, _ => False.elim h
  | .s t :: ts, [], _, _, _, _, h, _, _ => False.elim h
  | .v t :: ts, v :: vs, sd, s', us, P, hok, h, r => by
    unfold takeOut at h
    split at h
    · rename_i us0 s0 e0
      cases h
      have r2 : Rp K E σ sd (pend vs ts ++ (v, t) :: P) H := r.perm List.perm_middle.symm
      obtain ⟨l, r3⟩ := take_out (ts := ts) (vs := vs) hok e0 r2
      exact ⟨congrArg Nat.succ l, r3.perm List.perm_middle⟩
    · cases h
  | .s j :: ts, v :: vs, sd, s', us, P, hok, h, r => by
    unfold takeOut at h
    split at h
    · rename_i t et
      split at h
      · rename_i us0 s0 e0
        cases h
        obtain ⟨B, Fp, Fs, rb⟩ := r
        obtain ⟨v', F2, F1, g1, rb2⟩ := rb.lift et
        rw [hok.1] at g1
        cases g1
        have r2 : Rp K E σ (sd.set j none) (pend vs ts ++ (v, t) :: P) H := rb2.rp.perm List.perm_middle.symm
        obtain ⟨l, r3⟩ := take_out (ts := ts) (vs := vs) hok.2 e0 r2
        exact ⟨congrArg Nat.succ l, r3.perm List.perm_middle⟩
      · cases h
    · cases h
/-- the lent slots' trees, pending in the callee -/
theorem lift_all {vs : List V} {bk : SD} {B : Hp} {s0 : L2.St} (es0 : E.s0 = vs.map some) : ∀ {ts : List AT} {k : Nat} {ws : List V} {sd : SD} {P : PV} {Fp Fs : List Addr}, (∀ i, k ≤ i → sd[i]? = bk[i]?) → (∀ i, i < ws.length → ws[i]? = vs[k + i]?) → atOk s0 ws ts →
    RpB K E B σ sd P H Fp Fs → ∃ (L : PV) (sd' : SD) (Gp Gs : List Addr), RpB K E B σ sd' (L ++ P) H Gp Gs ∧ L.length = (lents fx bk k ts).length ∧ (∀ (i : Nat) (v : V) (t : OT), L[i]? = some (v, t) → ∃ j q, (lents fx bk k ts)[i]? = some (j, q, t) ∧ s0[j]? = some (some v))
  | [], k, ws, sd, P, Fp, Fs, _, _, _, r => ⟨[], sd, Fp, Fs, r, rfl, fun i v t h => by cases h⟩
  | .v t :: ts, k, [], _, _, _, _, _, _, h, _ => False.elim h
  | .s t :: ts, k, [], _, _, _, _, _, _, h, _ => False.elim h
  | .v t :: ts, k, w :: ws, sd, P, Fp, Fs, h1, h2, h3, r => by
    unfold lents
    exact lift_all (bk := bk) es0 (ts := ts) (k := k + 1) (ws := ws) (fun i hi => h1 i (by omega)) (fun i hi => by
      have := h2 (i + 1) (Nat.succ_lt_succ hi)
      rw [List.getElem?_cons_succ] at this
      rw [this]
      congr 1
      omega) h3 r
  | .s j :: ts, k, w :: ws, sd, P, Fp, Fs, h1, h2, h3, r => by
    have nx : ∀ i, i < ws.length → ws[i]? = vs[k + 1 + i]? := fun i hi => by
      have := h2 (i + 1) (Nat.succ_lt_succ hi)
      rw [List.getElem?_cons_succ] at this
      rw [this]
      congr 1
      omega
    unfold lents
    by_cases hk : k ∈ fx
    · rw [if_pos hk]
      split
      · rename_i t et
        have es : sd[k]? = some (some t) := (h1 k (Nat.le_refl _)).trans et
        obtain ⟨v, F2, F1, g1, r2⟩ := r.lift es
        have ev : v = w := by
          have a1 := r.fix k hk
          rw [g1, es0, List.getElem?_map] at a1
          have a2 := h2 0 (Nat.succ_pos _)
          rw [Nat.add_zero, List.getElem?_cons_zero] at a2
          rw [← a2] at a1
          cases a1
          rfl
        subst ev
        obtain ⟨L, sd', Gp, Gs, q1, q3, q4⟩ := lift_all (bk := bk) es0 (ts := ts) (k := k + 1) (ws := ws) (sd := sd.set k none) (fun i hi => by
          rw [List.getElem?_set_ne (by omega)]
          exact h1 i (by omega)) nx h3.2 r2
        obtain ⟨G, q5⟩ := q1.perm (P' := ((v, t) :: L) ++ P) List.perm_middle
        refine ⟨(v, t) :: L, sd', G, Gs, q5, by rw [List.length_cons, List.length_cons, q3], fun i v' t' h => ?_⟩
        cases i with
        | zero =>
          cases h
          exact ⟨j, k, rfl, h3.1⟩
        | succ i =>
          obtain ⟨j', q', a1, a2⟩ := q4 i v' t' h
          exact ⟨j', q', a1, a2⟩
      · exact lift_all (bk := bk) es0 (ts := ts) (k := k + 1) (ws := ws) (fun i hi => h1 i (by omega)) nx h3.2 r
    · rw [if_neg hk]
      exact lift_all (bk := bk) es0 (ts := ts) (k := k + 1) (ws := ws) (fun i hi => h1 i (by omega)) nx h3.2 r
/-- .. and in the caller's slots again -/
theorem lower_all {B : Hp} : ∀ {l : List (Nat × Nat × OT)} {L : PV} {sd : SD} {P : PV} {Fp Fs : List Addr}, L.length = l.length → (∀ (i : Nat) (v : V) (t : OT), L[i]? = some (v, t) → ∃ j q, l[i]? = some (j, q, t) ∧ σ[j]? = some (some v)) → RpB K E B σ sd (L ++ P) H Fp Fs → ∃ Gp Gs, RpB K E B σ (backs l sd) P H Gp Gs
  | [], [], sd, P, Fp, Fs, _, _, r => ⟨Fp, Fs, r⟩
  | [], _ :: _, _, _, _, _, h, _, _ => by cases h
  | _ :: _, [], _, _, _, _, h, _, _ => by cases h
  | (j, q, t) :: l, (v, t') :: L, sd, P, Fp, Fs, hl, h, r => by
    obtain ⟨j', q', a1, a2⟩ := h 0 v t' rfl
    cases a1
    obtain ⟨Gp, Gs, r2⟩ := RpB.lower (P := L ++ P) r a2
    exact lower_all (l := l) (L := L) (Nat.succ.inj hl) (fun i v t e => h (i + 1) v t e) r2
end
theorem isA_fz {K : PySem.W.Frag} {B H : Hp} : ∀ {ds : List D} {vs : List V}, IsA K B ds vs → RepA K B H (ds.map .fz) vs []
  | [], _, h => ⟨h, rfl⟩
  | d :: ds, _, ⟨v, r, h1, h2, h3⟩ => ⟨v, r, [], [], h1, rfl, ⟨rfl, h2⟩, isA_fz h3⟩
theorem repA_app {K : PySem.W.Frag} {B H : Hp} : ∀ {us ts : List OT} {vs ws : List V} {F G : List Addr}, RepA K B H us vs F → RepA K B H ts ws G → RepA K B H (us ++ ts) (vs ++ ws) (F ++ G)
  | [], _, _, _, _, _, ⟨h1, h2⟩, k => by
    rw [h1, h2]
    exact k
  | t :: us, _, _, _, _, G, ⟨v, r, F1, F2, h1, h2, h3, h4⟩, k => by
    subst h1 h2
    exact ⟨v, _, F1, F2 ++ G, rfl, by rw [List.append_assoc], h3, repA_app h4 k⟩
section
variable {X : Cx} {W : WF} {k n : Nat} {f : Addr} {fd : FuncData} {ps : List Str} {fx : List Nat} {F : List OT → FR} {dvs : List V} {dd : List D} {ds : List Value} {x : Str} {p pos : Pos} {e : Expr} {es : List Expr} {fa : SD → R (List AT)}
/-- the promise is called upon -/
theorem use_sp {E : Ent W.fx} {σ : L2.St} {s1 : SD} {P : PV} {H : Hp} {Q : VK} {ts : List AT} {vs : List V} (hn : vs.length + dvs.length = n) (hdd : ∀ B, IsA X.K B dd dvs) (hok : atOk σ vs ts) (r : Rp X.K E σ s1 (pend vs ts ++ P) H)
    (q : okE X.K W E σ P Q (match takeOut ts s1 with
      | some (us, s2) => (match F (us ++ dd.map .fz) with
        | .ok t bk => .ok t (backs (lents fx bk 0 ts) s2)
        | .ex e bk => .ex e (backs (lents fx bk 0 ts) s2)
        | .no => .no)
      | none => .no)) : spD X.K n fx F (vs ++ dvs) H Q (WE W.w σ) := by
  split at q
  · rename_i us s2 et
    obtain ⟨hl, r2⟩ := take_out hok et r
    obtain ⟨B, Fp, Fs, rb⟩ := r2
    obtain ⟨F1, F2, e0, h1, h2⟩ := RepL.append_iff.mp (show RepL X.K B H _ Fp from rb.pe)
    subst e0
    have nd := rb.nd
    rw [List.append_assoc] at nd
    have r0 : RpB X.K E B σ s2 P H F2 Fs := ⟨rb.fix, rb.sub, h2, rb.sl, nd_tail nd, rb.go.ex, rb.go.keep, rb.go.ever, rb.go.neu, fun a ha => rb.go.own a (by rw [List.append_assoc]; exact List.mem_append_right _ ha)⟩
    have own1 : ∀ a ∈ F1, E.H a = none ∨ a ∈ E.F := fun a ha => rb.go.own a (List.mem_append_left _ (List.mem_append_left _ ha))
    refine ⟨by rw [List.length_append]; exact hn, B, F1, us ++ dd.map .fz, rb.sub, ?_, nd_head nd, ?_⟩
    · have := repA_app (RepL.unzip hl h1) (isA_fz (K := X.K) (B := B) (H := H) (hdd B))
      rw [List.append_nil] at this
      exact this
    cases eF : F (us ++ dd.map .fz) with
    | ok t bk =>
      rw [eF] at q
      have q2 : okE X.K W E σ P Q (.ok t (backs (lents fx bk 0 ts) s2)) := q
      intro v H' σ' r'
      obtain ⟨B', Gp, Gs, rb'⟩ := r'
      obtain ⟨L, sd', Gp2, Gs2, z1, z3, z4⟩ := lift_all (s0 := σ) (bk := bk) (vs := vs ++ dvs) rfl (ts := ts) (k := 0) (ws := vs) (sd := bk) (P := [(v, t)]) (fun i _ => rfl) (fun i hi => by rw [Nat.zero_add]; exact (List.getElem?_append_left hi).symm) hok rb'
      have c1 := RpB.ret r0 nd own1 rfl rfl rfl z1
      rw [List.append_assoc] at c1
      obtain ⟨_, _, c2⟩ := lower_all (l := lents fx bk 0 ts) (L := L) z3 z4 c1
      exact q2 v H' c2.rp
    | ex x bk =>
      rw [eF] at q
      have q2 : okE X.K W E σ P Q (.ex x (backs (lents fx bk 0 ts) s2)) := q
      intro cls dd' H' σ' r'
      obtain ⟨B', Gp, Gs, rb', more⟩ := r'
      obtain ⟨L, sd', Gp2, Gs2, z1, z3, z4⟩ := lift_all (s0 := σ) (bk := bk) (vs := vs ++ dvs) rfl (ts := ts) (k := 0) (ws := vs) (sd := bk) (P := []) (fun i _ => rfl) (fun i hi => by rw [Nat.zero_add]; exact (List.getElem?_append_left hi).symm) hok rb'
      have c1 := RpB.ret r0 nd own1 rfl rfl rfl z1
      rw [List.append_nil] at c1
      obtain ⟨_, _, c2⟩ := lower_all (l := lents fx bk 0 ts) (L := L) z3 z4 c1
      exact q2 cls dd' H' ⟨B', _, _, c2, more⟩
    | no =>
      rw [eF] at q
      exact q
  · exact False.elim q
/-- the length of what is passed -/
theorem at_len {σ : L2.St} : ∀ {vs : List V} {ts : List AT}, atOk σ vs ts → vs.length = ts.length
  | [], [], _ => rfl
  | [], .v _ :: _, h => False.elim h
  | [], .s _ :: _, h => False.elim h
  | _ :: _, [], h => False.elim h
  | _ :: vs, .v _ :: ts, h => congrArg Nat.succ (at_len (vs := vs) (ts := ts) h)
  | _ :: vs, .s _ :: ts, h => congrArg Nat.succ (at_len (vs := vs) (ts := ts) h.2)
/-- f(e, ..) -/
theorem ed_call (G : FnG X.prog X.w X.K X.mg X.base k f fd ps (spD X.K n fx F)) (hr : Rm k X.A) (hg : Gl X x) (hm : X.mg x = some (.ref f)) (hk : PySem.W.keepIn X.K (.ref f) = true) (hb : Binds X.K fd ps ds) (hd : Vals dvs ds) (hdd : ∀ B, IsA X.K B dd dvs) (tk : Takes X W.w)
    (ha : LD X W (e :: es) fa) (hn : ∀ sd ts s, fa sd = .ok ts s → ts.length + dvs.length = n)
    (hdb : (x == ("__debug__" : Str)) = false := by decide) (hst : starEach (e :: es) X.env = (false, eval e X.env) :: starEach es X.env := by rfl) (hpl : (backTo pos (starEach es X.env)).any (·.1) = false := by rfl) :
    ED X W (.Call (.Name x p) (e :: es) [] pos) (fCall fx F dd fa) := by
  obtain ⟨ta, pa, sa⟩ := ha
  refine ⟨_, pe_callG G hr hg hm hk hb hd tk pa hdb hst hpl, fun E σ sd P H Q rp q => ?_⟩
  unfold fCall at q
  refine sa E σ sd P H _ rp ?_
  cases e1 : fa sd with
  | no => rw [e1] at q; exact q
  | ex a s => rw [e1] at q; exact q
  | ok ts s =>
    rw [e1] at q
    intro vs H1 hok r1
    refine use_sp (dd := dd) (fx := fx) (F := F) ?_ hdd hok r1 q
    rw [at_len hok]
    exact hn sd ts s e1
theorem ed_call0 (G : FnG X.prog X.w X.K X.mg X.base k f fd ps (spD X.K n fx F)) (hr : Rm k X.A) (hg : Gl X x) (hm : X.mg x = some (.ref f)) (hk : PySem.W.keepIn X.K (.ref f) = true) (hb : Binds X.K fd ps ds) (hd : Vals dvs ds) (hdd : ∀ B, IsA X.K B dd dvs) (tk : Takes X W.w) (hn : dvs.length = n)
    (hdb : (x == ("__debug__" : Str)) = false := by decide) : ED X W (.Call (.Name x p) [] [] pos) (fCall fx F dd lNil) := by
  refine ⟨_, pe_callG0 G hr hg hm hk hb hd tk hdb, fun E σ sd P H Q rp q => ?_⟩
  exact use_sp (dd := dd) (fx := fx) (F := F) (ts := []) (vs := []) (by rw [List.length_nil, Nat.zero_add]; exact hn) hdd trivial rp q
end
theorem ln_nil : ∀ sd ts s, lNil sd = .ok ts s → ts.length = 0 := fun sd ts s h => by cases h; rfl
theorem ln_cons {fa : SD → R OT} {fr : SD → R (List AT)} {n : Nat} (h : ∀ sd ts s, fr sd = .ok ts s → ts.length = n) : ∀ sd ts s, lCons fa fr sd = .ok ts s → ts.length = n + 1 := fun sd ts s e => by
  unfold lCons at e
  cases e1 : fa sd with
  | no => rw [e1] at e; cases e
  | ex a s => rw [e1] at e; cases e
  | ok y s1 =>
    rw [e1] at e
    have e' : ((fr s1).bind fun xs s2 => R.ok (AT.v y :: xs) s2) = .ok ts s := e
    cases e2 : fr s1 with
    | no => rw [e2] at e'; cases e'
    | ex a s => rw [e2] at e'; cases e'
    | ok xs s2 =>
      rw [e2] at e'
      cases e'
      rw [List.length_cons, h _ _ _ e2]
theorem ln_lent {fr : SD → R (List AT)} {j n : Nat} (h : ∀ sd ts s, fr sd = .ok ts s → ts.length = n) : ∀ sd ts s, lLent j fr sd = .ok ts s → ts.length = n + 1 := fun sd ts s e => by
  unfold lLent at e
  split at e
  · cases e2 : fr sd with
    | no => rw [e2] at e; cases e
    | ex a s => rw [e2] at e; cases e
    | ok xs s2 =>
      rw [e2] at e
      cases e
      rw [List.length_cons, h _ _ _ e2]
  · cases e
theorem ln_add {fr : SD → R (List AT)} {m n d : Nat} (h : ∀ sd ts s, fr sd = .ok ts s → ts.length = m) (e : m + d = n) : ∀ sd ts s, fr sd = .ok ts s → ts.length + d = n := fun sd ts s q => by rw [h sd ts s q]; exact e
end DL

/-! DO: repr, isinstance -/
namespace DL
open PySem L2 PySem.Spec PyProof.Rows

section
variable {X : Cx} {pins : List (Addr × Obj)} {σ : L2.St} {B H : Hp} {s : Shared}
theorem reprs_of (I : Inv X pins σ H s) (ex : Evl.Ex B H) (n : Nat) : ∀ {ds : List D} {vs : List V} {us : List Value}, ds.all (nrm n) = true → IsA X.K B ds vs → Vals vs us → PyData.showableAll (pyL ds) = true → (∀ t ∈ PyData.shownAll (pyL ds), t.length ≤ sizeLine) →
    ∃ bs, ReadAtMost s.heap (PyData.depthAll (pyL ds)) bs ∧ ReprAllK X.prog X.w bs s.heap (PyData.depthAll (pyL ds)) us (PyData.shownAll (pyL ds))
  | [], _, _, _, hi, r, _, _ => by
    rw [isA_nil hi] at r
    cases r
    rw [pyL]
    exact ⟨[], (fun _ h => nomatch h), by simp only [PyData.shownAll]; exact .nil⟩
  | d :: ds, _, _, h, ⟨v, r, h0, h1, h2⟩, rr, hs, hz => by
    subst h0
    rw [List.all_cons, Bool.and_eq_true] at h
    rw [pyL] at hs hz ⊢
    have hs' : d.py.showable = true ∧ PyData.showableAll (pyL ds) = true := by simpa [PyData.showableAll] using hs
    cases rr with
    | cons r1 r2 =>
      obtain ⟨b1, hb1, k1⟩ := repr_at I ex n h.1 h1 r1 hs'.1 (hz _ (by simp only [PyData.shownAll]; exact List.mem_cons_self))
      obtain ⟨b2, hb2, k2⟩ := reprs_of I ex n h.2 h2 r2 hs'.2 fun t ht => hz t (by simp only [PyData.shownAll]; exact List.mem_cons_of_mem _ ht)
      simp only [PyData.depthAll, PyData.shownAll]
      exact ⟨b1 ++ b2, (hb1.mono (Nat.le_max_left _ _)).append (hb2.mono (Nat.le_max_right _ _)), .cons ((k1.more fun b hb => List.mem_append_left _ hb).level_le (Nat.le_max_left _ _)) (k2.more_le (fun b hb => List.mem_append_right _ hb) (Nat.le_max_right _ _))⟩
theorem reprK_of (I : Inv X pins σ H s) (ex : Evl.Ex B H) (n : Nat) : ∀ {kvs : List (Key × D)} {ks : List (Key × V)} {vs : List (Key × Value)} {es : List DictEntry}, (kvs.all fun p => nrm n p.2) = true → IsK X.K B kvs ks → KV ks vs → Pairs (mixKind X.prog X.w) es vs → PyData.showableKv (pyK kvs) = true → (∀ t ∈ PyData.shownKv (pyK kvs), t.length ≤ sizeLine) →
    ∃ bs, ReadAtMost s.heap (PyData.depthKv (pyK kvs)) bs ∧ ReprEntriesK X.prog X.w bs s.heap (PyData.depthKv (pyK kvs)) es (PyData.shownKv (pyK kvs))
  | [], _, _, _, _, hi, hk, hp, _, _ => by
    rw [show _ = [] from hi] at hk
    cases hk
    cases hp
    rw [pyK]
    exact ⟨[], (fun _ h => nomatch h), by simp only [PyData.shownKv]; exact .nil⟩
  | (k, d) :: kvs, _, _, _, h, ⟨v, t, h0, h1, h2⟩, hk, hp, hs, hz => by
    subst h0
    rw [List.all_cons, Bool.and_eq_true] at h
    rw [pyK] at hs hz ⊢
    have hs' : ((keyP k).showable = true ∧ d.py.showable = true) ∧ PyData.showableKv (pyK kvs) = true := by simpa [PyData.showableKv] using hs
    cases hk with
    | @cons _ kv _ vs' r1 r2 =>
      cases hp with
      | @cons e _ es' _ p1 p2 p3 =>
        have z0 := hz _ (by simp only [PyData.shownKv]; exact List.mem_cons_self)
        rw [strLen_append, strLen_append] at z0
        obtain ⟨b2, hb2, k2⟩ := reprK_of I ex n h.2 h2 r2 p3 hs'.2 fun t ht => hz t (by simp only [PyData.shownKv]; exact List.mem_cons_of_mem _ ht)
        obtain ⟨b1, hb1, k1⟩ := repr_at I ex n (d := d) h.1 h1 r1.2 hs'.1.2 (by omega)
        have e1 : k = kv.1 := r1.1
        have key : ∀ as h₀ m, ReprK X.prog X.w as h₀ m e.key (keyP k).shown := by
          have p1' : keyIs kv.1 e.key = true := p1
          rw [← e1] at p1'
          intro as h₀ m
          rcases keyIs_shape p1' with ⟨i, t, rfl, e2⟩ | ⟨x, t, rfl, e2⟩
          · rw [e2, keyP, PyData.shown]
            exact .of_is (ReprIs.int t (by simpa [PyData.showable, keyP] using hs'.1.1)) _ _ _
          · rw [e2, keyP, PyData.shown]
            have z1 : (reprText x).length ≤ sizeLine := by
              have : ((keyP (Sum.inr x)).shown).length ≤ sizeLine := by omega
              simpa only [keyP, PyData.shown] using this
            exact .of_is (ReprIs.str x t z1) _ _ _
        simp only [PyData.shownKv]
        have dk : (keyP k).depth = 0 := by cases k <;> rfl
        refine ⟨b1 ++ b2, ?_, ?_⟩
        · exact (hb1.mono (by rw [PyData.depthKv, dk]; omega)).append (hb2.mono (by rw [PyData.depthKv]; omega))
        · refine .cons (key _ _ _) ?_ ?_
          · rw [p2]
            exact (k1.more fun b hb => List.mem_append_left _ hb).level_le (by rw [PyData.depthKv, dk]; omega)
          · exact repr_at.entries_more (fun b hb => List.mem_append_right _ hb) (by rw [PyData.depthKv]; omega) k2
theorem depth_nrm : ∀ (n : Nat) {d : D}, nrm n d = true → d.py.depth ≤ n := by
  intro n
  induction n with
  | zero =>
    intro d h
    cases d with
    | lst _ => cases h
    | tup _ => cases h
    | dic _ => cases h
    | scr _ => cases h
    | obj _ _ => cases h
    | _ => rw [D.py]; simp [PyData.depth]
  | succ n ih =>
    have all : ∀ (ds : List D), ds.all (nrm n) = true → PyData.depthAll (pyL ds) ≤ n := by
      intro ds
      induction ds with
      | nil => intro _; rw [pyL]; simp [PyData.depthAll]
      | cons d ds ih2 =>
        intro h
        rw [List.all_cons, Bool.and_eq_true] at h
        rw [pyL, PyData.depthAll]
        have h1 := ih h.1
        have h2 := ih2 h.2
        omega
    have allK : ∀ (kvs : List (Key × D)), (kvs.all fun p => nrm n p.2) = true → PyData.depthKv (pyK kvs) ≤ n := by
      intro kvs
      induction kvs with
      | nil => intro _; rw [pyK]; simp [PyData.depthKv]
      | cons p kvs ih2 =>
        obtain ⟨k, d⟩ := p
        intro h
        rw [List.all_cons, Bool.and_eq_true] at h
        rw [pyK, PyData.depthKv]
        have h1 := ih (d := d) h.1
        have h2 := ih2 h.2
        have dk : (keyP k).depth = 0 := by cases k <;> rfl
        omega
    intro d h
    cases d with
    | lst xs => rw [D.py, PyData.depth]; have := all xs h; omega
    | tup xs => rw [D.py, PyData.depth]; have := all xs h; omega
    | dic xs => rw [D.py, PyData.depth]; have := allK xs h; omega
    | scr _ => cases h
    | obj _ _ => cases h
    | _ => rw [D.py]; simp [PyData.depth]
theorem call_repr (I : Inv X pins σ H s) (ex : Evl.Ex B H) (hg : X.A.guards = some []) (hu : X.A.units + 64 < cLine) {d : D} {v : V} {u : Value} (hn : nrm 40 d = true) (hi : Is X.K B d v) (r : RelV v u) (hs : d.py.showable = true) (hz : d.py.shown.length ≤ sizeLine) {Q : Value → Shared → Prop}
    (q : ∀ h' tk t, (∀ b o, s.heap.get? b = some o → h'.get? b = some o) → Q (.str d.py.shown t) { s with heap := h', toks := tk }) : wpAny (model X.prog X.w) X.A (call (.builtin "repr") [u]) Q X.xe s := by
  have dp := depth_nrm 40 hn
  cases d with
  | non =>
    rw [show v = .non from hi] at r
    rw [show u = Value.none from r]
    rw [D.py] at q
    exact P.repr_of_none (by simpa only [PyData.shown] using q s.heap _ _ fun _ _ e => e)
  | bl b =>
    rw [show v = .bl b from hi] at r
    rw [show u = Value.bool b from r]
    rw [D.py] at q
    exact P.repr_of_bool (by simpa only [PyData.shown] using q s.heap _ _ fun _ _ e => e)
  | int i =>
    rw [show v = .int i from hi] at r
    obtain ⟨t, rfl⟩ := r
    rw [D.py] at q hs
    exact P.repr_of_int (by simpa [PyData.showable] using hs) (by simpa only [PyData.shown] using q s.heap _ _ fun _ _ e => e)
  | str x =>
    rw [show v = .str x from hi] at r
    obtain ⟨t, rfl⟩ := r
    rw [D.py] at q hz
    exact P.repr_of_str (by simpa only [PyData.shown] using q s.heap _ _ fun _ _ e => e) (by simpa only [PyData.shown] using hz)
  | lst xs =>
    obtain ⟨as, hR⟩ := reads_of I ex 40 hn hi r
    obtain ⟨a, vs, rfl, h2, h3⟩ := hi
    cases r
    obtain ⟨its, rv, ⟨o, m, ho, hc, _, hd⟩, _⟩ := I.list (.inl (.inl (ex _ _ h2)))
    rw [D.py] at hs hz hR dp q
    have hz' : (listText (PyData.shownAll (pyL xs))).length ≤ sizeLine := by simpa only [PyData.shown] using hz
    obtain ⟨bs, hb, hk⟩ := reprs_of I ex 39 hn h3 rv (by simpa [PyData.showable] using hs) fun t ht => Nat.le_trans (listText_mem_le ht) hz'
    have hna : a ∉ bs := not_mem_of_deeper hR (by simp only [PyData.depth]; omega) hb
    rw [PyData.depth] at dp
    refine call_repr_slot (T := "list") (idr := "list.__repr__") (by omega) ⟨o, ho, hc⟩ F.slot_list_repr.toG ?_
    cases its with
    | nil =>
      cases rv
      cases xs with
      | nil =>
        refine call_list_repr_empty ⟨o, ho, hc⟩ ho hd ⟨_, _, rfl, ?_⟩
        have := q s.heap (s.toks + 1) s.toks fun _ _ e => e
        simpa only [PyData.shown, pyL, PyData.shownAll, listText_nil] using this
      | cons _ _ =>
        obtain ⟨_, _, e, _⟩ := h3
        cases e
    | cons x l =>
      exact call_list_reprK ho hc hd hna (by simpa using hk.length_eq) (fun i y e => hk.item i y (by simpa using e)) (by exact hg) (fun b _ => Clear.nil b) (by show X.A.units + 1 + _ < cLine; omega) (fun _ _ e => e) (fun h' u tk hh => ⟨_, _, rfl, by
        have := q h' tk u hh
        simpa only [PyData.shown] using this⟩) hz'
  | tup xs =>
    obtain ⟨as, hR⟩ := reads_of I ex 40 hn hi r
    obtain ⟨a, vs, rfl, h2, h3⟩ := hi
    cases r
    obtain ⟨its, rv, ⟨o, ho, hc, m, hd⟩, _⟩ := I.tuple (Evl.ex_t ex h2)
    rw [D.py] at hs hz hR dp q
    have hz' : (tupleText (PyData.shownAll (pyL xs))).length ≤ sizeLine := by simpa only [PyData.shown] using hz
    obtain ⟨bs, hb, hk⟩ := reprs_of I ex 39 hn h3 rv (by simpa [PyData.showable] using hs) fun t ht => Nat.le_trans (tupleText_mem_le ht) hz'
    have hna : a ∉ bs := not_mem_of_deeper hR (by simp only [PyData.depth]; omega) hb
    rw [PyData.depth] at dp
    refine call_repr_slot (T := "tuple") (idr := "tuple.__repr__") (by omega) ⟨o, ho, hc⟩ F.slot_tuple_repr ?_
    exact call_tuple_reprK ho hc hd hna hk (by exact hg) (fun b _ => Clear.nil b) (by show X.A.units + 1 + _ < cLine; omega) (fun _ _ e => e) (fun h' u tk hh => ⟨_, _, rfl, by
      have := q h' tk u hh
      simpa only [PyData.shown] using this⟩) hz'
  | dic kvs =>
    obtain ⟨as, hR⟩ := reads_of I ex 40 hn hi r
    obtain ⟨a, ks, rfl, h2, h3⟩ := hi
    cases r
    obtain ⟨_, hy, vs, hk, o, es, ep, ho, hx, hd, _, hp, _⟩ := I.hok a _ (ex _ _ h2)
    rw [D.py] at hs hz hR dp q
    have hz' : (dictText (PyData.shownKv (pyK kvs))).length ≤ sizeLine := by simpa only [PyData.shown] using hz
    obtain ⟨bs, hb, hE⟩ := reprK_of I ex 39 hn h3 hk hp (by simpa [PyData.showable] using hs) fun t ht => Nat.le_trans (dictText_mem_le ht) hz'
    have hna : a ∉ bs := not_mem_of_deeper hR (by simp only [PyData.depth]; omega) hb
    rw [PyData.depth] at dp
    refine call_repr_slot (T := "dict") (idr := "dict.__repr__") (by omega) ⟨o, ho, hx.1⟩ F.slot_dict_repr ?_
    exact call_dict_reprK ho hx.1 hd hy hna hE (by exact hg) (fun b _ => Clear.nil b) (by show X.A.units + 1 + _ < cLine; omega) (fun _ _ e => e) (fun h' u tk hh => ⟨_, _, rfl, by
      have := q h' tk u hh
      simpa only [PyData.shown] using this⟩) hz'
  | _ => cases hn
end
def gRepr : List D → Option Rt
  | [d] => if nrm 40 d = true ∧ d.py.showable = true ∧ d.py.shown.length ≤ sizeLine then some (.v (.str d.py.shown)) else none
  | _ => none
abbrev rRepr (K : PySem.W.Frag) : List V → Hp → VK → Prop := fun xs H Q => ∃ (B : Hp) (d : D) (v : V), xs = [v] ∧ Evl.Ex B H ∧ Is K B d v ∧ nrm 40 d = true ∧ d.py.showable = true ∧ d.py.shown.length ≤ sizeLine ∧ Q (.str d.py.shown) H
theorem call_repr_d {X : Cx} {k : Nat} (hr : Rm k X.A) : CallR X (.builtin "repr") (rRepr X.K) := by
  intro pins s σ H xs us Q I r h
  obtain ⟨B, d, v, rfl, ex, hi, h1, h2, h3, q⟩ := h
  obtain ⟨u, rfl, ru⟩ := vals1 r
  exact call_repr I ex hr.gs hr.room.units h1 hi ru h2 h3 fun h' tk t hh => ⟨.str d.py.shown, H, I.kept (h' := h') (t' := tk) hh, ⟨t, rfl⟩, q⟩
theorem g_repr {K : PySem.W.Frag} : CaG K (rRepr K) gRepr := by
  intro B H xs ds t Q ex hi hg q
  unfold gRepr at hg
  split at hg
  · rename_i d
    split at hg
    · rename_i hz
      cases hg
      obtain ⟨v, rfl, hv⟩ := isA_one hi
      exact ⟨B, d, v, rfl, ex, hv, hz.1, hz.2.1, hz.2.2, q _ rfl⟩
    · cases hg
  · cases hg
end DL

/-! DP: isinstance, list(range), x[k] op= e, dict displays, tuples that own -/
namespace DL
open PySem L2 PySem.Spec PyProof.Rows

/-! ### isinstance -/
def tyN : D → String
  | .non => "NoneType"
  | .bl _ => "bool"
  | .int _ => "int"
  | .str _ => "str"
  | .scr _ => "list"
  | .lst _ => "list"
  | .tup _ => "tuple"
  | .dic _ => "dict"
  | .obj _ _ => ""
def isT (T : String) : D → Bool
  | .non => false
  | .bl _ => T == "bool" || T == "int"
  | .int _ => T == "int"
  | .str _ => T == "str"
  | .scr _ => T == "list"
  | .lst _ => T == "list"
  | .tup _ => T == "tuple"
  | .dic _ => T == "dict"
  | .obj _ _ => false
def noO : D → Bool
  | .obj _ _ => false
  | _ => true
theorem kit_is {T : String} (hT : T = "int" ∨ T = "bool" ∨ T = "list" ∨ T = "tuple" ∨ T = "str" ∨ T = "dict") {d : D} (hd : noO d = true) : kitB (tyN d) T = some (isT T d) := by
  have k : ∀ a, a ∈ ["NoneType", "bool", "int", "str", "list", "tuple", "dict"] → ∀ T ∈ ["int", "bool", "list", "tuple", "str", "dict"], kitB a T = some (a == T || (a == "bool" && T == "int")) := by decide +kernel
  have hm : T ∈ ["int", "bool", "list", "tuple", "str", "dict"] := by
    rcases hT with h | h | h | h | h | h <;> subst h <;> decide
  cases d with
  | obj _ _ => cases hd
  | non =>
    rw [show tyN .non = "NoneType" from rfl, k _ (by decide) _ hm]
    rcases hT with h | h | h | h | h | h <;> subst h <;> rfl
  | bl _ =>
    rw [show tyN (.bl _) = "bool" from rfl, k _ (by decide) _ hm]
    rcases hT with h | h | h | h | h | h <;> subst h <;> rfl
  | int _ =>
    rw [show tyN (.int _) = "int" from rfl, k _ (by decide) _ hm]
    rcases hT with h | h | h | h | h | h <;> subst h <;> rfl
  | str _ =>
    rw [show tyN (.str _) = "str" from rfl, k _ (by decide) _ hm]
    rcases hT with h | h | h | h | h | h <;> subst h <;> rfl
  | scr _ =>
    rw [show tyN (.scr _) = "list" from rfl, k _ (by decide) _ hm]
    rcases hT with h | h | h | h | h | h <;> subst h <;> rfl
  | lst _ =>
    rw [show tyN (.lst _) = "list" from rfl, k _ (by decide) _ hm]
    rcases hT with h | h | h | h | h | h <;> subst h <;> rfl
  | tup _ =>
    rw [show tyN (.tup _) = "tuple" from rfl, k _ (by decide) _ hm]
    rcases hT with h | h | h | h | h | h <;> subst h <;> rfl
  | dic _ =>
    rw [show tyN (.dic _) = "dict" from rfl, k _ (by decide) _ hm]
    rcases hT with h | h | h | h | h | h <;> subst h <;> rfl
theorem tyX_of {K : PySem.W.Frag} {B H : Hp} (ex : Evl.Ex B H) {d : D} {v : V} (hd : noO d = true) (hi : Is K B d v) : TyX K H v (.type (tyN d)) := by
  have sq : ∀ {a : Addr} {vs : List V}, SqL K B a vs → TyX K H (.ref a) (.type "list") := fun {a vs} h => by
    rcases Evl.ex_l ex h with (h | ⟨o, h⟩) | ⟨o, its, n, h1, h2, _⟩
    · exact .base (.lst h)
    · exact .base (.frz h)
    · exact .kList h1 h2
  cases d with
  | obj _ _ => cases hd
  | non => rw [show v = .non from hi]; exact .base .non
  | bl b => rw [show v = .bl b from hi]; exact .base (.bl b)
  | int i => rw [show v = .int i from hi]; exact .base (.int i)
  | str x => rw [show v = .str x from hi]; exact .base (.str x)
  | scr ns =>
    obtain ⟨a, rfl, h⟩ := hi
    exact sq h
  | lst ds =>
    obtain ⟨a, vs, rfl, h, _⟩ := hi
    exact .base (.lst (ex _ _ h))
  | tup ds =>
    obtain ⟨a, vs, rfl, h, _⟩ := hi
    rcases Evl.ex_t ex h with (h | ⟨o, h⟩) | ⟨o, its, n, h1, h2, _⟩
    · exact .base (.tup h)
    · exact .fTuple h
    · exact .kTuple h1 h2
  | dic kvs =>
    obtain ⟨a, ks, rfl, h, _⟩ := hi
    exact .base (.dK (ex _ _ h))
def fIsi (Ts : List String) (fa : SD → R OT) : SD → R OT := fun sd => (fa sd).bind fun x s1 => if noO x.frz = true then .ok (.fz (.bl (Ts.any fun T => isT T x.frz))) s1 else .no
def OkT (Ts : List String) : Prop := ∀ T ∈ Ts, T = "int" ∨ T = "bool" ∨ T = "list" ∨ T = "tuple" ∨ T = "str" ∨ T = "dict"
theorem kit_any {K : PySem.W.Frag} {d : D} (hd : noO d = true) : ∀ {Ts : List String}, OkT Ts → PySem.W.kitAny K (.type (tyN d)) (Ts.map Value.type) = some (Ts.any fun T => isT T d)
  | [], _ => kitAny_nil
  | T :: Ts, h => by
    have h1 := kit_ty (K := K) (kit_is (h T List.mem_cons_self) hd)
    refine kitAny_cons h1 (fun e => ?_) (fun e => ?_)
    · rw [kit_any hd fun T' hT => h T' (List.mem_cons_of_mem _ hT), List.any_cons, e, Bool.false_or]
    · rw [List.any_cons, e, Bool.true_or]
section
variable {X : Cx} {W : WF} {a : Expr} {fa : SD → R OT} {p p2 pos : Pos}
theorem ed_isi {x : Str} {T : String} (ha : ED X W a fa) (hT : OkT [T]) (hg : Gl X "isinstance") (hm : X.mg "isinstance" = none) (ht : PE X (.Name x p2) (tC (.ty T)))
    (he : starEach (a :: [.Name x p2]) X.env = (false, eval a X.env) :: starEach [.Name x p2] X.env := by rfl) (he2 : starEach (.Name x p2 :: []) X.env = (false, eval (.Name x p2) X.env) :: starEach [] X.env := by rfl) (hpl : (backTo pos (starEach [.Name x p2] X.env)).any (·.1) = false := by rfl) :
    ED X W (.Call (.Name "isinstance" p) [a, .Name x p2] [] pos) (fIsi [T] fa) := by
  obtain ⟨ta, pa, sa⟩ := ha
  refine ⟨_, pe_callB call_isi hg hm PyProof.Rows.boot_isinstance (pa_cons pa (pa_cons ht pa_nil he2) he) (by decide) (by decide) he hpl, fun E σ sd P H Q rp q => ?_⟩
  unfold fIsi at q
  refine SimE.on sa rp (fun y s1 e1 v H1 r1 => ?_) (fun e s e1 cls dd H' rx => by rw [e1] at q; exact q cls dd H' rx) (fun z => by rw [z] at q; exact q)
  rw [e1] at q
  have q2 : okE X.K W E σ P Q (if noO y.frz = true then .ok (.fz (.bl ([T].any fun T => isT T y.frz))) s1 else .no) := q
  obtain ⟨B, Fp, Fs, rb, h1⟩ := r1.cold
  by_cases hn : noO y.frz = true
  · rw [if_pos hn] at q2
    refine ⟨v, .ty T, _, _, isT T y.frz, rfl, .ty T, tyX_of rb.sub hn h1, kit_ty (kit_is (hT T List.mem_cons_self) hn), ?_⟩
    have q3 : okE X.K W E σ P Q (.ok (.fz (.bl (isT T y.frz || false))) s1) := q2
    rw [Bool.or_false] at q3
    exact q3 _ _ (rb.put (d := .bl (isT T y.frz)) rfl).rp
  · rw [if_neg hn] at q2
    exact False.elim q2
theorem ed_isi2 {x y : Str} {T U : String} {k : Nat} {tpos p3 : Pos} (ha : ED X W a fa) (hT : OkT [T, U]) (hg : Gl X "isinstance") (hm : X.mg "isinstance" = none) (ht : PE X (.Name x p2) (tC (.ty T))) (hu : PE X (.Name y p3) (tC (.ty U)))
    (he : starEach (a :: [.Tuple [.Name x p2, .Name y p3] k tpos]) X.env = (false, eval a X.env) :: starEach [.Tuple [.Name x p2, .Name y p3] k tpos] X.env := by rfl) (he2 : starEach (.Tuple [.Name x p2, .Name y p3] k tpos :: []) X.env = (false, eval (.Tuple [.Name x p2, .Name y p3] k tpos) X.env) :: starEach [] X.env := by rfl)
    (he3 : starEach (.Name x p2 :: [.Name y p3]) X.env = (false, eval (.Name x p2) X.env) :: starEach [.Name y p3] X.env := by rfl) (he4 : starEach (.Name y p3 :: []) X.env = (false, eval (.Name y p3) X.env) :: starEach [] X.env := by rfl)
    (hpl : (backTo pos (starEach [.Tuple [.Name x p2, .Name y p3] k tpos] X.env)).any (·.1) = false := by rfl) :
    ED X W (.Call (.Name "isinstance" p) [a, .Tuple [.Name x p2, .Name y p3] k tpos] [] pos) (fIsi [T, U] fa) := by
  obtain ⟨ta, pa, sa⟩ := ha
  refine ⟨_, pe_callB call_isiT hg hm PyProof.Rows.boot_isinstance (pa_cons pa (pa_cons (pe_tup (pa_cons ht (pa_cons hu pa_nil he4) he3)) pa_nil he2) he) (by decide) (by decide) he hpl, fun E σ sd P H Q rp q => ?_⟩
  unfold fIsi at q
  refine SimE.on sa rp (fun y s1 e1 v H1 r1 => ?_) (fun e s e1 cls dd H' rx => by rw [e1] at q; exact q cls dd H' rx) (fun z => by rw [z] at q; exact q)
  rw [e1] at q
  have q2 : okE X.K W E σ P Q (if noO y.frz = true then .ok (.fz (.bl ([T, U].any fun T => isT T y.frz))) s1 else .no) := q
  obtain ⟨B, Fp, Fs, rb, h1⟩ := r1.cold
  by_cases hn : noO y.frz = true
  · rw [if_pos hn] at q2
    refine ⟨by show 2 ≤ sizeLine; rw [sizeLine_eq]; omega, fun t ht => ?_⟩
    have rb2 := rb.newB (o := .tup [.ty T, .ty U]) ht
    have ex2 : Evl.Ex B (upd B t (.tup [.ty T, .ty U])) := Evl.Ex.new (rb.free ht)
    refine ⟨v, t, [.ty T, .ty U], _, [.type T, .type U], [T, U].any fun T => isT T y.frz, rfl, upd_same, .cons (.ty T) (.cons (.ty U) .nil), tyX_of rb2.sub hn (h1.mono ex2), kit_any hn hT, ?_⟩
    exact q2 _ _ (rb2.put (d := .bl ([T, U].any fun T => isT T y.frz)) rfl).rp
  · rw [if_neg hn] at q2
    exact False.elim q2
end

/-! ### list(range(..)) -/
def rgD (lo hi : Int) : List D := (List.range (hi - lo).toNat).map fun i => .int (lo + (i : Nat))
def fLr1 (fa : SD → R OT) : SD → R OT := fun sd => (fa sd).bind fun x s1 => match x.frz with
  | .int n => if -(2 ^ 62) ≤ n ∧ n ≤ 16777216 then .ok (.own ((rgD 0 n).map .fz)) s1 else .no
  | _ => .no
def fLr2 (fa fb : SD → R OT) : SD → R OT := fun sd => (fa sd).bind fun x s1 => (fb s1).bind fun y s2 => match x.frz, y.frz with
  | .int m, .int n => if -(2 ^ 60) ≤ m ∧ m < 2 ^ 60 ∧ -(2 ^ 60) ≤ n ∧ n < 2 ^ 60 ∧ n - m ≤ 16777216 then .ok (.own ((rgD m n).map .fz)) s2 else .no
  | _, _ => .no
theorem rg_isA {K : PySem.W.Frag} {B : Hp} (lo hi : Int) : IsA K B (rgD lo hi) (rgV lo hi) := by
  unfold rgD rgV
  have h := ints_isA (K := K) (B := B) ((List.range (hi - lo).toNat).map fun i : Nat => lo + (i : Int))
  rw [List.map_map, List.map_map] at h
  exact h
section
variable {X : Cx} {W : WF} {a b : Expr} {fa fb : SD → R OT} {p p2 pos pos2 : Pos}
theorem ed_lr1 (hc : X.calm = true) (hl : Gl X "list") (hlm : X.mg "list" = none) (hg : Gl X "range") (hm : X.mg "range" = none) (ha : ED X W a fa) (na : starEach [a] X.env = (false, eval a X.env) :: starEach [] X.env := by rfl)
    (nl : starEach [.Call (.Name "range" p2) [a] [] pos2] X.env = (false, eval (.Call (.Name "range" p2) [a] [] pos2) X.env) :: starEach [] X.env := by rfl) : ED X W (.Call (.Name "list" p) [.Call (.Name "range" p2) [a] [] pos2] [] pos) (fLr1 fa) := by
  obtain ⟨ta, pa, sa⟩ := ha
  refine ⟨_, pe_listRg hc hl hlm (prg_1 hg hm pa na) nl, fun E σ sd P H Q rp q => ?_⟩
  unfold fLr1 at q
  refine SimE.on sa rp (fun x s1 e1 v H1 r1 => ?_) (fun e s e1 cls dd H' rx => by rw [e1] at q; exact q cls dd H' rx) (fun z => by rw [z] at q; exact q)
  rw [e1] at q
  obtain ⟨B, Fp, Fs, rb, h1⟩ := r1.cold
  have q2 : okE X.K W E σ P Q (match x.frz with
    | .int n => if -(2 ^ 62) ≤ n ∧ n ≤ 16777216 then .ok (.own ((rgD 0 n).map .fz)) s1 else .no
    | _ => .no) := q
  cases ex : x.frz with
  | int n =>
    rw [ex] at q2 h1
    by_cases hn : -(2 ^ 62) ≤ n ∧ n ≤ 16777216
    · have q3 : okE X.K W E σ P Q (if -(2 ^ 62) ≤ n ∧ n ≤ 16777216 then .ok (.own ((rgD 0 n).map .fz)) s1 else .no) := q2
      rw [if_pos hn] at q3
      exact ⟨n, h1, ⟨by decide, by decide, hn.1, by omega, by omega⟩, fun l hl => q3 _ _ (rb.newO hl (rg_isA 0 n))⟩
    · have q3 : okE X.K W E σ P Q (if -(2 ^ 62) ≤ n ∧ n ≤ 16777216 then .ok (.own ((rgD 0 n).map .fz)) s1 else .no) := q2
      rw [if_neg hn] at q3
      exact False.elim q3
  | _ =>
    rw [ex] at q2
    exact False.elim q2
theorem ed_lr2 (hc : X.calm = true) (hl : Gl X "list") (hlm : X.mg "list" = none) (hg : Gl X "range") (hm : X.mg "range" = none) (ha : ED X W a fa) (hb : ED X W b fb) (na : starEach [a, b] X.env = (false, eval a X.env) :: starEach [b] X.env := by rfl) (nb : starEach [b] X.env = (false, eval b X.env) :: starEach [] X.env := by rfl)
    (hpp : (backTo pos2 (starEach [b] X.env)).any (·.1) = false := by rfl) (nl : starEach [.Call (.Name "range" p2) [a, b] [] pos2] X.env = (false, eval (.Call (.Name "range" p2) [a, b] [] pos2) X.env) :: starEach [] X.env := by rfl) : ED X W (.Call (.Name "list" p) [.Call (.Name "range" p2) [a, b] [] pos2] [] pos) (fLr2 fa fb) := by
  obtain ⟨ta, pa, sa⟩ := ha
  obtain ⟨tb, pb, sb⟩ := hb
  refine ⟨_, pe_listRg hc hl hlm (prg_2 hg hm pa pb na nb hpp) nl, fun E σ sd P H Q rp q => ?_⟩
  unfold fLr2 at q
  refine SimE.on sa rp (fun x s1 e1 v H1 r1 => ?_) (fun e s e1 cls dd H' rx => by rw [e1] at q; exact q cls dd H' rx) (fun z => by rw [z] at q; exact q)
  rw [e1] at q
  have q' : okE X.K W E σ P Q ((fb s1).bind fun y s2 => match x.frz, y.frz with
    | .int m, .int n => if -(2 ^ 60) ≤ m ∧ m < 2 ^ 60 ∧ -(2 ^ 60) ≤ n ∧ n < 2 ^ 60 ∧ n - m ≤ 16777216 then .ok (.own ((rgD m n).map .fz)) s2 else .no
    | _, _ => .no) := q
  refine SimE.on sb r1 (fun y s2 e2 u H2 r2 => ?_) (fun e s e2 cls dd H' rx => by rw [e2] at q'; exact q' cls dd H' rx.drop) (fun z => by rw [z] at q'; exact q')
  rw [e2] at q'
  obtain ⟨B, Fp, Fs, rb, k1, k2⟩ := r2.cold2
  have q2 : okE X.K W E σ P Q (match x.frz, y.frz with
    | .int m, .int n => if -(2 ^ 60) ≤ m ∧ m < 2 ^ 60 ∧ -(2 ^ 60) ≤ n ∧ n < 2 ^ 60 ∧ n - m ≤ 16777216 then .ok (.own ((rgD m n).map .fz)) s2 else .no
    | _, _ => .no) := q'
  split at q2
  · rename_i m n em en
    split at q2
    · rename_i hn
      rw [em] at k2
      rw [en] at k1
      exact ⟨m, n, k2, k1, ⟨by omega, by omega, by omega, by omega, by omega⟩, fun l hl => q2 _ _ (rb.newO hl (rg_isA m n))⟩
    · exact False.elim q2
  · exact False.elim q2
end

/-! ### x[k] op= e, x the slot's own list -/
def rGetL : V → V → Hp → VK → Prop := fun o i H Q => ∃ p xs n z, o = .ref p ∧ i = .int n ∧ H p = some (.lst xs) ∧ atI xs n = some z ∧ Q z H
theorem get_list {X : Cx} : PGet X rGetL := by
  intro pins s σ H o i ov iv Q I ro ri h
  obtain ⟨p, xs, n, z, rfl, rfl, hq, he, q⟩ := h
  cases ro
  obtain ⟨t, rfl⟩ := ri
  obtain ⟨its, r, pl, hz⟩ := I.list (.inl (.inl hq))
  obtain ⟨j, h1, h2, h3, h4, h5⟩ := atI_get he
  obtain ⟨w, ew, rw'⟩ := r.get h2
  have hl := r.length
  have hn := line63
  have fin : EP X pins σ Q w s := ⟨z, H, I, rw', q⟩
  by_cases h0 : 0 ≤ n
  · have hj : n.toNat = j := Option.some.inj ((seqIndex_of h0 h5).symm.trans h1)
    exact wpAny_getItem_list pl.isList h0 (by omega) (by rw [hj]; simpa using ew) fin
  · have hj : (n + (its.toArray.size : Int)).toNat = j := by
      rw [seqIndex_neg (by omega) h4] at h1
      rw [List.size_toArray, ← hl]
      exact Option.some.inj h1
    exact wpAny_getItem_list_neg pl.isList (by omega) (by rw [List.size_toArray] <;> omega) (by omega) (by rw [hj]; simpa using ew) fin
def sAugIx (i : Nat) (fk : SD → R OT) (g : D → D → Option Rt) (fe : SD → R OT) : SD → RS := fun sd => if isOwn sd i = true then (fk sd).thn fun k s1 => match s1[i]?, k.frz with
  | some (some (.own ts)), .int n => (match atI ts n with
    | some (.fz d) => (fe s1).thn fun y s2 => match s2[i]?, g d y.frz with
      | some (some (.own us)), some (.v z) => (match ixN us.length n with
        | some j => .nx (s2.set i (some (.own (us.set j (.fz z)))))
        | none => .no)
      | _, _ => .no
    | _ => .no)
  | _, _ => .no else .no
theorem sd_augIx {X : Cx} {W : WF} {i : Nat} {x : Str} {b e : Expr} {fk fe : SD → R OT} {op : Operator} {ti : TIp} {g : D → D → Option Rt} {p tpos pos : Pos} (hp : PE X (.Name x p) (tVar i)) (hk : ED X W b fk) (he : ED X W e fe) (ho : PIp X op ti) (hg : IpG X.K ti g)
    (ha : ∀ ov iv new, augStore b ov iv new = (do holding [new, ov, iv] (setItem ov iv new); release [new, ov, iv] []; pure .next) := by intros; rfl) : SDs X W (.AugAssign (.Subscript (.Name x p) b tpos) op e pos) (sAugIx i fk g fe) := by
  obtain ⟨tk, pk, sk⟩ := hk
  obtain ⟨te, pe, se⟩ := he
  refine ⟨_, ps_augS hp pk get_list pe ho set_list ha, fun E σ sd P H D rp q => ?_⟩
  unfold sAugIx at q
  by_cases hw : isOwn sd i = true
  · rw [if_pos hw] at q
    obtain ⟨ts0, e0⟩ := isOwn_iff hw
    have rp0 := rp
    obtain ⟨B0, Fp0, Fs0, rb0⟩ := rp
    obtain ⟨a0, vs0, G0, g1, _⟩ := rb0.ownAt e0
    refine ⟨_, g1, ?_⟩
    refine SimE.on sk rp0 (fun k s1 e1 v H1 r1 => ?_) (fun a s e1 cls dd H' rx => by rw [e1] at q; exact q cls dd σ H' rx) (fun z => by rw [z] at q; exact q)
    rw [e1] at q
    have q1 : okS X.K W E P D (match s1[i]?, k.frz with
      | some (some (.own ts)), .int n => (match atI ts n with
        | some (.fz d) => (fe s1).thn fun y s2 => match s2[i]?, g d y.frz with
          | some (some (.own us)), some (.v z) => (match ixN us.length n with
            | some j => .nx (s2.set i (some (.own (us.set j (.fz z)))))
            | none => .no)
          | _, _ => .no
        | _ => .no)
      | _, _ => .no) := q
    obtain ⟨B, Fp, Fs, rb, h1⟩ := r1.cold
    split at q1
    · rename_i ts n es ek
      split at q1
      · rename_i d ed
        rw [ek] at h1
        obtain ⟨a1, vs1, G1, k1, k2, k3, k4⟩ := rb.ownAt es
        rw [k1] at g1
        cases g1
        obtain ⟨j, j1, j2⟩ := atI_map k4.length ed
        obtain ⟨w, w1, w2⟩ := k4.get j2
        refine ⟨_, vs1, n, w, rfl, h1, k2, ?_, ?_⟩
        · unfold atI
          rw [j1]
          exact w1
        refine SimE.on se (rb.put w2).rp (fun y s2 e2 u H2 r2 => ?_) (fun a s e2 cls dd H' rx => by rw [e2] at q1; exact q1 cls dd σ H' rx.drop) (fun z => by rw [z] at q1; exact q1)
        rw [e2] at q1
        have q2 : okS X.K W E P D (match s2[i]?, g d y.frz with
          | some (some (.own us)), some (.v z) => (match ixN us.length n with
            | some j => .nx (s2.set i (some (.own (us.set j (.fz z)))))
            | none => .no)
          | _, _ => .no) := q1
        obtain ⟨B', Fp', Fs', rb', k5, k6⟩ := r2.cold2
        split at q2
        · rename_i us z eu eg
          split at q2
          · rename_i j' ej
            refine hg B' H2 w u d _ z _ rb'.sub k6 k5 eg fun v' hv => ?_
            obtain ⟨a2, vs2, m1, m2, m3, m4⟩ := Rp.alter (Pt := [(v', OT.fz z)]) (P := P) (rb'.put hv).rp eu
            rw [k1] at m1
            cases m1
            refine ⟨_, vs2, n, j', rfl, h1, m2, by rw [m3]; exact ej, q2 σ _ ?_⟩
            refine m4 (vs2.set j' v') (us.set j' (.fz z)) [] (by rw [List.length_set, List.length_set, m3]) ?_
            rw [zip_set]
            obtain ⟨M, mm1, mm2⟩ := set_sub (p := (v', OT.fz z)) (L := vs2.zip us) (j := j')
            exact ⟨M, mm1, mm2⟩
          · exact False.elim q2
        · exact False.elim q2
      · exact False.elim q1
    · exact False.elim q1
  · rw [if_neg hw] at q
    exact False.elim q

/-! ### dicts -/
section
variable {X : Cx} {W : WF} {pos p1 p2 : Pos}
theorem ed_dic0 : ED X W (.Dict [] [] pos) (fC (.dic [])) := ⟨_, pe_dnewK, fun E σ sd P H Q rp q p hp => by
  obtain ⟨B, Fp, Fs, rb⟩ := rp
  exact q _ _ ((rb.newB hp).put (d := .dic []) ⟨p, [], rfl, upd_same, rfl⟩).rp⟩
theorem ed_dic1 {i j : Int} {t1 t2} : ED X W (.Dict [some (.Constant (.int i) t1 p1)] [.Constant (.int j) t2 p2] pos) (fC (.dic [(.inl i, .int j)])) := ⟨_, pe_disp (pps_cons pe_int pe_int pps_nil) rfl rfl (fun z => by cases z) (Nat.le_add_left 1 14), fun E σ sd P H Q rp q p hp => by
  obtain ⟨B, Fp, Fs, rb⟩ := rp
  refine ⟨upd_same, [(.inl i, .int j)], rfl, Nat.le_add_left 1 14, ?_⟩
  rw [upd_upd]
  exact q _ _ ((rb.newB hp).put (d := .dic [(.inl i, .int j)]) ⟨p, [(.inl i, .int j)], rfl, upd_same, _, _, rfl, rfl, rfl⟩).rp⟩
end

/-! ### tuples that own -/
def fTupO (fa : SD → R (List OT)) : SD → R OT := fun sd => (fa sd).bind fun xs s1 => if xs.length ≤ sizeLine then .ok (.tup xs) s1 else .no
theorem ed_tupO {X : Cx} {W : WF} {es : List Expr} {fs : SD → R (List OT)} {k} {pos : Pos} (ha : AD X W es fs) : ED X W (.Tuple es k pos) (fTupO fs) := by
  obtain ⟨ta, pa, sa⟩ := ha
  refine ⟨_, pe_tup pa, fun E σ sd P H Q rp q => ?_⟩
  unfold fTupO at q
  refine SimA.on sa rp (fun ts s1 e1 vs H1 hl r1 => ?_) (fun e s e1 cls dd H' rx => by rw [e1] at q; exact q cls dd H' rx) (fun z => by rw [z] at q; exact q)
  rw [e1] at q
  have q2 : okE X.K W E σ P Q (if ts.length ≤ sizeLine then .ok (.tup ts) s1 else .no) := q
  by_cases hz : ts.length ≤ sizeLine
  · rw [if_pos hz] at q2
    refine ⟨by rw [hl]; exact hz, fun p hp => q2 _ _ ?_⟩
    obtain ⟨B, Fp, Fs, rb⟩ := r1
    have rb2 := rb.newB (o := .tup vs) hp
    obtain ⟨F1, F2, e, h1, h2⟩ := RepL.append_iff.mp (show RepL X.K _ _ _ Fp from rb2.pe)
    exact ⟨_, Fp, Fs, rb2.fix, rb2.sub, RepL.cons_iff.mpr ⟨F1, F2, e, ⟨p, vs, rfl, .inl (.inl upd_same), RepL.unzip hl h1⟩, h2⟩, rb2.sl, rb2.nd, rb2.go⟩
  · rw [if_neg hz] at q2
    exact False.elim q2
def gAllO : List (OT → SD → RS) → List OT → SD → RS
  | [], [], s => .nx s
  | g :: gs, t :: ts, s => (g t s).seq fun s1 => gAllO gs ts s1
  | _, _, _ => .no
def gTuO (gs : List (OT → SD → RS)) : OT → SD → RS := fun x s => match x with
  | .tup ts => if ts.length = gs.length then gAllO gs ts s else .no
  | .fz (.tup ds) => if ds.length = gs.length then gAllO gs (ds.map .fz) s else .no
  | _ => .no
structure GDo (X : Cx) (W : WF) (ts : List Expr) (gs : List (OT → SD → RS)) : Prop where
  ex : ∃ t, PGs X ts t ∧ ∀ (E : Ent W.fx) σ sd P H vs (xs : List OT) (Q : L2.St → Hp → Prop), vs.length = xs.length → Rp X.K E σ sd (vs.zip xs ++ P) H → (match gAllO gs xs sd with
    | .nx s => ∀ σ' H', Rp X.K E σ' s P H' → Q σ' H'
    | _ => False) → t vs σ H Q
section
variable {X : Cx} {W : WF} {pos : Pos}
theorem gdo_nil : GDo X W [] [] := ⟨_, pgs_nil, fun E σ sd P H vs xs Q hl rp q => by
  cases xs with
  | nil =>
    cases vs with
    | nil => exact ⟨rfl, q σ H rp⟩
    | cons _ _ => cases hl
  | cons _ _ => exact False.elim q⟩
theorem gdo_cons {e : Expr} {es : List Expr} {g : OT → SD → RS} {gs : List (OT → SD → RS)} (h1 : GD X W e g) (h2 : GDo X W es gs) (hs : (assignEach (e :: es) X.env).map (·.2) = assign e X.env :: (assignEach es X.env).map (·.2) := by rfl) : GDo X W (e :: es) (g :: gs) := by
  obtain ⟨t, p, s⟩ := h1
  obtain ⟨u, p2, s2⟩ := h2
  refine ⟨_, pgs_cons p p2 hs, fun E σ sd P H vs xs Q hl rp q => ?_⟩
  cases xs with
  | nil => exact False.elim q
  | cons x xs =>
    cases vs with
    | nil => cases hl
    | cons v vs =>
      have q' : (match (g x sd).seq fun s1 => gAllO gs xs s1 with
        | .nx s => ∀ σ' H', Rp X.K E σ' s P H' → Q σ' H'
        | _ => False) := q
      refine ⟨v, vs, rfl, s E σ sd _ H v x _ rp ?_⟩
      cases eg : g x sd with
      | nx s1 =>
        rw [eg] at q'
        exact fun σ1 H1 r1 => s2 E σ1 s1 P H1 vs xs Q (Nat.succ.inj hl) r1 q'
      | _ =>
        rw [eg] at q'
        exact False.elim q'
theorem gd_tupO {es : List Expr} {gs : List (OT → SD → RS)} {k : Nat} (hc : X.calm = true) (h : GDo X W es gs) (hn : (assignEach es X.env).length = gs.length := by rfl) (hst : (assignEach es X.env).findIdx? (·.1) = none := by rfl) : GD X W (.Tuple es k pos) (gTuO gs) := by
  obtain ⟨t, p, s⟩ := h
  refine ⟨_, pg_tup hc p hn hst, fun E σ sd P H v x Q rp q => ?_⟩
  unfold gTuO at q
  cases x with
  | tup ts =>
    by_cases hl : ts.length = gs.length
    · have q2 : (match (if ts.length = gs.length then gAllO gs ts sd else .no : RS) with
        | .nx s => ∀ σ' H', Rp X.K E σ' s P H' → Q σ' H'
        | _ => False) := q
      rw [if_pos hl] at q2
      obtain ⟨B, Fp, Fs, rb⟩ := rp
      obtain ⟨F1, F2, e, ⟨a, vs, e1, e2, e3⟩, h2⟩ := RepL.cons_iff.mp (show RepL X.K _ _ _ Fp from rb.pe)
      have hl2 := RepA.length e3
      exact ⟨a, vs, e1, Evl.ex_t rb.sub e2, by rw [hl2, hl], s E σ sd P H vs ts Q hl2 ⟨B, Fp, Fs, rb.fix, rb.sub, RepL.append_iff.mpr ⟨F1, F2, e, RepA.zip e3, h2⟩, rb.sl, rb.nd, rb.go⟩ q2⟩
    · have q2 : (match (if ts.length = gs.length then gAllO gs ts sd else .no : RS) with
        | .nx s => ∀ σ' H', Rp X.K E σ' s P H' → Q σ' H'
        | _ => False) := q
      rw [if_neg hl] at q2
      exact False.elim q2
  | fz d =>
    cases d with
    | tup ds =>
      by_cases hl : ds.length = gs.length
      · have q2 : (match (if ds.length = gs.length then gAllO gs (ds.map .fz) sd else .no : RS) with
          | .nx s => ∀ σ' H', Rp X.K E σ' s P H' → Q σ' H'
          | _ => False) := q
        rw [if_pos hl] at q2
        obtain ⟨B, Fp, Fs, rb⟩ := rp
        obtain ⟨⟨a, vs, e1, e2, e3⟩, rb2⟩ := RpB.top rb
        exact ⟨a, vs, e1, Evl.ex_t rb.sub e2, by rw [isA_len e3, hl], s E σ sd P H vs (ds.map .fz) Q (by rw [isA_len e3, List.length_map]) (rb2.puts e3).rp q2⟩
      · have q2 : (match (if ds.length = gs.length then gAllO gs (ds.map .fz) sd else .no : RS) with
          | .nx s => ∀ σ' H', Rp X.K E σ' s P H' → Q σ' H'
          | _ => False) := q
        rw [if_neg hl] at q2
        exact False.elim q2
    | _ => exact False.elim q
  | _ => exact False.elim q
theorem ng_allO : ∀ {gs : List (OT → SD → RS)} (h : ∀ g ∈ gs, Ng g) (ts : List OT) (s : SD), (∃ s', gAllO gs ts s = .nx s') ∨ gAllO gs ts s = .no
  | [], _, [], s => .inl ⟨s, rfl⟩
  | [], _, _ :: _, s => .inr rfl
  | _ :: _, _, [], s => .inr rfl
  | g :: gs, h, t :: ts, s => by
    unfold gAllO
    rcases h g List.mem_cons_self t s with ⟨s', e⟩ | e
    · rw [e]
      exact ng_allO (fun g' hg => h g' (List.mem_cons_of_mem _ hg)) ts s'
    · rw [e]
      exact .inr rfl
theorem ng_tuO {gs : List (OT → SD → RS)} (h : ∀ g ∈ gs, Ng g) : Ng (gTuO gs) := fun x s => by
  unfold gTuO
  split
  · split
    · exact ng_allO h _ _
    · exact .inr rfl
  · split
    · exact ng_allO h _ _
    · exact .inr rfl
  · exact .inr rfl
end
end DL

/-! DQ: the rules in short, for derivations that a program prints -/
namespace DL
open PySem L2 PySem.Spec PyProof.Rows

/-! ### ==, lists of other lengths too -/
def rLens (K : PySem.W.Frag) (b : Bool) : R2 := fun x y H Q => ∃ l m xs ys, x = .ref l ∧ y = .ref m ∧ SqL K H l xs ∧ SqL K H m ys ∧ xs.length ≠ ys.length ∧ Q (.bl b) H
theorem op_eqLens {X : Cx} (hu : X.A.units < cLine) : OpR X (compareOp .Eq) (rLens X.K false) := by
  intro pins s σ H x y v u Q I rx ry h
  obtain ⟨l, m, xs, ys, rfl, rfl, h1, h2, hn, q⟩ := h
  cases rx
  cases ry
  obtain ⟨its, r1, p1, _⟩ := I.list h1
  obtain ⟨jts, r2, p2, _⟩ := I.list h2
  have e1 := r1.length
  have e2 := r2.length
  exact SeqAt.eq_list_lengthsAt p1.isList p2.isList (by simp only [List.size_toArray, bne_iff_ne, ne_eq]; omega) hu ⟨.bl false, H, I, rfl, q⟩
theorem op_neLens {X : Cx} (hu : X.A.units < cLine) : OpR X (compareOp .NotEq) (rLens X.K true) := by
  intro pins s σ H x y v u Q I rx ry h
  obtain ⟨l, m, xs, ys, rfl, rfl, h1, h2, hn, q⟩ := h
  cases rx
  cases ry
  obtain ⟨its, r1, p1, _⟩ := I.list h1
  obtain ⟨jts, r2, p2, _⟩ := I.list h2
  have e1 := r1.length
  have e2 := r2.length
  exact (SeqAt.RcNeAt.lists_lengths p1.isList p2.isList (by simp only [List.size_toArray, bne_iff_ne, ne_eq]; omega) hu) _ _ _ _ ⟨.bl true, H, I, rfl, q⟩
def lensD : D → D → Bool
  | .lst ds, .lst es => ds.length != es.length
  | _, _ => false
def gEqL : D → D → Option Rt
  | .str a, .str b => some (.v (.bl (decide (V.str a = V.str b))))
  | d, e => if lensD d e = true then some (.v (.bl false)) else gEq d e
def gNeL : D → D → Option Rt
  | .str a, .str b => some (.v (.bl (!decide (V.str a = V.str b))))
  | d, e => if lensD d e = true then some (.v (.bl true)) else gNe d e
theorem lens_r {K : PySem.W.Frag} {B H : Hp} {b : Bool} {d e : D} {x y : V} {Q : VK} (ex : Evl.Ex B H) (h : lensD d e = true) (hx : Is K B d x) (hy : Is K B e y) (q : Q (.bl b) H) : rLens K b x y H Q := by
  unfold lensD at h
  split at h
  · obtain ⟨l, vs, rfl, h1, h2⟩ := hx
    obtain ⟨m, us, rfl, h3, h4⟩ := hy
    exact ⟨l, m, vs, us, rfl, rfl, .inl (.inl (ex _ _ h1)), .inl (.inl (ex _ _ h3)), by rw [isA_len h2, isA_len h4]; exact bne_iff_ne.mp h, q⟩
  · cases h
section
variable {X : Cx}
theorem g_eqL : OpG X.K (fun x y H Q => (rEqD X.K x y H Q ∨ rLens X.K false x y H Q) ∨ L2.rEq x y H Q) gEqL := by
  intro B H x y d e t Q ex hx hy hg q
  unfold gEqL at hg
  split at hg
  · cases hg
    rw [show x = _ from hx, show y = _ from hy]
    exact .inr ⟨rfl, q _ rfl⟩
  · split at hg
    · rename_i h
      cases hg
      exact .inl (.inr (lens_r ex h hx hy (q _ rfl)))
    · exact .inl (.inl (g_eq (X := X) B H x y _ _ t Q ex hx hy hg q))
theorem g_neL : OpG X.K (fun x y H Q => (rNeD X.K x y H Q ∨ rLens X.K true x y H Q) ∨ L2.rNe x y H Q) gNeL := by
  intro B H x y d e t Q ex hx hy hg q
  unfold gNeL at hg
  split at hg
  · cases hg
    rw [show x = _ from hx, show y = _ from hy]
    exact .inr ⟨rfl, q _ rfl⟩
  · split at hg
    · rename_i h
      cases hg
      exact .inl (.inr (lens_r ex h hx hy (q _ rfl)))
    · exact .inl (.inl (g_ne (X := X) B H x y _ _ t Q ex hx hy hg q))
theorem op_eqL {k : Nat} (hr : Rm k X.A) : OpR X (compareOp .Eq) (fun x y H Q => (rEqD X.K x y H Q ∨ rLens X.K false x y H Q) ∨ L2.rEq x y H Q) := ((op_eqD hr.room.units).or (op_eqLens hr.room.units0)).or op_eq
theorem op_neL {k : Nat} (hr : Rm k X.A) : OpR X (compareOp .NotEq) (fun x y H Q => (rNeD X.K x y H Q ∨ rLens X.K true x y H Q) ∨ L2.rNe x y H Q) := ((op_neD hr.room.units).or (op_neLens hr.room.units0)).or op_ne
end

/-! ### a slot given away -/
theorem ed_mov {X : Cx} {W : WF} {i : Nat} {x : Str} {pos : Pos} (h : PE X (.Name x pos) (tVar i)) : ED X W (.Name x pos) (fMov i) := by
  refine ⟨_, h, fun E σ sd P H Q r q => ?_⟩
  obtain ⟨B, Fp, Fs, rb⟩ := r
  unfold fMov at q
  split at q
  · rename_i t e
    obtain ⟨v, F2, F1, g1, rb2⟩ := rb.lift e
    exact ⟨v, g1, q v H rb2.rp⟩
  · exact q.elim

/-! ### the rules in short -/
section
variable {X : Cx} {W : WF} {a b c e : Expr} {fa fb fc fe : SD → R OT} {ga gb gc : SD → R Bool} {fs : SD → R (List OT)} {pos p : Pos} {x : Str} {k : Nat}
theorem eAdd (ha : ED X W a fa) (hb : ED X W b fb) : ED X W (.BinOp a .Add b pos) (fOp gAdd fa fb) := ed_op op_addAll (g_add (X := X)) ha hb
theorem eSub (ha : ED X W a fa) (hb : ED X W b fb) : ED X W (.BinOp a .Sub b pos) (fOp gSub fa fb) := ed_op op_sub (g_sub (X := X)) ha hb
theorem eMul (ha : ED X W a fa) (hb : ED X W b fb) : ED X W (.BinOp a .Mult b pos) (fOp gMul fa fb) := ed_op op_mulAll (g_mul (X := X)) ha hb
theorem eDiv (ha : ED X W a fa) (hb : ED X W b fb) : ED X W (.BinOp a .FloorDiv b pos) (fOp gDiv fa fb) := ed_op op_fdivW (g_div (X := X)) ha hb
theorem eMod (ha : ED X W a fa) (hb : ED X W b fb) : ED X W (.BinOp a .Mod b pos) (fOp gMod fa fb) := ed_op op_mod (g_mod (X := X)) ha hb
theorem ePow (ha : ED X W a fa) (hb : ED X W b fb) : ED X W (.BinOp a .Pow b pos) (fOp gPow fa fb) := ed_op op_pow (g_pow (X := X)) ha hb
theorem eNeg (ha : ED X W a fa) : ED X W (.UnaryOp .USub a pos) (fUn gNeg fa) := ed_un un_neg (g_neg (X := X)) ha
theorem eLt (ha : ED X W a fa) (hb : ED X W b fb) : ED X W (.Compare a [.Lt] [b] pos) (fOp gLt fa fb) := ed_cmp op_lt (g_cmp (X := X)) ha hb (nomark _)
theorem eLe (ha : ED X W a fa) (hb : ED X W b fb) : ED X W (.Compare a [.LtE] [b] pos) (fOp gLe fa fb) := ed_cmp op_le (g_cmp (X := X)) ha hb (nomark _)
theorem eGt (ha : ED X W a fa) (hb : ED X W b fb) : ED X W (.Compare a [.Gt] [b] pos) (fOp gGt fa fb) := ed_cmp op_gt (g_cmp (X := X)) ha hb (nomark _)
theorem eGe (ha : ED X W a fa) (hb : ED X W b fb) : ED X W (.Compare a [.GtE] [b] pos) (fOp gGe fa fb) := ed_cmp op_ge (g_cmp (X := X)) ha hb (nomark _)
theorem eEq (hr : Rm k X.A) (ha : ED X W a fa) (hb : ED X W b fb) : ED X W (.Compare a [.Eq] [b] pos) (fOp gEqL fa fb) := ed_cmp (op_eqL hr) (g_eqL (X := X)) ha hb (nomark _)
theorem eNe (hr : Rm k X.A) (ha : ED X W a fa) (hb : ED X W b fb) : ED X W (.Compare a [.NotEq] [b] pos) (fOp gNeL fa fb) := ed_cmp (op_neL hr) (g_neL (X := X)) ha hb (nomark _)
theorem eIs (ha : ED X W a fa) (hb : ED X W b fb) : ED X W (.Compare a [.Is] [b] pos) (fOp gIs fa fb) := ed_cmp op_isN (g_is (X := X)) ha hb (nomark _)
theorem tLt (ha : ED X W a fa) (hb : ED X W b fb) : TD X W (.Compare a [.Lt] [b] pos) (fB (fOp gLt fa fb)) := td_cmp op_lt (g_cmp (X := X)) ha hb (nomark _)
theorem tLe (ha : ED X W a fa) (hb : ED X W b fb) : TD X W (.Compare a [.LtE] [b] pos) (fB (fOp gLe fa fb)) := td_cmp op_le (g_cmp (X := X)) ha hb (nomark _)
theorem tGt (ha : ED X W a fa) (hb : ED X W b fb) : TD X W (.Compare a [.Gt] [b] pos) (fB (fOp gGt fa fb)) := td_cmp op_gt (g_cmp (X := X)) ha hb (nomark _)
theorem tGe (ha : ED X W a fa) (hb : ED X W b fb) : TD X W (.Compare a [.GtE] [b] pos) (fB (fOp gGe fa fb)) := td_cmp op_ge (g_cmp (X := X)) ha hb (nomark _)
theorem tEq (hr : Rm k X.A) (ha : ED X W a fa) (hb : ED X W b fb) : TD X W (.Compare a [.Eq] [b] pos) (fB (fOp gEqL fa fb)) := td_cmp (op_eqL hr) (g_eqL (X := X)) ha hb (nomark _)
theorem tNe (hr : Rm k X.A) (ha : ED X W a fa) (hb : ED X W b fb) : TD X W (.Compare a [.NotEq] [b] pos) (fB (fOp gNeL fa fb)) := td_cmp (op_neL hr) (g_neL (X := X)) ha hb (nomark _)
theorem tIs (ha : ED X W a fa) (hb : ED X W b fb) : TD X W (.Compare a [.Is] [b] pos) (fB (fOp gIs fa fb)) := td_cmp op_isN (g_is (X := X)) ha hb (nomark _)
theorem tEqS {i : Nat} (hr : Rm k X.A) (hp : PE X (.Name x p) (tVar i)) (hb : ED X W b fb) : TD X W (.Compare (.Name x p) [.Eq] [b] pos) (fB (fOpS gEqL i fb)) := td_opS (op_eqL hr) (g_eqL (X := X)) hp hb (nomark _)
theorem tNeS {i : Nat} (hr : Rm k X.A) (hp : PE X (.Name x p) (tVar i)) (hb : ED X W b fb) : TD X W (.Compare (.Name x p) [.NotEq] [b] pos) (fB (fOpS gNeL i fb)) := td_opS (op_neL hr) (g_neL (X := X)) hp hb (nomark _)
theorem eLeLe (ha : ED X W a fa) (hb : ED X W b fb) (hc : ED X W c fc) (hm : lastMarks [.LtE, .LtE] [b, c] = false := by with_unfolding_all rfl) : ED X W (.Compare a [.LtE, .LtE] [b, c] pos) (fChain gLe gLe fa fb fc) :=
  ed_chain op_le op_le (g_cmp (X := X)) (g_cmp (X := X)) ha hb hc fun _ _ _ h1 h2 h3 => pe_chain op_le op_le h1 h2 h3 hm
theorem eIx (ha : ED X W a fa) (hb : ED X W b fb) (hs : PlainIx b := by exact fun _ _ => rfl) : ED X W (.Subscript a b pos) (fOp gIx2 fa fb) := ed_ix ix_seq (g_ix (X := X)) ha hb hs
theorem eSl {lo hi : Option Expr} {fl fh : FO} {p2 : Pos} (ha : ED X W a fa) (hl : OD X W lo fl) (hh : OD X W hi fh) : ED X W (.Subscript a (.Slice lo hi none p2) pos) (fSl gSl fa fl fh) := ed_slice sl_all (g_sl (X := X)) ha hl hh
variable {es : List Expr}
theorem eLen (gl : Gl X "len") (hm : X.mg "len" = none) (ha : AD X W (e :: es) fs) (he : starEach (e :: es) X.env = (false, eval e X.env) :: starEach es X.env := by rfl) (hpl : (backTo pos (starEach es X.env)).any (·.1) = false := by rfl) :
    ED X W (.Call (.Name "len" p) (e :: es) [] pos) (fCa gLen fs) := ed_callB c_len (g_len (X := X)) gl hm PySem.boot_len ha (by decide) (by decide) he hpl
theorem eAbs (gl : Gl X "abs") (hm : X.mg "abs" = none) (ha : AD X W (e :: es) fs) (he : starEach (e :: es) X.env = (false, eval e X.env) :: starEach es X.env := by rfl) (hpl : (backTo pos (starEach es X.env)).any (·.1) = false := by rfl) :
    ED X W (.Call (.Name "abs" p) (e :: es) [] pos) (fCa gAbs fs) := ed_callB call_abs (g_abs (X := X)) gl hm boot_abs ha (by decide) (by decide) he hpl
theorem eSorted (gl : Gl X "sorted") (hm : X.mg "sorted" = none) (ha : AD X W (e :: es) fs) (he : starEach (e :: es) X.env = (false, eval e X.env) :: starEach es X.env := by rfl) (hpl : (backTo pos (starEach es X.env)).any (·.1) = false := by rfl) :
    ED X W (.Call (.Name "sorted" p) (e :: es) [] pos) (fCa gSorted fs) := ed_callB cr_sortedI (g_sorted (X := X)) gl hm boot_sorted ha (by decide) (by decide) he hpl
theorem eAll (hc : X.calm = true) (gl : Gl X "all") (hm : X.mg "all" = none) (ha : AD X W (e :: es) fs) (he : starEach (e :: es) X.env = (false, eval e X.env) :: starEach es X.env := by rfl) (hpl : (backTo pos (starEach es X.env)).any (·.1) = false := by rfl) :
    ED X W (.Call (.Name "all" p) (e :: es) [] pos) (fCa gAll' fs) := ed_callB (cr_all hc) (g_all (X := X)) gl hm boot_all ha (by decide) (by decide) he hpl
theorem eAny (hc : X.calm = true) (gl : Gl X "any") (hm : X.mg "any" = none) (ha : AD X W (e :: es) fs) (he : starEach (e :: es) X.env = (false, eval e X.env) :: starEach es X.env := by rfl) (hpl : (backTo pos (starEach es X.env)).any (·.1) = false := by rfl) :
    ED X W (.Call (.Name "any" p) (e :: es) [] pos) (fCa gAny fs) := ed_callB (cr_any hc) (g_any (X := X)) gl hm boot_any ha (by decide) (by decide) he hpl
theorem eSum (hc : X.calm = true) (gl : Gl X "sum") (hm : X.mg "sum" = none) (ha : AD X W (e :: es) fs) (he : starEach (e :: es) X.env = (false, eval e X.env) :: starEach es X.env := by rfl) (hpl : (backTo pos (starEach es X.env)).any (·.1) = false := by rfl) :
    ED X W (.Call (.Name "sum" p) (e :: es) [] pos) (fCa gSum fs) := ed_callB (cr_sum hc) (g_sum (X := X)) gl hm boot_sum ha (by decide) (by decide) he hpl
theorem eMax (hc : X.calm = true) (gl : Gl X "max") (hm : X.mg "max" = none) (ha : AD X W (e :: es) fs) (he : starEach (e :: es) X.env = (false, eval e X.env) :: starEach es X.env := by rfl) (hpl : (backTo pos (starEach es X.env)).any (·.1) = false := by rfl) :
    ED X W (.Call (.Name "max" p) (e :: es) [] pos) (fCa gMax fs) := ed_callB (cr_max hc) (g_max (X := X)) gl hm boot_max ha (by decide) (by decide) he hpl
theorem eMin (hc : X.calm = true) (gl : Gl X "min") (hm : X.mg "min" = none) (ha : AD X W (e :: es) fs) (he : starEach (e :: es) X.env = (false, eval e X.env) :: starEach es X.env := by rfl) (hpl : (backTo pos (starEach es X.env)).any (·.1) = false := by rfl) :
    ED X W (.Call (.Name "min" p) (e :: es) [] pos) (fCa gMin fs) := ed_callB (cr_min hc) (g_min (X := X)) gl hm boot_min ha (by decide) (by decide) he hpl
theorem eMax2 (hc : X.calm = true) (gl : Gl X "max") (hm : X.mg "max" = none) (ha : AD X W (e :: es) fs) (he : starEach (e :: es) X.env = (false, eval e X.env) :: starEach es X.env := by rfl) (hpl : (backTo pos (starEach es X.env)).any (·.1) = false := by rfl) :
    ED X W (.Call (.Name "max" p) (e :: es) [] pos) (fCa gMax2 fs) := ed_callB (call_max2 hc) (g_max2 (X := X)) gl hm boot_max ha (by decide) (by decide) he hpl
theorem eMin2 (hc : X.calm = true) (gl : Gl X "min") (hm : X.mg "min" = none) (ha : AD X W (e :: es) fs) (he : starEach (e :: es) X.env = (false, eval e X.env) :: starEach es X.env := by rfl) (hpl : (backTo pos (starEach es X.env)).any (·.1) = false := by rfl) :
    ED X W (.Call (.Name "min" p) (e :: es) [] pos) (fCa gMin2 fs) := ed_callB (call_min2 hc) (g_min2 (X := X)) gl hm boot_min ha (by decide) (by decide) he hpl
theorem eInt (gl : Gl X "int") (hm : X.mg "int" = none) (ha : AD X W (e :: es) fs) (he : starEach (e :: es) X.env = (false, eval e X.env) :: starEach es X.env := by rfl) (hpl : (backTo pos (starEach es X.env)).any (·.1) = false := by rfl) :
    ED X W (.Call (.Name "int" p) (e :: es) [] pos) (fCa gInt fs) := ed_callT call_int1 (g_int (X := X)) gl hm boot_int ha (by decide) (by decide) he hpl
theorem eBool (gl : Gl X "bool") (hm : X.mg "bool" = none) (ha : AD X W (e :: es) fs) (he : starEach (e :: es) X.env = (false, eval e X.env) :: starEach es X.env := by rfl) (hpl : (backTo pos (starEach es X.env)).any (·.1) = false := by rfl) :
    ED X W (.Call (.Name "bool" p) (e :: es) [] pos) (fCa gBool fs) := ed_callT call_bool1 (g_bool (X := X)) gl hm boot_bool ha (by decide) (by decide) he hpl
theorem eList (gl : Gl X "list") (hm : X.mg "list" = none) (ha : AD X W (e :: es) fs) (he : starEach (e :: es) X.env = (false, eval e X.env) :: starEach es X.env := by rfl) (hpl : (backTo pos (starEach es X.env)).any (·.1) = false := by rfl) :
    ED X W (.Call (.Name "list" p) (e :: es) [] pos) (fCa gList fs) := ed_callT call_list_of (g_list (X := X)) gl hm boot_list ha (by decide) (by decide) he hpl
theorem eTuple (gl : Gl X "tuple") (hm : X.mg "tuple" = none) (ha : AD X W (e :: es) fs) (he : starEach (e :: es) X.env = (false, eval e X.env) :: starEach es X.env := by rfl) (hpl : (backTo pos (starEach es X.env)).any (·.1) = false := by rfl) :
    ED X W (.Call (.Name "tuple" p) (e :: es) [] pos) (fCa gTuple fs) := ed_callT call_tuple_of (g_tuple (X := X)) gl hm boot_tuple ha (by decide) (by decide) he hpl
theorem eRepr (hr : Rm k X.A) (gl : Gl X "repr") (hm : X.mg "repr" = none) (ha : AD X W (e :: es) fs) (he : starEach (e :: es) X.env = (false, eval e X.env) :: starEach es X.env := by rfl) (hpl : (backTo pos (starEach es X.env)).any (·.1) = false := by rfl) :
    ED X W (.Call (.Name "repr" p) (e :: es) [] pos) (fCa gRepr fs) := ed_callB (call_repr_d hr) g_repr gl hm boot_repr ha (by decide) (by decide) he hpl
end
end DL

/-! DR: more rules in short -/
namespace DL
open PySem L2 PySem.Spec PyProof.Rows
def gAddI : D → D → Option Rt
  | .int i, .int j => some (.v (.int (i + j)))
  | _, _ => none
def gSubI : D → D → Option Rt
  | .int i, .int j => some (.v (.int (i - j)))
  | _, _ => none
theorem takes0 {X : Cx} : Takes X (fun _ _ _ _ => False) := fun u s' ⟨_, _, _, _, _, _, _, _, _, _, _, _, _, _, _, _, w⟩ => w.elim
section
variable {X : Cx} {W : WF} {a b c e : Expr} {fa fb fc fe : SD → R OT} {pos pos2 apos p : Pos} {x : Str} {k i : Nat}
theorem ipg_add : IpG X.K (ipI fun i j => i + j) gAddI := by
  intro B H x y d e z Q ex hx hy hg q
  unfold gAddI at hg
  split at hg
  · cases hg
    exact ⟨_, _, hx, hy, q _ rfl⟩
  · cases hg
theorem ipg_sub : IpG X.K (ipI fun i j => i - j) gSubI := by
  intro B H x y d e z Q ex hx hy hg q
  unfold gSubI at hg
  split at hg
  · cases hg
    exact ⟨_, _, hx, hy, q _ rfl⟩
  · cases hg
/-! names that are stored -/
theorem nS (i : Nat) (nd : X.N.Nodup) (he : ED X W e fe) {p' : Pos} (hi : X.N[i]? = some x := by rfl) (hx : Loc X.env.scope x := by first | exact .inl rfl | exact .inr rfl) (hs : swapsWith e (some (.Name x p')) pos.line X.env = pure false := by rfl)
    (hf : X.fn x = true ∨ X.env.scope.names.lookup x = some .local := by first | exact .inl rfl | exact .inr rfl) (hv : i ∉ W.fx := by first | decide | (dsimp only; decide)) : SDs X W (.Assign [.Name x p'] e pos) (sSet i fe) := sd_set nd hi hx he hs hf hv
theorem nF (i : Nat) (nd : X.N.Nodup) (he : ED X W e fe) {p' : Pos} (hi : X.N[i]? = some x := by rfl) (hx : Loc X.env.scope x := by first | exact .inl rfl | exact .inr rfl) (hs : swapsWith e (some (.Name x p')) pos.line X.env = pure false := by rfl)
    (hf : X.fn x = true ∨ X.env.scope.names.lookup x = some .local := by first | exact .inl rfl | exact .inr rfl) (hv : i ∉ W.fx := by first | decide | (dsimp only; decide)) : SDs X W (.Assign [.Name x p'] e pos) (sSetF i fe) := sd_setF nd hi hx he hs hf hv
theorem nAdd (i : Nat) (nd : X.N.Nodup) (he : ED X W e fe) {p' : Pos} (hi : X.N[i]? = some x := by rfl) (hx : Loc X.env.scope x := by first | exact .inl rfl | exact .inr rfl)
    (hf : X.fn x = true ∨ X.env.scope.names.lookup x = some .local := by first | exact .inl rfl | exact .inr rfl) (hv : i ∉ W.fx := by first | decide | (dsimp only; decide)) : SDs X W (.AugAssign (.Name x p') .Add e pos) (sAug i gAddI fe) := sd_aug nd hi hx he ip_add (ipg_add (X := X)) hf hv
theorem nSub (i : Nat) (nd : X.N.Nodup) (he : ED X W e fe) {p' : Pos} (hi : X.N[i]? = some x := by rfl) (hx : Loc X.env.scope x := by first | exact .inl rfl | exact .inr rfl)
    (hf : X.fn x = true ∨ X.env.scope.names.lookup x = some .local := by first | exact .inl rfl | exact .inr rfl) (hv : i ∉ W.fx := by first | decide | (dsimp only; decide)) : SDs X W (.AugAssign (.Name x p') .Sub e pos) (sAug i gSubI fe) := sd_aug nd hi hx he ip_sub (ipg_sub (X := X)) hf hv
theorem iAdd (hp : PE X (.Name x p) (tVar i)) (hk : ED X W b fb) (he : ED X W e fe) (ha : ∀ ov iv new, augStore b ov iv new = (do holding [new, ov, iv] (setItem ov iv new); release [new, ov, iv] []; pure .next) := by intros; rfl) : SDs X W (.AugAssign (.Subscript (.Name x p) b pos2) .Add e pos) (sAugIx i fb gAddI fe) :=
  sd_augIx hp hk he ip_add (ipg_add (X := X)) ha
theorem iSub (hp : PE X (.Name x p) (tVar i)) (hk : ED X W b fb) (he : ED X W e fe) (ha : ∀ ov iv new, augStore b ov iv new = (do holding [new, ov, iv] (setItem ov iv new); release [new, ov, iv] []; pure .next) := by intros; rfl) : SDs X W (.AugAssign (.Subscript (.Name x p) b pos2) .Sub e pos) (sAugIx i fb gSubI fe) :=
  sd_augIx hp hk he ip_sub (ipg_sub (X := X)) ha
theorem pN (i : Nat) (nd : X.N.Nodup) (hi : X.N[i]? = some x := by rfl) (hx : Loc X.env.scope x := by first | exact .inl rfl | exact .inr rfl) (hf : X.fn x = true ∨ X.env.scope.names.lookup x = some .local := by first | exact .inl rfl | exact .inr rfl) : PG X (.Name x pos) (gName i) := pg_name nd hi hx hf
theorem tN (i : Nat) (nd : X.N.Nodup) (hi : X.N[i]? = some x := by rfl) (hx : Loc X.env.scope x := by first | exact .inl rfl | exact .inr rfl) (hf : X.fn x = true ∨ X.env.scope.names.lookup x = some .local := by first | exact .inl rfl | exact .inr rfl) (hv : i ∉ W.fx := by first | decide | (dsimp only; decide)) : GD X W (.Name x pos) (gNm i) := gd_name (pg_name nd hi hx hf) hv
theorem tF (i : Nat) (nd : X.N.Nodup) (hi : X.N[i]? = some x := by rfl) (hx : Loc X.env.scope x := by first | exact .inl rfl | exact .inr rfl) (hf : X.fn x = true ∨ X.env.scope.names.lookup x = some .local := by first | exact .inl rfl | exact .inr rfl) (hv : i ∉ W.fx := by first | decide | (dsimp only; decide)) : GD X W (.Name x pos) (gNmF i) := gd_nameF (pg_name nd hi hx hf) hv
/-! methods of the slot's own list -/
abbrev few (X : Cx) (es : List Expr) (cpos : Pos) : Bool := (backTo cpos (starEach es X.env)).all (fun x => !x.1) && (backToKw cpos (keywordEach [] X.env)).all (fun x => x.1.isSome) && decide (es.length + ([] : List Keyword).length + (if ([] : List Keyword).isEmpty then 0 else 1) < 30)
theorem mApp (hp : PE X (.Name x p) (tVar i)) (he : ED X W a fe) (hb : attributeBase (.Name x p) "append" X.env (eval (.Name x p) X.env) = eval (.Name x p) X.env := by rfl) (hfw : few X [a] pos = true := by rfl) (hl : (apos.endLine == pos.line) = true := by rfl)
    (hs : swapsWith (.Call (.Attribute (.Name x p) "append" apos) [a] [] pos) none pos2.line X.env = pure false := by rfl) (hst : starEach (a :: []) X.env = (false, eval a X.env) :: starEach [] X.env := by rfl) (hpl : (backTo pos (starEach [] X.env)).any (·.1) = false := by rfl) :
    SDs X W (.Expr (.Call (.Attribute (.Name x p) "append" apos) [a] [] pos) pos2) (sApp i fe) := sd_app hp he (fun t te h1 h2 => pe_bm PySem.F.plainAttrs_list PySem.F.slot_list_append PySem.F.type_list_append mt_append h2 h1 hb hfw hl hst hpl) hs hst
theorem mPop (hp : PE X (.Name x p) (tVar i)) (he : ED X W a fe) (hb : attributeBase (.Name x p) "pop" X.env (eval (.Name x p) X.env) = eval (.Name x p) X.env := by rfl) (hfw : few X [a] pos = true := by rfl) (hl : (apos.endLine == pos.line) = true := by rfl)
    (hst : starEach (a :: []) X.env = (false, eval a X.env) :: starEach [] X.env := by rfl) (hpl : (backTo pos (starEach [] X.env)).any (·.1) = false := by rfl) :
    ED X W (.Call (.Attribute (.Name x p) "pop" apos) [a] [] pos) (fPopAt i fe) := ed_popAt hp he (fun t te h1 h2 => pe_bm PySem.F.plainAttrs_list PySem.F.slot_list_pop PySem.F.type_list_pop mt_popAt h2 h1 hb hfw hl hst hpl) hst
theorem mIns (hp : PE X (.Name x p) (tVar i)) (hk : ED X W a fa) (he : ED X W b fb) (hb : attributeBase (.Name x p) "insert" X.env (eval (.Name x p) X.env) = eval (.Name x p) X.env := by rfl) (hfw : few X [a, b] pos = true := by rfl) (hl : (apos.endLine == pos.line) = true := by rfl)
    (hs : swapsWith (.Call (.Attribute (.Name x p) "insert" apos) [a, b] [] pos) none pos2.line X.env = pure false := by rfl) (hst : starEach (a :: [b]) X.env = (false, eval a X.env) :: starEach [b] X.env := by rfl) (hst2 : starEach (b :: []) X.env = (false, eval b X.env) :: starEach [] X.env := by rfl) (hpl : (backTo pos (starEach [b] X.env)).any (·.1) = false := by rfl) :
    SDs X W (.Expr (.Call (.Attribute (.Name x p) "insert" apos) [a, b] [] pos) pos2) (sIns i fa fb) := sd_ins hp hk he (fun t te h1 h2 => pe_bm PySem.F.plainAttrs_list PySem.F.slot_list_insert PySem.F.type_list_insert mt_insert h2 h1 hb hfw hl hst hpl) hs hst hst2
theorem mRev (hp : PE X (.Name x p) (tVar i)) (hb : attributeBase (.Name x p) "reverse" X.env (eval (.Name x p) X.env) = eval (.Name x p) X.env := by rfl) (hl : (apos.endLine == pos.line) = true := by rfl)
    (hs : swapsWith (.Call (.Attribute (.Name x p) "reverse" apos) [] [] pos) none pos2.line X.env = pure false := by rfl) :
    SDs X W (.Expr (.Call (.Attribute (.Name x p) "reverse" apos) [] [] pos) pos2) (sRev i) := sd_rev hp (fun te h2 => pe_bm0 PySem.F.plainAttrs_list PySem.F.slot_list_reverse PySem.F.type_list_reverse mt_reverse h2 hb hl) hs
end
/-! ### a, b = x, y; a, b, c = x, y, z: plain local names -/
def keepB (k : Bool) (t : OT) : OT := if k = true then t else .fz t.frz
theorem Rp.keepTop {fx : List Nat} {K : PySem.W.Frag} {E : Ent fx} {σ : L2.St} {sd : SD} {P : PV} {H : Hp} {v : V} {t : OT} (k : Bool) (h : Rp K E σ sd ((v, t) :: P) H) : Rp K E σ sd ((v, keepB k t) :: P) H := by
  cases k with
  | true => exact h
  | false => exact h.coldTop
def sPar2 (i j : Nat) (ki kj : Bool) (fa : SD → R (List OT)) : SD → RS := fun sd => (fa sd).thn fun xs s1 => match xs with
  | [x, y] => .nx ((s1.set i (some (keepB ki x))).set j (some (keepB kj y)))
  | _ => .no
def sPar3 (i j l : Nat) (ki kj kl : Bool) (fa : SD → R (List OT)) : SD → RS := fun sd => (fa sd).thn fun xs s1 => match xs with
  | [x, y, z] => .nx (((s1.set i (some (keepB ki x))).set j (some (keepB kj y))).set l (some (keepB kl z)))
  | _ => .no
section
variable {X : Cx} {W : WF} {a b c : Expr} {fs : SD → R (List OT)} {pos px py pz pt : Pos} {x y z : Str} {kt : Nat} {k2 : Nat} {pt2 : Pos}
theorem sd_par2 (i j : Nat) (ki kj : Bool) (hc : X.calm = true) (hN : X.N.Nodup) (ha : AD X W [a, b] fs) (hi : X.N[i]? = some x := by rfl) (hj : X.N[j]? = some y := by rfl) (hij : i ≠ j := by decide) (hx : X.env.scope.names.lookup x = some .local := by rfl) (hy : X.env.scope.names.lookup y = some .local := by rfl)
    (hw : swappedStores [.Tuple [.Name x px, .Name y py] kt pt] (.Tuple [a, b] k2 pt2) X.env = pure (some [x, y]) := by rfl) (hs : swapsWithSole [.Tuple [.Name x px, .Name y py] kt pt] (.Tuple [a, b] k2 pt2) pos.line X.env = pure false := by rfl)
    (hv : i ∉ W.fx := by first | decide | (dsimp only; decide)) (hv2 : j ∉ W.fx := by first | decide | (dsimp only; decide)) : SDs X W (.Assign [.Tuple [.Name x px, .Name y py] kt pt] (.Tuple [a, b] k2 pt2) pos) (sPar2 i j ki kj fs) := by
  obtain ⟨t, p, s⟩ := ha
  refine ⟨_, ps_par hc hN hi hj hij hx hy p hw hs, fun E σ sd P H D rp q => ?_⟩
  unfold sPar2 at q
  refine SimA.on s rp (fun ts s1 e1 vs H1 hl r1 => ?_) (fun a s e1 cls dd H' rx => by rw [e1] at q; exact q cls dd σ H' rx) (fun z => by rw [z] at q; exact q)
  rw [e1] at q
  match ts, vs, hl, q, r1 with
  | [t1, t2], [v1, v2], _, q, r1 =>
    refine ⟨v1, v2, rfl, ?_⟩
    exact q _ H1 (((Rp.keepTop ki r1).store i hv).keepTop kj |>.store j hv2)
  | [t1, t2], [], hl, _, _ => cases hl
  | [t1, t2], [_], hl, _, _ => cases hl
  | [t1, t2], _ :: _ :: _ :: _, hl, _, _ => cases hl
  | [], _, _, q, _ => exact False.elim q
  | [_], _, _, q, _ => exact False.elim q
  | _ :: _ :: _ :: _, _, _, q, _ => exact False.elim q
theorem sd_par3 (i j l : Nat) (ki kj kl : Bool) (hc : X.calm = true) (hN : X.N.Nodup) (ha : AD X W [a, b, c] fs) (hi : X.N[i]? = some x := by rfl) (hj : X.N[j]? = some y := by rfl) (hl : X.N[l]? = some z := by rfl) (hij : i ≠ j := by decide) (hil : i ≠ l := by decide) (hjl : j ≠ l := by decide)
    (hx : X.env.scope.names.lookup x = some .local := by rfl) (hy : X.env.scope.names.lookup y = some .local := by rfl) (hz : X.env.scope.names.lookup z = some .local := by rfl)
    (hw : swappedStores [.Tuple [.Name x px, .Name y py, .Name z pz] kt pt] (.Tuple [a, b, c] k2 pt2) X.env = pure (some [x, y, z]) := by rfl) (hs : swapsWithSole [.Tuple [.Name x px, .Name y py, .Name z pz] kt pt] (.Tuple [a, b, c] k2 pt2) pos.line X.env = pure false := by rfl)
    (hv : i ∉ W.fx := by first | decide | (dsimp only; decide)) (hv2 : j ∉ W.fx := by first | decide | (dsimp only; decide)) (hv3 : l ∉ W.fx := by first | decide | (dsimp only; decide)) : SDs X W (.Assign [.Tuple [.Name x px, .Name y py, .Name z pz] kt pt] (.Tuple [a, b, c] k2 pt2) pos) (sPar3 i j l ki kj kl fs) := by
  obtain ⟨t, p, s⟩ := ha
  refine ⟨_, ps_par3 hc hN hi hj hl hij hil hjl hx hy hz p hw hs, fun E σ sd P H D rp q => ?_⟩
  unfold sPar3 at q
  refine SimA.on s rp (fun ts s1 e1 vs H1 hl r1 => ?_) (fun a s e1 cls dd H' rx => by rw [e1] at q; exact q cls dd σ H' rx) (fun z => by rw [z] at q; exact q)
  rw [e1] at q
  match ts, vs, hl, q, r1 with
  | [t1, t2, t3], [v1, v2, v3], _, q, r1 =>
    refine ⟨v1, v2, v3, rfl, ?_⟩
    exact q _ H1 ((((Rp.keepTop ki r1).store i hv).keepTop kj |>.store j hv2).keepTop kl |>.store l hv3)
  | [t1, t2, t3], [], hl, _, _ => cases hl
  | [t1, t2, t3], [_], hl, _, _ => cases hl
  | [t1, t2, t3], [_, _], hl, _, _ => cases hl
  | [t1, t2, t3], _ :: _ :: _ :: _ :: _, hl, _, _ => cases hl
  | [], _, _, q, _ => exact False.elim q
  | [_], _, _, q, _ => exact False.elim q
  | [_, _], _, _, q, _ => exact False.elim q
  | _ :: _ :: _ :: _ :: _, _, _, q, _ => exact False.elim q
end
end DL

/-! DS: a law's end, from the promise of its def -/
namespace DL
open PySem L2 PySem.Spec PyProof.Rows

section
variable {P : Program} {w : World} {K : PySem.W.Frag} {mg mb : Str → Option Value} {k : Nat} {fa a : Addr} {fd : FuncData} {x : Str} {sp : Sp} {s1 : Shared} {vs : List Value} {ns : List Int}
abbrev Told (s1 : Shared) : Result → Shared → Prop := fun r s' => r = .ok (.ret (.bool true)) ∧ OldK s1.heap s'.heap ∧ s'.os = s1.os ∧ AllBare s'.gens
/-- from an abstract heap in which the script alone may be tracked -/
theorem tell_at (inK : K.In s1.heap) (nsM : s1.heap.Ns mainGlobals mg) (nsB : s1.heap.Ns builtinsNs mb) (bt : ∀ y : Str, y ≠ "__name__" → mb y = bootBuiltins y) (nl : s1.heap.NoLimit) (g0 : s1.gens = #[])
    (ea : s1.heap.get? a = some { cls := .type "list", data := .seq vs.toArray }) (room : Rm k callerA) (F : ∀ base : Heap, K.In base → base.Ns mainGlobals mg → FnG P w K mg base k fa fd [x] sp)
    (bind : ∀ (s : Shared) (u : Value), BindsTo s fd ⟨[u], []⟩ [(x, u)]) (wish : ∀ H : Hp, Only H → SqL K H a (ns.map V.int) → sp [.ref a] H (fun v _ => v = .bl true) fun _ _ _ => False)
    (H : Hp) (only : Only H) (hS : SqL K H a (ns.map V.int)) (ok : HOk P w H s1.heap) (at_ : ∀ b, H b ≠ none → b = a) (out : H a ≠ none → K.lookup a = none) :
    codeAny (model P w) callerA (.call (.ref fa) ⟨[.ref a], []⟩) (Told s1) s1 := by
  have stays : ∀ {b : Addr} {o : Obj}, s1.heap.get? b = some o → H b = none → (hidT s1.heap H).get? b = some o := fun e n => hidT_get e n
  have free : ∀ {b : Addr} {o : Obj} {es : Array DictEntry} {ep : Nat}, s1.heap.get? b = some o → o.data = .dict es ep → H b = none := by
    intro b o es ep e d
    cases q : H b with
    | none => rfl
    | some u =>
      have eb : b = a := at_ b (by rw [q]; simp)
      rw [eb, ea] at e
      cases e
      cases d
  have nsAt : ∀ {b : Addr} {m : Str → Option Value}, s1.heap.Ns b m → (hidT s1.heap H).Ns b m := fun ⟨o, es, ep, e, d, r⟩ => ⟨o, es, ep, stays e (free e d), d, r⟩
  have inB : K.In (hidT s1.heap H) := by
    intro b o e
    refine stays (inK b o e) ?_
    cases q : H b with
    | none => rfl
    | some u =>
      have eb : b = a := at_ b (by rw [q]; simp)
      have := out (by rw [← eb, q]; simp)
      rw [← eb, e] at this
      cases this
  have M : Mod K mg (hidT s1.heap H) := ⟨inB, nsAt nsM, ⟨mb, nsAt nsB, bt⟩, let ⟨mc, h1, h2⟩ := nl; ⟨mc, nsAt h1, h2⟩⟩
  have none0 : ∀ b ∈ frs ([] : List Env), H b = none := fun b hb => absurd (show b ∈ ([] : List Addr) from hb) (by simp)
  have e0 : Env0 P w K mg (hidT s1.heap H) callerA [] s1 H := ⟨rfl, M, fun b o e => of_hidT e, Nat.le_of_eq (hidT_size _ _), trivial, none0, ok, .of_eq g0⟩
  refine codeAny_mono ((F _ inB (nsAt nsM)).run callerA [] s1 H ⟨[.ref a], []⟩ [.ref a] [.ref a] _ _ room e0 (bind s1 (.ref a)) (.cons rfl .nil) (wish H only hS)) fun r s' z => ?_
  cases r with
  | error e =>
    obtain ⟨_, _, _, _, _, _, _, _, _, _, _, _, no⟩ := z
    exact no.elim
  | ok fl =>
    cases fl with
    | ret u =>
      obtain ⟨v, G, os, bare, un, okG, rv, q⟩ := z
      have q' : v = .bl true := q
      rw [q'] at rv
      have eu : u = Value.bool true := rv
      rw [eu]
      refine ⟨rfl, OldK.of_keep fun b o e => ?_, os, bare⟩
      cases q : H b with
      | none => exact un.keep b o e q (by intro z; exact absurd (show b ∈ ([] : List Addr) from z) (by simp)) (by simp)
      | some u =>
        cases only b with
        | inl z => rw [q] at z; cases z
        | inr z =>
          obtain ⟨ob, xs, z⟩ := z
          obtain ⟨e1, _⟩ := ok b _ z
          obtain ⟨e2, _⟩ := okG b _ (un.frzs b ob _ z)
          rw [e] at e1
          cases e1
          exact e2
    | _ => exact False.elim z
theorem tell (inK : K.In s1.heap) (nsM : s1.heap.Ns mainGlobals mg) (nsB : s1.heap.Ns builtinsNs mb) (bt : ∀ y : Str, y ≠ "__name__" → mb y = bootBuiltins y) (nl : s1.heap.NoLimit) (g0 : s1.gens = #[])
    (ea : s1.heap.get? a = some { cls := .type "list", data := .seq vs.toArray }) (iv : IntsAre vs ns) (hl : ns.length ≤ sizeLine) (room : Rm k callerA) (F : ∀ base : Heap, K.In base → base.Ns mainGlobals mg → FnG P w K mg base k fa fd [x] sp)
    (bind : ∀ (s : Shared) (u : Value), BindsTo s fd ⟨[u], []⟩ [(x, u)]) (wish : ∀ H : Hp, Only H → SqL K H a (ns.map V.int) → sp [.ref a] H (fun v _ => v = .bl true) fun _ _ _ => False) :
    codeAny (model P w) callerA (.call (.ref fa) ⟨[.ref a], []⟩) (Told s1) s1 := by
  have rv := vals_ints iv
  cases hk : K.lookup a with
  | some o =>
    have e := inK a o hk
    rw [ea] at e
    cases e
    exact tell_at inK nsM nsB bt nl g0 ea room F bind wish (fun _ => none) (fun _ => .inl rfl) (.inr ⟨_, vs.toArray, _, hk, rfl, rfl, rfl, by rw [List.size_toArray, iv.length]; exact hl, by simpa using rv⟩) (fun b u z => by cases (show (none : Option HO) = some u from z)) (fun b z => absurd rfl z) fun z => absurd rfl z
  | none =>
    let o : HO := .frz { cls := .type "list", data := .seq vs.toArray } (.lst (ns.map V.int))
    have yes : (if a = a then some o else none) = some o := if_pos rfl
    refine tell_at inK nsM nsB bt nl g0 ea room F bind wish (fun b => if b = a then some o else none) (fun b => ?_) (.inl (.inr ⟨_, yes⟩)) (fun b u z => ?_) (fun b z => ?_) fun _ => hk
    · by_cases hb : b = a
      · exact .inr ⟨_, _, if_pos hb⟩
      · exact .inl (if_neg hb)
    · by_cases hb : b = a
      · have z' := (if_pos hb).symm.trans z
        cases z'
        rw [hb]
        exact ⟨ea, by rw [List.length_map]; exact hl, vs, _, rv, ea⟩
      · cases (if_neg hb).symm.trans z
    · by_cases hb : b = a
      · exact hb
      · exact absurd (if_neg hb) z
end
/-- a law: it gives True at every script of at most n numbers -/
theorem walkD {l : PySem.W.OpenLaw} {n k : Nat} {q : Program} {loose : List Str} {XP : (Str → Option Value) → Heap → Prop} {YP : World → Heap → Prop} {d : DefRec} {x : Str}
    (hn : l.most = some n) (hn2 : n ≤ sizeLine) (hdf : d.params.defaults = []) (room : Rm k callerA)
    (F : ∀ (w : World) (mg : Str → Option Value) (fa : Addr) (h : Heap), YP w h → h.Ns mainGlobals mg → mg d.name = some (.ref fa) →
      ∃ (K : PySem.W.Frag) (fd : FuncData) (sp : Sp), K.In h ∧ (∀ (s : Shared) (u : Value), BindsTo s fd ⟨[u], []⟩ [(x, u)]) ∧
        (∀ (H : Hp) (a : Addr) (ns : List Int), ns.length ≤ n → Only H → SqL K H a (ns.map V.int) → sp [.ref a] H (fun v _ => v = .bl true) fun _ _ _ => False) ∧ ∀ base : Heap, K.In base → base.Ns mainGlobals mg → FnG l.prog w K mg base k fa fd [x] sp) :
    PySem.W.WalkO q loose XP YP l.row.toRowW d [] (fun f vs => PySem.call f vs) := by
  refine Att.attach_call hn hdf fun w s0 s1 mg mb fa o pm cd doc a vs ns G Y _ _ _ hmg hobj hints hlen hg => ?_
  obtain ⟨K, fd, sp, KX, hb, hsp, hF⟩ := F w mg fa _ Y G.T.g hmg
  exact tell KX G.T.g G.T.b G.T.builtins G.T.nolimit hg hobj hints (Nat.le_trans hlen hn2) room hF hb fun H hO hS => hsp H a ns hlen hO hS
/-- .. that is a function over trees -/
theorem wish_of {K : PySem.W.Frag} {n : Nat} {F : List OT → FR} (h : ∀ ns : List Int, ns.length ≤ n → ∃ bk, F [.fz (.scr ns)] = .ok (.fz (.bl true)) bk) (H : Hp) (a : Addr) (ns : List Int) (hl : ns.length ≤ n) (_ : Only H) (hS : SqL K H a (ns.map V.int)) :
    spD K 1 [] F [.ref a] H (fun v _ => v = .bl true) fun _ _ _ => False := by
  refine ⟨rfl, H, [], [.fz (.scr ns)], fun _ _ e => e, ⟨.ref a, [], [], [], rfl, rfl, ⟨rfl, a, rfl, hS⟩, rfl, rfl⟩, List.nodup_nil, ?_⟩
  obtain ⟨bk, e⟩ := h ns hl
  rw [e]
  intro v H' σ' r
  obtain ⟨B, Fp, Fs, rb⟩ := r
  exact (RpB.top rb).1
theorem room_of (k : Nat) (h1 : callerA.depth + 3 * k + 5 < recursionLimit) (h2 : callerA.units + 16 * k + 200 < cLine) : Rm k callerA := ⟨⟨rfl, h1, h2⟩, rfl⟩
end DL

/-! DT: plain tools: the bag -/
namespace DL
open PySem L2 PySem.Spec PyProof.Rows
theorem seq_nx {f g : SD → RS} {s s' : SD} (h : f s = .nx s') : sSeq f g s = g s' := by unfold sSeq; rw [h]; rfl
theorem seq_rt {f g : SD → RS} {s s' : SD} {t : OT} (h : f s = .rt t s') : sSeq f g s = .rt t s' := by unfold sSeq; rw [h]; rfl
def bagT (a b c : Int) (cs : List Int) : OT := .own [.fz (.int a), .fz (.int b), .fz (.int c), .fz (.lst (cs.map .int))]
section
variable {a b c : Int} {cs : List Int} {r : SD}
theorem bag0 : fIxS 0 (fC (.int 0)) (some (bagT a b c cs) :: r) = .ok (.fz (.int a)) (some (bagT a b c cs) :: r) := rfl
theorem bag1 : fIxS 0 (fC (.int 1)) (some (bagT a b c cs) :: r) = .ok (.fz (.int b)) (some (bagT a b c cs) :: r) := rfl
theorem bag2 : fIxS 0 (fC (.int 2)) (some (bagT a b c cs) :: r) = .ok (.fz (.int c)) (some (bagT a b c cs) :: r) := rfl
theorem bag3 : fIxS 0 (fC (.int 3)) (some (bagT a b c cs) :: r) = .ok (.fz (.lst (cs.map .int))) (some (bagT a b c cs) :: r) := rfl
theorem bagS0 {i : Int} : gIx 0 (fC (.int 0)) (.fz (.int i)) (some (bagT a b c cs) :: r) = .nx (some (bagT i b c cs) :: r) := rfl
theorem bagS1 {i : Int} : gIx 0 (fC (.int 1)) (.fz (.int i)) (some (bagT a b c cs) :: r) = .nx (some (bagT a i c cs) :: r) := rfl
theorem bagA2 {i : Int} : sAugIx 0 (fC (.int 2)) gAddI (fC (.int i)) (some (bagT a b c cs) :: r) = .nx (some (bagT a b (c + i) cs) :: r) := rfl
theorem eq_ii {i j : Int} : gEqL (.int i) (.int j) = some (.v (.bl (i == j))) := by
  show (if (true = true ∧ true = true) then some (Rt.v (.bl (PyData.eqv (.int i) (.int j)))) else none) = _
  rw [if_pos ⟨rfl, rfl⟩]
  simp [PyData.eqv]
theorem ne_ii {i j : Int} : gNeL (.int i) (.int j) = some (.v (.bl (i != j))) := by
  show (if (true = true ∧ true = true) then some (Rt.v (.bl (!PyData.eqv (.int i) (.int j)))) else none) = _
  rw [if_pos ⟨rfl, rfl⟩]
  simp [PyData.eqv, bne]
end
def takeG : SD → RS := (sSeq (sIf (fB (fOp gEqL (fIxS 0 (fC (.int 0))) (fC (.int 0)))) (sSeq (sSetF 4 (fC (.int 0))) (sSeq (sIf (fB (fOp gLt (fIxS 0 (fC (.int 2))) (fCa gLen (fCons (fIxS 0 (fC (.int 3))) fNil)))) (sSetF 4 (fOp gIx2 (fIxS 0 (fC (.int 3))) (fIxS 0 (fC (.int 2))))) sNil) (sSeq (sAugIx 0 (fC (.int 2)) gAddI (fC (.int 1))) (sSeq (sIf (fB (fOp gGe (fVar 4) (fC (.int 1000000000000000000)))) (sAsg (fVar 4) (gIx 0 (fC (.int 0)))) sNil) (sAsg (fOp gMod (fOp gAdd (fOp gAdd (fOp gMul (fIxS 0 (fC (.int 1))) (fC (.int 48271))) (fOp gMod (fVar 4) (fC (.int 2147483647)))) (fOp gMul (fC (.int 7919)) (fIxS 0 (fC (.int 2))))) (fC (.int 2147483647))) (gIx 0 (fC (.int 1)))))))) sNil) (sSeq (sIf (fB (fOp gGt (fIxS 0 (fC (.int 0))) (fC (.int 0)))) (sSeq (sSetF 5 (fOp gMod (fIxS 0 (fC (.int 0))) (fVar 1))) (sSeq (sAsg (fOp gDiv (fIxS 0 (fC (.int 0))) (fVar 1)) (gIx 0 (fC (.int 0)))) (sRet (fVar 5)))) sNil) (sSeq (sSetF 2 (fOp gMod (fOp gMul (fOp gAdd (fIxS 0 (fC (.int 1))) (fC (.int 1))) (fC (.int 39373))) (fC (.int 1000000007)))) (sSeq (sSetF 3 (fOp gMod (fOp gMul (fOp gMod (fOp gMul (fVar 2) (fVar 2)) (fC (.int 998244353))) (fC (.int 30011))) (fC (.int 998244353)))) (sSeq (sIf (fB (fOp gGt (fVar 1) (fC (.int 1000000)))) (sRet (fOp gMod (fOp gAdd (fOp gMul (fVar 3) (fC (.int 1000000007))) (fVar 2)) (fVar 1))) sNil) (sRet (fOp gMod (fOp gDiv (fVar 3) (fC (.int 7))) (fVar 1))))))))
structure Bg where
  a : Int
  b : Int
  c : Int
  cs : List Int
def Bg.t (g : Bg) : OT := bagT g.a g.b g.c g.cs
structure Bg.I (g : Bg) (m : Nat) : Prop where
  a0 : 0 ≤ g.a
  b0 : 0 ≤ g.b
  b1 : g.b < 2147483647
  c0 : 0 ≤ g.c
  c1 : g.c ≤ m
  cs0 : ∀ x ∈ g.cs, 0 ≤ x
theorem log_lt {i : Int} {k : Nat} (h0 : 0 ≤ i) (h : i < 2 ^ k) (hk : 0 < k) : i.natAbs.log2 < k := by
  by_cases e : i.natAbs = 0
  · rw [e]; simpa using hk
  · exact (Nat.log2_lt e).mpr (by
      have : (i.natAbs : Int) < 2 ^ k := by rw [Int.natAbs_of_nonneg h0]; exact h
      exact_mod_cast this)
/-! evaluation, step by step -/
section
variable {g : D → D → Option Rt} {fa fb fc fe : SD → R OT} {gc : SD → R Bool} {f f' : SD → RS} {s s1 s2 s3 : SD} {x y z t : OT} {r : Rt} {k : Bool} {i : Nat}
theorem e_op (ha : fa s = .ok x s1) (hb : fb s1 = .ok y s2) (hg : g x.frz y.frz = some r) : fOp g fa fb s = .ok r.ot s2 := by
  unfold fOp
  rw [ha]
  show (fb s1).bind _ = _
  rw [hb]
  show R.of (g x.frz y.frz) s2 = _
  rw [hg]
  rfl
theorem e_tst (ha : fa s = .ok x s1) (hx : x.frz = .bl k) : fB fa s = .ok k s1 := by
  unfold fB
  rw [ha]
  show (match x.frz with
    | .bl b => R.ok b s1
    | _ => .no) = _
  rw [hx]
theorem e_tcmp (ha : fa s = .ok x s1) (hb : fb s1 = .ok y s2) (hg : g x.frz y.frz = some (.v (.bl k))) : fB (fOp g fa fb) s = .ok k s2 := e_tst (e_op ha hb hg) rfl
theorem e_c {d : D} : fC d s = .ok (.fz d) s := rfl
theorem e_nil : fNil s = .ok [] s := rfl
theorem e_ift (hc : gc s = .ok true s1) : sIf gc f f' s = f s1 := by
  unfold sIf
  rw [hc]
  rfl
theorem e_iff (hc : gc s = .ok false s1) : sIf gc f f' s = f' s1 := by
  unfold sIf
  rw [hc]
  rfl
theorem e_ifb (hc : gc s = .ok k s1) : sIf gc f f' s = if k = true then f s1 else f' s1 := by
  unfold sIf
  rw [hc]
  rfl
theorem e_set (h : fe s = .ok t s1) : sSet i fe s = .nx (s1.set i (some t)) := by
  unfold sSet
  rw [h]
  rfl
theorem e_setF (h : fe s = .ok t s1) : sSetF i fe s = .nx (s1.set i (some (.fz t.frz))) := by
  unfold sSetF
  rw [h]
  rfl
theorem e_asg {tg : OT → SD → RS} (h : fe s = .ok t s1) : sAsg fe tg s = tg t s1 := by
  unfold sAsg
  rw [h]
  rfl
theorem e_ret (h : fe s = .ok t s1) : sRet fe s = .rt t s1 := by
  unfold sRet
  rw [h]
  rfl
theorem e_var {d : D} (h : s[i]? = some (some (.fz d))) : fVar i s = .ok (.fz d) s := by
  unfold fVar
  rw [h]
theorem e_ca {q : List D → Option Rt} {fs : SD → R (List OT)} {xs : List OT} (h : fs s = .ok xs s1) (hq : q (xs.map OT.frz) = some r) : fCa q fs s = .ok r.ot s1 := by
  unfold fCa
  rw [h]
  show R.of (q (xs.map OT.frz)) s1 = _
  rw [hq]
  rfl
theorem e_cons {fr : SD → R (List OT)} {xs : List OT} (h : fe s = .ok x s1) (hr : fr s1 = .ok xs s2) : fCons fe fr s = .ok (x :: xs) s2 := by
  unfold fCons
  rw [h]
  show (fr s1).bind _ = _
  rw [hr]
  rfl
end
theorem lt_ii {i j : Int} : gLt (.int i) (.int j) = some (.v (.bl (decide (i < j)))) := rfl
theorem le_ii {i j : Int} : gLe (.int i) (.int j) = some (.v (.bl (decide (i ≤ j)))) := rfl
theorem gt_ii {i j : Int} : gGt (.int i) (.int j) = some (.v (.bl (decide (j < i)))) := rfl
theorem ge_ii {i j : Int} : gGe (.int i) (.int j) = some (.v (.bl (decide (j ≤ i)))) := rfl
theorem add_ii {i j : Int} : gAdd (.int i) (.int j) = some (.v (.int (i + j))) := rfl
theorem sub_ii {i j : Int} : gSub (.int i) (.int j) = some (.v (.int (i - j))) := rfl
theorem mod_ii {i j : Int} (h : 0 < j) : gMod (.int i) (.int j) = some (.v (.int (i % j))) := if_pos h
theorem div_ii {i j : Int} (h : 0 < j) (h2 : j.natAbs.log2 < 9000) : gDiv (.int i) (.int j) = some (.v (.int (i / j))) := if_pos ⟨h, h2⟩
theorem mul_ii {i j : Int} (h : i.natAbs.log2 + j.natAbs.log2 < 1000000) : gMul (.int i) (.int j) = some (.v (.int (i * j))) := if_pos h
theorem g_len_ints {cs : List Int} : gLen ([.fz (.lst (cs.map .int))].map OT.frz) = some (.v (.int (cs.length : Nat))) := by
  show some (Rt.v (.int ((cs.map D.int).length : Nat))) = _
  rw [List.length_map]
theorem g_ix_ints {cs : List Int} {c : Int} (h0 : 0 ≤ c) (h1 : c < (cs.length : Nat)) : gIx2 (.lst (cs.map .int)) (.int c) = some (.v (.int (cs.getD c.toNat 0))) := by
  show (atI (cs.map D.int) c).map Rt.v = _
  have hl : c.toNat < cs.length := by omega
  have e : atI (cs.map D.int) c = some (.int (cs.getD c.toNat 0)) := by
    unfold atI ixN
    rw [List.length_map]
    rw [List.getD_eq_getElem?_getD, List.getElem?_eq_getElem hl]
    simp [h0, h1, hl]
  rw [e]
  rfl
/-- the state behind the first part -/
def Bg.next (g : Bg) : Bg :=
  if g.a = 0 then
    let cell := if g.c < (g.cs.length : Nat) then g.cs.getD g.c.toNat 0 else 0
    ⟨if 1000000000000000000 ≤ cell then cell else 0, (g.b * 48271 + cell % 2147483647 + 7919 * (g.c + 1)) % 2147483647, g.c + 1, g.cs⟩
  else g
theorem Bg.next_I {g : Bg} {m : Nat} (h : g.I m) : g.next.I (m + 1) := by
  unfold Bg.next
  split
  · have cell0 : 0 ≤ (if g.c < (g.cs.length : Nat) then g.cs.getD g.c.toNat 0 else 0) := by
      split
      · rename_i hc
        have hl : g.c.toNat < g.cs.length := by have := h.c0; omega
        rw [List.getD_eq_getElem?_getD, List.getElem?_eq_getElem hl]
        exact h.cs0 _ (List.getElem_mem hl)
      · exact Int.le_refl 0
    refine ⟨?_, Int.emod_nonneg _ (by decide), Int.emod_lt_of_pos _ (by decide), ?_, ?_, h.cs0⟩
    · show 0 ≤ (if 1000000000000000000 ≤ (if g.c < (g.cs.length : Nat) then g.cs.getD g.c.toNat 0 else 0) then (if g.c < (g.cs.length : Nat) then g.cs.getD g.c.toNat 0 else 0) else 0)
      generalize (if g.c < (g.cs.length : Nat) then g.cs.getD g.c.toNat 0 else 0) = z at cell0 ⊢
      split
      · exact cell0
      · exact Int.le_refl 0
    · show 0 ≤ g.c + 1
      have := h.c0
      omega
    · show g.c + 1 ≤ _
      have := h.c1
      omega
  · exact ⟨h.a0, h.b0, h.b1, h.c0, by have := h.c1; omega, h.cs0⟩
def takeA : SD → RS := sIf (fB (fOp gEqL (fIxS 0 (fC (.int 0))) (fC (.int 0)))) (sSeq (sSetF 4 (fC (.int 0))) (sSeq (sIf (fB (fOp gLt (fIxS 0 (fC (.int 2))) (fCa gLen (fCons (fIxS 0 (fC (.int 3))) fNil)))) (sSetF 4 (fOp gIx2 (fIxS 0 (fC (.int 3))) (fIxS 0 (fC (.int 2))))) sNil) (sSeq (sAugIx 0 (fC (.int 2)) gAddI (fC (.int 1))) (sSeq (sIf (fB (fOp gGe (fVar 4) (fC (.int 1000000000000000000)))) (sAsg (fVar 4) (gIx 0 (fC (.int 0)))) sNil) (sAsg (fOp gMod (fOp gAdd (fOp gAdd (fOp gMul (fIxS 0 (fC (.int 1))) (fC (.int 48271))) (fOp gMod (fVar 4) (fC (.int 2147483647)))) (fOp gMul (fC (.int 7919)) (fIxS 0 (fC (.int 2))))) (fC (.int 2147483647))) (gIx 0 (fC (.int 1)))))))) sNil
theorem takeA_eq {g : Bg} {m : Nat} {x : Int} (h : g.I m) (hm : m < 2 ^ 60) : ∃ o, takeA [some g.t, some (.fz (.int x)), none, none, none, none] = .nx [some g.next.t, some (.fz (.int x)), none, none, o, none] := by
  obtain ⟨a, b, c, cs⟩ := g
  have h1 : b.natAbs.log2 < 31 := log_lt h.b0 (by have := h.b1; simp only at this; omega) (by decide)
  have h2 : (c + 1).natAbs.log2 < 61 := log_lt (by have := h.c0; simp only at this; omega) (by have := h.c1; simp only at this; omega) (by decide)
  by_cases ha : a = 0
  · subst ha
    have hc0 : 0 ≤ c := h.c0
    let cell : Int := if c < (cs.length : Nat) then cs.getD c.toNat 0 else 0
    -- the cell
    have p1 : sSetF 4 (fC (.int 0)) [some (bagT 0 b c cs), some (.fz (.int x)), none, none, none, none] = .nx [some (bagT 0 b c cs), some (.fz (.int x)), none, none, some (.fz (.int 0)), none] := rfl
    have p2 : sIf (fB (fOp gLt (fIxS 0 (fC (.int 2))) (fCa gLen (fCons (fIxS 0 (fC (.int 3))) fNil)))) (sSetF 4 (fOp gIx2 (fIxS 0 (fC (.int 3))) (fIxS 0 (fC (.int 2))))) sNil [some (bagT 0 b c cs), some (.fz (.int x)), none, none, some (.fz (.int 0)), none]
        = .nx [some (bagT 0 b c cs), some (.fz (.int x)), none, none, some (.fz (.int cell)), none] := by
      rw [e_ifb (e_tcmp bag2 (e_ca (e_cons bag3 e_nil) g_len_ints) lt_ii)]
      by_cases hc : c < (cs.length : Nat)
      · rw [if_pos (decide_eq_true hc), e_setF (e_op bag3 bag2 (g_ix_ints hc0 hc)), show cell = cs.getD c.toNat 0 from if_pos hc]
        rfl
      · rw [if_neg (by simpa using hc), show cell = 0 from if_neg hc]
        rfl
    have p3 : sAugIx 0 (fC (.int 2)) gAddI (fC (.int 1)) [some (bagT 0 b c cs), some (.fz (.int x)), none, none, some (.fz (.int cell)), none] = .nx [some (bagT 0 b (c + 1) cs), some (.fz (.int x)), none, none, some (.fz (.int cell)), none] := bagA2
    have p4 : sIf (fB (fOp gGe (fVar 4) (fC (.int 1000000000000000000)))) (sAsg (fVar 4) (gIx 0 (fC (.int 0)))) sNil [some (bagT 0 b (c + 1) cs), some (.fz (.int x)), none, none, some (.fz (.int cell)), none]
        = .nx [some (bagT (if 1000000000000000000 ≤ cell then cell else 0) b (c + 1) cs), some (.fz (.int x)), none, none, some (.fz (.int cell)), none] := by
      rw [e_ifb (e_tcmp (e_var (i := 4) rfl) e_c ge_ii)]
      by_cases hc : 1000000000000000000 ≤ cell
      · rw [if_pos (decide_eq_true hc), if_pos hc, e_asg (e_var (i := 4) rfl), bagS0]
      · rw [if_neg (by simpa using hc), if_neg hc]
        rfl
    have p5 : sAsg (fOp gMod (fOp gAdd (fOp gAdd (fOp gMul (fIxS 0 (fC (.int 1))) (fC (.int 48271))) (fOp gMod (fVar 4) (fC (.int 2147483647)))) (fOp gMul (fC (.int 7919)) (fIxS 0 (fC (.int 2))))) (fC (.int 2147483647))) (gIx 0 (fC (.int 1)))
          [some (bagT (if 1000000000000000000 ≤ cell then cell else 0) b (c + 1) cs), some (.fz (.int x)), none, none, some (.fz (.int cell)), none]
        = .nx [some (bagT (if 1000000000000000000 ≤ cell then cell else 0) ((b * 48271 + cell % 2147483647 + 7919 * (c + 1)) % 2147483647) (c + 1) cs), some (.fz (.int x)), none, none, some (.fz (.int cell)), none] := by
      have l1 : (48271 : Int).natAbs.log2 = 15 := by decide +kernel
      have l2 : (7919 : Int).natAbs.log2 = 12 := by decide +kernel
      rw [e_asg (e_op (e_op (e_op (e_op bag1 e_c (mul_ii (by omega))) (e_op (e_var (i := 4) rfl) e_c (mod_ii (by decide))) add_ii) (e_op e_c bag2 (mul_ii (by omega))) add_ii) e_c (mod_ii (by decide)))]
      exact bagS1
    refine ⟨some (.fz (.int cell)), ?_⟩
    unfold takeA Bg.t
    rw [e_ifb (e_tcmp bag0 e_c eq_ii), if_pos (by simp), seq_nx p1, seq_nx p2, seq_nx p3, seq_nx p4, p5]
    rfl
  · refine ⟨none, ?_⟩
    unfold takeA Bg.t Bg.next
    rw [e_ifb (e_tcmp bag0 e_c eq_ii), if_neg (by simpa using ha)]
    simp only [ha, if_false]
    rfl
def takeB : SD → RS := sSeq (sIf (fB (fOp gGt (fIxS 0 (fC (.int 0))) (fC (.int 0)))) (sSeq (sSetF 5 (fOp gMod (fIxS 0 (fC (.int 0))) (fVar 1))) (sSeq (sAsg (fOp gDiv (fIxS 0 (fC (.int 0))) (fVar 1)) (gIx 0 (fC (.int 0)))) (sRet (fVar 5)))) sNil) (sSeq (sSetF 2 (fOp gMod (fOp gMul (fOp gAdd (fIxS 0 (fC (.int 1))) (fC (.int 1))) (fC (.int 39373))) (fC (.int 1000000007)))) (sSeq (sSetF 3 (fOp gMod (fOp gMul (fOp gMod (fOp gMul (fVar 2) (fVar 2)) (fC (.int 998244353))) (fC (.int 30011))) (fC (.int 998244353)))) (sSeq (sIf (fB (fOp gGt (fVar 1) (fC (.int 1000000)))) (sRet (fOp gMod (fOp gAdd (fOp gMul (fVar 3) (fC (.int 1000000007))) (fVar 2)) (fVar 1))) sNil) (sRet (fOp gMod (fOp gDiv (fVar 3) (fC (.int 7))) (fVar 1))))))
theorem take_split : takeG = sSeq takeA takeB := rfl
theorem takeB_eq {g : Bg} {m : Nat} {x : Int} {o : Option OT} (h : g.I m) (hx : 0 < x) (hx2 : x.natAbs.log2 < 9000) : ∃ (v : Int) (g' : Bg) (r : SD), takeB [some g.t, some (.fz (.int x)), none, none, o, none] = .rt (.fz (.int v)) (some g'.t :: r) ∧ 0 ≤ v ∧ v < x ∧ g'.I m := by
  obtain ⟨a, b, c, cs⟩ := g
  unfold takeB Bg.t
  by_cases ha : 0 < a
  · refine ⟨a % x, ⟨a / x, b, c, cs⟩, [some (.fz (.int x)), none, none, o, some (.fz (.int (a % x)))], ?_, Int.emod_nonneg _ (by omega), Int.emod_lt_of_pos _ hx, ⟨Int.ediv_nonneg h.a0 (by omega), h.b0, h.b1, h.c0, h.c1, h.cs0⟩⟩
    refine seq_rt ?_
    have p1 : sSetF 5 (fOp gMod (fIxS 0 (fC (.int 0))) (fVar 1)) [some (bagT a b c cs), some (.fz (.int x)), none, none, o, none] = .nx [some (bagT a b c cs), some (.fz (.int x)), none, none, o, some (.fz (.int (a % x)))] := by
      rw [e_setF (e_op bag0 (e_var (i := 1) rfl) (mod_ii hx))]
      rfl
    have p2 : sAsg (fOp gDiv (fIxS 0 (fC (.int 0))) (fVar 1)) (gIx 0 (fC (.int 0))) [some (bagT a b c cs), some (.fz (.int x)), none, none, o, some (.fz (.int (a % x)))] = .nx [some (bagT (a / x) b c cs), some (.fz (.int x)), none, none, o, some (.fz (.int (a % x)))] := by
      rw [e_asg (e_op bag0 (e_var (i := 1) rfl) (div_ii hx hx2))]
      exact bagS0
    rw [e_ift ((e_tcmp bag0 e_c gt_ii).trans (by rw [decide_eq_true ha])), seq_nx p1, seq_nx p2, e_ret (e_var (i := 5) rfl)]
  · have hb0 : 0 ≤ b := h.b0
    have hb1 : b < 2147483647 := h.b1
    have f0 : 0 ≤ (b + 1) * 39373 % 1000000007 := Int.emod_nonneg _ (by decide)
    have f1 : (b + 1) * 39373 % 1000000007 < 1000000007 := Int.emod_lt_of_pos _ (by decide)
    generalize ef : (b + 1) * 39373 % 1000000007 = f at f0 f1
    have lf : f.natAbs.log2 < 30 := log_lt f0 (by omega) (by decide)
    have s0 : 0 ≤ f * f % 998244353 := Int.emod_nonneg _ (by decide)
    have s1 : f * f % 998244353 < 998244353 := Int.emod_lt_of_pos _ (by decide)
    generalize es : f * f % 998244353 = t at s0 s1
    have lt' : t.natAbs.log2 < 30 := log_lt s0 (by omega) (by decide)
    have u0 : 0 ≤ t * 30011 % 998244353 := Int.emod_nonneg _ (by decide)
    have u1 : t * 30011 % 998244353 < 998244353 := Int.emod_lt_of_pos _ (by decide)
    generalize eu : t * 30011 % 998244353 = u at u0 u1
    have lu : u.natAbs.log2 < 30 := log_lt u0 (by omega) (by decide)
    have lb : (b + 1).natAbs.log2 < 32 := log_lt (by omega) (by omega) (by decide)
    have l1 : (39373 : Int).natAbs.log2 = 15 := by decide +kernel
    have l2 : (30011 : Int).natAbs.log2 = 14 := by decide +kernel
    have l3 : (1000000007 : Int).natAbs.log2 = 29 := by decide +kernel
    have l7 : (7 : Int).natAbs.log2 = 2 := by decide +kernel
    have p1 : sIf (fB (fOp gGt (fIxS 0 (fC (.int 0))) (fC (.int 0)))) (sSeq (sSetF 5 (fOp gMod (fIxS 0 (fC (.int 0))) (fVar 1))) (sSeq (sAsg (fOp gDiv (fIxS 0 (fC (.int 0))) (fVar 1)) (gIx 0 (fC (.int 0)))) (sRet (fVar 5)))) sNil [some (bagT a b c cs), some (.fz (.int x)), none, none, o, none] = .nx [some (bagT a b c cs), some (.fz (.int x)), none, none, o, none] := by
      rw [e_iff ((e_tcmp bag0 e_c gt_ii).trans (by rw [decide_eq_false ha]))]
      rfl
    have p2 : sSetF 2 (fOp gMod (fOp gMul (fOp gAdd (fIxS 0 (fC (.int 1))) (fC (.int 1))) (fC (.int 39373))) (fC (.int 1000000007))) [some (bagT a b c cs), some (.fz (.int x)), none, none, o, none] = .nx [some (bagT a b c cs), some (.fz (.int x)), some (.fz (.int f)), none, o, none] := by
      rw [e_setF (e_op (e_op (e_op bag1 e_c add_ii) e_c (mul_ii (by omega))) e_c (mod_ii (by decide))), ← ef]
      rfl
    have p3 : sSetF 3 (fOp gMod (fOp gMul (fOp gMod (fOp gMul (fVar 2) (fVar 2)) (fC (.int 998244353))) (fC (.int 30011))) (fC (.int 998244353))) [some (bagT a b c cs), some (.fz (.int x)), some (.fz (.int f)), none, o, none] = .nx [some (bagT a b c cs), some (.fz (.int x)), some (.fz (.int f)), some (.fz (.int u)), o, none] := by
      rw [e_setF (e_op (e_op (e_op (e_op (e_var (i := 2) rfl) (e_var (i := 2) rfl) (mul_ii (by omega))) e_c (mod_ii (by decide))) e_c (mul_ii (by rw [es]; omega))) e_c (mod_ii (by decide))), es, eu]
      rfl
    rw [seq_nx p1, seq_nx p2, seq_nx p3]
    by_cases hl : 1000000 < x
    · refine ⟨(u * 1000000007 + f) % x, ⟨a, b, c, cs⟩, [some (.fz (.int x)), some (.fz (.int f)), some (.fz (.int u)), o, none], seq_rt ?_, Int.emod_nonneg _ (by omega), Int.emod_lt_of_pos _ hx, h⟩
      rw [e_ift ((e_tcmp (e_var (i := 1) rfl) e_c gt_ii).trans (by rw [decide_eq_true hl])), e_ret (e_op (e_op (e_op (e_var (i := 3) rfl) e_c (mul_ii (by omega))) (e_var (i := 2) rfl) add_ii) (e_var (i := 1) rfl) (mod_ii hx))]
      rfl
    · refine ⟨u / 7 % x, ⟨a, b, c, cs⟩, [some (.fz (.int x)), some (.fz (.int f)), some (.fz (.int u)), o, none], (seq_nx (s' := [some (bagT a b c cs), some (.fz (.int x)), some (.fz (.int f)), some (.fz (.int u)), o, none]) ?_).trans ?_, Int.emod_nonneg _ (by omega), Int.emod_lt_of_pos _ hx, h⟩
      · rw [e_iff ((e_tcmp (e_var (i := 1) rfl) e_c gt_ii).trans (by rw [decide_eq_false hl]))]
        rfl
      · rw [e_ret (e_op (e_op (e_var (i := 3) rfl) e_c (div_ii (by decide) (by omega))) (e_var (i := 1) rfl) (mod_ii hx))]
        rfl
theorem take_spec {g : Bg} {m : Nat} {x : Int} (h : g.I m) (hm : m < 2 ^ 60) (hx : 0 < x) (hx2 : x.natAbs.log2 < 9000) : ∃ (v : Int) (g' : Bg) (r : SD), fnD 4 takeG [g.t, .fz (.int x)] = .ok (.fz (.int v)) (some g'.t :: r) ∧ 0 ≤ v ∧ v < x ∧ g'.I (m + 1) := by
  obtain ⟨o, e⟩ := takeA_eq (x := x) h hm
  obtain ⟨v, g', r, e2, h1, h2, h3⟩ := takeB_eq (o := o) (Bg.next_I h) hx hx2
  refine ⟨v, g', r, ?_, h1, h2, h3⟩
  show endF (takeG [some g.t, some (.fz (.int x)), none, none, none, none]) = _
  rw [take_split, seq_nx e, e2]
  rfl
/-- a call of it, the bag in slot j -/
theorem take_call {fa : SD → R OT} {s s1 : SD} {j : Nat} {g : Bg} {m : Nat} {x : Int} {t : OT} (h : g.I m) (hm : m < 2 ^ 60) (hx : 0 < x) (hx2 : x.natAbs.log2 < 9000) (hs : s[j]? = some (some g.t)) (hf : fa s = .ok t s1) (ht : t = .fz (.int x)) (hs1 : s1[j]? = some (some g.t)) :
    ∃ (v : Int) (g' : Bg), fCall [0] (fnD 4 takeG) [] (lLent j (lCons fa lNil)) s = .ok (.fz (.int v)) (s1.set j (some g'.t)) ∧ 0 ≤ v ∧ v < x ∧ g'.I (m + 1) := by
  obtain ⟨v, g', r, e, h1, h2, h3⟩ := take_spec h hm hx hx2
  refine ⟨v, g', ?_, h1, h2, h3⟩
  have e1 : lLent j (lCons fa lNil) s = .ok [.s j, .v t] s1 := by
    unfold lLent
    rw [hs]
    show (lCons fa lNil s).bind _ = _
    unfold lCons
    rw [hf]
    rfl
  unfold fCall
  rw [e1]
  show (match takeOut [.s j, .v t] s1 with
    | some (us, s2) => (match fnD 4 takeG (us ++ List.map OT.fz []) with
      | .ok u bk => R.ok u (backs (lents [0] bk 0 [.s j, .v t]) s2)
      | .ex e bk => .ex e (backs (lents [0] bk 0 [.s j, .v t]) s2)
      | .no => .no)
    | none => .no) = _
  have e2 : takeOut [.s j, .v t] s1 = some ([g.t, t], s1.set j none) := by
    unfold takeOut
    rw [hs1]
    rfl
  rw [e2]
  subst ht
  show (match fnD 4 takeG [g.t, .fz (.int x)] with
      | .ok u bk => R.ok u (backs (lents [0] bk 0 [.s j, .v (.fz (.int x))]) (s1.set j none))
      | .ex e bk => .ex e (backs (lents [0] bk 0 [.s j, .v (.fz (.int x))]) (s1.set j none))
      | .no => .no) = _
  rw [e]
  show R.ok (OT.fz (.int v)) ((s1.set j none).set j (some g'.t)) = _
  rw [List.set_set]
end DL

/-! DU: plain tools: calls, comprehensions, loops -/
namespace DL
open PySem L2 PySem.Spec PyProof.Rows
section
variable {F : List OT → FR} {fa fe : SD → R OT} {fr : SD → R (List AT)} {s s1 s2 : SD} {x t : OT} {xs vals : List OT} {j : Nat}
theorem a_nil : lNil s = .ok (([] : List OT).map AT.v) s := rfl
theorem a_cons (h : fa s = .ok x s1) (hr : fr s1 = .ok (xs.map AT.v) s2) : lCons fa fr s = .ok ((x :: xs).map AT.v) s2 := by
  unfold lCons
  rw [h]
  show (fr s1).bind _ = _
  rw [hr]
  rfl
theorem out_v : ∀ {vals : List OT} {s : SD}, takeOut (vals.map AT.v) s = some (vals, s)
  | [], _ => rfl
  | v :: vs, s => by
    rw [List.map_cons]
    unfold takeOut
    rw [out_v (vals := vs)]
theorem lents_v {fx : List Nat} {bk : SD} : ∀ {vals : List OT} {k : Nat}, lents fx bk k (vals.map AT.v) = []
  | [], _ => rfl
  | v :: vs, k => by
    rw [List.map_cons]
    unfold lents
    exact lents_v (vals := vs)
/-- a call by values -/
theorem e_call {fx : List Nat} (hf : fr s = .ok (vals.map AT.v) s1) (hF : ∃ bk, F vals = .ok t bk) : fCall fx F [] fr s = .ok t s1 := by
  obtain ⟨bk, e⟩ := hF
  unfold fCall
  rw [hf]
  show (match takeOut (vals.map AT.v) s1 with
    | some (us, s2) => (match F (us ++ []) with
      | .ok t bk => R.ok t (backs (lents fx bk 0 (vals.map AT.v)) s2)
      | .ex e bk => .ex e (backs (lents fx bk 0 (vals.map AT.v)) s2)
      | .no => .no)
    | none => .no) = _
  rw [out_v]
  show (match F (vals ++ []) with
      | .ok t bk => R.ok t (backs (lents fx bk 0 (vals.map AT.v)) s1)
      | .ex e bk => .ex e (backs (lents fx bk 0 (vals.map AT.v)) s1)
      | .no => .no) = _
  rw [List.append_nil, e]
  show R.ok t (backs (lents fx bk 0 (vals.map AT.v)) s1) = _
  rw [lents_v]
  rfl
/-- .. with the slot j lent to the first parameter -/
theorem e_lent {g0 g g' : OT} (hs : s[j]? = some (some g0)) (hf : fr s = .ok (vals.map AT.v) s1) (hs1 : s1[j]? = some (some g)) (hF : ∃ r, F (g :: vals) = .ok t (some g' :: r)) : fCall [0] F [] (lLent j fr) s = .ok t (s1.set j (some g')) := by
  obtain ⟨r, e⟩ := hF
  have e1 : lLent j fr s = .ok (.s j :: vals.map AT.v) s1 := by
    unfold lLent
    rw [hs]
    show (fr s).bind _ = _
    rw [hf]
    rfl
  have e2 : takeOut (.s j :: vals.map AT.v) s1 = some (g :: vals, s1.set j none) := by
    unfold takeOut
    rw [hs1]
    show (match takeOut (vals.map AT.v) (s1.set j none) with
      | some (us, s') => some (g :: us, s')
      | none => none) = _
    rw [out_v]
  have e3 : lents [0] (some g' :: r) 0 (.s j :: vals.map AT.v) = [(j, 0, g')] := by
    unfold lents
    rw [if_pos List.mem_cons_self]
    show (j, 0, g') :: lents [0] (some g' :: r) 1 (vals.map AT.v) = _
    rw [lents_v]
  unfold fCall
  rw [e1]
  show (match takeOut (.s j :: vals.map AT.v) s1 with
    | some (us, s2) => (match F (us ++ []) with
      | .ok t bk => R.ok t (backs (lents [0] bk 0 (.s j :: vals.map AT.v)) s2)
      | .ex e bk => .ex e (backs (lents [0] bk 0 (.s j :: vals.map AT.v)) s2)
      | .no => .no)
    | none => .no) = _
  rw [e2]
  show (match F ((g :: vals) ++ []) with
      | .ok t bk => R.ok t (backs (lents [0] bk 0 (.s j :: vals.map AT.v)) (s1.set j none))
      | .ex e bk => .ex e (backs (lents [0] bk 0 (.s j :: vals.map AT.v)) (s1.set j none))
      | .no => .no) = _
  rw [List.append_nil, e]
  show R.ok t (backs (lents [0] (some g' :: r) 0 (.s j :: vals.map AT.v)) (s1.set j none)) = _
  rw [e3]
  show R.ok t ((s1.set j none).set j (some g')) = _
  rw [List.set_set]
/-- the draw: the bag lies in slot j -/
theorem e_take {g : Bg} {m : Nat} {i : Int} (h : g.I m) (hm : m < 2 ^ 60) (hi : 0 < i) (hi2 : i.natAbs.log2 < 9000) (hs : s[j]? = some (some g.t)) (hf : fa s = .ok (.fz (.int i)) s1) (hs1 : s1[j]? = some (some g.t)) :
    ∃ (v : Int) (g' : Bg), fCall [0] (fnD 4 takeG) [] (lLent j (lCons fa lNil)) s = .ok (.fz (.int v)) (s1.set j (some g'.t)) ∧ 0 ≤ v ∧ v < i ∧ g'.I (m + 1) := take_call h hm hi hi2 hs hf rfl hs1
end
/-! ### comprehensions -/
section
variable {fi : SD → R (List D)} {fe : SD → R OT} {ft : SD → R Bool} {s s1 : SD} {j : Nat} {p : D → Bool} {F : D → D}
theorem wipe1 {s : SD} {j : Nat} {o : Option OT} : wipeD (s.set j o) [j] = s.set j none := by
  show (s.set j o).set j none = _
  rw [List.set_set]
theorem lcL_eq : ∀ {ds : List D}, (∀ d ∈ ds, ft (s.set j (some (.fz d))) = .ok (p d) (s.set j (some (.fz d))) ∧ (p d = true → ∃ y, fe (s.set j (some (.fz d))) = .ok y (s.set j (some (.fz d))) ∧ y.frz = F d)) →
    lcL (gNmF j) ft fe [j] ds (s.set j none) = .ok ((ds.filter p).map F) (s.set j none)
  | [], _ => rfl
  | d :: ds, h => by
    obtain ⟨h1, h2⟩ := h d List.mem_cons_self
    have ih := lcL_eq (ds := ds) fun e he => h e (List.mem_cons_of_mem _ he)
    have e0 : (s.set j none).set j (some (OT.fz d)) = s.set j (some (.fz d)) := List.set_set ..
    unfold lcL
    show (match ft ((s.set j none).set j (some (.fz (OT.fz d).frz))) with
      | .ok b s2 => if b = true then (match fe s2 with
          | .ok y s3 => (lcL (gNmF j) ft fe [j] ds (wipeD s3 [j])).bind fun ys s4 => .ok (y.frz :: ys) s4
          | _ => .no) else lcL (gNmF j) ft fe [j] ds (wipeD s2 [j])
      | _ => .no) = _
    rw [show (OT.fz d).frz = d from rfl, e0, h1]
    cases hp : p d with
    | false =>
      show lcL (gNmF j) ft fe [j] ds (wipeD (s.set j (some (.fz d))) [j]) = _
      rw [wipe1, ih, List.filter_cons_of_neg (by rw [hp]; exact Bool.false_ne_true)]
    | true =>
      obtain ⟨y, h3, h4⟩ := h2 hp
      show (match fe (s.set j (some (.fz d))) with
          | .ok y s3 => (lcL (gNmF j) ft fe [j] ds (wipeD s3 [j])).bind fun ys s4 => .ok (y.frz :: ys) s4
          | _ => .no) = _
      rw [h3]
      show (lcL (gNmF j) ft fe [j] ds (wipeD (s.set j (some (.fz d))) [j])).bind (fun ys s4 => R.ok (y.frz :: ys) s4) = _
      rw [wipe1, ih, List.filter_cons_of_pos hp, List.map_cons, ← h4]
      rfl
/-- a comprehension over one name, its elements by values -/
theorem e_lc {ds : List D} (hi : fi s = .ok ds s1) (hl : ds.length ≤ sizeLine) (h : ∀ d ∈ ds, ft (s1.set j (some (.fz d))) = .ok (p d) (s1.set j (some (.fz d))) ∧ (p d = true → ∃ y, fe (s1.set j (some (.fz d))) = .ok y (s1.set j (some (.fz d))) ∧ y.frz = F d)) :
    fLc fi (gNmF j) ft fe [j] s = .ok (.own (((ds.filter p).map F).map .fz)) (s1.set j none) := by
  unfold fLc
  rw [hi]
  show (if ds.length ≤ sizeLine then (lcL (gNmF j) ft fe [j] ds (wipeD s1 [j])).bind fun ys s2 => R.ok (OT.own (ys.map .fz)) s2 else .no) = _
  rw [if_pos hl]
  show (lcL (gNmF j) ft fe [j] ds (s1.set j none)).bind _ = _
  rw [lcL_eq h]
  rfl
theorem e_lcAll {ds : List D} (hi : fi s = .ok ds s1) (hl : ds.length ≤ sizeLine) (h : ∀ d ∈ ds, ∃ y, fe (s1.set j (some (.fz d))) = .ok y (s1.set j (some (.fz d))) ∧ y.frz = F d) : fLc fi (gNmF j) fYes fe [j] s = .ok (.own ((ds.map F).map .fz)) (s1.set j none) := by
  have := e_lc (p := fun _ => true) (F := F) (ft := fYes) hi hl (j := j) (fe := fe) fun d hd => ⟨rfl, fun _ => h d hd⟩
  rw [List.filter_eq_self.mpr fun _ _ => rfl] at this
  exact this
end
/-- .. over pairs -/
theorem e_lc2 {fi : SD → R (List D)} {fe : SD → R OT} {s s1 : SD} {i j : Nat} {ps : List (D × D)} {F : D × D → D} (hi : fi s = .ok (ps.map fun p : D × D => D.tup [p.1, p.2]) s1) (hl : ps.length ≤ sizeLine)
    (h : ∀ p ∈ ps, ∃ y, fe (((s1.set j none).set i none |>.set i (some (.fz p.1))).set j (some (.fz p.2))) = .ok y (((s1.set j none).set i none |>.set i (some (.fz p.1))).set j (some (.fz p.2))) ∧ y.frz = F p) (hij : i ≠ j) :
    fLc fi (gTu ([i, j].map gNmF)) fYes fe [i, j] s = .ok (.own ((ps.map F).map .fz)) ((s1.set j none).set i none) := by
  have loop : ∀ (ps : List (D × D)) (s0 : SD), s0 = (s1.set j none).set i none → (∀ p ∈ ps, ∃ y, fe ((s0.set i (some (.fz p.1))).set j (some (.fz p.2))) = .ok y ((s0.set i (some (.fz p.1))).set j (some (.fz p.2))) ∧ y.frz = F p) →
      lcL (gTu ([i, j].map gNmF)) fYes fe [i, j] (ps.map fun p : D × D => D.tup [p.1, p.2]) s0 = .ok (ps.map F) s0 := by
    intro ps
    induction ps with
    | nil => intro s0 _ _; rfl
    | cons p ps ih =>
      intro s0 e0 hp
      obtain ⟨y, h1, h2⟩ := hp p List.mem_cons_self
      rw [List.map_cons]
      unfold lcL
      show (match fe ((s0.set i (some (.fz p.1))).set j (some (.fz p.2))) with
          | .ok y s3 => (lcL (gTu ([i, j].map gNmF)) fYes fe [i, j] (ps.map fun p : D × D => D.tup [p.1, p.2]) (wipeD s3 [i, j])).bind fun ys s4 => .ok (y.frz :: ys) s4
          | _ => .no) = _
      rw [h1]
      have w : wipeD ((s0.set i (some (.fz p.1))).set j (some (.fz p.2))) [i, j] = s0 := by
        show ((((s0.set i (some (.fz p.1))).set j (some (.fz p.2))).set j none).set i none) = _
        rw [List.set_set, List.set_comm _ _ hij, List.set_set, e0, List.set_comm _ _ hij, List.set_set, List.set_set]
      show (lcL (gTu ([i, j].map gNmF)) fYes fe [i, j] (ps.map fun p : D × D => D.tup [p.1, p.2]) (wipeD ((s0.set i (some (.fz p.1))).set j (some (.fz p.2))) [i, j])).bind (fun ys s4 => R.ok (y.frz :: ys) s4) = _
      rw [w, ih s0 e0 fun q hq => hp q (List.mem_cons_of_mem _ hq), List.map_cons, ← h2]
      rfl
  unfold fLc
  rw [hi]
  show (if (ps.map fun p : D × D => D.tup [p.1, p.2]).length ≤ sizeLine then (lcL (gTu ([i, j].map gNmF)) fYes fe [i, j] (ps.map fun p : D × D => D.tup [p.1, p.2]) (wipeD s1 [i, j])).bind fun ys s2 => R.ok (OT.own (ys.map .fz)) s2 else .no) = _
  rw [if_pos (by rw [List.length_map]; exact hl)]
  show (lcL (gTu ([i, j].map gNmF)) fYes fe [i, j] (ps.map fun p : D × D => D.tup [p.1, p.2]) ((s1.set j none).set i none)).bind _ = _
  rw [loop ps _ rfl h]
  rfl
theorem frz_own (ds : List D) : (OT.own (ds.map .fz)).frz = .lst ds := by
  show D.lst (frzL (ds.map .fz)) = _
  rw [own_frz, List.map_map]
  congr 1
  induction ds with
  | nil => rfl
  | cons d ds ih => rw [List.map_cons, ih]; rfl
/-! ### loops that go through -/
theorem for_inv {g : OT → SD → RS} {fb : SD → RS} (I : Nat → SD → Prop) : ∀ {ds : List D} {k : Nat} {s : SD}, I k s → (∀ i s (d : D), ds[i]? = some d → I (k + i) s → ∃ s1 s2, g (.fz d) s = .nx s1 ∧ fb s1 = .nx s2 ∧ I (k + i + 1) s2) → ∃ s', forL g fb ds s = .nx s' ∧ I (k + ds.length) s'
  | [], k, s, h, _ => ⟨s, rfl, h⟩
  | d :: ds, k, s, h, st => by
    obtain ⟨s1, s2, e1, e2, h2⟩ := st 0 s d rfl h
    obtain ⟨s', e3, h3⟩ := for_inv I (ds := ds) (k := k + 1) (s := s2) h2 fun i t e he hi => by
      have := st (i + 1) t e he (by rw [show k + (i + 1) = k + 1 + i from by omega]; exact hi)
      rw [show k + (i + 1) + 1 = k + 1 + i + 1 from by omega] at this
      exact this
    refine ⟨s', ?_, by rw [List.length_cons, show k + (ds.length + 1) = k + 1 + ds.length from by omega]; exact h3⟩
    unfold forL
    rw [e1]
    show (fb s1).turn (forL g fb ds) = _
    rw [e2]
    exact e3
theorem e_for {fi : SD → R (List D)} {g : OT → SD → RS} {fb : SD → RS} {s s1 : SD} {ds : List D} (I : Nat → SD → Prop) (hi : fi s = .ok ds s1) (h0 : I 0 s1) (st : ∀ i s (d : D), ds[i]? = some d → I i s → ∃ s1 s2, g (.fz d) s = .nx s1 ∧ fb s1 = .nx s2 ∧ I (i + 1) s2) :
    ∃ s', sFor fi g fb s = .nx s' ∧ I ds.length s' := by
  obtain ⟨s', e, h⟩ := for_inv I (k := 0) h0 fun i s d hd hi => by
    rw [Nat.zero_add] at hi ⊢
    exact st i s d hd hi
  refine ⟨s', ?_, by rw [Nat.zero_add] at h; exact h⟩
  unfold sFor
  rw [hi]
  exact e
/-! ### iterables -/
section
variable {fa : SD → R OT} {fs : SD → R (List OT)} {s s1 : SD} {x : OT}
theorem i_ls {ds : List D} (h : fa s = .ok x s1) (hx : x.frz = .lst ds) : iLs fa s = .ok ds s1 := by
  unfold iLs
  rw [h]
  show (match x.frz with
    | .lst ds => R.ok ds s1
    | _ => .no) = _
  rw [hx]
theorem i_rg1 {n : Int} (h : fs s = .ok [.fz (.int n)] s1) (h0 : -(2 ^ 62) ≤ n) (h1 : n < 2 ^ 62) : iRg1 fs s = .ok ((List.range n.toNat).map fun k => .int (k : Nat)) s1 := by
  unfold iRg1
  rw [h]
  exact if_pos ⟨h0, h1⟩
theorem i_rg2 {m n : Int} (h : fs s = .ok [.fz (.int m), .fz (.int n)] s1) (h0 : -(2 ^ 62) ≤ m) (h1 : m < 2 ^ 62) (h2 : -(2 ^ 62) ≤ n) (h3 : n < 2 ^ 62) : iRg2 fs s = .ok ((List.range (n - m).toNat).map fun k => .int (m + (k : Nat))) s1 := by
  unfold iRg2
  rw [h]
  exact if_pos ⟨h0, h1, h2, h3⟩
theorem i_zip {ds es : List D} {y : OT} (h : fs s = .ok [x, y] s1) (hx : x.frz = .lst ds) (hy : y.frz = .lst es) : iZp fs s = .ok (zipD ds es) s1 := by
  unfold iZp
  rw [h]
  show (match [x.frz, y.frz] with
    | [.lst ds, .lst es] => R.ok (zipD ds es) s1
    | _ => .no) = _
  rw [hx, hy]
end
/-! ### lists of ints, of truths -/
theorem eqvA_ints : ∀ a b : List Int, PyData.eqvAll (pyL (a.map .int)) (pyL (b.map .int)) = decide (a = b)
  | [], [] => rfl
  | [], _ :: _ => rfl
  | _ :: _, [] => rfl
  | x :: a, y :: b => by
    show (x == y && PyData.eqvAll (pyL (a.map .int)) (pyL (b.map .int))) = _
    rw [eqvA_ints a b, Bool.eq_iff_iff]
    simp
theorem shp_ints {n : Nat} (a : List Int) : shp (n + 1) (.lst (a.map .int)) = true := by
  show (a.map D.int).all (shp n) = true
  rw [List.all_map]
  exact List.all_eq_true.mpr fun x _ => by cases n <;> rfl
theorem eq_ints {a b : List Int} : gEqL (.lst (a.map .int)) (.lst (b.map .int)) = some (.v (.bl (decide (a = b)))) := by
  show (if lensD (.lst (a.map .int)) (.lst (b.map .int)) = true then some (Rt.v (.bl false)) else gEq (.lst (a.map .int)) (.lst (b.map .int))) = _
  by_cases h : lensD (.lst (a.map .int)) (.lst (b.map .int)) = true
  · rw [if_pos h]
    have : a ≠ b := fun e => by
      rw [e] at h
      unfold lensD at h
      simp at h
    rw [decide_eq_false this]
  · rw [if_neg h]
    unfold gEq
    rw [if_pos ⟨shp_ints (n := 39) a, shp_ints (n := 39) b⟩]
    show some (Rt.v (.bl (PyData.eqvAll (pyL (a.map .int)) (pyL (b.map .int))))) = _
    rw [eqvA_ints]
theorem eq_ss {a b : Str} : gEqL (.str a) (.str b) = some (.v (.bl (a == b))) := by
  show some (Rt.v (.bl (decide (V.str a = V.str b)))) = _
  rw [dec_str]
theorem ne_ss {a b : Str} : gNeL (.str a) (.str b) = some (.v (.bl (!(a == b)))) := by
  show some (Rt.v (.bl (!decide (V.str a = V.str b)))) = _
  rw [dec_str]
/-- == [] -/
theorem eq_nil {ds : List D} : gEqL (.lst ds) (.lst []) = some (.v (.bl ds.isEmpty)) := by
  cases ds with
  | nil => exact eq_ints (a := []) (b := [])
  | cons d ds => rfl
theorem ne_nil {ds : List D} : gNeL (.lst ds) (.lst []) = some (.v (.bl (!ds.isEmpty))) := by
  cases ds with
  | nil => rfl
  | cons d ds => rfl
theorem all_bls {bs : List Bool} : gAll' [.lst (bs.map .bl)] = some (.v (.bl (bs.all id))) := by
  show (blsD (bs.map .bl)).map _ = _
  rw [blsD_map]
  rfl
theorem sorted_ints {ns : List Int} : gSorted [.lst (ns.map .int)] = some (.l ((sortI ns).map .int)) := by
  show (intsD (ns.map .int)).map _ = _
  rw [intsD_map]
  rfl
end DL

namespace K11
open PySem L2 DL PySem.Spec PyProof.Rows
def top (i : Nat) : Stmt := PySem.Challenge.pw_bearsmisses_k11_kinds.main.body.getD i (.Pass ⟨0, 0, 0, 0⟩)
abbrev st_is_integer : Stmt := top 2
abbrev N_is_integer : List Str := ["thing"]
abbrev p_is_integer : List Str := ["thing"]
abbrev st_is_between : Stmt := top 3
abbrev N_is_between : List Str := ["thing", "low", "high"]
abbrev p_is_between : List Str := ["thing", "low", "high"]
abbrev st_is_order : Stmt := top 5
abbrev N_is_order : List Str := ["thing", "places", "rank"]
abbrev p_is_order : List Str := ["thing", "places"]
abbrev st_is_price : Stmt := top 4
abbrev N_is_price : List Str := ["thing"]
abbrev p_is_price : List Str := ["thing"]
abbrev st_is_comparison : Stmt := top 6
abbrev N_is_comparison : List Str := ["thing", "places"]
abbrev p_is_comparison : List Str := ["thing", "places"]
abbrev st_are_misses : Stmt := top 7
abbrev N_are_misses : List Str := ["thing", "many", "one", "other", "at"]
abbrev p_are_misses : List Str := ["thing", "many"]
abbrev st_law_bag : Stmt := top 9
abbrev N_law_bag : List Str := ["_law_script", "_law_cell"]
abbrev p_law_bag : List Str := ["_law_script"]
abbrev st_law_take : Stmt := top 10
abbrev N_law_take : List Str := ["_law_bag_here", "_law_many", "_law_first", "_law_second", "_law_cell", "_law_value"]
abbrev p_law_take : List Str := ["_law_bag_here", "_law_many"]
abbrev st_law_is_between : Stmt := top 14
abbrev N_law_is_between : List Str := ["_law_thing_here", "_law_low", "_law_high"]
abbrev p_law_is_between : List Str := ["_law_thing_here", "_law_low", "_law_high"]
abbrev st_law_due : Stmt := top 15
abbrev N_law_due : List Str := ["_law_thing_here", "_law_places", "_law_many", "_law_found", "_law_whole", "_law_pair", "_law_rising", "_law_one", "_law_k"]
abbrev p_law_due : List Str := ["_law_thing_here", "_law_places", "_law_many"]
abbrev st_law_order : Stmt := top 11
abbrev N_law_order : List Str := ["_law_bag_here", "_law_places", "_law_k", "_law_left", "_law_found", "_law_way", "_law_one", "_law_other"]
abbrev p_law_order : List Str := ["_law_bag_here", "_law_places"]
abbrev st_law_misses : Stmt := top 12
abbrev N_law_misses : List Str := ["_law_bag_here", "_law_many", "_law_most", "_law_k", "_law_found", "_law_left"]
abbrev p_law_misses : List Str := ["_law_bag_here", "_law_many", "_law_most"]
abbrev st_law_odd : Stmt := top 13
abbrev N_law_odd : List Str := ["_law_bag_here", "_law_some"]
abbrev p_law_odd : List Str := ["_law_bag_here"]
abbrev st_law_bent : Stmt := top 16
abbrev N_law_bent : List Str := ["_law_bag_here", "_law_thing_here", "_law_some", "_law_at", "_law_odd_here", "_law_way"]
abbrev p_law_bent : List Str := ["_law_bag_here", "_law_thing_here"]
abbrev st_law_thing : Stmt := top 17
abbrev N_law_thing : List Str := ["_law_bag_here", "_law_places", "_law_many", "_law_way", "_law_price", "_law_thing_here", "_law_turn", "_law_pair", "_law_missed"]
abbrev p_law_thing : List Str := ["_law_bag_here", "_law_places", "_law_many"]
abbrev st_law : Stmt := top 18
abbrev N_law : List Str := ["_law_script", "_law_bag_here", "_law_turn", "_law_thing_here", "_law_again", "_law_places", "_law_many", "_law_kept", "_law_due_here", "_law_found"]
abbrev p_law : List Str := ["_law_script"]
/-- what stands behind the top -/
structure Lay (K : PySem.W.Frag) (mg : Str → Option Value) where
  m_abs : mg "abs" = none
  m_all : mg "all" = none
  m_bool : mg "bool" = none
  m_int : mg "int" = none
  m_isinstance : mg "isinstance" = none
  m_len : mg "len" = none
  m_list : mg "list" = none
  m_min : mg "min" = none
  m_range : mg "range" = none
  m_repr : mg "repr" = none
  m_sorted : mg "sorted" = none
  m_tuple : mg "tuple" = none
  m_zip : mg "zip" = none
  t_MAX_PRICE : Tok
  m_MAX_PRICE : mg "MAX_PRICE" = some (.int 1000000000000000000 t_MAX_PRICE)
  f_is_integer : Addr
  fd_is_integer : FuncData
  D_is_integer : FunD K "is_integer" "is_integer" (defArgs st_is_integer) (defBody st_is_integer) (defScope st_is_integer) [] [] f_is_integer fd_is_integer
  m_is_integer : mg "is_integer" = some (.ref f_is_integer)
  b_is_integer : Binds K fd_is_integer p_is_integer []
  f_is_between : Addr
  fd_is_between : FuncData
  D_is_between : FunD K "is_between" "is_between" (defArgs st_is_between) (defBody st_is_between) (defScope st_is_between) [] [] f_is_between fd_is_between
  m_is_between : mg "is_between" = some (.ref f_is_between)
  b_is_between : Binds K fd_is_between p_is_between []
  f_is_order : Addr
  fd_is_order : FuncData
  D_is_order : FunD K "is_order" "is_order" (defArgs st_is_order) (defBody st_is_order) (defScope st_is_order) [] [] f_is_order fd_is_order
  m_is_order : mg "is_order" = some (.ref f_is_order)
  b_is_order : Binds K fd_is_order p_is_order []
  f_is_price : Addr
  fd_is_price : FuncData
  D_is_price : FunD K "is_price" "is_price" (defArgs st_is_price) (defBody st_is_price) (defScope st_is_price) [] [] f_is_price fd_is_price
  m_is_price : mg "is_price" = some (.ref f_is_price)
  b_is_price : Binds K fd_is_price p_is_price []
  f_is_comparison : Addr
  fd_is_comparison : FuncData
  D_is_comparison : FunD K "is_comparison" "is_comparison" (defArgs st_is_comparison) (defBody st_is_comparison) (defScope st_is_comparison) [] [] f_is_comparison fd_is_comparison
  m_is_comparison : mg "is_comparison" = some (.ref f_is_comparison)
  b_is_comparison : Binds K fd_is_comparison p_is_comparison []
  f_are_misses : Addr
  fd_are_misses : FuncData
  D_are_misses : FunD K "are_misses" "are_misses" (defArgs st_are_misses) (defBody st_are_misses) (defScope st_are_misses) [] [] f_are_misses fd_are_misses
  m_are_misses : mg "are_misses" = some (.ref f_are_misses)
  b_are_misses : Binds K fd_are_misses p_are_misses []
  f_law_bag : Addr
  fd_law_bag : FuncData
  D_law_bag : FunD K "_law_bag" "_law_bag" (defArgs st_law_bag) (defBody st_law_bag) (defScope st_law_bag) [] [] f_law_bag fd_law_bag
  m_law_bag : mg "_law_bag" = some (.ref f_law_bag)
  b_law_bag : Binds K fd_law_bag p_law_bag []
  f_law_take : Addr
  fd_law_take : FuncData
  D_law_take : FunD K "_law_take" "_law_take" (defArgs st_law_take) (defBody st_law_take) (defScope st_law_take) [] [] f_law_take fd_law_take
  m_law_take : mg "_law_take" = some (.ref f_law_take)
  b_law_take : Binds K fd_law_take p_law_take []
  f_law_is_between : Addr
  fd_law_is_between : FuncData
  D_law_is_between : FunD K "_law_is_between" "_law_is_between" (defArgs st_law_is_between) (defBody st_law_is_between) (defScope st_law_is_between) [] [] f_law_is_between fd_law_is_between
  m_law_is_between : mg "_law_is_between" = some (.ref f_law_is_between)
  b_law_is_between : Binds K fd_law_is_between p_law_is_between []
  f_law_due : Addr
  fd_law_due : FuncData
  D_law_due : FunD K "_law_due" "_law_due" (defArgs st_law_due) (defBody st_law_due) (defScope st_law_due) [] [] f_law_due fd_law_due
  m_law_due : mg "_law_due" = some (.ref f_law_due)
  b_law_due : Binds K fd_law_due p_law_due []
  f_law_order : Addr
  fd_law_order : FuncData
  D_law_order : FunD K "_law_order" "_law_order" (defArgs st_law_order) (defBody st_law_order) (defScope st_law_order) [] [] f_law_order fd_law_order
  m_law_order : mg "_law_order" = some (.ref f_law_order)
  b_law_order : Binds K fd_law_order p_law_order []
  f_law_misses : Addr
  fd_law_misses : FuncData
  D_law_misses : FunD K "_law_misses" "_law_misses" (defArgs st_law_misses) (defBody st_law_misses) (defScope st_law_misses) [] [] f_law_misses fd_law_misses
  m_law_misses : mg "_law_misses" = some (.ref f_law_misses)
  b_law_misses : Binds K fd_law_misses p_law_misses []
  f_law_odd : Addr
  fd_law_odd : FuncData
  D_law_odd : FunD K "_law_odd" "_law_odd" (defArgs st_law_odd) (defBody st_law_odd) (defScope st_law_odd) [] [] f_law_odd fd_law_odd
  m_law_odd : mg "_law_odd" = some (.ref f_law_odd)
  b_law_odd : Binds K fd_law_odd p_law_odd []
  f_law_bent : Addr
  fd_law_bent : FuncData
  D_law_bent : FunD K "_law_bent" "_law_bent" (defArgs st_law_bent) (defBody st_law_bent) (defScope st_law_bent) [] [] f_law_bent fd_law_bent
  m_law_bent : mg "_law_bent" = some (.ref f_law_bent)
  b_law_bent : Binds K fd_law_bent p_law_bent []
  f_law_thing : Addr
  fd_law_thing : FuncData
  D_law_thing : FunD K "_law_thing" "_law_thing" (defArgs st_law_thing) (defBody st_law_thing) (defScope st_law_thing) [] [] f_law_thing fd_law_thing
  m_law_thing : mg "_law_thing" = some (.ref f_law_thing)
  b_law_thing : Binds K fd_law_thing p_law_thing []
  f_law : Addr
  fd_law : FuncData
  D_law : FunD K "law" "law" (defArgs st_law) (defBody st_law) (defScope st_law) [] [] f_law fd_law
  m_law : mg "law" = some (.ref f_law)
  b_law : Binds K fd_law p_law []
section
variable {P : Program} {w : World} {K : PySem.W.Frag} {mg : Str → Option Value} {base : Heap}
def g_is_integer : SD → RS := (sRet (fAndV (fIsi ["int"] (fVar 0)) (fNotV (fIsi ["bool"] (fVar 0)))))
def F_is_integer : List OT → FR := fnD 0 g_is_integer
theorem sc_is_integer : FnScope N_is_integer p_is_integer (defScope st_is_integer) := ⟨rfl, rfl, rfl, by decide +kernel, rfl, by decide +kernel, by decide +kernel⟩
theorem bd_is_integer (L : Lay K mg) (cd : Value) (A : Around) (outer : List Env) (s : Shared) (H : Hp) (E : XK) (hr : Rm 0 (A.deeper (envOfC "is_integer" (defScope st_is_integer) s.heap.objs.size L.f_is_integer cd))) : BD (cxG P w K mg base N_is_integer "is_integer" (defScope st_is_integer) L.f_is_integer cd A outer s H E) ⟨fun cls d _ H => E cls d H, []⟩ (defBody st_is_integer) g_is_integer :=
  have nd := sc_is_integer.nd
  have tk := cxG_takes (P := P) (w := w) (K := K) (mg := mg) (base := base) (N := N_is_integer) (qual := "is_integer") (scope := defScope st_is_integer) (f := L.f_is_integer) (cd := cd) (A := A) (outer := outer) (s := s) (H := H) (E := E)
  have ow := cxG_owns (P := P) (w := w) (K := K) (mg := mg) (base := base) (N := N_is_integer) (qual := "is_integer") (scope := defScope st_is_integer) (f := L.f_is_integer) (cd := cd) (A := A) (outer := outer) (s := s) (H := H) (E := E)
  (bd_one (sd_ret (ed_and (ed_isi (ed_var (pv 0)) (by intro T h; simp at h; subst h; simp) (by rfl) (by exact L.m_isinstance) (pe_bltn (by rfl) (by exact L.m_int) boot_int rfl)) (ed_one (ed_not (ed_isi (ed_var (pv 0)) (by intro T h; simp at h; subst h; simp) (by rfl) (by exact L.m_isinstance) (pe_bltn (by rfl) (by exact L.m_bool) boot_bool rfl)))))))
theorem ok_is_integer (L : Lay K mg) : FnG P w K mg base 1 L.f_is_integer L.fd_is_integer p_is_integer (spD K 1 [] F_is_integer) := FunD.okD L.D_is_integer sc_is_integer rfl (by decide) fun cd A outer s H E hr => bd_is_integer L cd A outer s H E hr
def g_is_between : SD → RS := (sRet (fAndV (fCall [] F_is_integer [] (lCons (fVar 0) lNil)) (fChain gLe gLe (fVar 1) (fVar 0) (fVar 2))))
def F_is_between : List OT → FR := fnD 0 g_is_between
theorem sc_is_between : FnScope N_is_between p_is_between (defScope st_is_between) := ⟨rfl, rfl, rfl, by decide +kernel, rfl, by decide +kernel, by decide +kernel⟩
theorem bd_is_between (L : Lay K mg) (cd : Value) (A : Around) (outer : List Env) (s : Shared) (H : Hp) (E : XK) (hr : Rm 1 (A.deeper (envOfC "is_between" (defScope st_is_between) s.heap.objs.size L.f_is_between cd))) : BD (cxG P w K mg base N_is_between "is_between" (defScope st_is_between) L.f_is_between cd A outer s H E) ⟨fun cls d _ H => E cls d H, []⟩ (defBody st_is_between) g_is_between :=
  have nd := sc_is_between.nd
  have tk := cxG_takes (P := P) (w := w) (K := K) (mg := mg) (base := base) (N := N_is_between) (qual := "is_between") (scope := defScope st_is_between) (f := L.f_is_between) (cd := cd) (A := A) (outer := outer) (s := s) (H := H) (E := E)
  have ow := cxG_owns (P := P) (w := w) (K := K) (mg := mg) (base := base) (N := N_is_between) (qual := "is_between") (scope := defScope st_is_between) (f := L.f_is_between) (cd := cd) (A := A) (outer := outer) (s := s) (H := H) (E := E)
  (bd_one (sd_ret (ed_and (ed_call (k := 1) (dvs := []) (dd := []) (by exact (ok_is_integer L).mono (by decide)) (by exact hr) (by rfl) (by exact L.m_is_integer) (by exact L.D_is_integer.kp) (by exact L.b_is_integer) .nil (by exact fun _ => rfl) (by exact tk) (ld_cons (ed_var (pv 0)) ld_nil) (ln_add (ln_cons ln_nil) rfl)) (ed_one (eLeLe (ed_var (pv 1)) (ed_var (pv 0)) (ed_var (pv 2)))))))
theorem ok_is_between (L : Lay K mg) : FnG P w K mg base 2 L.f_is_between L.fd_is_between p_is_between (spD K 3 [] F_is_between) := FunD.okD L.D_is_between sc_is_between rfl (by decide) fun cd A outer s H E hr => bd_is_between L cd A outer s H E hr
def g_is_order : SD → RS := (sSeq (sIf (fOr (fNot (fB (fIsi ["list"] (fVar 0)))) (fB (fOp gNeL (fCa gLen (fCons (fVar 0) fNil)) (fVar 1)))) (sRet (fC (.bl false))) sNil) (sRet (fAndV (fCa gAll' (fCons (fLc (iLs (fVar 0)) (gNmF 2) fYes (fCall [] F_is_between [] (lCons (fVar 2) (lCons (fC (.int 0)) (lCons (fOp gSub (fVar 1) (fC (.int 1))) lNil)))) [2]) fNil)) (fOp gEqL (fCa gSorted (fCons (fVar 0) fNil)) (fLr1 (fVar 1))))))
def F_is_order : List OT → FR := fnD 1 g_is_order
theorem sc_is_order : FnScope N_is_order p_is_order (defScope st_is_order) := ⟨rfl, rfl, rfl, by decide +kernel, rfl, by decide +kernel, by decide +kernel⟩
theorem bd_is_order (L : Lay K mg) (cd : Value) (A : Around) (outer : List Env) (s : Shared) (H : Hp) (E : XK) (hr : Rm 2 (A.deeper (envOfC "is_order" (defScope st_is_order) s.heap.objs.size L.f_is_order cd))) : BD (cxG P w K mg base N_is_order "is_order" (defScope st_is_order) L.f_is_order cd A outer s H E) ⟨fun cls d _ H => E cls d H, []⟩ (defBody st_is_order) g_is_order :=
  have nd := sc_is_order.nd
  have tk := cxG_takes (P := P) (w := w) (K := K) (mg := mg) (base := base) (N := N_is_order) (qual := "is_order") (scope := defScope st_is_order) (f := L.f_is_order) (cd := cd) (A := A) (outer := outer) (s := s) (H := H) (E := E)
  have ow := cxG_owns (P := P) (w := w) (K := K) (mg := mg) (base := base) (N := N_is_order) (qual := "is_order") (scope := defScope st_is_order) (f := L.f_is_order) (cd := cd) (A := A) (outer := outer) (s := s) (H := H) (E := E)
  (bd_cons (sd_if (WD.td (wd_or (td_not (td_val (ed_isi (ed_var (pv 0)) (by intro T h; simp at h; subst h; simp) (by rfl) (by exact L.m_isinstance) (pe_bltn (by rfl) (by exact L.m_list) boot_list rfl)))) (wd_or1 (tNe (by exact hr) (eLen (by rfl) (by exact L.m_len) (ad_cons (ed_var (pv 0)) ad_nil)) (ed_var (pv 1)))))) (bd_one (sd_ret ed_bl)) bd_nil) (bd_one (sd_ret (ed_and (eAll (by rfl) (by rfl) (by exact L.m_all) (ad_cons (ed_lc (own := [("rank", 2)]) (by rfl) (by exact nd) (id_list (ed_var (pv 0))) (blkOk_by (N := N_is_order) (sc := defScope st_is_order) (by decide +kernel)) (fun _ _ _ _ _ => pN 2 (by exact nd)) (simg_name (j := 2) (by decide) (by first | decide | (dsimp only; decide))) (fun _ _ _ _ _ => tsd_nil) (fun _ _ _ _ _ => (ed_call (k := 2) (dvs := []) (dd := []) (by exact (ok_is_between L).mono (by decide)) (by exact hr) (by rfl) (by exact L.m_is_between) (by exact L.D_is_between.kp) (by exact L.b_is_between) .nil (by exact fun _ => rfl) (by exact DL.takes0) (ld_cons (ed_var (pv 2)) (ld_cons ed_int (ld_cons (eSub (ed_var (pv 1)) ed_int) ld_nil))) (ln_add (ln_cons (ln_cons (ln_cons ln_nil))) rfl)))) ad_nil)) (ed_one (eEq (by exact hr) (eSorted (by rfl) (by exact L.m_sorted) (ad_cons (ed_var (pv 0)) ad_nil)) (ed_lr1 (by rfl) (by rfl) (by exact L.m_list) (by rfl) (by exact L.m_range) (ed_var (pv 1)))))))))
theorem ok_is_order (L : Lay K mg) : FnG P w K mg base 3 L.f_is_order L.fd_is_order p_is_order (spD K 2 [] F_is_order) := FunD.okD L.D_is_order sc_is_order rfl (by decide) fun cd A outer s H E hr => bd_is_order L cd A outer s H E hr
def g_is_price : SD → RS := (sRet (fCall [] F_is_between [] (lCons (fVar 0) (lCons (fC (.int 0)) (lCons (fC (.int 1000000000000000000)) lNil)))))
def F_is_price : List OT → FR := fnD 0 g_is_price
theorem sc_is_price : FnScope N_is_price p_is_price (defScope st_is_price) := ⟨rfl, rfl, rfl, by decide +kernel, rfl, by decide +kernel, by decide +kernel⟩
theorem bd_is_price (L : Lay K mg) (cd : Value) (A : Around) (outer : List Env) (s : Shared) (H : Hp) (E : XK) (hr : Rm 2 (A.deeper (envOfC "is_price" (defScope st_is_price) s.heap.objs.size L.f_is_price cd))) : BD (cxG P w K mg base N_is_price "is_price" (defScope st_is_price) L.f_is_price cd A outer s H E) ⟨fun cls d _ H => E cls d H, []⟩ (defBody st_is_price) g_is_price :=
  have nd := sc_is_price.nd
  have tk := cxG_takes (P := P) (w := w) (K := K) (mg := mg) (base := base) (N := N_is_price) (qual := "is_price") (scope := defScope st_is_price) (f := L.f_is_price) (cd := cd) (A := A) (outer := outer) (s := s) (H := H) (E := E)
  have ow := cxG_owns (P := P) (w := w) (K := K) (mg := mg) (base := base) (N := N_is_price) (qual := "is_price") (scope := defScope st_is_price) (f := L.f_is_price) (cd := cd) (A := A) (outer := outer) (s := s) (H := H) (E := E)
  (bd_one (sd_ret (ed_call (k := 2) (dvs := []) (dd := []) (by exact (ok_is_between L).mono (by decide)) (by exact hr) (by rfl) (by exact L.m_is_between) (by exact L.D_is_between.kp) (by exact L.b_is_between) .nil (by exact fun _ => rfl) (by exact tk) (ld_cons (ed_var (pv 0)) (ld_cons ed_int (ld_cons (ed_glob (by rfl) (hm := by exact L.m_MAX_PRICE)) ld_nil))) (ln_add (ln_cons (ln_cons (ln_cons ln_nil))) rfl))))
theorem ok_is_price (L : Lay K mg) : FnG P w K mg base 3 L.f_is_price L.fd_is_price p_is_price (spD K 1 [] F_is_price) := FunD.okD L.D_is_price sc_is_price rfl (by decide) fun cd A outer s H E hr => bd_is_price L cd A outer s H E hr
def g_is_comparison : SD → RS := (sSeq (sIf (fOr (fNot (fB (fIsi ["tuple"] (fVar 0)))) (fB (fOp gNeL (fCa gLen (fCons (fVar 0) fNil)) (fC (.int 2))))) (sRet (fC (.bl false))) sNil) (sRet (fAndV (fCall [] F_is_between [] (lCons (fOp gIx2 (fVar 0) (fC (.int 0))) (lCons (fC (.int 1)) (lCons (fOp gSub (fVar 1) (fC (.int 1))) lNil)))) (fCall [] F_is_price [] (lCons (fOp gIx2 (fVar 0) (fC (.int 1))) lNil)))))
def F_is_comparison : List OT → FR := fnD 0 g_is_comparison
theorem sc_is_comparison : FnScope N_is_comparison p_is_comparison (defScope st_is_comparison) := ⟨rfl, rfl, rfl, by decide +kernel, rfl, by decide +kernel, by decide +kernel⟩
theorem bd_is_comparison (L : Lay K mg) (cd : Value) (A : Around) (outer : List Env) (s : Shared) (H : Hp) (E : XK) (hr : Rm 3 (A.deeper (envOfC "is_comparison" (defScope st_is_comparison) s.heap.objs.size L.f_is_comparison cd))) : BD (cxG P w K mg base N_is_comparison "is_comparison" (defScope st_is_comparison) L.f_is_comparison cd A outer s H E) ⟨fun cls d _ H => E cls d H, []⟩ (defBody st_is_comparison) g_is_comparison :=
  have nd := sc_is_comparison.nd
  have tk := cxG_takes (P := P) (w := w) (K := K) (mg := mg) (base := base) (N := N_is_comparison) (qual := "is_comparison") (scope := defScope st_is_comparison) (f := L.f_is_comparison) (cd := cd) (A := A) (outer := outer) (s := s) (H := H) (E := E)
  have ow := cxG_owns (P := P) (w := w) (K := K) (mg := mg) (base := base) (N := N_is_comparison) (qual := "is_comparison") (scope := defScope st_is_comparison) (f := L.f_is_comparison) (cd := cd) (A := A) (outer := outer) (s := s) (H := H) (E := E)
  (bd_cons (sd_if (WD.td (wd_or (td_not (td_val (ed_isi (ed_var (pv 0)) (by intro T h; simp at h; subst h; simp) (by rfl) (by exact L.m_isinstance) (pe_bltn (by rfl) (by exact L.m_tuple) boot_tuple rfl)))) (wd_or1 (tNe (by exact hr) (eLen (by rfl) (by exact L.m_len) (ad_cons (ed_var (pv 0)) ad_nil)) ed_int)))) (bd_one (sd_ret ed_bl)) bd_nil) (bd_one (sd_ret (ed_and (ed_call (k := 3) (dvs := []) (dd := []) (by exact (ok_is_between L).mono (by decide)) (by exact hr) (by rfl) (by exact L.m_is_between) (by exact L.D_is_between.kp) (by exact L.b_is_between) .nil (by exact fun _ => rfl) (by exact tk) (ld_cons (eIx (ed_var (pv 0)) ed_int) (ld_cons ed_int (ld_cons (eSub (ed_var (pv 1)) ed_int) ld_nil))) (ln_add (ln_cons (ln_cons (ln_cons ln_nil))) rfl)) (ed_one (ed_call (k := 3) (dvs := []) (dd := []) (by exact (ok_is_price L).mono (by decide)) (by exact hr) (by rfl) (by exact L.m_is_price) (by exact L.D_is_price.kp) (by exact L.b_is_price) .nil (by exact fun _ => rfl) (by exact tk) (ld_cons (eIx (ed_var (pv 0)) ed_int) ld_nil) (ln_add (ln_cons ln_nil) rfl)))))))
theorem ok_is_comparison (L : Lay K mg) : FnG P w K mg base 4 L.f_is_comparison L.fd_is_comparison p_is_comparison (spD K 2 [] F_is_comparison) := FunD.okD L.D_is_comparison sc_is_comparison rfl (by decide) fun cd A outer s H E hr => bd_is_comparison L cd A outer s H E hr
def g_are_misses : SD → RS := (sSeq (sIf (fOr (fNot (fB (fIsi ["list"] (fVar 0)))) (fNot (fB (fCa gAll' (fCons (fLc (iLs (fVar 0)) (gNmF 4) fYes (fCall [] F_is_between [] (lCons (fVar 4) (lCons (fC (.int 0)) (lCons (fOp gSub (fVar 1) (fC (.int 1))) lNil)))) [4]) fNil))))) (sRet (fC (.bl false))) sNil) (sRet (fCa gAll' (fCons (fLc (iZp (fCons (fVar 0) (fCons (fSl gSl (fVar 0) (oSome (fC (.int 1))) oNo) fNil))) (gTu ([2, 3].map gNmF)) fYes (fOp gLt (fVar 2) (fVar 3)) [2, 3]) fNil))))
def F_are_misses : List OT → FR := fnD 3 g_are_misses
theorem sc_are_misses : FnScope N_are_misses p_are_misses (defScope st_are_misses) := ⟨rfl, rfl, rfl, by decide +kernel, rfl, by decide +kernel, by decide +kernel⟩
theorem bd_are_misses (L : Lay K mg) (cd : Value) (A : Around) (outer : List Env) (s : Shared) (H : Hp) (E : XK) (hr : Rm 2 (A.deeper (envOfC "are_misses" (defScope st_are_misses) s.heap.objs.size L.f_are_misses cd))) : BD (cxG P w K mg base N_are_misses "are_misses" (defScope st_are_misses) L.f_are_misses cd A outer s H E) ⟨fun cls d _ H => E cls d H, []⟩ (defBody st_are_misses) g_are_misses :=
  have nd := sc_are_misses.nd
  have tk := cxG_takes (P := P) (w := w) (K := K) (mg := mg) (base := base) (N := N_are_misses) (qual := "are_misses") (scope := defScope st_are_misses) (f := L.f_are_misses) (cd := cd) (A := A) (outer := outer) (s := s) (H := H) (E := E)
  have ow := cxG_owns (P := P) (w := w) (K := K) (mg := mg) (base := base) (N := N_are_misses) (qual := "are_misses") (scope := defScope st_are_misses) (f := L.f_are_misses) (cd := cd) (A := A) (outer := outer) (s := s) (H := H) (E := E)
  (bd_cons (sd_if (WD.td (wd_or (td_not (td_val (ed_isi (ed_var (pv 0)) (by intro T h; simp at h; subst h; simp) (by rfl) (by exact L.m_isinstance) (pe_bltn (by rfl) (by exact L.m_list) boot_list rfl)))) (wd_or1 (td_not (td_val (eAll (by rfl) (by rfl) (by exact L.m_all) (ad_cons (ed_lc (own := [("at", 4)]) (by rfl) (by exact nd) (id_list (ed_var (pv 0))) (blkOk_by (N := N_are_misses) (sc := defScope st_are_misses) (by decide +kernel)) (fun _ _ _ _ _ => pN 4 (by exact nd)) (simg_name (j := 4) (by decide) (by first | decide | (dsimp only; decide))) (fun _ _ _ _ _ => tsd_nil) (fun _ _ _ _ _ => (ed_call (k := 2) (dvs := []) (dd := []) (by exact (ok_is_between L).mono (by decide)) (by exact hr) (by rfl) (by exact L.m_is_between) (by exact L.D_is_between.kp) (by exact L.b_is_between) .nil (by exact fun _ => rfl) (by exact DL.takes0) (ld_cons (ed_var (pv 4)) (ld_cons ed_int (ld_cons (eSub (ed_var (pv 1)) ed_int) ld_nil))) (ln_add (ln_cons (ln_cons (ln_cons ln_nil))) rfl)))) ad_nil))))))) (bd_one (sd_ret ed_bl)) bd_nil) (bd_one (sd_ret (eAll (by rfl) (by rfl) (by exact L.m_all) (ad_cons (ed_lc (own := [("one", 2), ("other", 3)]) (by rfl) (by exact nd) (id_zip (by rfl) (by exact L.m_zip) (ad_cons (ed_var (pv 0)) (ad_cons (eSl (ed_var (pv 0)) (od_some ed_int) od_none) ad_nil))) (blkOk_by (N := N_are_misses) (sc := defScope st_are_misses) (by decide +kernel)) (fun _ _ _ _ _ => pg_tup (by rfl) (pgs_cons (pN 2 (by exact nd)) (pgs_cons (pN 3 (by exact nd)) pgs_nil)) (by rfl) (by rfl)) (simg_tup (js := [2, 3]) (by decide) (by first | decide | (dsimp only; decide))) (fun _ _ _ _ _ => tsd_nil) (fun _ _ _ _ _ => (eLt (ed_var (pv 2)) (ed_var (pv 3))))) ad_nil)))))
theorem ok_are_misses (L : Lay K mg) : FnG P w K mg base 3 L.f_are_misses L.fd_are_misses p_are_misses (spD K 2 [] F_are_misses) := FunD.okD L.D_are_misses sc_are_misses rfl (by decide) fun cd A outer s H E hr => bd_are_misses L cd A outer s H E hr
def g_law_bag : SD → RS := (sRet (fLst (fCons (fC (.int 0)) (fCons (fC (.int 1234567891)) (fCons (fC (.int 0)) (fCons (fLc (iLs (fSl gSl (fVar 0) oNo (oSome (fC (.int 63))))) (gNmF 1) fYes (fCa gAbs (fCons (fVar 1) fNil)) [1]) fNil))))))
def F_law_bag : List OT → FR := fnD 1 g_law_bag
theorem sc_law_bag : FnScope N_law_bag p_law_bag (defScope st_law_bag) := ⟨rfl, rfl, rfl, by decide +kernel, rfl, by decide +kernel, by decide +kernel⟩
theorem bd_law_bag (L : Lay K mg) (cd : Value) (A : Around) (outer : List Env) (s : Shared) (H : Hp) (E : XK) (hr : Rm 0 (A.deeper (envOfC "_law_bag" (defScope st_law_bag) s.heap.objs.size L.f_law_bag cd))) : BD (cxG P w K mg base N_law_bag "_law_bag" (defScope st_law_bag) L.f_law_bag cd A outer s H E) ⟨fun cls d _ H => E cls d H, []⟩ (defBody st_law_bag) g_law_bag :=
  have nd := sc_law_bag.nd
  have tk := cxG_takes (P := P) (w := w) (K := K) (mg := mg) (base := base) (N := N_law_bag) (qual := "_law_bag") (scope := defScope st_law_bag) (f := L.f_law_bag) (cd := cd) (A := A) (outer := outer) (s := s) (H := H) (E := E)
  have ow := cxG_owns (P := P) (w := w) (K := K) (mg := mg) (base := base) (N := N_law_bag) (qual := "_law_bag") (scope := defScope st_law_bag) (f := L.f_law_bag) (cd := cd) (A := A) (outer := outer) (s := s) (H := H) (E := E)
  (bd_one (sd_ret (ed_lst (ad_cons ed_int (ad_cons ed_int (ad_cons ed_int (ad_cons (ed_lc (own := [("_law_cell", 1)]) (by rfl) (by exact nd) (id_list (eSl (ed_var (pv 0)) od_none (od_some ed_int))) (blkOk_by (N := N_law_bag) (sc := defScope st_law_bag) (by decide +kernel)) (fun _ _ _ _ _ => pN 1 (by exact nd)) (simg_name (j := 1) (by decide) (by first | decide | (dsimp only; decide))) (fun _ _ _ _ _ => tsd_nil) (fun _ _ _ _ _ => (eAbs (by rfl) (by exact L.m_abs) (ad_cons (ed_var (pv 1)) ad_nil)))) ad_nil)))))))
theorem ok_law_bag (L : Lay K mg) : FnG P w K mg base 1 L.f_law_bag L.fd_law_bag p_law_bag (spD K 1 [] F_law_bag) := FunD.okD L.D_law_bag sc_law_bag rfl (by decide) fun cd A outer s H E hr => bd_law_bag L cd A outer s H E hr
def g_law_take : SD → RS := (sSeq (sIf (fB (fOp gEqL (fIxS 0 (fC (.int 0))) (fC (.int 0)))) (sSeq (sSetF 4 (fC (.int 0))) (sSeq (sIf (fB (fOp gLt (fIxS 0 (fC (.int 2))) (fCa gLen (fCons (fIxS 0 (fC (.int 3))) fNil)))) (sSetF 4 (fOp gIx2 (fIxS 0 (fC (.int 3))) (fIxS 0 (fC (.int 2))))) sNil) (sSeq (sAugIx 0 (fC (.int 2)) gAddI (fC (.int 1))) (sSeq (sIf (fB (fOp gGe (fVar 4) (fC (.int 1000000000000000000)))) (sAsg (fVar 4) (gIx 0 (fC (.int 0)))) sNil) (sAsg (fOp gMod (fOp gAdd (fOp gAdd (fOp gMul (fIxS 0 (fC (.int 1))) (fC (.int 48271))) (fOp gMod (fVar 4) (fC (.int 2147483647)))) (fOp gMul (fC (.int 7919)) (fIxS 0 (fC (.int 2))))) (fC (.int 2147483647))) (gIx 0 (fC (.int 1)))))))) sNil) (sSeq (sIf (fB (fOp gGt (fIxS 0 (fC (.int 0))) (fC (.int 0)))) (sSeq (sSetF 5 (fOp gMod (fIxS 0 (fC (.int 0))) (fVar 1))) (sSeq (sAsg (fOp gDiv (fIxS 0 (fC (.int 0))) (fVar 1)) (gIx 0 (fC (.int 0)))) (sRet (fVar 5)))) sNil) (sSeq (sSetF 2 (fOp gMod (fOp gMul (fOp gAdd (fIxS 0 (fC (.int 1))) (fC (.int 1))) (fC (.int 39373))) (fC (.int 1000000007)))) (sSeq (sSetF 3 (fOp gMod (fOp gMul (fOp gMod (fOp gMul (fVar 2) (fVar 2)) (fC (.int 998244353))) (fC (.int 30011))) (fC (.int 998244353)))) (sSeq (sIf (fB (fOp gGt (fVar 1) (fC (.int 1000000)))) (sRet (fOp gMod (fOp gAdd (fOp gMul (fVar 3) (fC (.int 1000000007))) (fVar 2)) (fVar 1))) sNil) (sRet (fOp gMod (fOp gDiv (fVar 3) (fC (.int 7))) (fVar 1))))))))
def F_law_take : List OT → FR := fnD 4 g_law_take
theorem sc_law_take : FnScope N_law_take p_law_take (defScope st_law_take) := ⟨rfl, rfl, rfl, by decide +kernel, rfl, by decide +kernel, by decide +kernel⟩
theorem bd_law_take (L : Lay K mg) (cd : Value) (A : Around) (outer : List Env) (s : Shared) (H : Hp) (E : XK) (hr : Rm 0 (A.deeper (envOfC "_law_take" (defScope st_law_take) s.heap.objs.size L.f_law_take cd))) : BD (cxG P w K mg base N_law_take "_law_take" (defScope st_law_take) L.f_law_take cd A outer s H E) ⟨fun cls d _ H => E cls d H, [0]⟩ (defBody st_law_take) g_law_take :=
  have nd := sc_law_take.nd
  have tk := cxG_takes (P := P) (w := w) (K := K) (mg := mg) (base := base) (N := N_law_take) (qual := "_law_take") (scope := defScope st_law_take) (f := L.f_law_take) (cd := cd) (A := A) (outer := outer) (s := s) (H := H) (E := E)
  have ow := cxG_owns (P := P) (w := w) (K := K) (mg := mg) (base := base) (N := N_law_take) (qual := "_law_take") (scope := defScope st_law_take) (f := L.f_law_take) (cd := cd) (A := A) (outer := outer) (s := s) (H := H) (E := E)
  (bd_cons (sd_if (tEq (by exact hr) (ed_ixS (pv 0) ed_int) ed_int) (bd_cons (nF 4 (by exact nd) ed_int) (bd_cons (sd_if (tLt (ed_ixS (pv 0) ed_int) (eLen (by rfl) (by exact L.m_len) (ad_cons (ed_ixS (pv 0) ed_int) ad_nil))) (bd_one (nF 4 (by exact nd) (eIx (ed_ixS (pv 0) ed_int) (ed_ixS (pv 0) ed_int)))) bd_nil) (bd_cons (iAdd (pv 0) ed_int ed_int) (bd_cons (sd_if (tGe (ed_var (pv 4)) ed_int) (bd_one (sd_asg (ed_var (pv 4)) (gd_ix (pv 0) ed_int) ng_ix)) bd_nil) (bd_one (sd_asg (eMod (eAdd (eAdd (eMul (ed_ixS (pv 0) ed_int) ed_int) (eMod (ed_var (pv 4)) ed_int)) (eMul ed_int (ed_ixS (pv 0) ed_int))) ed_int) (gd_ix (pv 0) ed_int) ng_ix)))))) bd_nil) (bd_cons (sd_if (tGt (ed_ixS (pv 0) ed_int) ed_int) (bd_cons (nF 5 (by exact nd) (eMod (ed_ixS (pv 0) ed_int) (ed_var (pv 1)))) (bd_cons (sd_asg (eDiv (ed_ixS (pv 0) ed_int) (ed_var (pv 1))) (gd_ix (pv 0) ed_int) ng_ix) (bd_one (sd_ret (ed_var (pv 5)))))) bd_nil) (bd_cons (nF 2 (by exact nd) (eMod (eMul (eAdd (ed_ixS (pv 0) ed_int) ed_int) ed_int) ed_int)) (bd_cons (nF 3 (by exact nd) (eMod (eMul (eMod (eMul (ed_var (pv 2)) (ed_var (pv 2))) ed_int) ed_int) ed_int)) (bd_cons (sd_if (tGt (ed_var (pv 1)) ed_int) (bd_one (sd_ret (eMod (eAdd (eMul (ed_var (pv 3)) ed_int) (ed_var (pv 2))) (ed_var (pv 1))))) bd_nil) (bd_one (sd_ret (eMod (eDiv (ed_var (pv 3)) ed_int) (ed_var (pv 1))))))))))
theorem ok_law_take (L : Lay K mg) : FnG P w K mg base 1 L.f_law_take L.fd_law_take p_law_take (spD K 2 [0] F_law_take) := FunD.okD L.D_law_take sc_law_take rfl (by decide) fun cd A outer s H E hr => bd_law_take L cd A outer s H E hr
def g_law_is_between : SD → RS := (sRet (fAndV (fIsi ["int"] (fVar 0)) (fAndV (fNotV (fIsi ["bool"] (fVar 0))) (fChain gLe gLe (fVar 1) (fVar 0) (fVar 2)))))
def F_law_is_between : List OT → FR := fnD 0 g_law_is_between
theorem sc_law_is_between : FnScope N_law_is_between p_law_is_between (defScope st_law_is_between) := ⟨rfl, rfl, rfl, by decide +kernel, rfl, by decide +kernel, by decide +kernel⟩
theorem bd_law_is_between (L : Lay K mg) (cd : Value) (A : Around) (outer : List Env) (s : Shared) (H : Hp) (E : XK) (hr : Rm 0 (A.deeper (envOfC "_law_is_between" (defScope st_law_is_between) s.heap.objs.size L.f_law_is_between cd))) : BD (cxG P w K mg base N_law_is_between "_law_is_between" (defScope st_law_is_between) L.f_law_is_between cd A outer s H E) ⟨fun cls d _ H => E cls d H, []⟩ (defBody st_law_is_between) g_law_is_between :=
  have nd := sc_law_is_between.nd
  have tk := cxG_takes (P := P) (w := w) (K := K) (mg := mg) (base := base) (N := N_law_is_between) (qual := "_law_is_between") (scope := defScope st_law_is_between) (f := L.f_law_is_between) (cd := cd) (A := A) (outer := outer) (s := s) (H := H) (E := E)
  have ow := cxG_owns (P := P) (w := w) (K := K) (mg := mg) (base := base) (N := N_law_is_between) (qual := "_law_is_between") (scope := defScope st_law_is_between) (f := L.f_law_is_between) (cd := cd) (A := A) (outer := outer) (s := s) (H := H) (E := E)
  (bd_one (sd_ret (ed_and (ed_isi (ed_var (pv 0)) (by intro T h; simp at h; subst h; simp) (by rfl) (by exact L.m_isinstance) (pe_bltn (by rfl) (by exact L.m_int) boot_int rfl)) (ed_and (ed_not (ed_isi (ed_var (pv 0)) (by intro T h; simp at h; subst h; simp) (by rfl) (by exact L.m_isinstance) (pe_bltn (by rfl) (by exact L.m_bool) boot_bool rfl))) (ed_one (eLeLe (ed_var (pv 1)) (ed_var (pv 0)) (ed_var (pv 2))))))))
theorem ok_law_is_between (L : Lay K mg) : FnG P w K mg base 1 L.f_law_is_between L.fd_law_is_between p_law_is_between (spD K 3 [] F_law_is_between) := FunD.okD L.D_law_is_between sc_law_is_between rfl (by decide) fun cd A outer s H E hr => bd_law_is_between L cd A outer s H E hr
def g_law_due : SD → RS := (sSeq (sSet 3 (fLst (fCons (fAndV (fIsi ["int"] (fVar 0)) (fNotV (fIsi ["bool"] (fVar 0)))) fNil))) (sSeq (sSetF 4 (fIsi ["list"] (fVar 0))) (sSeq (sIf (fB (fVar 4)) (sSetF 4 (fOp gEqL (fLc (iLs (fVar 0)) (gNmF 7) (fNot (fB (fCall [] F_law_is_between [] (lCons (fVar 7) (lCons (fC (.int 0)) (lCons (fOp gPow (fC (.int 10)) (fC (.int 40))) lNil)))))) (fVar 7) [7]) (fLst fNil))) sNil) (sSeq (sApp 3 (fAndV (fVar 4) (fAndV (fOp gEqL (fCa gLen (fCons (fVar 0) fNil)) (fVar 1)) (fOp gEqL (fCa gSorted (fCons (fVar 0) fNil)) (fLr1 (fVar 1)))))) (sSeq (sSetF 5 (fAndV (fIsi ["tuple"] (fVar 0)) (fOp gEqL (fCa gLen (fCons (fVar 0) fNil)) (fC (.int 2))))) (sSeq (sIf (fB (fVar 5)) (sSetF 5 (fAndV (fCall [] F_law_is_between [] (lCons (fOp gIx2 (fVar 0) (fC (.int 0))) (lCons (fC (.int 1)) (lCons (fOp gSub (fVar 1) (fC (.int 1))) lNil)))) (fCall [] F_law_is_between [] (lCons (fOp gIx2 (fVar 0) (fC (.int 1))) (lCons (fC (.int 0)) (lCons (fOp gPow (fC (.int 10)) (fC (.int 18))) lNil)))))) sNil) (sSeq (sApp 3 (fVar 5)) (sSeq (sSetF 6 (fVar 4)) (sSeq (sIf (fB (fVar 4)) (sSetF 6 (fOp gEqL (fLc (iRg2 (fCons (fC (.int 1)) (fCons (fCa gLen (fCons (fVar 0) fNil)) fNil))) (gNmF 8) (fB (fOp gGe (fOp gIx2 (fVar 0) (fOp gSub (fVar 8) (fC (.int 1)))) (fOp gIx2 (fVar 0) (fVar 8)))) (fVar 8) [8]) (fLst fNil))) sNil) (sSeq (sApp 3 (fAndV (fVar 6) (fOp gEqL (fLc (iLs (fVar 0)) (gNmF 7) (fB (fOp gGe (fVar 7) (fVar 2))) (fVar 7) [7]) (fLst fNil)))) (sRet (fMov 3))))))))))))
def F_law_due : List OT → FR := fnD 6 g_law_due
theorem sc_law_due : FnScope N_law_due p_law_due (defScope st_law_due) := ⟨rfl, rfl, rfl, by decide +kernel, rfl, by decide +kernel, by decide +kernel⟩
theorem bd_law_due (L : Lay K mg) (cd : Value) (A : Around) (outer : List Env) (s : Shared) (H : Hp) (E : XK) (hr : Rm 1 (A.deeper (envOfC "_law_due" (defScope st_law_due) s.heap.objs.size L.f_law_due cd))) : BD (cxG P w K mg base N_law_due "_law_due" (defScope st_law_due) L.f_law_due cd A outer s H E) ⟨fun cls d _ H => E cls d H, []⟩ (defBody st_law_due) g_law_due :=
  have nd := sc_law_due.nd
  have tk := cxG_takes (P := P) (w := w) (K := K) (mg := mg) (base := base) (N := N_law_due) (qual := "_law_due") (scope := defScope st_law_due) (f := L.f_law_due) (cd := cd) (A := A) (outer := outer) (s := s) (H := H) (E := E)
  have ow := cxG_owns (P := P) (w := w) (K := K) (mg := mg) (base := base) (N := N_law_due) (qual := "_law_due") (scope := defScope st_law_due) (f := L.f_law_due) (cd := cd) (A := A) (outer := outer) (s := s) (H := H) (E := E)
  (bd_cons (nS 3 (by exact nd) (ed_lst (ad_cons (ed_and (ed_isi (ed_var (pv 0)) (by intro T h; simp at h; subst h; simp) (by rfl) (by exact L.m_isinstance) (pe_bltn (by rfl) (by exact L.m_int) boot_int rfl)) (ed_one (ed_not (ed_isi (ed_var (pv 0)) (by intro T h; simp at h; subst h; simp) (by rfl) (by exact L.m_isinstance) (pe_bltn (by rfl) (by exact L.m_bool) boot_bool rfl))))) ad_nil))) (bd_cons (nF 4 (by exact nd) (ed_isi (ed_var (pv 0)) (by intro T h; simp at h; subst h; simp) (by rfl) (by exact L.m_isinstance) (pe_bltn (by rfl) (by exact L.m_list) boot_list rfl))) (bd_cons (sd_if (td_val (ed_var (pv 4))) (bd_one (nF 4 (by exact nd) (eEq (by exact hr) (ed_lc (own := [("_law_one", 7)]) (by rfl) (by exact nd) (id_list (ed_var (pv 0))) (blkOk_by (N := N_law_due) (sc := defScope st_law_due) (by decide +kernel)) (fun _ _ _ _ _ => pN 7 (by exact nd)) (simg_name (j := 7) (by decide) (by first | decide | (dsimp only; decide))) (fun _ _ _ _ _ => tsd_one (td_not (td_val (ed_call (k := 1) (dvs := []) (dd := []) (by exact (ok_law_is_between L).mono (by decide)) (by exact hr) (by rfl) (by exact L.m_law_is_between) (by exact L.D_law_is_between.kp) (by exact L.b_law_is_between) .nil (by exact fun _ => rfl) (by exact DL.takes0) (ld_cons (ed_var (pv 7)) (ld_cons ed_int (ld_cons (ePow ed_int ed_int) ld_nil))) (ln_add (ln_cons (ln_cons (ln_cons ln_nil))) rfl))))) (fun _ _ _ _ _ => (ed_var (pv 7)))) (ed_lst ad_nil)))) bd_nil) (bd_cons (mApp (pv 3) (ed_and (ed_var (pv 4)) (ed_and (eEq (by exact hr) (eLen (by rfl) (by exact L.m_len) (ad_cons (ed_var (pv 0)) ad_nil)) (ed_var (pv 1))) (ed_one (eEq (by exact hr) (eSorted (by rfl) (by exact L.m_sorted) (ad_cons (ed_var (pv 0)) ad_nil)) (ed_lr1 (by rfl) (by rfl) (by exact L.m_list) (by rfl) (by exact L.m_range) (ed_var (pv 1)))))))) (bd_cons (nF 5 (by exact nd) (ed_and (ed_isi (ed_var (pv 0)) (by intro T h; simp at h; subst h; simp) (by rfl) (by exact L.m_isinstance) (pe_bltn (by rfl) (by exact L.m_tuple) boot_tuple rfl)) (ed_one (eEq (by exact hr) (eLen (by rfl) (by exact L.m_len) (ad_cons (ed_var (pv 0)) ad_nil)) ed_int)))) (bd_cons (sd_if (td_val (ed_var (pv 5))) (bd_one (nF 5 (by exact nd) (ed_and (ed_call (k := 1) (dvs := []) (dd := []) (by exact (ok_law_is_between L).mono (by decide)) (by exact hr) (by rfl) (by exact L.m_law_is_between) (by exact L.D_law_is_between.kp) (by exact L.b_law_is_between) .nil (by exact fun _ => rfl) (by exact tk) (ld_cons (eIx (ed_var (pv 0)) ed_int) (ld_cons ed_int (ld_cons (eSub (ed_var (pv 1)) ed_int) ld_nil))) (ln_add (ln_cons (ln_cons (ln_cons ln_nil))) rfl)) (ed_one (ed_call (k := 1) (dvs := []) (dd := []) (by exact (ok_law_is_between L).mono (by decide)) (by exact hr) (by rfl) (by exact L.m_law_is_between) (by exact L.D_law_is_between.kp) (by exact L.b_law_is_between) .nil (by exact fun _ => rfl) (by exact tk) (ld_cons (eIx (ed_var (pv 0)) ed_int) (ld_cons ed_int (ld_cons (ePow ed_int ed_int) ld_nil))) (ln_add (ln_cons (ln_cons (ln_cons ln_nil))) rfl)))))) bd_nil) (bd_cons (mApp (pv 3) (ed_var (pv 5))) (bd_cons (nF 6 (by exact nd) (ed_var (pv 4))) (bd_cons (sd_if (td_val (ed_var (pv 4))) (bd_one (nF 6 (by exact nd) (eEq (by exact hr) (ed_lc (own := [("_law_k", 8)]) (by rfl) (by exact nd) (id_range2 (by rfl) (by exact L.m_range) (ad_cons ed_int (ad_cons (eLen (by rfl) (by exact L.m_len) (ad_cons (ed_var (pv 0)) ad_nil)) ad_nil))) (blkOk_by (N := N_law_due) (sc := defScope st_law_due) (by decide +kernel)) (fun _ _ _ _ _ => pN 8 (by exact nd)) (simg_name (j := 8) (by decide) (by first | decide | (dsimp only; decide))) (fun _ _ _ _ _ => tsd_one (tGe (eIx (ed_var (pv 0)) (eSub (ed_var (pv 8)) ed_int)) (eIx (ed_var (pv 0)) (ed_var (pv 8))))) (fun _ _ _ _ _ => (ed_var (pv 8)))) (ed_lst ad_nil)))) bd_nil) (bd_cons (mApp (pv 3) (ed_and (ed_var (pv 6)) (ed_one (eEq (by exact hr) (ed_lc (own := [("_law_one", 7)]) (by rfl) (by exact nd) (id_list (ed_var (pv 0))) (blkOk_by (N := N_law_due) (sc := defScope st_law_due) (by decide +kernel)) (fun _ _ _ _ _ => pN 7 (by exact nd)) (simg_name (j := 7) (by decide) (by first | decide | (dsimp only; decide))) (fun _ _ _ _ _ => tsd_one (tGe (ed_var (pv 7)) (ed_var (pv 2)))) (fun _ _ _ _ _ => (ed_var (pv 7)))) (ed_lst ad_nil))))) (bd_one (sd_ret (ed_mov (pv 3))))))))))))))
theorem ok_law_due (L : Lay K mg) : FnG P w K mg base 2 L.f_law_due L.fd_law_due p_law_due (spD K 3 [] F_law_due) := FunD.okD L.D_law_due sc_law_due rfl (by decide) fun cd A outer s H E hr => bd_law_due L cd A outer s H E hr
def g_law_order : SD → RS := (sSeq (sPar3 3 4 5 true true false (fCons (fLr1 (fVar 1)) (fCons (fLst fNil) (fCons (fCall [0] F_law_take [] (lLent 0 (lCons (fC (.int 6)) lNil))) fNil)))) (sSeq (sFor (iRg1 (fCons (fVar 1) fNil)) (gNmF 2) (sApp 4 (fPopAt 3 (fCall [0] F_law_take [] (lLent 0 (lCons (fLenS 3) lNil)))))) (sSeq (sIf (fB (fOp gEqL (fVar 5) (fC (.int 0)))) (sRet (fUn gRev (fLr1 (fVar 1)))) sNil) (sSeq (sIf (fB (fOp gEqL (fVar 5) (fC (.int 1)))) (sSeq (sSet 4 (fLr1 (fVar 1))) (sFor (iRg1 (fCons (fCall [0] F_law_take [] (lLent 0 (lCons (fC (.int 4)) lNil))) fNil)) (gNmF 2) (sSeq (sPar2 6 7 false false (fCons (fCall [0] F_law_take [] (lLent 0 (lCons (fVar 1) lNil))) (fCons (fCall [0] F_law_take [] (lLent 0 (lCons (fVar 1) lNil))) fNil))) (sAsg (fTupO (fCons (fIxS 4 (fVar 7)) (fCons (fIxS 4 (fVar 6)) fNil))) (gTuO [(gIx 4 (fVar 6)), (gIx 4 (fVar 7))]))))) sNil) (sRet (fMov 4))))))
def F_law_order : List OT → FR := fnD 6 g_law_order
theorem sc_law_order : FnScope N_law_order p_law_order (defScope st_law_order) := ⟨rfl, rfl, rfl, by decide +kernel, rfl, by decide +kernel, by decide +kernel⟩
theorem bd_law_order (L : Lay K mg) (cd : Value) (A : Around) (outer : List Env) (s : Shared) (H : Hp) (E : XK) (hr : Rm 1 (A.deeper (envOfC "_law_order" (defScope st_law_order) s.heap.objs.size L.f_law_order cd))) : BD (cxG P w K mg base N_law_order "_law_order" (defScope st_law_order) L.f_law_order cd A outer s H E) ⟨fun cls d _ H => E cls d H, [0]⟩ (defBody st_law_order) g_law_order :=
  have nd := sc_law_order.nd
  have tk := cxG_takes (P := P) (w := w) (K := K) (mg := mg) (base := base) (N := N_law_order) (qual := "_law_order") (scope := defScope st_law_order) (f := L.f_law_order) (cd := cd) (A := A) (outer := outer) (s := s) (H := H) (E := E)
  have ow := cxG_owns (P := P) (w := w) (K := K) (mg := mg) (base := base) (N := N_law_order) (qual := "_law_order") (scope := defScope st_law_order) (f := L.f_law_order) (cd := cd) (A := A) (outer := outer) (s := s) (H := H) (E := E)
  (bd_cons (sd_par3 3 4 5 true true false (by rfl) (by exact nd) (ad_cons (ed_lr1 (by rfl) (by rfl) (by exact L.m_list) (by rfl) (by exact L.m_range) (ed_var (pv 1))) (ad_cons (ed_lst ad_nil) (ad_cons (ed_call (k := 1) (dvs := []) (dd := []) (by exact (ok_law_take L).mono (by decide)) (by exact hr) (by rfl) (by exact L.m_law_take) (by exact L.D_law_take.kp) (by exact L.b_law_take) .nil (by exact fun _ => rfl) (by exact tk) (ld_lent (pv 0) (ld_cons ed_int ld_nil)) (ln_add (ln_lent (ln_cons ln_nil)) rfl)) ad_nil)))) (bd_cons (sd_for (by exact ow) (by rfl) (id_range1 (by rfl) (by exact L.m_range) (ad_cons (ed_var (pv 1)) ad_nil)) (tF 2 (by exact nd)) (bd_one (mApp (pv 4) (mPop (pv 3) (ed_call (k := 1) (dvs := []) (dd := []) (by exact (ok_law_take L).mono (by decide)) (by exact hr) (by rfl) (by exact L.m_law_take) (by exact L.D_law_take.kp) (by exact L.b_law_take) .nil (by exact fun _ => rfl) (by exact tk) (ld_lent (pv 0) (ld_cons (ed_lenS (pv 3) (by rfl) (by exact L.m_len)) ld_nil)) (ln_add (ln_lent (ln_cons ln_nil)) rfl)))))) (bd_cons (sd_if (tEq (by exact hr) (ed_var (pv 5)) ed_int) (bd_one (sd_ret (ed_rev (ed_lr1 (by rfl) (by rfl) (by exact L.m_list) (by rfl) (by exact L.m_range) (ed_var (pv 1)))))) bd_nil) (bd_cons (sd_if (tEq (by exact hr) (ed_var (pv 5)) ed_int) (bd_cons (nS 4 (by exact nd) (ed_lr1 (by rfl) (by rfl) (by exact L.m_list) (by rfl) (by exact L.m_range) (ed_var (pv 1)))) (bd_one (sd_for (by exact ow) (by rfl) (id_range1 (by rfl) (by exact L.m_range) (ad_cons (ed_call (k := 1) (dvs := []) (dd := []) (by exact (ok_law_take L).mono (by decide)) (by exact hr) (by rfl) (by exact L.m_law_take) (by exact L.D_law_take.kp) (by exact L.b_law_take) .nil (by exact fun _ => rfl) (by exact tk) (ld_lent (pv 0) (ld_cons ed_int ld_nil)) (ln_add (ln_lent (ln_cons ln_nil)) rfl)) ad_nil)) (tF 2 (by exact nd)) (bd_cons (sd_par2 6 7 false false (by rfl) (by exact nd) (ad_cons (ed_call (k := 1) (dvs := []) (dd := []) (by exact (ok_law_take L).mono (by decide)) (by exact hr) (by rfl) (by exact L.m_law_take) (by exact L.D_law_take.kp) (by exact L.b_law_take) .nil (by exact fun _ => rfl) (by exact tk) (ld_lent (pv 0) (ld_cons (ed_var (pv 1)) ld_nil)) (ln_add (ln_lent (ln_cons ln_nil)) rfl)) (ad_cons (ed_call (k := 1) (dvs := []) (dd := []) (by exact (ok_law_take L).mono (by decide)) (by exact hr) (by rfl) (by exact L.m_law_take) (by exact L.D_law_take.kp) (by exact L.b_law_take) .nil (by exact fun _ => rfl) (by exact tk) (ld_lent (pv 0) (ld_cons (ed_var (pv 1)) ld_nil)) (ln_add (ln_lent (ln_cons ln_nil)) rfl)) ad_nil))) (bd_one (sd_asg (ed_tupO (ad_cons (ed_ixS (pv 4) (ed_var (pv 7))) (ad_cons (ed_ixS (pv 4) (ed_var (pv 6))) ad_nil))) (gd_tupO (by rfl) (gdo_cons (gd_ix (pv 4) (ed_var (pv 6))) (gdo_cons (gd_ix (pv 4) (ed_var (pv 7))) gdo_nil))) (ng_tuO (ng_cons ng_ix (ng_cons ng_ix ng_nil))))))))) bd_nil) (bd_one (sd_ret (ed_mov (pv 4))))))))
theorem ok_law_order (L : Lay K mg) : FnG P w K mg base 2 L.f_law_order L.fd_law_order p_law_order (spD K 2 [0] F_law_order) := FunD.okD L.D_law_order sc_law_order rfl (by decide) fun cd A outer s H E hr => bd_law_order L cd A outer s H E hr
def g_law_misses : SD → RS := (sSeq (sPar2 4 5 true true (fCons (fLst fNil) (fCons (fLr1 (fVar 1)) fNil))) (sSeq (sFor (iRg1 (fCons (fCa gMin2 (fCons (fVar 1) (fCons (fCall [0] F_law_take [] (lLent 0 (lCons (fOp gAdd (fVar 2) (fC (.int 1))) lNil))) fNil))) fNil)) (gNmF 3) (sApp 4 (fPopAt 5 (fCall [0] F_law_take [] (lLent 0 (lCons (fLenS 5) lNil)))))) (sRet (fCa gSorted (fCons (fVarF 4) fNil)))))
def F_law_misses : List OT → FR := fnD 3 g_law_misses
theorem sc_law_misses : FnScope N_law_misses p_law_misses (defScope st_law_misses) := ⟨rfl, rfl, rfl, by decide +kernel, rfl, by decide +kernel, by decide +kernel⟩
theorem bd_law_misses (L : Lay K mg) (cd : Value) (A : Around) (outer : List Env) (s : Shared) (H : Hp) (E : XK) (hr : Rm 1 (A.deeper (envOfC "_law_misses" (defScope st_law_misses) s.heap.objs.size L.f_law_misses cd))) : BD (cxG P w K mg base N_law_misses "_law_misses" (defScope st_law_misses) L.f_law_misses cd A outer s H E) ⟨fun cls d _ H => E cls d H, [0]⟩ (defBody st_law_misses) g_law_misses :=
  have nd := sc_law_misses.nd
  have tk := cxG_takes (P := P) (w := w) (K := K) (mg := mg) (base := base) (N := N_law_misses) (qual := "_law_misses") (scope := defScope st_law_misses) (f := L.f_law_misses) (cd := cd) (A := A) (outer := outer) (s := s) (H := H) (E := E)
  have ow := cxG_owns (P := P) (w := w) (K := K) (mg := mg) (base := base) (N := N_law_misses) (qual := "_law_misses") (scope := defScope st_law_misses) (f := L.f_law_misses) (cd := cd) (A := A) (outer := outer) (s := s) (H := H) (E := E)
  (bd_cons (sd_par2 4 5 true true (by rfl) (by exact nd) (ad_cons (ed_lst ad_nil) (ad_cons (ed_lr1 (by rfl) (by rfl) (by exact L.m_list) (by rfl) (by exact L.m_range) (ed_var (pv 1))) ad_nil))) (bd_cons (sd_for (by exact ow) (by rfl) (id_range1 (by rfl) (by exact L.m_range) (ad_cons (eMin2 (by rfl) (by rfl) (by exact L.m_min) (ad_cons (ed_var (pv 1)) (ad_cons (ed_call (k := 1) (dvs := []) (dd := []) (by exact (ok_law_take L).mono (by decide)) (by exact hr) (by rfl) (by exact L.m_law_take) (by exact L.D_law_take.kp) (by exact L.b_law_take) .nil (by exact fun _ => rfl) (by exact tk) (ld_lent (pv 0) (ld_cons (eAdd (ed_var (pv 2)) ed_int) ld_nil)) (ln_add (ln_lent (ln_cons ln_nil)) rfl)) ad_nil))) ad_nil)) (tF 3 (by exact nd)) (bd_one (mApp (pv 4) (mPop (pv 5) (ed_call (k := 1) (dvs := []) (dd := []) (by exact (ok_law_take L).mono (by decide)) (by exact hr) (by rfl) (by exact L.m_law_take) (by exact L.D_law_take.kp) (by exact L.b_law_take) .nil (by exact fun _ => rfl) (by exact tk) (ld_lent (pv 0) (ld_cons (ed_lenS (pv 5) (by rfl) (by exact L.m_len)) ld_nil)) (ln_add (ln_lent (ln_cons ln_nil)) rfl)))))) (bd_one (sd_ret (eSorted (by rfl) (by exact L.m_sorted) (ad_cons (ed_varF (pv 4)) ad_nil))))))
theorem ok_law_misses (L : Lay K mg) : FnG P w K mg base 2 L.f_law_misses L.fd_law_misses p_law_misses (spD K 3 [0] F_law_misses) := FunD.okD L.D_law_misses sc_law_misses rfl (by decide) fun cd A outer s H E hr => bd_law_misses L cd A outer s H E hr
def g_law_odd : SD → RS := (sSeq (sSetF 1 (fLst (fCons (fC .non) (fCons (fC (.bl true)) (fCons (fC (.bl false)) (fCons (fC (.int 0)) (fCons (fUn gNeg (fC (.int 1))) (fCons (fC (.int 1)) (fCons (fC (.int 2)) (fCons (fC (.int 13)) (fCons (fOp gPow (fC (.int 10)) (fC (.int 18))) (fCons (fOp gAdd (fOp gPow (fC (.int 10)) (fC (.int 18))) (fC (.int 1))) (fCons (fOp gPow (fC (.int 10)) (fC (.int 39))) (fCons (fC (.str "")) (fCons (fC (.str "1")) (fCons (fLst fNil) (fCons (fLst (fCons (fC (.int 0)) fNil)) (fCons (fTup fNil) (fCons (fTup (fCons (fC (.int 1)) fNil)) (fCons (fC (.dic [])) fNil)))))))))))))))))))) (sSeq (sSetF 1 (fOp gAdd (fVar 1) (fLst (fCons (fTup (fCons (fC (.int 1)) (fCons (fC (.int 1)) fNil))) (fCons (fTup (fCons (fC (.int 1)) (fCons (fC (.int 0)) fNil))) (fCons (fLst (fCons (fC (.int 1)) (fCons (fC (.int 1)) fNil))) (fCons (fTup (fCons (fC (.int 1)) (fCons (fC (.int 1)) (fCons (fC (.int 1)) fNil)))) (fCons (fLst (fCons (fTup (fCons (fC (.int 1)) (fCons (fC (.int 1)) fNil))) fNil)) (fCons (fC (.dic [(.inl 1, .int 1)])) (fCons (fTup (fCons (fC (.str "1")) (fCons (fC (.int 1)) fNil))) (fCons (fTup (fCons (fC (.int 1)) (fCons (fC .non) fNil))) (fCons (fLst (fCons (fLst (fCons (fC (.int 0)) fNil)) fNil)) (fCons (fLst (fCons (fC .non) fNil)) (fCons (fTup (fCons (fC (.int 0)) (fCons (fC (.int 1)) fNil))) fNil)))))))))))))) (sRet (fOp gIx2 (fVar 1) (fCall [0] F_law_take [] (lLent 0 (lCons (fCa gLen (fCons (fVar 1) fNil)) lNil)))))))
def F_law_odd : List OT → FR := fnD 1 g_law_odd
theorem sc_law_odd : FnScope N_law_odd p_law_odd (defScope st_law_odd) := ⟨rfl, rfl, rfl, by decide +kernel, rfl, by decide +kernel, by decide +kernel⟩
theorem bd_law_odd (L : Lay K mg) (cd : Value) (A : Around) (outer : List Env) (s : Shared) (H : Hp) (E : XK) (hr : Rm 1 (A.deeper (envOfC "_law_odd" (defScope st_law_odd) s.heap.objs.size L.f_law_odd cd))) : BD (cxG P w K mg base N_law_odd "_law_odd" (defScope st_law_odd) L.f_law_odd cd A outer s H E) ⟨fun cls d _ H => E cls d H, [0]⟩ (defBody st_law_odd) g_law_odd :=
  have nd := sc_law_odd.nd
  have tk := cxG_takes (P := P) (w := w) (K := K) (mg := mg) (base := base) (N := N_law_odd) (qual := "_law_odd") (scope := defScope st_law_odd) (f := L.f_law_odd) (cd := cd) (A := A) (outer := outer) (s := s) (H := H) (E := E)
  have ow := cxG_owns (P := P) (w := w) (K := K) (mg := mg) (base := base) (N := N_law_odd) (qual := "_law_odd") (scope := defScope st_law_odd) (f := L.f_law_odd) (cd := cd) (A := A) (outer := outer) (s := s) (H := H) (E := E)
  (bd_cons (nF 1 (by exact nd) (ed_lst (ad_cons ed_non (ad_cons ed_bl (ad_cons ed_bl (ad_cons ed_int (ad_cons (eNeg ed_int) (ad_cons ed_int (ad_cons ed_int (ad_cons ed_int (ad_cons (ePow ed_int ed_int) (ad_cons (eAdd (ePow ed_int ed_int) ed_int) (ad_cons (ePow ed_int ed_int) (ad_cons ed_str (ad_cons ed_str (ad_cons (ed_lst ad_nil) (ad_cons (ed_lst (ad_cons ed_int ad_nil)) (ad_cons (ed_tup ad_nil) (ad_cons (ed_tup (ad_cons ed_int ad_nil)) (ad_cons ed_dic0 ad_nil)))))))))))))))))))) (bd_cons (nF 1 (by exact nd) (eAdd (ed_var (pv 1)) (ed_lst (ad_cons (ed_tup (ad_cons ed_int (ad_cons ed_int ad_nil))) (ad_cons (ed_tup (ad_cons ed_int (ad_cons ed_int ad_nil))) (ad_cons (ed_lst (ad_cons ed_int (ad_cons ed_int ad_nil))) (ad_cons (ed_tup (ad_cons ed_int (ad_cons ed_int (ad_cons ed_int ad_nil)))) (ad_cons (ed_lst (ad_cons (ed_tup (ad_cons ed_int (ad_cons ed_int ad_nil))) ad_nil)) (ad_cons ed_dic1 (ad_cons (ed_tup (ad_cons ed_str (ad_cons ed_int ad_nil))) (ad_cons (ed_tup (ad_cons ed_int (ad_cons ed_non ad_nil))) (ad_cons (ed_lst (ad_cons (ed_lst (ad_cons ed_int ad_nil)) ad_nil)) (ad_cons (ed_lst (ad_cons ed_non ad_nil)) (ad_cons (ed_tup (ad_cons ed_int (ad_cons ed_int ad_nil))) ad_nil)))))))))))))) (bd_one (sd_ret (eIx (ed_var (pv 1)) (ed_call (k := 1) (dvs := []) (dd := []) (by exact (ok_law_take L).mono (by decide)) (by exact hr) (by rfl) (by exact L.m_law_take) (by exact L.D_law_take.kp) (by exact L.b_law_take) .nil (by exact fun _ => rfl) (by exact tk) (ld_lent (pv 0) (ld_cons (eLen (by rfl) (by exact L.m_len) (ad_cons (ed_var (pv 1)) ad_nil)) ld_nil)) (ln_add (ln_lent (ln_cons ln_nil)) rfl)))))))
theorem ok_law_odd (L : Lay K mg) : FnG P w K mg base 2 L.f_law_odd L.fd_law_odd p_law_odd (spD K 1 [0] F_law_odd) := FunD.okD L.D_law_odd sc_law_odd rfl (by decide) fun cd A outer s H E hr => bd_law_odd L cd A outer s H E hr
def g_law_bent : SD → RS := (sSeq (sPar3 3 4 5 false false false (fCons (fCall [0] F_law_take [] (lLent 0 (lCons (fOp gAdd (fCa gLen (fCons (fVar 1) fNil)) (fC (.int 1))) lNil))) (fCons (fCall [0] F_law_odd [] (lLent 0 lNil)) (fCons (fCall [0] F_law_take [] (lLent 0 (lCons (fC (.int 6)) lNil))) fNil)))) (sSeq (sSet 2 (fCa gList (fCons (fVar 1) fNil))) (sSeq (sIf (fB (fOp gEqL (fVar 5) (fC (.int 0)))) (sIns 2 (fVar 3) (fVar 4)) (sIf (fAnd (fB (fOp gEqL (fVar 5) (fC (.int 1)))) (fB (fOpS gNeL 2 (fLst fNil)))) (sDrop (fPopAt 2 (fCa gMin2 (fCons (fVar 3) (fCons (fOp gSub (fLenS 2) (fC (.int 1))) fNil))))) (sIf (fAnd (fB (fOp gEqL (fVar 5) (fC (.int 2)))) (fB (fOpS gNeL 2 (fLst fNil)))) (sAsg (fVar 4) (gIx 2 (fCa gMin2 (fCons (fVar 3) (fCons (fOp gSub (fLenS 2) (fC (.int 1))) fNil))))) (sIf (fAnd (fB (fOp gEqL (fVar 5) (fC (.int 3)))) (fB (fOpS gNeL 2 (fLst fNil)))) (sIns 2 (fVar 3) (fIxS 2 (fCall [0] F_law_take [] (lLent 0 (lCons (fLenS 2) lNil))))) (sIf (fB (fOp gEqL (fVar 5) (fC (.int 4)))) (sRet (fIf (fB (fIsi ["list"] (fVar 1))) (fCa gTuple (fCons (fVarF 2) fNil)) (fMov 2))) sNil))))) (sRet (fIf (fB (fIsi ["list"] (fVar 1))) (fMov 2) (fCa gTuple (fCons (fVarF 2) fNil)))))))
def F_law_bent : List OT → FR := fnD 4 g_law_bent
theorem sc_law_bent : FnScope N_law_bent p_law_bent (defScope st_law_bent) := ⟨rfl, rfl, rfl, by decide +kernel, rfl, by decide +kernel, by decide +kernel⟩
theorem bd_law_bent (L : Lay K mg) (cd : Value) (A : Around) (outer : List Env) (s : Shared) (H : Hp) (E : XK) (hr : Rm 2 (A.deeper (envOfC "_law_bent" (defScope st_law_bent) s.heap.objs.size L.f_law_bent cd))) : BD (cxG P w K mg base N_law_bent "_law_bent" (defScope st_law_bent) L.f_law_bent cd A outer s H E) ⟨fun cls d _ H => E cls d H, [0]⟩ (defBody st_law_bent) g_law_bent :=
  have nd := sc_law_bent.nd
  have tk := cxG_takes (P := P) (w := w) (K := K) (mg := mg) (base := base) (N := N_law_bent) (qual := "_law_bent") (scope := defScope st_law_bent) (f := L.f_law_bent) (cd := cd) (A := A) (outer := outer) (s := s) (H := H) (E := E)
  have ow := cxG_owns (P := P) (w := w) (K := K) (mg := mg) (base := base) (N := N_law_bent) (qual := "_law_bent") (scope := defScope st_law_bent) (f := L.f_law_bent) (cd := cd) (A := A) (outer := outer) (s := s) (H := H) (E := E)
  (bd_cons (sd_par3 3 4 5 false false false (by rfl) (by exact nd) (ad_cons (ed_call (k := 2) (dvs := []) (dd := []) (by exact (ok_law_take L).mono (by decide)) (by exact hr) (by rfl) (by exact L.m_law_take) (by exact L.D_law_take.kp) (by exact L.b_law_take) .nil (by exact fun _ => rfl) (by exact tk) (ld_lent (pv 0) (ld_cons (eAdd (eLen (by rfl) (by exact L.m_len) (ad_cons (ed_var (pv 1)) ad_nil)) ed_int) ld_nil)) (ln_add (ln_lent (ln_cons ln_nil)) rfl)) (ad_cons (ed_call (k := 2) (dvs := []) (dd := []) (by exact (ok_law_odd L).mono (by decide)) (by exact hr) (by rfl) (by exact L.m_law_odd) (by exact L.D_law_odd.kp) (by exact L.b_law_odd) .nil (by exact fun _ => rfl) (by exact tk) (ld_lent (pv 0) ld_nil) (ln_add (ln_lent ln_nil) rfl)) (ad_cons (ed_call (k := 2) (dvs := []) (dd := []) (by exact (ok_law_take L).mono (by decide)) (by exact hr) (by rfl) (by exact L.m_law_take) (by exact L.D_law_take.kp) (by exact L.b_law_take) .nil (by exact fun _ => rfl) (by exact tk) (ld_lent (pv 0) (ld_cons ed_int ld_nil)) (ln_add (ln_lent (ln_cons ln_nil)) rfl)) ad_nil)))) (bd_cons (nS 2 (by exact nd) (eList (by rfl) (by exact L.m_list) (ad_cons (ed_var (pv 1)) ad_nil))) (bd_cons (sd_if (tEq (by exact hr) (ed_var (pv 5)) ed_int) (bd_one (mIns (pv 2) (ed_var (pv 3)) (ed_var (pv 4)))) (bd_one (sd_if (WD.td (wd_and (tEq (by exact hr) (ed_var (pv 5)) ed_int) (wd_and1 (tNeS (by exact hr) (pv 2) (ed_lst ad_nil))))) (bd_one (sd_expr (mPop (pv 2) (eMin2 (by rfl) (by rfl) (by exact L.m_min) (ad_cons (ed_var (pv 3)) (ad_cons (eSub (ed_lenS (pv 2) (by rfl) (by exact L.m_len)) ed_int) ad_nil)))))) (bd_one (sd_if (WD.td (wd_and (tEq (by exact hr) (ed_var (pv 5)) ed_int) (wd_and1 (tNeS (by exact hr) (pv 2) (ed_lst ad_nil))))) (bd_one (sd_asg (ed_var (pv 4)) (gd_ix (pv 2) (eMin2 (by rfl) (by rfl) (by exact L.m_min) (ad_cons (ed_var (pv 3)) (ad_cons (eSub (ed_lenS (pv 2) (by rfl) (by exact L.m_len)) ed_int) ad_nil)))) ng_ix)) (bd_one (sd_if (WD.td (wd_and (tEq (by exact hr) (ed_var (pv 5)) ed_int) (wd_and1 (tNeS (by exact hr) (pv 2) (ed_lst ad_nil))))) (bd_one (mIns (pv 2) (ed_var (pv 3)) (ed_ixS (pv 2) (ed_call (k := 2) (dvs := []) (dd := []) (by exact (ok_law_take L).mono (by decide)) (by exact hr) (by rfl) (by exact L.m_law_take) (by exact L.D_law_take.kp) (by exact L.b_law_take) .nil (by exact fun _ => rfl) (by exact tk) (ld_lent (pv 0) (ld_cons (ed_lenS (pv 2) (by rfl) (by exact L.m_len)) ld_nil)) (ln_add (ln_lent (ln_cons ln_nil)) rfl))))) (bd_one (sd_if (tEq (by exact hr) (ed_var (pv 5)) ed_int) (bd_one (sd_ret (ed_if (td_val (ed_isi (ed_var (pv 1)) (by intro T h; simp at h; subst h; simp) (by rfl) (by exact L.m_isinstance) (pe_bltn (by rfl) (by exact L.m_list) boot_list rfl))) (eTuple (by rfl) (by exact L.m_tuple) (ad_cons (ed_varF (pv 2)) ad_nil)) (ed_mov (pv 2))))) bd_nil))))))))) (bd_one (sd_ret (ed_if (td_val (ed_isi (ed_var (pv 1)) (by intro T h; simp at h; subst h; simp) (by rfl) (by exact L.m_isinstance) (pe_bltn (by rfl) (by exact L.m_list) boot_list rfl))) (ed_mov (pv 2)) (eTuple (by rfl) (by exact L.m_tuple) (ad_cons (ed_varF (pv 2)) ad_nil))))))))
theorem ok_law_bent (L : Lay K mg) : FnG P w K mg base 3 L.f_law_bent L.fd_law_bent p_law_bent (spD K 2 [0] F_law_bent) := FunD.okD L.D_law_bent sc_law_bent rfl (by decide) fun cd A outer s H E hr => bd_law_bent L cd A outer s H E hr
def g_law_thing : SD → RS := (sSeq (sSetF 3 (fCall [0] F_law_take [] (lLent 0 (lCons (fC (.int 5)) lNil)))) (sSeq (sIf (fB (fOp gEqL (fVar 3) (fC (.int 0)))) (sRet (fOp gIx2 (fLst (fCons (fCall [0] F_law_odd [] (lLent 0 lNil)) (fCons (fOp gSub (fCall [0] F_law_take [] (lLent 0 (lCons (fOp gPow (fC (.int 10)) (fC (.int 40))) lNil))) (fOp gPow (fC (.int 10)) (fC (.int 39)))) fNil))) (fCall [0] F_law_take [] (lLent 0 (lCons (fC (.int 2)) lNil))))) sNil) (sSeq (sSetF 4 (fOp gIx2 (fLst (fCons (fC (.int 0)) (fCons (fC (.int 1)) (fCons (fOp gPow (fC (.int 10)) (fC (.int 18))) (fCons (fOp gAdd (fOp gPow (fC (.int 10)) (fC (.int 18))) (fC (.int 1))) (fCons (fCall [0] F_law_take [] (lLent 0 (lCons (fOp gAdd (fOp gPow (fC (.int 10)) (fC (.int 18))) (fC (.int 1))) lNil))) fNil)))))) (fCall [0] F_law_take [] (lLent 0 (lCons (fC (.int 5)) lNil))))) (sSeq (sPar2 7 8 false false (fCons (fTup (fCons (fCall [0] F_law_take [] (lLent 0 (lCons (fOp gAdd (fVar 1) (fC (.int 1))) lNil))) (fCons (fVar 4) fNil))) (fCons (fCall [0] F_law_misses [] (lLent 0 (lCons (fVar 2) (lCons (fOp gIx2 (fLst (fCons (fC (.int 12)) (fCons (fC (.int 400)) fNil))) (fCa gInt (fCons (fOp gEqL (fCall [0] F_law_take [] (lLent 0 (lCons (fC (.int 8)) lNil))) (fC (.int 0))) fNil))) lNil)))) fNil))) (sSeq (sSetF 5 (fOp gIx2 (fLst (fCons (fCall [0] F_law_order [] (lLent 0 (lCons (fVar 1) lNil))) (fCons (fCall [0] F_law_order [] (lLent 0 (lCons (fVar 1) lNil))) (fCons (fVar 7) (fCons (fVar 8) fNil))))) (fOp gSub (fVar 3) (fC (.int 1))))) (sSeq (sFor (iRg1 (fCons (fCall [0] F_law_take [] (lLent 0 (lCons (fC (.int 3)) lNil))) fNil)) (gNmF 6) (sIf (fB (fIsi ["list", "tuple"] (fVar 5))) (sSetF 5 (fCall [0] F_law_bent [] (lLent 0 (lCons (fVar 5) lNil)))) sNil)) (sRet (fVar 5))))))))
def F_law_thing : List OT → FR := fnD 6 g_law_thing
theorem sc_law_thing : FnScope N_law_thing p_law_thing (defScope st_law_thing) := ⟨rfl, rfl, rfl, by decide +kernel, rfl, by decide +kernel, by decide +kernel⟩
theorem bd_law_thing (L : Lay K mg) (cd : Value) (A : Around) (outer : List Env) (s : Shared) (H : Hp) (E : XK) (hr : Rm 3 (A.deeper (envOfC "_law_thing" (defScope st_law_thing) s.heap.objs.size L.f_law_thing cd))) : BD (cxG P w K mg base N_law_thing "_law_thing" (defScope st_law_thing) L.f_law_thing cd A outer s H E) ⟨fun cls d _ H => E cls d H, [0]⟩ (defBody st_law_thing) g_law_thing :=
  have nd := sc_law_thing.nd
  have tk := cxG_takes (P := P) (w := w) (K := K) (mg := mg) (base := base) (N := N_law_thing) (qual := "_law_thing") (scope := defScope st_law_thing) (f := L.f_law_thing) (cd := cd) (A := A) (outer := outer) (s := s) (H := H) (E := E)
  have ow := cxG_owns (P := P) (w := w) (K := K) (mg := mg) (base := base) (N := N_law_thing) (qual := "_law_thing") (scope := defScope st_law_thing) (f := L.f_law_thing) (cd := cd) (A := A) (outer := outer) (s := s) (H := H) (E := E)
  (bd_cons (nF 3 (by exact nd) (ed_call (k := 3) (dvs := []) (dd := []) (by exact (ok_law_take L).mono (by decide)) (by exact hr) (by rfl) (by exact L.m_law_take) (by exact L.D_law_take.kp) (by exact L.b_law_take) .nil (by exact fun _ => rfl) (by exact tk) (ld_lent (pv 0) (ld_cons ed_int ld_nil)) (ln_add (ln_lent (ln_cons ln_nil)) rfl))) (bd_cons (sd_if (tEq (by exact hr) (ed_var (pv 3)) ed_int) (bd_one (sd_ret (eIx (ed_lst (ad_cons (ed_call (k := 3) (dvs := []) (dd := []) (by exact (ok_law_odd L).mono (by decide)) (by exact hr) (by rfl) (by exact L.m_law_odd) (by exact L.D_law_odd.kp) (by exact L.b_law_odd) .nil (by exact fun _ => rfl) (by exact tk) (ld_lent (pv 0) ld_nil) (ln_add (ln_lent ln_nil) rfl)) (ad_cons (eSub (ed_call (k := 3) (dvs := []) (dd := []) (by exact (ok_law_take L).mono (by decide)) (by exact hr) (by rfl) (by exact L.m_law_take) (by exact L.D_law_take.kp) (by exact L.b_law_take) .nil (by exact fun _ => rfl) (by exact tk) (ld_lent (pv 0) (ld_cons (ePow ed_int ed_int) ld_nil)) (ln_add (ln_lent (ln_cons ln_nil)) rfl)) (ePow ed_int ed_int)) ad_nil))) (ed_call (k := 3) (dvs := []) (dd := []) (by exact (ok_law_take L).mono (by decide)) (by exact hr) (by rfl) (by exact L.m_law_take) (by exact L.D_law_take.kp) (by exact L.b_law_take) .nil (by exact fun _ => rfl) (by exact tk) (ld_lent (pv 0) (ld_cons ed_int ld_nil)) (ln_add (ln_lent (ln_cons ln_nil)) rfl))))) bd_nil) (bd_cons (nF 4 (by exact nd) (eIx (ed_lst (ad_cons ed_int (ad_cons ed_int (ad_cons (ePow ed_int ed_int) (ad_cons (eAdd (ePow ed_int ed_int) ed_int) (ad_cons (ed_call (k := 3) (dvs := []) (dd := []) (by exact (ok_law_take L).mono (by decide)) (by exact hr) (by rfl) (by exact L.m_law_take) (by exact L.D_law_take.kp) (by exact L.b_law_take) .nil (by exact fun _ => rfl) (by exact tk) (ld_lent (pv 0) (ld_cons (eAdd (ePow ed_int ed_int) ed_int) ld_nil)) (ln_add (ln_lent (ln_cons ln_nil)) rfl)) ad_nil)))))) (ed_call (k := 3) (dvs := []) (dd := []) (by exact (ok_law_take L).mono (by decide)) (by exact hr) (by rfl) (by exact L.m_law_take) (by exact L.D_law_take.kp) (by exact L.b_law_take) .nil (by exact fun _ => rfl) (by exact tk) (ld_lent (pv 0) (ld_cons ed_int ld_nil)) (ln_add (ln_lent (ln_cons ln_nil)) rfl)))) (bd_cons (sd_par2 7 8 false false (by rfl) (by exact nd) (ad_cons (ed_tup (ad_cons (ed_call (k := 3) (dvs := []) (dd := []) (by exact (ok_law_take L).mono (by decide)) (by exact hr) (by rfl) (by exact L.m_law_take) (by exact L.D_law_take.kp) (by exact L.b_law_take) .nil (by exact fun _ => rfl) (by exact tk) (ld_lent (pv 0) (ld_cons (eAdd (ed_var (pv 1)) ed_int) ld_nil)) (ln_add (ln_lent (ln_cons ln_nil)) rfl)) (ad_cons (ed_var (pv 4)) ad_nil))) (ad_cons (ed_call (k := 3) (dvs := []) (dd := []) (by exact (ok_law_misses L).mono (by decide)) (by exact hr) (by rfl) (by exact L.m_law_misses) (by exact L.D_law_misses.kp) (by exact L.b_law_misses) .nil (by exact fun _ => rfl) (by exact tk) (ld_lent (pv 0) (ld_cons (ed_var (pv 2)) (ld_cons (eIx (ed_lst (ad_cons ed_int (ad_cons ed_int ad_nil))) (eInt (by rfl) (by exact L.m_int) (ad_cons (eEq (by exact hr) (ed_call (k := 3) (dvs := []) (dd := []) (by exact (ok_law_take L).mono (by decide)) (by exact hr) (by rfl) (by exact L.m_law_take) (by exact L.D_law_take.kp) (by exact L.b_law_take) .nil (by exact fun _ => rfl) (by exact tk) (ld_lent (pv 0) (ld_cons ed_int ld_nil)) (ln_add (ln_lent (ln_cons ln_nil)) rfl)) ed_int) ad_nil))) ld_nil))) (ln_add (ln_lent (ln_cons (ln_cons ln_nil))) rfl)) ad_nil))) (bd_cons (nF 5 (by exact nd) (eIx (ed_lst (ad_cons (ed_call (k := 3) (dvs := []) (dd := []) (by exact (ok_law_order L).mono (by decide)) (by exact hr) (by rfl) (by exact L.m_law_order) (by exact L.D_law_order.kp) (by exact L.b_law_order) .nil (by exact fun _ => rfl) (by exact tk) (ld_lent (pv 0) (ld_cons (ed_var (pv 1)) ld_nil)) (ln_add (ln_lent (ln_cons ln_nil)) rfl)) (ad_cons (ed_call (k := 3) (dvs := []) (dd := []) (by exact (ok_law_order L).mono (by decide)) (by exact hr) (by rfl) (by exact L.m_law_order) (by exact L.D_law_order.kp) (by exact L.b_law_order) .nil (by exact fun _ => rfl) (by exact tk) (ld_lent (pv 0) (ld_cons (ed_var (pv 1)) ld_nil)) (ln_add (ln_lent (ln_cons ln_nil)) rfl)) (ad_cons (ed_var (pv 7)) (ad_cons (ed_var (pv 8)) ad_nil))))) (eSub (ed_var (pv 3)) ed_int))) (bd_cons (sd_for (by exact ow) (by rfl) (id_range1 (by rfl) (by exact L.m_range) (ad_cons (ed_call (k := 3) (dvs := []) (dd := []) (by exact (ok_law_take L).mono (by decide)) (by exact hr) (by rfl) (by exact L.m_law_take) (by exact L.D_law_take.kp) (by exact L.b_law_take) .nil (by exact fun _ => rfl) (by exact tk) (ld_lent (pv 0) (ld_cons ed_int ld_nil)) (ln_add (ln_lent (ln_cons ln_nil)) rfl)) ad_nil)) (tF 6 (by exact nd)) (bd_one (sd_if (td_val (ed_isi2 (ed_var (pv 5)) (by intro T h; simp at h; rcases h with h | h <;> subst h <;> simp) (by rfl) (by exact L.m_isinstance) (pe_bltn (by rfl) (by exact L.m_list) boot_list rfl) (pe_bltn (by rfl) (by exact L.m_tuple) boot_tuple rfl))) (bd_one (nF 5 (by exact nd) (ed_call (k := 3) (dvs := []) (dd := []) (by exact (ok_law_bent L).mono (by decide)) (by exact hr) (by rfl) (by exact L.m_law_bent) (by exact L.D_law_bent.kp) (by exact L.b_law_bent) .nil (by exact fun _ => rfl) (by exact tk) (ld_lent (pv 0) (ld_cons (ed_var (pv 5)) ld_nil)) (ln_add (ln_lent (ln_cons ln_nil)) rfl)))) bd_nil))) (bd_one (sd_ret (ed_var (pv 5))))))))))
theorem ok_law_thing (L : Lay K mg) : FnG P w K mg base 4 L.f_law_thing L.fd_law_thing p_law_thing (spD K 3 [0] F_law_thing) := FunD.okD L.D_law_thing sc_law_thing rfl (by decide) fun cd A outer s H E hr => bd_law_thing L cd A outer s H E hr
def g_law : SD → RS := (sSeq (sSet 1 (fCall [] F_law_bag [] (lCons (fVar 0) lNil))) (sSeq (sFor (iRg1 (fCons (fC (.int 24)) fNil)) (gNmF 2) (sSeq (sPar2 5 6 false false (fCons (fOp gAdd (fC (.int 1)) (fCall [0] F_law_take [] (lLent 1 (lCons (fC (.int 12)) lNil)))) (fCons (fCall [0] F_law_take [] (lLent 1 (lCons (fOp gIx2 (fLst (fCons (fC (.int 9)) (fCons (fC (.int 401)) fNil))) (fCall [0] F_law_take [] (lLent 1 (lCons (fC (.int 2)) lNil)))) lNil))) fNil))) (sSeq (sSetF 3 (fCall [0] F_law_thing [] (lLent 1 (lCons (fVar 5) (lCons (fVar 6) lNil))))) (sSeq (sPar2 7 8 false false (fCons (fCa gRepr (fCons (fVar 3) fNil)) (fCons (fCall [] F_law_due [] (lCons (fVar 3) (lCons (fVar 5) (lCons (fVar 6) lNil)))) fNil))) (sFor (iRg1 (fCons (fC (.int 2)) fNil)) (gNmF 4) (sSeq (sSetF 9 (fLst (fCons (fCall [] F_is_integer [] (lCons (fVar 3) lNil)) (fCons (fCall [] F_is_order [] (lCons (fVar 3) (lCons (fVar 5) lNil))) (fCons (fCall [] F_is_comparison [] (lCons (fVar 3) (lCons (fVar 5) lNil))) fNil))))) (sIf (fOr (fB (fOp gNeL (fCa gRepr (fCons (fOp gAdd (fVar 9) (fLst (fCons (fCall [] F_are_misses [] (lCons (fVar 3) (lCons (fVar 6) lNil))) fNil))) fNil)) (fCa gRepr (fCons (fVar 8) fNil)))) (fB (fOp gNeL (fCa gRepr (fCons (fVar 3) fNil)) (fVar 7)))) (sRet (fC (.bl false))) sNil))))))) (sRet (fC (.bl true)))))
def F_law : List OT → FR := fnD 9 g_law
theorem sc_law : FnScope N_law p_law (defScope st_law) := ⟨rfl, rfl, rfl, by decide +kernel, rfl, by decide +kernel, by decide +kernel⟩
theorem bd_law (L : Lay K mg) (cd : Value) (A : Around) (outer : List Env) (s : Shared) (H : Hp) (E : XK) (hr : Rm 4 (A.deeper (envOfC "law" (defScope st_law) s.heap.objs.size L.f_law cd))) : BD (cxG P w K mg base N_law "law" (defScope st_law) L.f_law cd A outer s H E) ⟨fun cls d _ H => E cls d H, []⟩ (defBody st_law) g_law :=
  have nd := sc_law.nd
  have tk := cxG_takes (P := P) (w := w) (K := K) (mg := mg) (base := base) (N := N_law) (qual := "law") (scope := defScope st_law) (f := L.f_law) (cd := cd) (A := A) (outer := outer) (s := s) (H := H) (E := E)
  have ow := cxG_owns (P := P) (w := w) (K := K) (mg := mg) (base := base) (N := N_law) (qual := "law") (scope := defScope st_law) (f := L.f_law) (cd := cd) (A := A) (outer := outer) (s := s) (H := H) (E := E)
  (bd_cons (nS 1 (by exact nd) (ed_call (k := 4) (dvs := []) (dd := []) (by exact (ok_law_bag L).mono (by decide)) (by exact hr) (by rfl) (by exact L.m_law_bag) (by exact L.D_law_bag.kp) (by exact L.b_law_bag) .nil (by exact fun _ => rfl) (by exact tk) (ld_cons (ed_var (pv 0)) ld_nil) (ln_add (ln_cons ln_nil) rfl))) (bd_cons (sd_for (by exact ow) (by rfl) (id_range1 (by rfl) (by exact L.m_range) (ad_cons ed_int ad_nil)) (tF 2 (by exact nd)) (bd_cons (sd_par2 5 6 false false (by rfl) (by exact nd) (ad_cons (eAdd ed_int (ed_call (k := 4) (dvs := []) (dd := []) (by exact (ok_law_take L).mono (by decide)) (by exact hr) (by rfl) (by exact L.m_law_take) (by exact L.D_law_take.kp) (by exact L.b_law_take) .nil (by exact fun _ => rfl) (by exact tk) (ld_lent (pv 1) (ld_cons ed_int ld_nil)) (ln_add (ln_lent (ln_cons ln_nil)) rfl))) (ad_cons (ed_call (k := 4) (dvs := []) (dd := []) (by exact (ok_law_take L).mono (by decide)) (by exact hr) (by rfl) (by exact L.m_law_take) (by exact L.D_law_take.kp) (by exact L.b_law_take) .nil (by exact fun _ => rfl) (by exact tk) (ld_lent (pv 1) (ld_cons (eIx (ed_lst (ad_cons ed_int (ad_cons ed_int ad_nil))) (ed_call (k := 4) (dvs := []) (dd := []) (by exact (ok_law_take L).mono (by decide)) (by exact hr) (by rfl) (by exact L.m_law_take) (by exact L.D_law_take.kp) (by exact L.b_law_take) .nil (by exact fun _ => rfl) (by exact tk) (ld_lent (pv 1) (ld_cons ed_int ld_nil)) (ln_add (ln_lent (ln_cons ln_nil)) rfl))) ld_nil)) (ln_add (ln_lent (ln_cons ln_nil)) rfl)) ad_nil))) (bd_cons (nF 3 (by exact nd) (ed_call (k := 4) (dvs := []) (dd := []) (by exact (ok_law_thing L).mono (by decide)) (by exact hr) (by rfl) (by exact L.m_law_thing) (by exact L.D_law_thing.kp) (by exact L.b_law_thing) .nil (by exact fun _ => rfl) (by exact tk) (ld_lent (pv 1) (ld_cons (ed_var (pv 5)) (ld_cons (ed_var (pv 6)) ld_nil))) (ln_add (ln_lent (ln_cons (ln_cons ln_nil))) rfl))) (bd_cons (sd_par2 7 8 false false (by rfl) (by exact nd) (ad_cons (eRepr (by exact hr) (by rfl) (by exact L.m_repr) (ad_cons (ed_var (pv 3)) ad_nil)) (ad_cons (ed_call (k := 4) (dvs := []) (dd := []) (by exact (ok_law_due L).mono (by decide)) (by exact hr) (by rfl) (by exact L.m_law_due) (by exact L.D_law_due.kp) (by exact L.b_law_due) .nil (by exact fun _ => rfl) (by exact tk) (ld_cons (ed_var (pv 3)) (ld_cons (ed_var (pv 5)) (ld_cons (ed_var (pv 6)) ld_nil))) (ln_add (ln_cons (ln_cons (ln_cons ln_nil))) rfl)) ad_nil))) (bd_one (sd_for (by exact ow) (by rfl) (id_range1 (by rfl) (by exact L.m_range) (ad_cons ed_int ad_nil)) (tF 4 (by exact nd)) (bd_cons (nF 9 (by exact nd) (ed_lst (ad_cons (ed_call (k := 4) (dvs := []) (dd := []) (by exact (ok_is_integer L).mono (by decide)) (by exact hr) (by rfl) (by exact L.m_is_integer) (by exact L.D_is_integer.kp) (by exact L.b_is_integer) .nil (by exact fun _ => rfl) (by exact tk) (ld_cons (ed_var (pv 3)) ld_nil) (ln_add (ln_cons ln_nil) rfl)) (ad_cons (ed_call (k := 4) (dvs := []) (dd := []) (by exact (ok_is_order L).mono (by decide)) (by exact hr) (by rfl) (by exact L.m_is_order) (by exact L.D_is_order.kp) (by exact L.b_is_order) .nil (by exact fun _ => rfl) (by exact tk) (ld_cons (ed_var (pv 3)) (ld_cons (ed_var (pv 5)) ld_nil)) (ln_add (ln_cons (ln_cons ln_nil)) rfl)) (ad_cons (ed_call (k := 4) (dvs := []) (dd := []) (by exact (ok_is_comparison L).mono (by decide)) (by exact hr) (by rfl) (by exact L.m_is_comparison) (by exact L.D_is_comparison.kp) (by exact L.b_is_comparison) .nil (by exact fun _ => rfl) (by exact tk) (ld_cons (ed_var (pv 3)) (ld_cons (ed_var (pv 5)) ld_nil)) (ln_add (ln_cons (ln_cons ln_nil)) rfl)) ad_nil))))) (bd_one (sd_if (WD.td (wd_or (tNe (by exact hr) (eRepr (by exact hr) (by rfl) (by exact L.m_repr) (ad_cons (eAdd (ed_var (pv 9)) (ed_lst (ad_cons (ed_call (k := 4) (dvs := []) (dd := []) (by exact (ok_are_misses L).mono (by decide)) (by exact hr) (by rfl) (by exact L.m_are_misses) (by exact L.D_are_misses.kp) (by exact L.b_are_misses) .nil (by exact fun _ => rfl) (by exact tk) (ld_cons (ed_var (pv 3)) (ld_cons (ed_var (pv 6)) ld_nil)) (ln_add (ln_cons (ln_cons ln_nil)) rfl)) ad_nil))) ad_nil)) (eRepr (by exact hr) (by rfl) (by exact L.m_repr) (ad_cons (ed_var (pv 8)) ad_nil))) (wd_or1 (tNe (by exact hr) (eRepr (by exact hr) (by rfl) (by exact L.m_repr) (ad_cons (ed_var (pv 3)) ad_nil)) (ed_var (pv 7)))))) (bd_one (sd_ret ed_bl)) bd_nil))))))))) (bd_one (sd_ret ed_bl))))
theorem ok_law (L : Lay K mg) : FnG P w K mg base 5 L.f_law L.fd_law p_law (spD K 1 [] F_law) := FunD.okD L.D_law sc_law rfl (by decide) fun cd A outer s H E hr => bd_law L cd A outer s H E hr
end
def d_is_integer : He.DefD := ⟨("is_integer", none), "is_integer", "is_integer", defArgs st_is_integer, defBody st_is_integer, defScope st_is_integer, [], []⟩
def d_is_between : He.DefD := ⟨("is_between", none), "is_between", "is_between", defArgs st_is_between, defBody st_is_between, defScope st_is_between, [], []⟩
def d_is_order : He.DefD := ⟨("is_order", none), "is_order", "is_order", defArgs st_is_order, defBody st_is_order, defScope st_is_order, [], []⟩
def d_is_price : He.DefD := ⟨("is_price", none), "is_price", "is_price", defArgs st_is_price, defBody st_is_price, defScope st_is_price, [], []⟩
def d_is_comparison : He.DefD := ⟨("is_comparison", none), "is_comparison", "is_comparison", defArgs st_is_comparison, defBody st_is_comparison, defScope st_is_comparison, [], []⟩
def d_are_misses : He.DefD := ⟨("are_misses", none), "are_misses", "are_misses", defArgs st_are_misses, defBody st_are_misses, defScope st_are_misses, [], []⟩
def d_law_bag : He.DefD := ⟨("_law_bag", none), "_law_bag", "_law_bag", defArgs st_law_bag, defBody st_law_bag, defScope st_law_bag, [], []⟩
def d_law_take : He.DefD := ⟨("_law_take", none), "_law_take", "_law_take", defArgs st_law_take, defBody st_law_take, defScope st_law_take, [], []⟩
def d_law_is_between : He.DefD := ⟨("_law_is_between", none), "_law_is_between", "_law_is_between", defArgs st_law_is_between, defBody st_law_is_between, defScope st_law_is_between, [], []⟩
def d_law_due : He.DefD := ⟨("_law_due", none), "_law_due", "_law_due", defArgs st_law_due, defBody st_law_due, defScope st_law_due, [], []⟩
def d_law_order : He.DefD := ⟨("_law_order", none), "_law_order", "_law_order", defArgs st_law_order, defBody st_law_order, defScope st_law_order, [], []⟩
def d_law_misses : He.DefD := ⟨("_law_misses", none), "_law_misses", "_law_misses", defArgs st_law_misses, defBody st_law_misses, defScope st_law_misses, [], []⟩
def d_law_odd : He.DefD := ⟨("_law_odd", none), "_law_odd", "_law_odd", defArgs st_law_odd, defBody st_law_odd, defScope st_law_odd, [], []⟩
def d_law_bent : He.DefD := ⟨("_law_bent", none), "_law_bent", "_law_bent", defArgs st_law_bent, defBody st_law_bent, defScope st_law_bent, [], []⟩
def d_law_thing : He.DefD := ⟨("_law_thing", none), "_law_thing", "_law_thing", defArgs st_law_thing, defBody st_law_thing, defScope st_law_thing, [], []⟩
def d_law : He.DefD := ⟨("law", none), "law", "law", defArgs st_law, defBody st_law, defScope st_law, [], []⟩
def fn : List He.DefD := [d_is_integer, d_is_between, d_is_order, d_is_price, d_is_comparison, d_are_misses, d_law_bag, d_law_take, d_law_is_between, d_law_due, d_law_order, d_law_misses, d_law_odd, d_law_bent, d_law_thing, d_law]
def fa : List He.Fa := [.free "abs", .free "all", .free "bool", .free "int", .free "isinstance", .free "len", .free "list", .free "min", .free "range", .free "repr", .free "sorted", .free "tuple", .free "zip", .int "MAX_PRICE" 1000000000000000000, .glo "is_integer", .glo "is_between", .glo "is_order", .glo "is_price", .glo "is_comparison", .glo "are_misses", .glo "_law_bag", .glo "_law_take", .glo "_law_is_between", .glo "_law_due", .glo "_law_order", .glo "_law_misses", .glo "_law_odd", .glo "_law_bent", .glo "_law_thing", .glo "law"]
abbrev TheRow : PySem.W.OpenRow := PySem.W.OpenLaw.row PySem.Challenge.rw_bearsmisses_k11_kinds
abbrev hk : PySem.W.Hook := He.hookD 4 fa fn
def ob (s : PySem.W.SharedT) : He.AlD := He.obsDG 4 fa fn (HandSHeadRun.getT s)
theorem ob_eq (s : PySem.W.SharedT) : ob s = hk.obs s.abs := He.obsDG_eq (HandSHeadRun.getT_eq s)
abbrev loose : List Str := ["MAX_PRICE", "is_integer", "is_between", "is_price", "is_order", "is_comparison", "are_misses", "_law_bag", "_law_take", "_law_order", "_law_misses", "_law_odd", "_law_is_between", "_law_due", "_law_bent", "_law_thing"]
theorem run (w : World) : HandSHeadRun.RunEq TheRow (PySem.W.view TheRow.prog [18]) hk ob 4000 loose w := by
  intro os
  kernel_rfl
theorem lay_of {K : PySem.W.Frag} {h : Heap} {mg : Str → Option Value} (X : K.In h) (G : h.Ns mainGlobals mg) (c : He.SaysD fa fn K) : Nonempty (Lay K mg) := by
  obtain ⟨t13, e13⟩ := He.int_ok X G (c.fact 13 (f := .int "MAX_PRICE" 1000000000000000000) rfl)
  obtain ⟨fd0, D0⟩ := c.def_ 0 (d := d_is_integer) rfl
  obtain ⟨fd1, D1⟩ := c.def_ 1 (d := d_is_between) rfl
  obtain ⟨fd2, D2⟩ := c.def_ 2 (d := d_is_order) rfl
  obtain ⟨fd3, D3⟩ := c.def_ 3 (d := d_is_price) rfl
  obtain ⟨fd4, D4⟩ := c.def_ 4 (d := d_is_comparison) rfl
  obtain ⟨fd5, D5⟩ := c.def_ 5 (d := d_are_misses) rfl
  obtain ⟨fd6, D6⟩ := c.def_ 6 (d := d_law_bag) rfl
  obtain ⟨fd7, D7⟩ := c.def_ 7 (d := d_law_take) rfl
  obtain ⟨fd8, D8⟩ := c.def_ 8 (d := d_law_is_between) rfl
  obtain ⟨fd9, D9⟩ := c.def_ 9 (d := d_law_due) rfl
  obtain ⟨fd10, D10⟩ := c.def_ 10 (d := d_law_order) rfl
  obtain ⟨fd11, D11⟩ := c.def_ 11 (d := d_law_misses) rfl
  obtain ⟨fd12, D12⟩ := c.def_ 12 (d := d_law_odd) rfl
  obtain ⟨fd13, D13⟩ := c.def_ 13 (d := d_law_bent) rfl
  obtain ⟨fd14, D14⟩ := c.def_ 14 (d := d_law_thing) rfl
  obtain ⟨fd15, D15⟩ := c.def_ 15 (d := d_law) rfl
  exact ⟨Lay.mk (He.free_ok X G (c.fact 0 (f := .free "abs") rfl)) (He.free_ok X G (c.fact 1 (f := .free "all") rfl)) (He.free_ok X G (c.fact 2 (f := .free "bool") rfl)) (He.free_ok X G (c.fact 3 (f := .free "int") rfl)) (He.free_ok X G (c.fact 4 (f := .free "isinstance") rfl)) (He.free_ok X G (c.fact 5 (f := .free "len") rfl)) (He.free_ok X G (c.fact 6 (f := .free "list") rfl)) (He.free_ok X G (c.fact 7 (f := .free "min") rfl)) (He.free_ok X G (c.fact 8 (f := .free "range") rfl)) (He.free_ok X G (c.fact 9 (f := .free "repr") rfl)) (He.free_ok X G (c.fact 10 (f := .free "sorted") rfl)) (He.free_ok X G (c.fact 11 (f := .free "tuple") rfl)) (He.free_ok X G (c.fact 12 (f := .free "zip") rfl)) t13 e13 _ fd0 D0 (He.glo_ok X G (c.fact 14 (f := .glo "is_integer") rfl)) (FunD.bindsN D0 fun _ _ _ _ _ _ us hl => match us, hl with | [_], _ => rfl) _ fd1 D1 (He.glo_ok X G (c.fact 15 (f := .glo "is_between") rfl)) (FunD.bindsN D1 fun _ _ _ _ _ _ us hl => match us, hl with | [_, _, _], _ => rfl) _ fd2 D2 (He.glo_ok X G (c.fact 16 (f := .glo "is_order") rfl)) (FunD.bindsN D2 fun _ _ _ _ _ _ us hl => match us, hl with | [_, _], _ => rfl) _ fd3 D3 (He.glo_ok X G (c.fact 17 (f := .glo "is_price") rfl)) (FunD.bindsN D3 fun _ _ _ _ _ _ us hl => match us, hl with | [_], _ => rfl) _ fd4 D4 (He.glo_ok X G (c.fact 18 (f := .glo "is_comparison") rfl)) (FunD.bindsN D4 fun _ _ _ _ _ _ us hl => match us, hl with | [_, _], _ => rfl) _ fd5 D5 (He.glo_ok X G (c.fact 19 (f := .glo "are_misses") rfl)) (FunD.bindsN D5 fun _ _ _ _ _ _ us hl => match us, hl with | [_, _], _ => rfl) _ fd6 D6 (He.glo_ok X G (c.fact 20 (f := .glo "_law_bag") rfl)) (FunD.bindsN D6 fun _ _ _ _ _ _ us hl => match us, hl with | [_], _ => rfl) _ fd7 D7 (He.glo_ok X G (c.fact 21 (f := .glo "_law_take") rfl)) (FunD.bindsN D7 fun _ _ _ _ _ _ us hl => match us, hl with | [_, _], _ => rfl) _ fd8 D8 (He.glo_ok X G (c.fact 22 (f := .glo "_law_is_between") rfl)) (FunD.bindsN D8 fun _ _ _ _ _ _ us hl => match us, hl with | [_, _, _], _ => rfl) _ fd9 D9 (He.glo_ok X G (c.fact 23 (f := .glo "_law_due") rfl)) (FunD.bindsN D9 fun _ _ _ _ _ _ us hl => match us, hl with | [_, _, _], _ => rfl) _ fd10 D10 (He.glo_ok X G (c.fact 24 (f := .glo "_law_order") rfl)) (FunD.bindsN D10 fun _ _ _ _ _ _ us hl => match us, hl with | [_, _], _ => rfl) _ fd11 D11 (He.glo_ok X G (c.fact 25 (f := .glo "_law_misses") rfl)) (FunD.bindsN D11 fun _ _ _ _ _ _ us hl => match us, hl with | [_, _, _], _ => rfl) _ fd12 D12 (He.glo_ok X G (c.fact 26 (f := .glo "_law_odd") rfl)) (FunD.bindsN D12 fun _ _ _ _ _ _ us hl => match us, hl with | [_], _ => rfl) _ fd13 D13 (He.glo_ok X G (c.fact 27 (f := .glo "_law_bent") rfl)) (FunD.bindsN D13 fun _ _ _ _ _ _ us hl => match us, hl with | [_, _], _ => rfl) _ fd14 D14 (He.glo_ok X G (c.fact 28 (f := .glo "_law_thing") rfl)) (FunD.bindsN D14 fun _ _ _ _ _ _ us hl => match us, hl with | [_, _, _], _ => rfl) _ fd15 D15 (He.glo_ok X G (c.fact 29 (f := .glo "law") rfl)) (FunD.bindsN D15 fun _ _ _ _ _ _ us hl => match us, hl with | [_], _ => rfl)⟩
theorem holds_of (main : ∀ ns : List Int, ns.length ≤ 63 → ∃ bk, F_law [.fz (.scr ns)] = .ok (.fz (.bl true)) bk) : PySem.Challenge.rw_bearsmisses_k11_kinds.Holds := by
  w_on; o_law
  refine HandSHeadRun.head_any (r := PySem.W.OpenLaw.row PySem.Challenge.rw_bearsmisses_k11_kinds) (q := PySem.W.view (PySem.W.OpenLaw.row PySem.Challenge.rw_bearsmisses_k11_kinds).prog [18]) (H := hk) (ob := ob) (M := 4000) (loose := loose) (d := HandSHeadRun.topDef (PySem.W.OpenLaw.row PySem.Challenge.rw_bearsmisses_k11_kinds).prog 18) (kwd := []) ob_eq
    (by kernel_rfl) (fun s => by kernel_rfl) run (by kernel_rfl) (by kernel_rfl) (by kernel_rfl) (by rfl) (by first | assumption | decide +kernel) (by decide +kernel) ⟨rfl, rfl, rfl, rfl, rfl, by decide +kernel⟩ ?hw ?hc
  case hw => w_witness2
  case hc =>
    refine DL.walkD (l := PySem.Challenge.rw_bearsmisses_k11_kinds) (n := 63) (k := 5) (x := "_law_script") rfl (by decide) (by kernel_rfl) (room_of _ (by decide) (by decide)) ?F
    intro w mg fa h Y G hmg0
    obtain ⟨K, KX, c⟩ := Y
    obtain ⟨L⟩ := lay_of KX G c
    have hmg : mg ("law" : PySem.Str) = some (.ref fa) := by
      have e : (HandSHeadRun.topDef (PySem.W.OpenLaw.row PySem.Challenge.rw_bearsmisses_k11_kinds).prog 18).name = ("law" : PySem.Str) := by kernel_rfl
      rw [← e]
      exact hmg0
    have ef : fa = L.f_law := by
      have := hmg.symm.trans L.m_law
      cases this
      rfl
    subst ef
    exact ⟨K, L.fd_law, _, KX, fun s u => FunD.bindsA L.D_law (ps := p_law) (fun _ _ _ _ _ _ us hl => match us, hl with | [_], _ => rfl) s [u] rfl, wish_of main, fun base _ _ => ok_law L⟩
end K11

namespace K11
open PySem L2 DL PySem.Spec PyProof.Rows
def isI : D → Bool
  | .int _ => true
  | _ => false
def btw (lo hi : Int) : D → Bool
  | .int i => decide (lo ≤ i ∧ i ≤ hi)
  | _ => false
abbrev Ret (F : List OT → FR) (us : List OT) (d : D) : Prop := ∃ bk, F us = .ok (.fz d) bk
theorem sI {d : D} (h : noO d = true) : Ret F_is_integer [.fz d] (.bl (isI d)) := by
  cases d with
  | obj _ _ => cases h
  | _ => exact ⟨_, rfl⟩
theorem sB {d : D} {lo hi : Int} (h : noO d = true) : Ret F_is_between [.fz d, .fz (.int lo), .fz (.int hi)] (.bl (btw lo hi d)) := by
  cases d with
  | obj _ _ => cases h
  | int i =>
    have e : F_is_between [.fz (.int i), .fz (.int lo), .fz (.int hi)] = endF ((if decide (lo ≤ i) = true then (R.ok (OT.fz (.bl (decide (i ≤ hi)))) [some (.fz (.int i)), some (.fz (.int lo)), some (.fz (.int hi))]) else (.ok (.fz (.bl false)) [some (.fz (.int i)), some (.fz (.int lo)), some (.fz (.int hi))])).thn fun x s1 => .rt x s1) := rfl
    unfold Ret
    rw [e]
    by_cases h1 : lo ≤ i
    · rw [if_pos (decide_eq_true h1)]
      refine ⟨[some (.fz (.int i)), some (.fz (.int lo)), some (.fz (.int hi))], ?_⟩
      show FR.ok (OT.fz (.bl (decide (i ≤ hi)))) _ = FR.ok (OT.fz (.bl (decide (lo ≤ i ∧ i ≤ hi)))) _
      simp [h1]
    · rw [if_neg (by simpa using h1)]
      refine ⟨[some (.fz (.int i)), some (.fz (.int lo)), some (.fz (.int hi))], ?_⟩
      show FR.ok (OT.fz (.bl false)) _ = FR.ok (OT.fz (.bl (decide (lo ≤ i ∧ i ≤ hi)))) _
      simp [h1]
  | _ => exact ⟨_, rfl⟩
theorem sLB {d : D} {lo hi : Int} (h : noO d = true) : Ret F_law_is_between [.fz d, .fz (.int lo), .fz (.int hi)] (.bl (btw lo hi d)) := by
  cases d with
  | obj _ _ => cases h
  | int i =>
    have e : F_law_is_between [.fz (.int i), .fz (.int lo), .fz (.int hi)] = endF ((if decide (lo ≤ i) = true then (R.ok (OT.fz (.bl (decide (i ≤ hi)))) [some (.fz (.int i)), some (.fz (.int lo)), some (.fz (.int hi))]) else (.ok (.fz (.bl false)) [some (.fz (.int i)), some (.fz (.int lo)), some (.fz (.int hi))])).thn fun x s1 => .rt x s1) := rfl
    unfold Ret
    rw [e]
    by_cases h1 : lo ≤ i
    · rw [if_pos (decide_eq_true h1)]
      refine ⟨[some (.fz (.int i)), some (.fz (.int lo)), some (.fz (.int hi))], ?_⟩
      show FR.ok (OT.fz (.bl (decide (i ≤ hi)))) _ = FR.ok (OT.fz (.bl (decide (lo ≤ i ∧ i ≤ hi)))) _
      simp [h1]
    · rw [if_neg (by simpa using h1)]
      refine ⟨[some (.fz (.int i)), some (.fz (.int lo)), some (.fz (.int hi))], ?_⟩
      show FR.ok (OT.fz (.bl false)) _ = FR.ok (OT.fz (.bl (decide (lo ≤ i ∧ i ≤ hi)))) _
      simp [h1]
  | _ => exact ⟨_, rfl⟩
theorem sP {d : D} (h : noO d = true) : Ret F_is_price [.fz d] (.bl (btw 0 1000000000000000000 d)) := by
  refine ⟨[some (.fz d)], ?_⟩
  have e := e_call (fx := []) (F := F_is_between) (s := [some (.fz d)]) (a_cons (e_var (i := 0) rfl) (a_cons e_c (a_cons e_c a_nil))) (sB (lo := 0) (hi := 1000000000000000000) h)
  show endF (sRet (fCall [] F_is_between [] (lCons (fVar 0) (lCons (fC (.int 0)) (lCons (fC (.int 1000000000000000000)) lNil)))) [some (.fz d)]) = _
  rw [e_ret e]
  rfl
/-! ### things -/
def parts : D → List D
  | .lst ds => ds
  | .tup ds => ds
  | _ => []
structure Fit (d : D) : Prop where
  top : noO d = true
  ns : ∀ ns, d ≠ .scr ns
  sub : ∀ e ∈ parts d, noO e = true
  few : (parts d).length ≤ 404
theorem e_no {gc : SD → R Bool} {f : SD → RS} {s s1 : SD} (h : gc s = .ok false s1) : sIf gc f sNil s = .nx s1 := e_iff h
theorem small {n : Nat} (h : n ≤ 404) : n ≤ sizeLine := by rw [sizeLine_eq]; omega
theorem allB {ds : List D} {lo hi : Int} : (ds.map fun e => D.bl (btw lo hi e)) = (ds.map (btw lo hi)).map .bl := by rw [List.map_map]; rfl
theorem ints_or : ∀ ds : List D, (∃ ns : List Int, ds = ns.map .int) ∨ ∃ e ∈ ds, isI e = false
  | [] => .inl ⟨[], rfl⟩
  | d :: ds => by
    rcases ints_or ds with ⟨ns, h⟩ | ⟨e, h1, h2⟩
    · cases d with
      | int i => exact .inl ⟨i :: ns, by rw [h]; rfl⟩
      | _ => exact .inr ⟨_, List.mem_cons_self, rfl⟩
    · exact .inr ⟨e, List.mem_cons_of_mem _ h1, h2⟩
theorem btw_no {e : D} {lo hi : Int} (h : isI e = false) : btw lo hi e = false := by
  cases e with
  | int _ => cases h
  | _ => rfl
/-- all items are ints from lo to hi -/
theorem all_ints {ns : List Int} {lo hi : Int} : ((ns.map D.int).map (btw lo hi)).all id = decide (∀ n ∈ ns, lo ≤ n ∧ n ≤ hi) := by
  rw [Bool.eq_iff_iff]
  simp [List.all_eq_true, btw]
theorem all_no {ds : List D} {e : D} {lo hi : Int} (he : e ∈ ds) (h : isI e = false) : (ds.map (btw lo hi)).all id = false := by
  rw [← Bool.not_eq_true, List.all_eq_true]
  intro z
  have := z (btw lo hi e) (List.mem_map.mpr ⟨e, he, rfl⟩)
  rw [btw_no h] at this
  cases this
def iota (p : Nat) : List Int := (List.range p).map fun k : Nat => (k : Int)
open Classical in
noncomputable def isOrd (p : Nat) (d : D) : Bool := decide (∃ ns : List Int, d = .lst (ns.map .int) ∧ ns.length = p ∧ sortI ns = iota p)
open Classical in
noncomputable def isMis (m : Nat) (d : D) : Bool := decide (∃ ns : List Int, d = .lst (ns.map .int) ∧ (∀ n ∈ ns, 0 ≤ n ∧ n ≤ (m : Int) - 1) ∧ (ns.zip (ns.drop 1)).all (fun q => decide (q.1 < q.2)) = true)
def isCmp (p : Nat) : D → Bool
  | .tup [x, y] => btw 1 ((p : Int) - 1) x && btw 0 1000000000000000000 y
  | _ => false
theorem int_inj : ∀ {a b : List Int}, a.map D.int = b.map D.int → a = b
  | [], [], _ => rfl
  | [], _ :: _, h => by cases h
  | _ :: _, [], h => by cases h
  | x :: a, y :: b, h => by
    rw [List.map_cons, List.map_cons] at h
    injection h with h1 h2
    injection h1 with h1
    rw [h1, int_inj h2]
theorem ord_ints {p : Nat} {ns : List Int} : isOrd p (.lst (ns.map .int)) = (decide (ns.length = p) && decide (sortI ns = iota p)) := by
  unfold isOrd
  rw [Bool.eq_iff_iff]
  simp only [decide_eq_true_eq, Bool.and_eq_true]
  constructor
  · rintro ⟨ms, h, h1, h2⟩
    injection h with h
    rw [int_inj h]
    exact ⟨h1, h2⟩
  · rintro ⟨h1, h2⟩
    exact ⟨ns, rfl, h1, h2⟩
theorem ord_iff {p : Nat} {d : D} : isOrd p d = true ↔ ∃ ns : List Int, d = .lst (ns.map .int) ∧ ns.length = p ∧ sortI ns = iota p := by
  unfold isOrd
  simp only [decide_eq_true_eq]
theorem ord_no {p : Nat} {d : D} (h : ∀ ns : List Int, d ≠ .lst (ns.map .int)) : isOrd p d = false := by
  rw [← Bool.not_eq_true, ord_iff]
  exact fun ⟨ns, e, _⟩ => h ns e
theorem ord_mem {p : Nat} {ns : List Int} (h : sortI ns = iota p) : ∀ n ∈ ns, 0 ≤ n ∧ n ≤ (p : Int) - 1 := fun n hn => by
  have m : n ∈ iota p := by rw [← h]; exact (sortI_perm ns).mem_iff.mpr hn
  unfold iota at m
  obtain ⟨k, h1, h2⟩ := List.mem_map.mp m
  have := List.mem_range.mp h1
  omega
theorem lens {ds : List D} : gLen ([OT.fz (.lst ds)].map OT.frz) = some (.v (.int (ds.length : Nat))) := rfl
theorem lensT {ds : List D} : gLen ([OT.fz (.tup ds)].map OT.frz) = some (.v (.int (ds.length : Nat))) := rfl
theorem rgD_iota (p : Nat) : rgD 0 (p : Int) = (iota p).map .int := by
  unfold rgD iota
  rw [List.map_map, Int.sub_zero, Int.toNat_natCast]
  apply List.map_congr_left
  intro k _
  show D.int (0 + (k : Int)) = D.int (k : Int)
  rw [Int.zero_add]
theorem lr1 {p : Nat} (h : p ≤ 404) {s : SD} {fa : SD → R OT} (hf : fa s = .ok (.fz (.int (p : Int))) s) : fLr1 fa s = .ok (.own (((iota p).map .int).map .fz)) s := by
  unfold fLr1
  rw [hf]
  show (if -(2 ^ 62) ≤ (p : Int) ∧ (p : Int) ≤ 16777216 then R.ok (OT.own ((rgD 0 p).map .fz)) s else .no) = _
  rw [if_pos ⟨by omega, by omega⟩, rgD_iota]
theorem sO {d : D} {p : Nat} (h : Fit d) (hp : p ≤ 404) : Ret F_is_order [.fz d, .fz (.int (p : Int))] (.bl (isOrd p d)) := by
  have no : (∀ ns : List Int, d ≠ .lst (ns.map .int)) → isT "list" d = false → Ret F_is_order [.fz d, .fz (.int (p : Int))] (.bl (isOrd p d)) := fun h1 h2 => by
    rw [ord_no h1]
    cases d with
    | obj _ _ => cases h.top
    | lst _ => cases h2
    | scr _ => cases h2
    | _ => exact ⟨_, rfl⟩
  cases d with
  | lst ds =>
    let s : SD := [some (.fz (.lst ds)), some (.fz (.int (p : Int))), none]
    have t1 : fB (fOp gNeL (fCa gLen (fCons (fVar 0) fNil)) (fVar 1)) s = .ok ((ds.length : Int) != (p : Int)) s := e_tcmp (e_ca (e_cons (e_var (i := 0) rfl) e_nil) lens) (e_var (i := 1) rfl) ne_ii
    have t2 : fOr (fNot (fB (fIsi ["list"] (fVar 0)))) (fB (fOp gNeL (fCa gLen (fCons (fVar 0) fNil)) (fVar 1))) s = .ok ((ds.length : Int) != (p : Int)) s := t1
    by_cases hl : ds.length = p
    · have e1 : ((ds.length : Int) != (p : Int)) = false := by rw [hl]; simp
      rw [e1] at t2
      have lc := e_lcAll (fi := iLs (fVar 0)) (fe := fCall [] F_is_between [] (lCons (fVar 2) (lCons (fC (.int 0)) (lCons (fOp gSub (fVar 1) (fC (.int 1))) lNil)))) (j := 2) (F := fun e => .bl (btw 0 ((p : Int) - 1) e)) (s := s) (s1 := s) (i_ls (e_var (i := 0) rfl) rfl) (small h.few) fun e he =>
        ⟨.fz (.bl (btw 0 ((p : Int) - 1) e)), e_call (a_cons (e_var (i := 2) rfl) (a_cons e_c (a_cons (e_op (e_var (i := 1) rfl) e_c sub_ii) a_nil))) (sB (h.sub e he)), rfl⟩
      have all : fCa gAll' (fCons (fLc (iLs (fVar 0)) (gNmF 2) fYes (fCall [] F_is_between [] (lCons (fVar 2) (lCons (fC (.int 0)) (lCons (fOp gSub (fVar 1) (fC (.int 1))) lNil)))) [2]) fNil) s = .ok (.fz (.bl ((ds.map (btw 0 ((p : Int) - 1))).all id))) s :=
        e_ca (r := .v (.bl ((ds.map (btw 0 ((p : Int) - 1))).all id))) (e_cons lc e_nil) (by
          show gAll' [(OT.own _).frz] = _
          rw [frz_own, allB]
          exact all_bls)
      have main : fAndV (fCa gAll' (fCons (fLc (iLs (fVar 0)) (gNmF 2) fYes (fCall [] F_is_between [] (lCons (fVar 2) (lCons (fC (.int 0)) (lCons (fOp gSub (fVar 1) (fC (.int 1))) lNil)))) [2]) fNil)) (fOp gEqL (fCa gSorted (fCons (fVar 0) fNil)) (fLr1 (fVar 1))) s = .ok (.fz (.bl (isOrd p (.lst ds)))) s := by
        unfold fAndV
        rw [all]
        show (if (ds.map (btw 0 ((p : Int) - 1))).all id = true then fOp gEqL (fCa gSorted (fCons (fVar 0) fNil)) (fLr1 (fVar 1)) s else R.ok (OT.fz (.bl false)) s) = _
        rcases ints_or ds with ⟨ns, hns⟩ | ⟨e, he, hi⟩
        · subst hns
          rw [all_ints, ord_ints]
          rw [List.length_map] at hl
          have second : fOp gEqL (fCa gSorted (fCons (fVar 0) fNil)) (fLr1 (fVar 1)) s = .ok (.fz (.bl (decide (sortI ns = iota p)))) s :=
            e_op (r := .v (.bl (decide (sortI ns = iota p)))) (e_ca (e_cons (e_var (i := 0) rfl) e_nil) sorted_ints) (lr1 hp (e_var (i := 1) rfl)) (by
              show gEqL ((OT.own _).frz) ((OT.own _).frz) = _
              rw [frz_own, frz_own]
              exact eq_ints)
          by_cases hs : sortI ns = iota p
          · rw [if_pos (decide_eq_true (ord_mem hs)), second, decide_eq_true hl, decide_eq_true hs]
            rfl
          · rw [decide_eq_false hs, Bool.and_false]
            by_cases hb : ∀ n ∈ ns, 0 ≤ n ∧ n ≤ (p : Int) - 1
            · rw [if_pos (decide_eq_true hb), second, decide_eq_false hs]
            · rw [if_neg (by simpa using hb)]
        · rw [all_no he hi, if_neg Bool.false_ne_true, ord_no]
          intro ns e
          injection e with e
          rw [e] at he
          obtain ⟨n, _, rfl⟩ := List.mem_map.mp he
          cases hi
      refine ⟨s, ?_⟩
      show endF (sSeq (sIf (fOr (fNot (fB (fIsi ["list"] (fVar 0)))) (fB (fOp gNeL (fCa gLen (fCons (fVar 0) fNil)) (fVar 1)))) (sRet (fC (.bl false))) sNil) (sRet (fAndV (fCa gAll' (fCons (fLc (iLs (fVar 0)) (gNmF 2) fYes (fCall [] F_is_between [] (lCons (fVar 2) (lCons (fC (.int 0)) (lCons (fOp gSub (fVar 1) (fC (.int 1))) lNil)))) [2]) fNil)) (fOp gEqL (fCa gSorted (fCons (fVar 0) fNil)) (fLr1 (fVar 1))))) s) = _
      rw [seq_nx (e_no t2), e_ret main]
      rfl
    · have e1 : ((ds.length : Int) != (p : Int)) = true := by
        rw [bne_iff_ne]
        omega
      rw [e1] at t2
      have e2 : isOrd p (.lst ds) = false := by
        rw [← Bool.not_eq_true, ord_iff]
        rintro ⟨ns, e, h1, _⟩
        refine hl ?_
        injection e with e
        rw [e, List.length_map, h1]
      rw [e2]
      refine ⟨s, ?_⟩
      show endF (sSeq (sIf (fOr (fNot (fB (fIsi ["list"] (fVar 0)))) (fB (fOp gNeL (fCa gLen (fCons (fVar 0) fNil)) (fVar 1)))) (sRet (fC (.bl false))) sNil) (sRet (fAndV (fCa gAll' (fCons (fLc (iLs (fVar 0)) (gNmF 2) fYes (fCall [] F_is_between [] (lCons (fVar 2) (lCons (fC (.int 0)) (lCons (fOp gSub (fVar 1) (fC (.int 1))) lNil)))) [2]) fNil)) (fOp gEqL (fCa gSorted (fCons (fVar 0) fNil)) (fLr1 (fVar 1))))) s) = _
      rw [seq_rt ((e_ift t2).trans (e_ret e_c))]
      rfl
  | obj _ _ => cases h.top
  | scr ns => exact absurd rfl (h.ns ns)
  | _ => exact no (fun ns e => by cases e) rfl
theorem sC {d : D} {p : Nat} (h : Fit d) : Ret F_is_comparison [.fz d, .fz (.int (p : Int))] (.bl (isCmp p d)) := by
  cases d with
  | tup ds =>
    have t2 : ∀ ds : List D, fOr (fNot (fB (fIsi ["tuple"] (fVar 0)))) (fB (fOp gNeL (fCa gLen (fCons (fVar 0) fNil)) (fC (.int 2)))) [some (.fz (.tup ds)), some (.fz (.int (p : Int)))] = .ok ((ds.length : Int) != 2) [some (.fz (.tup ds)), some (.fz (.int (p : Int)))] := fun ds =>
      show fB (fOp gNeL (fCa gLen (fCons (fVar 0) fNil)) (fC (.int 2))) [some (.fz (.tup ds)), some (.fz (.int (p : Int)))] = .ok ((ds.length : Int) != 2) [some (.fz (.tup ds)), some (.fz (.int (p : Int)))] from e_tcmp (e_ca (e_cons (e_var (i := 0) rfl) e_nil) lensT) e_c ne_ii
    have body : ∀ ds : List D, F_is_comparison [.fz (.tup ds), .fz (.int (p : Int))] = endF (sSeq (sIf (fOr (fNot (fB (fIsi ["tuple"] (fVar 0)))) (fB (fOp gNeL (fCa gLen (fCons (fVar 0) fNil)) (fC (.int 2))))) (sRet (fC (.bl false))) sNil) (sRet (fAndV (fCall [] F_is_between [] (lCons (fOp gIx2 (fVar 0) (fC (.int 0))) (lCons (fC (.int 1)) (lCons (fOp gSub (fVar 1) (fC (.int 1))) lNil)))) (fCall [] F_is_price [] (lCons (fOp gIx2 (fVar 0) (fC (.int 1))) lNil)))) [some (.fz (.tup ds)), some (.fz (.int (p : Int)))]) := fun ds => rfl
    match ds, h with
    | [x, y], h =>
      have nx : noO x = true := h.sub x List.mem_cons_self
      have ny : noO y = true := h.sub y (List.mem_cons_of_mem _ List.mem_cons_self)
      let s : SD := [some (.fz (.tup [x, y])), some (.fz (.int (p : Int)))]
      have c1 : fCall [] F_is_between [] (lCons (fOp gIx2 (fVar 0) (fC (.int 0))) (lCons (fC (.int 1)) (lCons (fOp gSub (fVar 1) (fC (.int 1))) lNil))) s = .ok (.fz (.bl (btw 1 ((p : Int) - 1) x))) s := e_call (a_cons (e_op (r := .v x) (e_var (i := 0) rfl) e_c rfl) (a_cons e_c (a_cons (e_op (e_var (i := 1) rfl) e_c sub_ii) a_nil))) (sB nx)
      have c2 : fCall [] F_is_price [] (lCons (fOp gIx2 (fVar 0) (fC (.int 1))) lNil) s = .ok (.fz (.bl (btw 0 1000000000000000000 y))) s := e_call (a_cons (e_op (r := .v y) (e_var (i := 0) rfl) e_c rfl) a_nil) (sP ny)
      have main : fAndV (fCall [] F_is_between [] (lCons (fOp gIx2 (fVar 0) (fC (.int 0))) (lCons (fC (.int 1)) (lCons (fOp gSub (fVar 1) (fC (.int 1))) lNil)))) (fCall [] F_is_price [] (lCons (fOp gIx2 (fVar 0) (fC (.int 1))) lNil)) s = .ok (.fz (.bl (isCmp p (.tup [x, y])))) s := by
        unfold fAndV
        rw [c1]
        show (if btw 1 ((p : Int) - 1) x = true then fCall [] F_is_price [] (lCons (fOp gIx2 (fVar 0) (fC (.int 1))) lNil) s else R.ok (OT.fz (.bl false)) s) = R.ok (OT.fz (.bl (btw 1 ((p : Int) - 1) x && btw 0 1000000000000000000 y))) s
        cases btw 1 ((p : Int) - 1) x with
        | true =>
          rw [if_pos rfl, c2]
          rfl
        | false => rfl
      unfold Ret
      rw [body, seq_nx (e_no (t2 [x, y])), e_ret main]
      exact ⟨_, rfl⟩
    | [], _ =>
      unfold Ret
      rw [body, seq_rt ((e_ift (t2 [])).trans (e_ret e_c))]
      exact ⟨_, rfl⟩
    | [a], _ =>
      unfold Ret
      rw [body, seq_rt ((e_ift (t2 [a])).trans (e_ret e_c))]
      exact ⟨_, rfl⟩
    | a :: b :: c :: r, _ =>
      have e : ((((a :: b :: c :: r).length : Nat) : Int) != 2) = true := by
        rw [bne_iff_ne]
        simp only [List.length_cons]
        omega
      have t3 := t2 (a :: b :: c :: r)
      rw [e] at t3
      unfold Ret
      rw [body, seq_rt ((e_ift t3).trans (e_ret e_c))]
      exact ⟨_, rfl⟩
  | obj _ _ => cases h.top
  | scr ns => exact absurd rfl (h.ns ns)
  | _ => exact ⟨_, rfl⟩
theorem mis_iff {m : Nat} {d : D} : isMis m d = true ↔ ∃ ns : List Int, d = .lst (ns.map .int) ∧ (∀ n ∈ ns, 0 ≤ n ∧ n ≤ (m : Int) - 1) ∧ (ns.zip (ns.drop 1)).all (fun q => decide (q.1 < q.2)) = true := by
  unfold isMis
  simp only [decide_eq_true_eq]
theorem mis_no {m : Nat} {d : D} (h : ∀ ns : List Int, d ≠ .lst (ns.map .int)) : isMis m d = false := by
  rw [← Bool.not_eq_true, mis_iff]
  exact fun ⟨ns, e, _⟩ => h ns e
theorem mis_ints {m : Nat} {ns : List Int} : isMis m (.lst (ns.map .int)) = (decide (∀ n ∈ ns, 0 ≤ n ∧ n ≤ (m : Int) - 1) && (ns.zip (ns.drop 1)).all fun q => decide (q.1 < q.2)) := by
  rw [Bool.eq_iff_iff, mis_iff, Bool.and_eq_true, decide_eq_true_eq]
  constructor
  · rintro ⟨ms, h, h1, h2⟩
    injection h with h
    rw [int_inj h]
    exact ⟨h1, h2⟩
  · rintro ⟨h1, h2⟩
    exact ⟨ns, rfl, h1, h2⟩
theorem cut1 {ds : List D} : DL.cutD ds (some 1) none = ds.drop 1 := by
  unfold DL.cutD
  cases ds with
  | nil => rfl
  | cons d ds =>
    have e : HT.sIx (d :: ds).length 0 (some 1) = 1 := by
      show (if (1 : Int) < 0 then ((1 : Int) + ((ds.length + 1 : Nat) : Int)).toNat else min (1 : Int).toNat (ds.length + 1)) = 1
      rw [if_neg (by decide)]
      show min 1 (ds.length + 1) = 1
      omega
    rw [e]
    show ((d :: ds).drop 1).take ((d :: ds).length - 1) = _
    rw [List.take_of_length_le (by simp)]
theorem zip_pairs {ns : List Int} : zipD (ns.map .int) ((ns.map D.int).drop 1) = ((ns.zip (ns.drop 1)).map fun q => (D.int q.1, D.int q.2)).map fun p : D × D => D.tup [p.1, p.2] := by
  unfold zipD
  rw [← List.map_drop, List.zip_map, List.map_map, List.map_map]
  rfl
theorem sM {d : D} {m : Nat} (h : Fit d) : Ret F_are_misses [.fz d, .fz (.int (m : Int))] (.bl (isMis m d)) := by
  cases d with
  | lst ds =>
    let s : SD := [some (.fz (.lst ds)), some (.fz (.int (m : Int))), none, none, none]
    have lc := e_lcAll (fi := iLs (fVar 0)) (fe := fCall [] F_is_between [] (lCons (fVar 4) (lCons (fC (.int 0)) (lCons (fOp gSub (fVar 1) (fC (.int 1))) lNil)))) (j := 4) (F := fun e => .bl (btw 0 ((m : Int) - 1) e)) (s := s) (s1 := s) (i_ls (e_var (i := 0) rfl) rfl) (small h.few) fun e he =>
      ⟨.fz (.bl (btw 0 ((m : Int) - 1) e)), e_call (a_cons (e_var (i := 4) rfl) (a_cons e_c (a_cons (e_op (e_var (i := 1) rfl) e_c sub_ii) a_nil))) (sB (h.sub e he)), rfl⟩
    have all : fCa gAll' (fCons (fLc (iLs (fVar 0)) (gNmF 4) fYes (fCall [] F_is_between [] (lCons (fVar 4) (lCons (fC (.int 0)) (lCons (fOp gSub (fVar 1) (fC (.int 1))) lNil)))) [4]) fNil) s = .ok (.fz (.bl ((ds.map (btw 0 ((m : Int) - 1))).all id))) s :=
      e_ca (r := .v (.bl ((ds.map (btw 0 ((m : Int) - 1))).all id))) (e_cons lc e_nil) (by
        show gAll' [(OT.own _).frz] = _
        rw [frz_own, allB]
        exact all_bls)
    have t2 : fOr (fNot (fB (fIsi ["list"] (fVar 0)))) (fNot (fB (fCa gAll' (fCons (fLc (iLs (fVar 0)) (gNmF 4) fYes (fCall [] F_is_between [] (lCons (fVar 4) (lCons (fC (.int 0)) (lCons (fOp gSub (fVar 1) (fC (.int 1))) lNil)))) [4]) fNil)))) s = .ok (!((ds.map (btw 0 ((m : Int) - 1))).all id)) s := by
      show fNot (fB (fCa gAll' (fCons (fLc (iLs (fVar 0)) (gNmF 4) fYes (fCall [] F_is_between [] (lCons (fVar 4) (lCons (fC (.int 0)) (lCons (fOp gSub (fVar 1) (fC (.int 1))) lNil)))) [4]) fNil))) s = _
      unfold fNot
      rw [e_tst all rfl]
      rfl
    refine ⟨s, ?_⟩
    show endF (sSeq (sIf (fOr (fNot (fB (fIsi ["list"] (fVar 0)))) (fNot (fB (fCa gAll' (fCons (fLc (iLs (fVar 0)) (gNmF 4) fYes (fCall [] F_is_between [] (lCons (fVar 4) (lCons (fC (.int 0)) (lCons (fOp gSub (fVar 1) (fC (.int 1))) lNil)))) [4]) fNil))))) (sRet (fC (.bl false))) sNil) (sRet (fCa gAll' (fCons (fLc (iZp (fCons (fVar 0) (fCons (fSl gSl (fVar 0) (oSome (fC (.int 1))) oNo) fNil))) (gTu ([2, 3].map gNmF)) fYes (fOp gLt (fVar 2) (fVar 3)) [2, 3]) fNil))) s) = _
    rcases ints_or ds with ⟨ns, hns⟩ | ⟨e, he, hi⟩
    · subst hns
      rw [mis_ints]
      rw [all_ints] at t2
      by_cases hb : ∀ n ∈ ns, 0 ≤ n ∧ n ≤ (m : Int) - 1
      · rw [decide_eq_true hb] at t2 ⊢
        have zi : iZp (fCons (fVar 0) (fCons (fSl gSl (fVar 0) (oSome (fC (.int 1))) oNo) fNil)) s = .ok (((ns.zip (ns.drop 1)).map fun q => (D.int q.1, D.int q.2)).map fun p : D × D => D.tup [p.1, p.2]) s := by
          rw [← zip_pairs]
          refine i_zip (x := .fz (.lst (ns.map .int))) (y := .own (((ns.map D.int).drop 1).map .fz)) (e_cons (e_var (i := 0) rfl) (e_cons ?_ e_nil)) rfl (frz_own _)
          show R.ok (OT.own ((DL.cutD (ns.map .int) (some 1) none).map .fz)) s = _
          rw [cut1]
        have lc2 := e_lc2 (fe := fOp gLt (fVar 2) (fVar 3)) (i := 2) (j := 3) (F := fun p => match p with | (.int a, .int b) => .bl (decide (a < b)) | _ => .non) zi (by
          rw [List.length_map, List.length_zip]
          have := h.few
          rw [show parts (.lst (ns.map .int)) = ns.map .int from rfl, List.length_map] at this
          rw [sizeLine_eq]
          omega) (fun p hp => by
          obtain ⟨q, _, rfl⟩ := List.mem_map.mp hp
          exact ⟨.fz (.bl (decide (q.1 < q.2))), e_op (e_var (i := 2) rfl) (e_var (i := 3) rfl) lt_ii, rfl⟩) (by decide)
        have al2 : fCa gAll' (fCons (fLc (iZp (fCons (fVar 0) (fCons (fSl gSl (fVar 0) (oSome (fC (.int 1))) oNo) fNil))) (gTu ([2, 3].map gNmF)) fYes (fOp gLt (fVar 2) (fVar 3)) [2, 3]) fNil) s = .ok (.fz (.bl ((ns.zip (ns.drop 1)).all fun q => decide (q.1 < q.2)))) s :=
          e_ca (r := .v (.bl ((ns.zip (ns.drop 1)).all fun q => decide (q.1 < q.2)))) (e_cons lc2 e_nil) (by
            show gAll' [(OT.own _).frz] = _
            rw [frz_own, List.map_map]
            have := all_bls (bs := (ns.zip (ns.drop 1)).map fun q => decide (q.1 < q.2))
            rw [List.map_map, List.all_map] at this
            exact this)
        rw [seq_nx (e_no t2), e_ret al2, Bool.true_and]
        rfl
      · rw [decide_eq_false hb] at t2 ⊢
        rw [seq_rt ((e_ift t2).trans (e_ret e_c)), Bool.false_and]
        rfl
    · rw [all_no he hi] at t2
      rw [seq_rt ((e_ift t2).trans (e_ret e_c)), mis_no]
      · rfl
      intro ns e
      injection e with e
      rw [e] at he
      obtain ⟨n, _, rfl⟩ := List.mem_map.mp he
      cases hi
  | obj _ _ => cases h.top
  | scr ns => exact absurd rfl (h.ns ns)
  | _ => exact ⟨_, by rw [mis_no (fun ns e => by cases e)]; rfl⟩
/-! ### due -/
theorem pow40 : fOp gPow (fC (.int 10)) (fC (.int 40)) = fun s => .ok (.fz (.int (10 ^ 40))) s := rfl
theorem filt_ints {ns : List Int} {hi : Int} : (((ns.map D.int).filter fun e => !btw 0 hi e).map fun e => e).isEmpty = decide (∀ n ∈ ns, 0 ≤ n ∧ n ≤ hi) := by
  rw [Bool.eq_iff_iff, List.map_id', List.isEmpty_iff, List.filter_eq_nil_iff, decide_eq_true_eq]
  constructor
  · intro h n hn
    have := h (.int n) (List.mem_map.mpr ⟨n, hn, rfl⟩)
    simpa [btw] using this
  · intro h e he
    obtain ⟨n, hn, rfl⟩ := List.mem_map.mp he
    have := h n hn
    simpa [btw] using this
theorem filt_no {ds : List D} {e : D} {hi : Int} (he : e ∈ ds) (h : isI e = false) : ((ds.filter fun e => !btw 0 hi e).map fun e => e).isEmpty = false := by
  rw [List.map_id', ← Bool.not_eq_true, List.isEmpty_iff, List.filter_eq_nil_iff]
  intro z
  have := z e he
  rw [btw_no h] at this
  exact this rfl
theorem asc_iff (ns : List Int) : ((ns.zip (ns.drop 1)).all fun q => decide (q.1 < q.2)) = true ↔ ∀ k, k + 1 < ns.length → ns.getD k 0 < ns.getD (k + 1) 0 := by
  induction ns with
  | nil => simp
  | cons a ns ih =>
    cases ns with
    | nil => simp
    | cons b ns =>
      show (decide (a < b) && ((b :: ns).zip ((b :: ns).drop 1)).all fun q => decide (q.1 < q.2)) = true ↔ _
      rw [Bool.and_eq_true, ih, decide_eq_true_eq]
      constructor
      · rintro ⟨h1, h2⟩ k hk
        cases k with
        | zero => exact h1
        | succ k =>
          have := h2 k (by simpa using hk)
          simpa using this
      · intro h
        refine ⟨h 0 (by simp), fun k hk => ?_⟩
        have := h (k + 1) (by simpa using hk)
        simpa using this
/-- the list of k where it does not rise -/
def drops (ns : List Int) : List D := ((List.range (ns.length - 1)).map fun k : Nat => D.int (1 + (k : Int))).filter fun d => match d with
  | .int k => decide (ns.getD k.toNat 0 ≤ ns.getD (k - 1).toNat 0)
  | _ => false
theorem drops_iff (ns : List Int) : (drops ns).isEmpty = (ns.zip (ns.drop 1)).all fun q => decide (q.1 < q.2) := by
  rw [Bool.eq_iff_iff, asc_iff, List.isEmpty_iff]
  unfold drops
  rw [List.filter_eq_nil_iff]
  constructor
  · intro h k hk
    have := h (.int (1 + (k : Int))) (List.mem_map.mpr ⟨k, List.mem_range.mpr (by omega), rfl⟩)
    have e1 : (1 + (k : Int)).toNat = k + 1 := by omega
    have e2 : (1 + (k : Int) - 1).toNat = k := by omega
    simp only [e1, e2, decide_eq_true_eq] at this
    omega
  · intro h d hd
    obtain ⟨k, hk, rfl⟩ := List.mem_map.mp hd
    have hk := List.mem_range.mp hk
    have := h k (by omega)
    have e1 : (1 + (k : Int)).toNat = k + 1 := by omega
    have e2 : (1 + (k : Int) - 1).toNat = k := by omega
    simp only [e1, e2, decide_eq_true_eq]
    omega
end K11

namespace K11
open PySem L2 DL PySem.Spec PyProof.Rows
theorem e_app {i : Nat} {fe : SD → R OT} {s s1 : SD} {ts ts' : List OT} {y : OT} (hs : s[i]? = some (some (.own ts))) (hf : fe s = .ok y s1) (hs1 : s1[i]? = some (some (.own ts'))) (hl : ts'.length < 1000) : sApp i fe s = .nx (s1.set i (some (.own (ts' ++ [.fz y.frz])))) := by
  unfold sApp
  rw [if_pos (show isOwn s i = true from by unfold isOwn; rw [hs]), hf]
  show (match s1[i]? with
    | some (some (.own ts)) => if ts.length < sizeLine then RS.nx (s1.set i (some (.own (ts ++ [OT.fz y.frz])))) else .no
    | _ => .no) = _
  rw [hs1]
  exact if_pos (by rw [sizeLine_eq]; omega)
theorem e_and {fa fb : SD → R OT} {s s1 : SD} {b : Bool} (h : fa s = .ok (.fz (.bl b)) s1) : fAndV fa fb s = if b = true then fb s1 else .ok (.fz (.bl false)) s1 := by
  unfold fAndV
  rw [h]
  rfl
theorem e_lst {fs : SD → R (List OT)} {xs : List OT} {s s1 : SD} (h : fs s = .ok xs s1) (hl : xs.length ≤ 1000) : fLst fs s = .ok (.own (xs.map fun x => .fz x.frz)) s1 := by
  unfold fLst
  rw [h]
  show (if xs.length ≤ sizeLine then R.ok (OT.own (xs.map fun x => OT.fz x.frz)) s1 else .no) = _
  rw [if_pos (by rw [sizeLine_eq]; omega)]
theorem e_lst0 {s : SD} : fLst fNil s = .ok (.own []) s := e_lst (xs := []) rfl (Nat.zero_le _)
theorem frz0 : (OT.own []).frz = .lst [] := rfl
variable {ds : List D} {p m : Nat}
abbrev stL (ds : List D) (p m : Nat) (f : List OT) (a b c : Option OT) : SD := [some (.fz (.lst ds)), some (.fz (.int (p : Int))), some (.fz (.int (m : Int))), some (.own f), a, b, c, none, none]
def wholeL (ds : List D) : Bool := ((ds.filter fun e => !btw 0 (10 ^ 40) e).map fun e => e).isEmpty
abbrev fWhole : SD → R OT := fOp gEqL (fLc (iLs (fVar 0)) (gNmF 7) (fNot (fB (fCall [] F_law_is_between [] (lCons (fVar 7) (lCons (fC (.int 0)) (lCons (fOp gPow (fC (.int 10)) (fC (.int 40))) lNil)))))) (fVar 7) [7]) (fLst fNil)
theorem whole_eq {f : List OT} {a b c : Option OT} (h : Fit (.lst ds)) : fWhole (stL ds p m f a b c) = .ok (.fz (.bl (wholeL ds))) (stL ds p m f a b c) := by
  have lc := e_lc (fi := iLs (fVar 0)) (ft := fNot (fB (fCall [] F_law_is_between [] (lCons (fVar 7) (lCons (fC (.int 0)) (lCons (fOp gPow (fC (.int 10)) (fC (.int 40))) lNil)))))) (fe := fVar 7) (j := 7) (p := fun e => !btw 0 (10 ^ 40) e) (F := fun e => e) (s := stL ds p m f a b c) (s1 := stL ds p m f a b c) (i_ls (e_var (i := 0) rfl) rfl) (small h.few) fun e he => by
    refine ⟨?_, fun _ => ⟨.fz e, e_var (i := 7) rfl, rfl⟩⟩
    have c1 := e_call (fx := []) (F := F_law_is_between) (s := (stL ds p m f a b c).set 7 (some (.fz e))) (a_cons (e_var (i := 7) (d := e) rfl) (a_cons (e_c (d := .int 0)) (a_cons (fa := fOp gPow (fC (.int 10)) (fC (.int 40))) (x := .fz (.int (10 ^ 40))) rfl a_nil))) (sLB (lo := 0) (hi := 10 ^ 40) (h.sub e he))
    unfold fNot
    rw [e_tst c1 rfl]
    rfl
  refine e_op (r := .v (.bl (wholeL ds))) lc e_lst0 ?_
  rw [frz_own, frz0, eq_nil]
  rfl
theorem whole_ints (h : wholeL ds = true) : ∃ ns : List Int, ds = ns.map .int ∧ ∀ n ∈ ns, 0 ≤ n ∧ n ≤ 10 ^ 40 := by
  rcases ints_or ds with ⟨ns, rfl⟩ | ⟨e, he, hi⟩
  · unfold wholeL at h
    rw [filt_ints, decide_eq_true_eq] at h
    exact ⟨ns, rfl, h⟩
  · unfold wholeL at h
    rw [filt_no he hi] at h
    cases h
theorem ord_whole (hp : p ≤ 404) (h : isOrd p (.lst ds) = true) : wholeL ds = true := by
  rw [ord_iff] at h
  obtain ⟨ns, e, h1, h2⟩ := h
  injection e with e
  subst e
  unfold wholeL
  rw [filt_ints, decide_eq_true_eq]
  intro n hn
  have := ord_mem h2 n hn
  omega
theorem mis_whole (hm : m ≤ 404) (h : isMis m (.lst ds) = true) : wholeL ds = true := by
  rw [mis_iff] at h
  obtain ⟨ns, e, h1, h2⟩ := h
  injection e with e
  subst e
  unfold wholeL
  rw [filt_ints, decide_eq_true_eq]
  intro n hn
  have := h1 n hn
  omega
abbrev fOrd2 : SD → R OT := fAndV (fVar 4) (fAndV (fOp gEqL (fCa gLen (fCons (fVar 0) fNil)) (fVar 1)) (fOp gEqL (fCa gSorted (fCons (fVar 0) fNil)) (fLr1 (fVar 1))))
theorem ord2_eq {f : List OT} {b c : Option OT} (hp : p ≤ 404) : fOrd2 (stL ds p m f (some (.fz (.bl (wholeL ds)))) b c) = .ok (.fz (.bl (isOrd p (.lst ds)))) (stL ds p m f (some (.fz (.bl (wholeL ds)))) b c) := by
  unfold fOrd2
  rw [e_and (e_var (i := 4) rfl)]
  by_cases hw : wholeL ds = true
  · rw [if_pos hw]
    obtain ⟨ns, rfl, hn⟩ := whole_ints hw
    rw [e_and (e_op (r := .v (.bl (((ns.map D.int).length : Int) == (p : Int)))) (e_ca (e_cons (e_var (i := 0) rfl) e_nil) lens) (e_var (i := 1) rfl) eq_ii), ord_ints]
    rw [List.length_map]
    by_cases hl : ns.length = p
    · rw [if_pos (by rw [hl]; simp), decide_eq_true hl, Bool.true_and]
      refine e_op (r := .v (.bl (decide (sortI ns = iota p)))) (e_ca (e_cons (e_var (i := 0) rfl) e_nil) sorted_ints) (lr1 hp (e_var (i := 1) rfl)) ?_
      show gEqL ((OT.own _).frz) ((OT.own _).frz) = _
      rw [frz_own, frz_own]
      exact eq_ints
    · rw [if_neg (by rw [beq_iff_eq]; omega), decide_eq_false hl, Bool.false_and]
  · rw [if_neg hw]
    have : isOrd p (.lst ds) = false := by
      rw [← Bool.not_eq_true]
      exact fun z => hw (ord_whole hp z)
    rw [this]
abbrev fRise : SD → R OT := fOp gEqL (fLc (iRg2 (fCons (fC (.int 1)) (fCons (fCa gLen (fCons (fVar 0) fNil)) fNil))) (gNmF 8) (fB (fOp gGe (fOp gIx2 (fVar 0) (fOp gSub (fVar 8) (fC (.int 1)))) (fOp gIx2 (fVar 0) (fVar 8)))) (fVar 8) [8]) (fLst fNil)
theorem rise_eq {ns : List Int} {f : List OT} {a b c : Option OT} (hl : ns.length ≤ 404) : fRise (stL (ns.map .int) p m f a b c) = .ok (.fz (.bl ((ns.zip (ns.drop 1)).all fun q => decide (q.1 < q.2)))) (stL (ns.map .int) p m f a b c) := by
  let s : SD := stL (ns.map .int) p m f a b c
  have rg : iRg2 (fCons (fC (.int 1)) (fCons (fCa gLen (fCons (fVar 0) fNil)) fNil)) s = .ok ((List.range (ns.length - 1)).map fun k : Nat => D.int (1 + (k : Int))) s := by
    have := i_rg2 (fs := fCons (fC (.int 1)) (fCons (fCa gLen (fCons (fVar 0) fNil)) fNil)) (s := s) (m := 1) (n := (ns.length : Int)) (e_cons e_c (e_cons (e_ca (e_cons (e_var (i := 0) rfl) e_nil) g_len_ints) e_nil)) (by decide) (by decide) (by omega) (by omega)
    rw [this]
    have e : ((ns.length : Int) - 1).toNat = ns.length - 1 := by omega
    rw [e]
  have lc := e_lc (ft := fB (fOp gGe (fOp gIx2 (fVar 0) (fOp gSub (fVar 8) (fC (.int 1)))) (fOp gIx2 (fVar 0) (fVar 8)))) (fe := fVar 8) (j := 8) (p := fun d => match d with
    | .int k => decide (ns.getD k.toNat 0 ≤ ns.getD (k - 1).toNat 0)
    | _ => false) (F := fun e => e) rg (by rw [List.length_map, List.length_range, sizeLine_eq]; omega) fun d hd => by
      obtain ⟨k, hk, rfl⟩ := List.mem_map.mp hd
      have hk := List.mem_range.mp hk
      refine ⟨?_, fun _ => ⟨.fz (.int (1 + (k : Int))), e_var (i := 8) rfl, rfl⟩⟩
      exact e_tcmp (e_op (e_var (i := 0) rfl) (e_op (e_var (i := 8) rfl) e_c sub_ii) (g_ix_ints (by show 0 ≤ 1 + (k : Int) - 1; omega) (by show 1 + (k : Int) - 1 < _; omega))) (e_op (e_var (i := 0) rfl) (e_var (i := 8) rfl) (g_ix_ints (by omega) (by omega))) ge_ii
  refine e_op (r := .v (.bl _)) lc e_lst0 ?_
  rw [frz_own, frz0, eq_nil, List.map_id', ← drops_iff]
  rfl
abbrev fTop : SD → R OT := fOp gEqL (fLc (iLs (fVar 0)) (gNmF 7) (fB (fOp gGe (fVar 7) (fVar 2))) (fVar 7) [7]) (fLst fNil)
theorem top_eq {ns : List Int} {f : List OT} {a b c : Option OT} (hl : ns.length ≤ 404) : fTop (stL (ns.map .int) p m f a b c) = .ok (.fz (.bl (decide (∀ n ∈ ns, n < (m : Int))))) (stL (ns.map .int) p m f a b c) := by
  have lc := e_lc (fi := iLs (fVar 0)) (ft := fB (fOp gGe (fVar 7) (fVar 2))) (fe := fVar 7) (j := 7) (p := fun d => match d with
    | .int k => decide ((m : Int) ≤ k)
    | _ => false) (F := fun e => e) (s := stL (ns.map .int) p m f a b c) (s1 := stL (ns.map .int) p m f a b c) (i_ls (e_var (i := 0) rfl) rfl) (by rw [List.length_map, sizeLine_eq]; omega) fun d hd => by
      obtain ⟨k, hk, rfl⟩ := List.mem_map.mp hd
      exact ⟨e_tcmp (e_var (i := 7) rfl) (e_var (i := 2) rfl) ge_ii, fun _ => ⟨.fz (.int k), e_var (i := 7) rfl, rfl⟩⟩
  refine e_op (r := .v (.bl _)) lc e_lst0 ?_
  rw [frz_own, frz0, eq_nil, List.map_id']
  congr 3
  rw [Bool.eq_iff_iff, List.isEmpty_iff, List.filter_eq_nil_iff, decide_eq_true_eq]
  constructor
  · intro h n hn
    have := h (.int n) (List.mem_map.mpr ⟨n, hn, rfl⟩)
    simpa using this
  · intro h d hd
    obtain ⟨n, hn, rfl⟩ := List.mem_map.mp hd
    have := h n hn
    simpa using this
theorem sDueL (h : Fit (.lst ds)) (hp : p ≤ 404) (hm : m ≤ 404) : ∃ bk, F_law_due [.fz (.lst ds), .fz (.int (p : Int)), .fz (.int (m : Int))] = .ok (.own [.fz (.bl (isI (.lst ds))), .fz (.bl (isOrd p (.lst ds))), .fz (.bl (isCmp p (.lst ds))), .fz (.bl (isMis m (.lst ds)))]) bk := by
  have q1 : sSet 3 (fLst (fCons (fAndV (fIsi ["int"] (fVar 0)) (fNotV (fIsi ["bool"] (fVar 0)))) fNil)) [some (.fz (.lst ds)), some (.fz (.int (p : Int))), some (.fz (.int (m : Int))), none, none, none, none, none, none] = .nx (stL ds p m [.fz (.bl false)] none none none) := by
    refine (e_set (t := .own [.fz (.bl false)]) (s1 := [some (.fz (.lst ds)), some (.fz (.int (p : Int))), some (.fz (.int (m : Int))), none, none, none, none, none, none]) ?_).trans rfl
    exact e_lst (xs := [.fz (.bl false)]) rfl (by decide)
  have q2 : sSetF 4 (fIsi ["list"] (fVar 0)) (stL ds p m [.fz (.bl false)] none none none) = .nx (stL ds p m [.fz (.bl false)] (some (.fz (.bl true))) none none) := rfl
  have q3 : sIf (fB (fVar 4)) (sSetF 4 fWhole) sNil (stL ds p m [.fz (.bl false)] (some (.fz (.bl true))) none none) = .nx (stL ds p m [.fz (.bl false)] (some (.fz (.bl (wholeL ds)))) none none) := by
    rw [e_ift (e_tst (e_var (i := 4) rfl) rfl), e_setF (whole_eq h)]
    rfl
  have q4 : sApp 3 fOrd2 (stL ds p m [.fz (.bl false)] (some (.fz (.bl (wholeL ds)))) none none) = .nx (stL ds p m [.fz (.bl false), .fz (.bl (isOrd p (.lst ds)))] (some (.fz (.bl (wholeL ds)))) none none) :=
    e_app (ts := [.fz (.bl false)]) (ts' := [.fz (.bl false)]) rfl (ord2_eq hp) rfl (by show 1 < 1000; decide)
  have q5 : sSetF 5 (fAndV (fIsi ["tuple"] (fVar 0)) (fOp gEqL (fCa gLen (fCons (fVar 0) fNil)) (fC (.int 2)))) (stL ds p m [.fz (.bl false), .fz (.bl (isOrd p (.lst ds)))] (some (.fz (.bl (wholeL ds)))) none none) = .nx (stL ds p m [.fz (.bl false), .fz (.bl (isOrd p (.lst ds)))] (some (.fz (.bl (wholeL ds)))) (some (.fz (.bl false))) none) := rfl
  have q6 : sIf (fB (fVar 5)) (sSetF 5 (fAndV (fCall [] F_law_is_between [] (lCons (fOp gIx2 (fVar 0) (fC (.int 0))) (lCons (fC (.int 1)) (lCons (fOp gSub (fVar 1) (fC (.int 1))) lNil)))) (fCall [] F_law_is_between [] (lCons (fOp gIx2 (fVar 0) (fC (.int 1))) (lCons (fC (.int 0)) (lCons (fOp gPow (fC (.int 10)) (fC (.int 18))) lNil)))))) sNil (stL ds p m [.fz (.bl false), .fz (.bl (isOrd p (.lst ds)))] (some (.fz (.bl (wholeL ds)))) (some (.fz (.bl false))) none) = .nx (stL ds p m [.fz (.bl false), .fz (.bl (isOrd p (.lst ds)))] (some (.fz (.bl (wholeL ds)))) (some (.fz (.bl false))) none) := rfl
  have q7 : sApp 3 (fVar 5) (stL ds p m [.fz (.bl false), .fz (.bl (isOrd p (.lst ds)))] (some (.fz (.bl (wholeL ds)))) (some (.fz (.bl false))) none) = .nx (stL ds p m [.fz (.bl false), .fz (.bl (isOrd p (.lst ds))), .fz (.bl false)] (some (.fz (.bl (wholeL ds)))) (some (.fz (.bl false))) none) :=
    e_app (ts := [.fz (.bl false), .fz (.bl (isOrd p (.lst ds)))]) (ts' := [.fz (.bl false), .fz (.bl (isOrd p (.lst ds)))]) rfl (e_var (i := 5) rfl) rfl (by show 2 < 1000; decide)
  have q8 : sSetF 6 (fVar 4) (stL ds p m [.fz (.bl false), .fz (.bl (isOrd p (.lst ds))), .fz (.bl false)] (some (.fz (.bl (wholeL ds)))) (some (.fz (.bl false))) none) = .nx (stL ds p m [.fz (.bl false), .fz (.bl (isOrd p (.lst ds))), .fz (.bl false)] (some (.fz (.bl (wholeL ds)))) (some (.fz (.bl false))) (some (.fz (.bl (wholeL ds))))) := rfl
  have q9 : ∃ r : Bool, sIf (fB (fVar 4)) (sSetF 6 fRise) sNil (stL ds p m [.fz (.bl false), .fz (.bl (isOrd p (.lst ds))), .fz (.bl false)] (some (.fz (.bl (wholeL ds)))) (some (.fz (.bl false))) (some (.fz (.bl (wholeL ds))))) = .nx (stL ds p m [.fz (.bl false), .fz (.bl (isOrd p (.lst ds))), .fz (.bl false)] (some (.fz (.bl (wholeL ds)))) (some (.fz (.bl false))) (some (.fz (.bl r))))
      ∧ fAndV (fVar 6) fTop (stL ds p m [.fz (.bl false), .fz (.bl (isOrd p (.lst ds))), .fz (.bl false)] (some (.fz (.bl (wholeL ds)))) (some (.fz (.bl false))) (some (.fz (.bl r)))) = .ok (.fz (.bl (isMis m (.lst ds)))) (stL ds p m [.fz (.bl false), .fz (.bl (isOrd p (.lst ds))), .fz (.bl false)] (some (.fz (.bl (wholeL ds)))) (some (.fz (.bl false))) (some (.fz (.bl r)))) := by
    by_cases hw : wholeL ds = true
    · obtain ⟨ns, rfl, hn⟩ := whole_ints hw
      have hl : ns.length ≤ 404 := by
        have := h.few
        rwa [show parts (.lst (ns.map .int)) = ns.map .int from rfl, List.length_map] at this
      refine ⟨(ns.zip (ns.drop 1)).all fun q => decide (q.1 < q.2), ?_, ?_⟩
      · rw [e_ift ((e_tst (e_var (i := 4) rfl) rfl).trans (congrArg (fun z => R.ok z _) hw)), e_setF (rise_eq hl)]
        rfl
      · rw [e_and (e_var (i := 6) rfl), mis_ints]
        have eq : decide (∀ n ∈ ns, 0 ≤ n ∧ n ≤ (m : Int) - 1) = decide (∀ n ∈ ns, n < (m : Int)) := by
          rw [Bool.eq_iff_iff, decide_eq_true_eq, decide_eq_true_eq]
          exact ⟨fun z n hz => by have := z n hz; omega, fun z n hz => by have := z n hz; have := hn n hz; omega⟩
        rw [eq]
        cases (ns.zip (ns.drop 1)).all fun q => decide (q.1 < q.2) with
        | true =>
          rw [if_pos rfl, top_eq hl, Bool.and_true]
        | false => rw [Bool.and_false]; rfl
    · refine ⟨false, ?_, ?_⟩
      · have e0 : wholeL ds = false := by simpa using hw
        rw [e_no ((e_tst (e_var (i := 4) rfl) rfl).trans (congrArg (fun z => R.ok z _) e0)), e0]
      · have : isMis m (.lst ds) = false := by
          rw [← Bool.not_eq_true]
          exact fun z => hw (mis_whole hm z)
        rw [this]
        rfl
  obtain ⟨r, q9, q10⟩ := q9
  have q11 : sApp 3 (fAndV (fVar 6) fTop) (stL ds p m [.fz (.bl false), .fz (.bl (isOrd p (.lst ds))), .fz (.bl false)] (some (.fz (.bl (wholeL ds)))) (some (.fz (.bl false))) (some (.fz (.bl r)))) = .nx (stL ds p m [.fz (.bl false), .fz (.bl (isOrd p (.lst ds))), .fz (.bl false), .fz (.bl (isMis m (.lst ds)))] (some (.fz (.bl (wholeL ds)))) (some (.fz (.bl false))) (some (.fz (.bl r)))) :=
    e_app (ts := [.fz (.bl false), .fz (.bl (isOrd p (.lst ds))), .fz (.bl false)]) (ts' := [.fz (.bl false), .fz (.bl (isOrd p (.lst ds))), .fz (.bl false)]) rfl q10 rfl (by show 3 < 1000; decide)
  show ∃ bk, endF (sSeq _ (sSeq _ (sSeq (sIf (fB (fVar 4)) (sSetF 4 fWhole) sNil) (sSeq (sApp 3 fOrd2) (sSeq _ (sSeq _ (sSeq _ (sSeq _ (sSeq (sIf (fB (fVar 4)) (sSetF 6 fRise) sNil) (sSeq (sApp 3 (fAndV (fVar 6) fTop)) (sRet (fMov 3))))))))))) [some (.fz (.lst ds)), some (.fz (.int (p : Int))), some (.fz (.int (m : Int))), none, none, none, none, none, none]) = _
  rw [seq_nx q1, seq_nx q2, seq_nx q3, seq_nx q4, seq_nx q5, seq_nx q6, seq_nx q7, seq_nx q8, seq_nx q9, seq_nx q11]
  exact ⟨_, rfl⟩
abbrev stN (d : D) (p m : Nat) (f : List OT) (a b c : Option OT) : SD := [some (.fz d), some (.fz (.int (p : Int))), some (.fz (.int (m : Int))), some (.own f), a, b, c, none, none]
/-- no list: k, what the pair comes to -/
theorem sDueN {d : D} {i0 pr : Bool} (hq1 : sSet 3 (fLst (fCons (fAndV (fIsi ["int"] (fVar 0)) (fNotV (fIsi ["bool"] (fVar 0)))) fNil)) [some (.fz d), some (.fz (.int (p : Int))), some (.fz (.int (m : Int))), none, none, none, none, none, none] = .nx (stN d p m [.fz (.bl i0)] none none none))
    (hq2 : sSetF 4 (fIsi ["list"] (fVar 0)) (stN d p m [.fz (.bl i0)] none none none) = .nx (stN d p m [.fz (.bl i0)] (some (.fz (.bl false))) none none))
    (hq5 : ∃ r : Bool, sSetF 5 (fAndV (fIsi ["tuple"] (fVar 0)) (fOp gEqL (fCa gLen (fCons (fVar 0) fNil)) (fC (.int 2)))) (stN d p m [.fz (.bl i0), .fz (.bl false)] (some (.fz (.bl false))) none none) = .nx (stN d p m [.fz (.bl i0), .fz (.bl false)] (some (.fz (.bl false))) (some (.fz (.bl r))) none)
      ∧ sIf (fB (fVar 5)) (sSetF 5 (fAndV (fCall [] F_law_is_between [] (lCons (fOp gIx2 (fVar 0) (fC (.int 0))) (lCons (fC (.int 1)) (lCons (fOp gSub (fVar 1) (fC (.int 1))) lNil)))) (fCall [] F_law_is_between [] (lCons (fOp gIx2 (fVar 0) (fC (.int 1))) (lCons (fC (.int 0)) (lCons (fOp gPow (fC (.int 10)) (fC (.int 18))) lNil)))))) sNil (stN d p m [.fz (.bl i0), .fz (.bl false)] (some (.fz (.bl false))) (some (.fz (.bl r))) none) = .nx (stN d p m [.fz (.bl i0), .fz (.bl false)] (some (.fz (.bl false))) (some (.fz (.bl pr))) none)) :
    ∃ bk, F_law_due [.fz d, .fz (.int (p : Int)), .fz (.int (m : Int))] = .ok (.own [.fz (.bl i0), .fz (.bl false), .fz (.bl pr), .fz (.bl false)]) bk := by
  obtain ⟨r, q5, q6⟩ := hq5
  have q3 : sIf (fB (fVar 4)) (sSetF 4 fWhole) sNil (stN d p m [.fz (.bl i0)] (some (.fz (.bl false))) none none) = .nx (stN d p m [.fz (.bl i0)] (some (.fz (.bl false))) none none) := rfl
  have q4 : sApp 3 fOrd2 (stN d p m [.fz (.bl i0)] (some (.fz (.bl false))) none none) = .nx (stN d p m [.fz (.bl i0), .fz (.bl false)] (some (.fz (.bl false))) none none) := e_app (ts := [.fz (.bl i0)]) (ts' := [.fz (.bl i0)]) (y := .fz (.bl false)) rfl rfl rfl (by show 1 < 1000; decide)
  have q7 : sApp 3 (fVar 5) (stN d p m [.fz (.bl i0), .fz (.bl false)] (some (.fz (.bl false))) (some (.fz (.bl pr))) none) = .nx (stN d p m [.fz (.bl i0), .fz (.bl false), .fz (.bl pr)] (some (.fz (.bl false))) (some (.fz (.bl pr))) none) := e_app (ts := [.fz (.bl i0), .fz (.bl false)]) (ts' := [.fz (.bl i0), .fz (.bl false)]) (y := .fz (.bl pr)) rfl rfl rfl (by show 2 < 1000; decide)
  have q8 : sSetF 6 (fVar 4) (stN d p m [.fz (.bl i0), .fz (.bl false), .fz (.bl pr)] (some (.fz (.bl false))) (some (.fz (.bl pr))) none) = .nx (stN d p m [.fz (.bl i0), .fz (.bl false), .fz (.bl pr)] (some (.fz (.bl false))) (some (.fz (.bl pr))) (some (.fz (.bl false)))) := rfl
  have q9 : sIf (fB (fVar 4)) (sSetF 6 fRise) sNil (stN d p m [.fz (.bl i0), .fz (.bl false), .fz (.bl pr)] (some (.fz (.bl false))) (some (.fz (.bl pr))) (some (.fz (.bl false)))) = .nx (stN d p m [.fz (.bl i0), .fz (.bl false), .fz (.bl pr)] (some (.fz (.bl false))) (some (.fz (.bl pr))) (some (.fz (.bl false)))) := rfl
  have q11 : sApp 3 (fAndV (fVar 6) fTop) (stN d p m [.fz (.bl i0), .fz (.bl false), .fz (.bl pr)] (some (.fz (.bl false))) (some (.fz (.bl pr))) (some (.fz (.bl false)))) = .nx (stN d p m [.fz (.bl i0), .fz (.bl false), .fz (.bl pr), .fz (.bl false)] (some (.fz (.bl false))) (some (.fz (.bl pr))) (some (.fz (.bl false)))) := e_app (ts := [.fz (.bl i0), .fz (.bl false), .fz (.bl pr)]) (ts' := [.fz (.bl i0), .fz (.bl false), .fz (.bl pr)]) (y := .fz (.bl false)) rfl rfl rfl (by show 3 < 1000; decide)
  show ∃ bk, endF (sSeq _ (sSeq _ (sSeq (sIf (fB (fVar 4)) (sSetF 4 fWhole) sNil) (sSeq (sApp 3 fOrd2) (sSeq _ (sSeq _ (sSeq _ (sSeq _ (sSeq (sIf (fB (fVar 4)) (sSetF 6 fRise) sNil) (sSeq (sApp 3 (fAndV (fVar 6) fTop)) (sRet (fMov 3))))))))))) [some (.fz d), some (.fz (.int (p : Int))), some (.fz (.int (m : Int))), none, none, none, none, none, none]) = _
  rw [seq_nx hq1, seq_nx hq2, seq_nx q3, seq_nx q4, seq_nx q5, seq_nx q6, seq_nx q7, seq_nx q8, seq_nx q9, seq_nx q11]
  exact ⟨_, rfl⟩
theorem first {d : D} (h : ∃ b, fAndV (fIsi ["int"] (fVar 0)) (fNotV (fIsi ["bool"] (fVar 0))) [some (.fz d), some (.fz (.int (p : Int))), some (.fz (.int (m : Int))), none, none, none, none, none, none] = .ok (.fz (.bl b)) [some (.fz d), some (.fz (.int (p : Int))), some (.fz (.int (m : Int))), none, none, none, none, none, none] ∧ b = isI d) :
    sSet 3 (fLst (fCons (fAndV (fIsi ["int"] (fVar 0)) (fNotV (fIsi ["bool"] (fVar 0)))) fNil)) [some (.fz d), some (.fz (.int (p : Int))), some (.fz (.int (m : Int))), none, none, none, none, none, none] = .nx (stN d p m [.fz (.bl (isI d))] none none none) := by
  obtain ⟨b, e, rfl⟩ := h
  rw [e_set (e_lst (xs := [.fz (.bl (isI d))]) (e_cons e e_nil) (by show 1 ≤ 1000; decide))]
  rfl
theorem sDue {d : D} (h : Fit d) (hp : p ≤ 404) (hm : m ≤ 404) : ∃ bk, F_law_due [.fz d, .fz (.int (p : Int)), .fz (.int (m : Int))] = .ok (.own [.fz (.bl (isI d)), .fz (.bl (isOrd p d)), .fz (.bl (isCmp p d)), .fz (.bl (isMis m d))]) bk := by
  cases d with
  | lst ds => exact sDueL h hp hm
  | obj _ _ => cases h.top
  | scr ns => exact absurd rfl (h.ns ns)
  | tup ds =>
    rw [ord_no (fun ns e => by cases e), mis_no (fun ns e => by cases e)]
    refine sDueN (first ⟨_, rfl, rfl⟩) rfl ⟨(ds.length : Int) == 2, ?_, ?_⟩
    · have e : fAndV (fIsi ["tuple"] (fVar 0)) (fOp gEqL (fCa gLen (fCons (fVar 0) fNil)) (fC (.int 2))) (stN (.tup ds) p m [.fz (.bl (isI (.tup ds))), .fz (.bl false)] (some (.fz (.bl false))) none none) = .ok (.fz (.bl ((ds.length : Int) == 2))) (stN (.tup ds) p m [.fz (.bl (isI (.tup ds))), .fz (.bl false)] (some (.fz (.bl false))) none none) :=
        (show _ = fOp gEqL (fCa gLen (fCons (fVar 0) fNil)) (fC (.int 2)) (stN (.tup ds) p m [.fz (.bl (isI (.tup ds))), .fz (.bl false)] (some (.fz (.bl false))) none none) from rfl).trans (e_op (e_ca (e_cons (e_var (i := 0) rfl) e_nil) lensT) e_c eq_ii)
      rw [e_setF e]
      rfl
    · match ds, h with
      | [x, y], h =>
        have nx : noO x = true := h.sub x List.mem_cons_self
        have ny : noO y = true := h.sub y (List.mem_cons_of_mem _ List.mem_cons_self)
        let s : SD := stN (.tup [x, y]) p m [.fz (.bl (isI (.tup [x, y]))), .fz (.bl false)] (some (.fz (.bl false))) (some (.fz (.bl true))) none
        have c1 : fCall [] F_law_is_between [] (lCons (fOp gIx2 (fVar 0) (fC (.int 0))) (lCons (fC (.int 1)) (lCons (fOp gSub (fVar 1) (fC (.int 1))) lNil))) s = .ok (.fz (.bl (btw 1 ((p : Int) - 1) x))) s := e_call (a_cons (e_op (r := .v x) (e_var (i := 0) rfl) e_c rfl) (a_cons e_c (a_cons (e_op (e_var (i := 1) rfl) e_c sub_ii) a_nil))) (sLB nx)
        have c2 : fCall [] F_law_is_between [] (lCons (fOp gIx2 (fVar 0) (fC (.int 1))) (lCons (fC (.int 0)) (lCons (fOp gPow (fC (.int 10)) (fC (.int 18))) lNil))) s = .ok (.fz (.bl (btw 0 1000000000000000000 y))) s := e_call (a_cons (e_op (r := .v y) (e_var (i := 0) rfl) e_c rfl) (a_cons e_c (a_cons (fa := fOp gPow (fC (.int 10)) (fC (.int 18))) (x := .fz (.int 1000000000000000000)) rfl a_nil))) (sLB ny)
        have main : fAndV (fCall [] F_law_is_between [] (lCons (fOp gIx2 (fVar 0) (fC (.int 0))) (lCons (fC (.int 1)) (lCons (fOp gSub (fVar 1) (fC (.int 1))) lNil)))) (fCall [] F_law_is_between [] (lCons (fOp gIx2 (fVar 0) (fC (.int 1))) (lCons (fC (.int 0)) (lCons (fOp gPow (fC (.int 10)) (fC (.int 18))) lNil)))) s = .ok (.fz (.bl (isCmp p (.tup [x, y])))) s := by
          rw [e_and c1]
          show _ = R.ok (OT.fz (.bl (btw 1 ((p : Int) - 1) x && btw 0 1000000000000000000 y))) s
          cases btw 1 ((p : Int) - 1) x with
          | true =>
            rw [if_pos rfl, c2]
            rfl
          | false => rfl
        refine Eq.trans (b := sSetF 5 _ s) (e_ift (gc := fB (fVar 5)) (s1 := s) rfl) ?_
        rw [e_setF main]
        rfl
      | [], _ => rfl
      | [a], _ => rfl
      | a :: b :: c :: r, _ =>
        have e : ((((a :: b :: c :: r).length : Nat) : Int) == 2) = false := by
          rw [beq_eq_false_iff_ne]
          simp only [List.length_cons]
          omega
        rw [e]
        rfl
  | _ =>
    rw [ord_no (fun ns e => by cases e), mis_no (fun ns e => by cases e)]
    exact sDueN (first ⟨_, rfl, rfl⟩) rfl ⟨false, rfl, rfl⟩
end K11

namespace K11
open PySem L2 DL PySem.Spec PyProof.Rows
def il (ns : List Int) : List OT := (ns.map D.int).map OT.fz
theorem il_len {ns : List Int} : (il ns).length = ns.length := by unfold il; rw [List.length_map, List.length_map]
theorem il_frz {ns : List Int} : (OT.own (il ns)).frz = .lst (ns.map .int) := frz_own _
theorem il_get {ns : List Int} {k : Nat} (h : k < ns.length) : (il ns)[k]? = some (.fz (.int (ns.getD k 0))) := by
  unfold il
  rw [List.getElem?_map, List.getElem?_map, List.getElem?_eq_getElem h, List.getD_eq_getElem?_getD, List.getElem?_eq_getElem h]
  rfl
theorem er {α β : Type} {f : α → β} : ∀ {l : List α} {k : Nat}, (l.map f).eraseIdx k = (l.eraseIdx k).map f
  | [], _ => rfl
  | _ :: _, 0 => rfl
  | x :: l, k + 1 => by
    show f x :: (l.map f).eraseIdx k = f x :: (l.eraseIdx k).map f
    rw [er]
theorem il_erase {ns : List Int} {k : Nat} : (il ns).eraseIdx k = il (ns.eraseIdx k) := by
  unfold il
  rw [er, er]
theorem il_set {ns : List Int} {k : Nat} {x : Int} : (il ns).set k (.fz (.int x)) = il (ns.set k x) := by
  unfold il
  rw [List.map_set, List.map_set]
theorem il_app {ns : List Int} {x : Int} : il ns ++ [OT.fz (.int x)] = il (ns ++ [x]) := by
  unfold il
  rw [List.map_append, List.map_append]
  rfl
def Rng (p : Int) (ns : List Int) : Prop := ∀ n ∈ ns, 0 ≤ n ∧ n < p
theorem Rng.erase {p : Int} {ns : List Int} {k : Nat} (h : Rng p ns) : Rng p (ns.eraseIdx k) := fun n hn => h n (List.mem_of_mem_eraseIdx hn)
theorem Rng.getD {p : Int} {ns : List Int} {k : Nat} (h : Rng p ns) (hk : k < ns.length) : 0 ≤ ns.getD k 0 ∧ ns.getD k 0 < p := by
  rw [List.getD_eq_getElem?_getD, List.getElem?_eq_getElem hk]
  exact h _ (List.getElem_mem hk)
theorem Rng.app {p : Int} {ns : List Int} {x : Int} (h : Rng p ns) (hx : 0 ≤ x ∧ x < p) : Rng p (ns ++ [x]) := fun n hn => by
  rcases List.mem_append.mp hn with hn | hn
  · exact h n hn
  · rw [List.mem_singleton.mp hn]; exact hx
theorem Rng.set {p : Int} {ns : List Int} {k : Nat} {x : Int} (h : Rng p ns) (hx : 0 ≤ x ∧ x < p) : Rng p (ns.set k x) := fun n hn => by
  rcases List.mem_or_eq_of_mem_set hn with hn | hn
  · exact h n hn
  · rw [hn]; exact hx
theorem rng_iota (p : Nat) : Rng p (iota p) := fun n hn => by
  obtain ⟨k, h1, h2⟩ := List.mem_map.mp hn
  have := List.mem_range.mp h1
  omega
theorem iota_len (p : Nat) : (iota p).length = p := by unfold iota; rw [List.length_map, List.length_range]
theorem logs {x : Int} (h0 : 0 ≤ x) (h : x < 2 ^ 200) : x.natAbs.log2 < 9000 := Nat.lt_trans (log_lt h0 h (by decide)) (by decide)
theorem e_pop {i : Nat} {fk : SD → R OT} {s s1 : SD} {ts0 ts : List OT} {n : Int} {t : OT} (hs : s[i]? = some (some (.own ts0))) (hk : fk s = .ok (.fz (.int n)) s1) (hs1 : s1[i]? = some (some (.own ts))) (h0 : 0 ≤ n) (h1 : n < ts.length) (h2 : ts.length ≤ 1000) (ht : ts[n.toNat]? = some t) :
    fPopAt i fk s = .ok t (s1.set i (some (.own (ts.eraseIdx n.toNat)))) := by
  unfold fPopAt
  rw [if_pos (show isOwn s i = true from by unfold isOwn; rw [hs]), hk]
  show (match s1[i]?, D.int n with
    | some (some (.own ts)), .int n => if -(2 ^ 63) ≤ n ∧ n < 2 ^ 63 then (match seqIndex? n ts.length with
      | some j => (match ts[j]? with
        | some t => R.ok t (s1.set i (some (.own (ts.eraseIdx j))))
        | none => .no)
      | none => .no) else .no
    | _, _ => .no) = _
  rw [hs1]
  show (if -(2 ^ 63) ≤ n ∧ n < 2 ^ 63 then (match seqIndex? n ts.length with
      | some j => (match ts[j]? with
        | some t => R.ok t (s1.set i (some (.own (ts.eraseIdx j))))
        | none => .no)
      | none => .no) else .no) = _
  rw [if_pos ⟨by omega, by omega⟩, seqIndex_of h0 (by omega)]
  show (match ts[n.toNat]? with
        | some t => R.ok t (s1.set i (some (.own (ts.eraseIdx n.toNat))))
        | none => .no) = _
  rw [ht]
theorem e_lenS {i : Nat} {s : SD} {ts : List OT} (h : s[i]? = some (some (.own ts))) : fLenS i s = .ok (.fz (.int (ts.length : Nat))) s := by
  unfold fLenS
  rw [h]
theorem isOwn_of {i : Nat} {s : SD} {ts : List OT} (h : s[i]? = some (some (.own ts))) : isOwn s i = true := by unfold isOwn; rw [h]
theorem ixN_of {len : Nat} {n : Int} (h0 : 0 ≤ n) (h1 : n < len) : ixN len n = some n.toNat := by
  unfold ixN
  simp [h0, h1]
theorem e_ixS {i : Nat} {fk : SD → R OT} {s s1 : SD} {ts0 : List OT} {ns : List Int} {n : Int} (hs : s[i]? = some (some (.own ts0))) (hk : fk s = .ok (.fz (.int n)) s1) (hs1 : s1[i]? = some (some (.own (il ns)))) (h0 : 0 ≤ n) (h1 : n < ns.length) : fIxS i fk s = .ok (.fz (.int (ns.getD n.toNat 0))) s1 := by
  unfold fIxS
  rw [if_pos (isOwn_of hs), hk]
  show (match s1[i]?, D.int n with
    | some (some (.own ts)), .int n => (match atI ts n with
      | some (.fz d) => R.ok (OT.fz d) s1
      | _ => .no)
    | _, _ => .no) = _
  rw [hs1]
  have e : atI (il ns) n = some (.fz (.int (ns.getD n.toNat 0))) := by
    unfold atI
    rw [ixN_of h0 (by rw [il_len]; exact h1)]
    exact il_get (by omega)
  show (match atI (il ns) n with
      | some (.fz d) => R.ok (OT.fz d) s1
      | _ => .no) = _
  rw [e]
theorem t_ix {i : Nat} {fk : SD → R OT} {s s1 : SD} {ts0 ts : List OT} {n : Int} {x : OT} (hs : s[i]? = some (some (.own ts0))) (hk : fk s = .ok (.fz (.int n)) s1) (hs1 : s1[i]? = some (some (.own ts))) (h0 : 0 ≤ n) (h1 : n < ts.length) : gIx i fk x s = .nx (s1.set i (some (.own (ts.set n.toNat (.fz x.frz))))) := by
  unfold gIx
  rw [if_pos (isOwn_of hs), hk]
  show (match s1[i]?, D.int n with
    | some (some (.own ts)), .int n => (match ixN ts.length n with
      | some j => RS.nx (s1.set i (some (.own (ts.set j (.fz x.frz)))))
      | none => .no)
    | _, _ => .no) = _
  rw [hs1]
  show (match ixN ts.length n with
      | some j => RS.nx (s1.set i (some (.own (ts.set j (.fz x.frz)))))
      | none => .no) = _
  rw [ixN_of h0 h1]
theorem e_tk {fa : SD → R OT} {s s1 : SD} {j : Nat} {g : Bg} {m : Nat} {i : Int} (h : g.I m) (hm : m < 2 ^ 60) (hi : 0 < i) (hi2 : i.natAbs.log2 < 9000) (hs : s[j]? = some (some g.t)) (hf : fa s = .ok (.fz (.int i)) s1) (hs1 : s1[j]? = some (some g.t)) :
    ∃ (v : Int) (g' : Bg), fCall [0] F_law_take [] (lLent j (lCons fa lNil)) s = .ok (.fz (.int v)) (s1.set j (some g'.t)) ∧ 0 ≤ v ∧ v < i ∧ g'.I (m + 1) := e_take h hm hi hi2 hs hf hs1
/-- one draw and move: left, found -/
theorem draw {s : SD} {g : Bg} {m : Nat} {a b : Nat} {L Fo : List Int} {p : Int} (hI : g.I m) (hm : m < 2 ^ 60) (h0 : s[0]? = some (some g.t)) (hb : s[b]? = some (some (.own (il L)))) (hf : s[a]? = some (some (.own (il Fo)))) (hab : a ≠ b) (ha0 : a ≠ 0) (hb0 : b ≠ 0) (hL : 0 < L.length) (hl : L.length ≤ 404) (hl2 : Fo.length ≤ 404) (r1 : Rng p L) (r2 : Rng p Fo) :
    ∃ (g' : Bg) (k : Nat) (x : Int), sApp a (fPopAt b (fCall [0] F_law_take [] (lLent 0 (lCons (fLenS b) lNil)))) s = .nx (((s.set 0 (some g'.t)).set b (some (.own (il (L.eraseIdx k))))).set a (some (.own (il (Fo ++ [x]))))) ∧ g'.I (m + 1) ∧ k < L.length ∧ 0 ≤ x ∧ x < p := by
  have b0 : 0 < s.length := (List.getElem?_eq_some_iff.mp h0).1
  have bb : b < s.length := (List.getElem?_eq_some_iff.mp hb).1
  obtain ⟨v, g', e, v0, v1, gi⟩ := e_tk (j := 0) (fa := fLenS b) (s := s) (s1 := s) hI hm (i := ((il L).length : Nat)) (by rw [il_len]; omega) (logs (by omega) (by rw [il_len]; omega)) h0 (e_lenS hb) h0
  rw [il_len] at v1
  have vk : v.toNat < L.length := by omega
  have hb1 : (s.set 0 (some g'.t))[b]? = some (some (.own (il L))) := by rw [List.getElem?_set_ne (Ne.symm hb0)]; exact hb
  have e2 := e_pop (i := b) hb e hb1 v0 (by rw [il_len]; omega) (by rw [il_len]; omega) (il_get vk)
  rw [il_erase] at e2
  have hf1 : ((s.set 0 (some g'.t)).set b (some (.own (il (L.eraseIdx v.toNat)))))[a]? = some (some (.own (il Fo))) := by rw [List.getElem?_set_ne (Ne.symm hab), List.getElem?_set_ne (Ne.symm ha0)]; exact hf
  have e3 := e_app (i := a) hf e2 hf1 (by rw [il_len]; omega)
  refine ⟨g', v.toNat, L.getD v.toNat 0, ?_, gi, vk, r1.getD vk⟩
  rw [e3]
  show RS.nx (_ : SD) = _
  congr 2
  exact congrArg (fun z => some (OT.own z)) il_app
/-- what a def of the bag promises -/
def LF (F : List OT → FR) (g : Bg) (us : List OT) (m k : Nat) (P : OT → Prop) : Prop := ∃ (t : OT) (g' : Bg) (r : SD), F (g.t :: us) = .ok t (some g'.t :: r) ∧ g'.I (m + k) ∧ P t
def Ints (p : Int) (n : Nat) (t : OT) : Prop := ∃ ns : List Int, t = .own (il ns) ∧ ns.length ≤ n ∧ Rng p ns
abbrev stO (g : Bg) (p : Nat) (k : Option OT) (l f : List Int) (w o1 o2 : Option OT) : SD := [some g.t, some (.fz (.int (p : Int))), k, some (.own (il l)), some (.own (il f)), w, o1, o2]
theorem lr1' {p : Nat} (h : p ≤ 404) {s : SD} {fa : SD → R OT} (hf : fa s = .ok (.fz (.int (p : Int))) s) : fLr1 fa s = .ok (.own (il (iota p))) s := lr1 h hf
theorem sOrder {g : Bg} {m p : Nat} (hI : g.I m) (hm : m + 100 < 2 ^ 60) (hp : 1 ≤ p) (hp2 : p ≤ 12) : LF F_law_order g [.fz (.int (p : Int))] m 100 (Ints p 12) := by
  -- the start
  obtain ⟨w, g1, e1, w0, w1, I1⟩ := e_tk (j := 0) (fa := fC (.int 6)) (s := [some g.t, some (.fz (.int (p : Int))), none, none, none, none, none, none]) hI (by omega) (i := 6) (by decide) (by decide +kernel) rfl e_c rfl
  have q1 : sPar3 3 4 5 true true false (fCons (fLr1 (fVar 1)) (fCons (fLst fNil) (fCons (fCall [0] F_law_take [] (lLent 0 (lCons (fC (.int 6)) lNil))) fNil))) [some g.t, some (.fz (.int (p : Int))), none, none, none, none, none, none] = .nx (stO g1 p none (iota p) [] (some (.fz (.int w))) none none) := by
    unfold sPar3
    rw [e_cons (lr1' (by omega) (e_var (i := 1) rfl)) (e_cons e_lst0 (e_cons e1 e_nil))]
    rfl
  -- the draws
  obtain ⟨s2, q2, g2, k2, f2, rfl, I2, r2, l2⟩ : ∃ s2, sFor (iRg1 (fCons (fVar 1) fNil)) (gNmF 2) (sApp 4 (fPopAt 3 (fCall [0] F_law_take [] (lLent 0 (lCons (fLenS 3) lNil))))) (stO g1 p none (iota p) [] (some (.fz (.int w))) none none) = .nx s2 ∧ ∃ (g2 : Bg) (k2 : Option OT) (f2 : List Int), s2 = stO g2 p k2 [] f2 (some (.fz (.int w))) none none ∧ g2.I (m + 1 + p) ∧ Rng p f2 ∧ f2.length ≤ 12 := by
    obtain ⟨s2, e, g2, k2, L, f2, h1, h2, h3, h4, h5, h6⟩ := e_for (ds := (List.range (p : Int).toNat).map fun k : Nat => D.int (k : Int)) (g := gNmF 2) (fb := sApp 4 (fPopAt 3 (fCall [0] F_law_take [] (lLent 0 (lCons (fLenS 3) lNil))))) (fun i s => ∃ (g2 : Bg) (k2 : Option OT) (L f2 : List Int), s = stO g2 p k2 L f2 (some (.fz (.int w))) none none ∧ g2.I (m + 1 + i) ∧ Rng p L ∧ Rng p f2 ∧ L.length + i = p ∧ f2.length = i)
      (i_rg1 (e_cons (e_var (i := 1) (s := stO g1 p none (iota p) [] (some (.fz (.int w))) none none) rfl) e_nil) (by omega) (by omega)) ⟨g1, none, iota p, [], rfl, I1, rng_iota p, fun _ h => absurd h List.not_mem_nil, by rw [iota_len]; omega, rfl⟩ (by
      rintro i s d hd ⟨g2, k2, L, f2, rfl, h2, h3, h4, h5, h6⟩
      have hi : i < p := by
        have := (List.getElem?_eq_some_iff.mp hd).1
        rw [List.length_map, List.length_range] at this
        omega
      obtain ⟨g', k, x, e, gi, hk, x0, x1⟩ := draw (s := stO g2 p (some (.fz d)) L f2 (some (.fz (.int w))) none none) (a := 4) (b := 3) h2 (by omega) rfl rfl rfl (by decide) (by decide) (by decide) (by omega) (by omega) (by omega) h3 h4
      refine ⟨_, _, rfl, e, g', some (.fz d), L.eraseIdx k, f2 ++ [x], rfl, gi, h3.erase, h4.app ⟨x0, x1⟩, ?_, by rw [List.length_append, h6]; rfl⟩
      rw [List.length_eraseIdx_of_lt hk]
      omega)
    rw [List.length_map, List.length_range, Int.toNat_natCast] at h2 h5 h6
    refine ⟨s2, e, g2, k2, f2, ?_, h2, h4, by omega⟩
    rw [h1, List.length_eq_zero_iff.mp (show L.length = 0 by omega)]
  show ∃ (t : OT) (g' : Bg) (r : SD), endF (sSeq _ (sSeq _ (sSeq (sIf (fB (fOp gEqL (fVar 5) (fC (.int 0)))) (sRet (fUn gRev (fLr1 (fVar 1)))) sNil) (sSeq (sIf (fB (fOp gEqL (fVar 5) (fC (.int 1)))) (sSeq (sSet 4 (fLr1 (fVar 1))) (sFor (iRg1 (fCons (fCall [0] F_law_take [] (lLent 0 (lCons (fC (.int 4)) lNil))) fNil)) (gNmF 2) (sSeq (sPar2 6 7 false false (fCons (fCall [0] F_law_take [] (lLent 0 (lCons (fVar 1) lNil))) (fCons (fCall [0] F_law_take [] (lLent 0 (lCons (fVar 1) lNil))) fNil))) (sAsg (fTupO (fCons (fIxS 4 (fVar 7)) (fCons (fIxS 4 (fVar 6)) fNil))) (gTuO [(gIx 4 (fVar 6)), (gIx 4 (fVar 7))]))))) sNil) (sRet (fMov 4))))) [some g.t, some (.fz (.int (p : Int))), none, none, none, none, none, none]) = _ ∧ _
  rw [seq_nx q1, seq_nx q2]
  have c0 : fB (fOp gEqL (fVar 5) (fC (.int 0))) (stO g2 p k2 [] f2 (some (.fz (.int w))) none none) = .ok (w == 0) (stO g2 p k2 [] f2 (some (.fz (.int w))) none none) := e_tcmp (e_var (i := 5) rfl) e_c eq_ii
  by_cases hw0 : w = 0
  · have er : fUn gRev (fLr1 (fVar 1)) (stO g2 p k2 [] f2 (some (.fz (.int w))) none none) = .ok (.own (((iota p).map D.int).reverse.map .fz)) (stO g2 p k2 [] f2 (some (.fz (.int w))) none none) := by
      unfold fUn
      rw [lr1' (by omega) (e_var (i := 1) rfl)]
      show R.of (gRev ((OT.own (il (iota p))).frz)) _ = _
      rw [il_frz]
      rfl
    rw [seq_rt ((e_ift (c0.trans (by rw [hw0]; rfl))).trans (e_ret er))]
    refine ⟨_, g2, _, rfl, ⟨I2.a0, I2.b0, I2.b1, I2.c0, by have := I2.c1; omega, I2.cs0⟩, (iota p).reverse, ?_, by rw [List.length_reverse, iota_len]; exact hp2, fun n hn => rng_iota p n (List.mem_reverse.mp hn)⟩
    show OT.own _ = OT.own (il _)
    unfold il
    rw [show ((iota p).map D.int).reverse = ((iota p).reverse).map D.int from List.map_reverse.symm]
  · rw [seq_nx (e_no (c0.trans (congrArg (fun z => R.ok z _) (by simpa using hw0))))]
    have c1 : fB (fOp gEqL (fVar 5) (fC (.int 1))) (stO g2 p k2 [] f2 (some (.fz (.int w))) none none) = .ok (w == 1) (stO g2 p k2 [] f2 (some (.fz (.int w))) none none) := e_tcmp (e_var (i := 5) rfl) e_c eq_ii
    by_cases hw1 : w = 1
    · have q3 : sSet 4 (fLr1 (fVar 1)) (stO g2 p k2 [] f2 (some (.fz (.int w))) none none) = .nx (stO g2 p k2 [] (iota p) (some (.fz (.int w))) none none) := by
        rw [e_set (lr1' (by omega) (e_var (i := 1) rfl))]
        rfl
      obtain ⟨v, g3, e3, v0, v1, I3⟩ := e_tk (j := 0) (fa := fC (.int 4)) (s := stO g2 p k2 [] (iota p) (some (.fz (.int w))) none none) I2 (by omega) (i := 4) (by decide) (by decide +kernel) rfl e_c rfl
      obtain ⟨s5, q5, g5, k5, f5, a5, b5, h1, h2, h3, h4⟩ := e_for (ds := (List.range v.toNat).map fun k : Nat => D.int (k : Int)) (g := gNmF 2) (fb := sSeq (sPar2 6 7 false false (fCons (fCall [0] F_law_take [] (lLent 0 (lCons (fVar 1) lNil))) (fCons (fCall [0] F_law_take [] (lLent 0 (lCons (fVar 1) lNil))) fNil))) (sAsg (fTupO (fCons (fIxS 4 (fVar 7)) (fCons (fIxS 4 (fVar 6)) fNil))) (gTuO [(gIx 4 (fVar 6)), (gIx 4 (fVar 7))])))
        (fi := iRg1 (fCons (fCall [0] F_law_take [] (lLent 0 (lCons (fC (.int 4)) lNil))) fNil)) (s := stO g2 p k2 [] (iota p) (some (.fz (.int w))) none none) (s1 := stO g3 p k2 [] (iota p) (some (.fz (.int w))) none none)
        (fun i s => ∃ (g5 : Bg) (k5 : Option OT) (f5 : List Int) (a5 b5 : Option OT), s = stO g5 p k5 [] f5 (some (.fz (.int w))) a5 b5 ∧ g5.I (m + 1 + p + 1 + 2 * i) ∧ Rng p f5 ∧ f5.length = p)
        (i_rg1 (e_cons e3 e_nil) (by omega) (by omega)) ⟨g3, k2, iota p, none, none, rfl, I3, rng_iota p, iota_len p⟩ (by
        rintro i s d hd ⟨g5, k5, f5, a5, b5, rfl, h2, h3, h4⟩
        have hi : i < 4 := by
          have := (List.getElem?_eq_some_iff.mp hd).1
          rw [List.length_map, List.length_range] at this
          omega
        obtain ⟨x, g6, e6, x0, x1, I6⟩ := e_tk (j := 0) (fa := fVar 1) (s := stO g5 p (some (.fz d)) [] f5 (some (.fz (.int w))) a5 b5) h2 (by omega) (i := (p : Int)) (by omega) (logs (by omega) (by omega)) rfl (e_var (i := 1) rfl) rfl
        obtain ⟨y, g7, e7, y0, y1, I7⟩ := e_tk (j := 0) (fa := fVar 1) (s := stO g6 p (some (.fz d)) [] f5 (some (.fz (.int w))) a5 b5) I6 (by omega) (i := (p : Int)) (by omega) (logs (by omega) (by omega)) rfl (e_var (i := 1) rfl) rfl
        have p1 : sPar2 6 7 false false (fCons (fCall [0] F_law_take [] (lLent 0 (lCons (fVar 1) lNil))) (fCons (fCall [0] F_law_take [] (lLent 0 (lCons (fVar 1) lNil))) fNil)) (stO g5 p (some (.fz d)) [] f5 (some (.fz (.int w))) a5 b5) = .nx (stO g7 p (some (.fz d)) [] f5 (some (.fz (.int w))) (some (.fz (.int x))) (some (.fz (.int y)))) := by
          unfold sPar2
          rw [e_cons e6 (e_cons e7 e_nil)]
          rfl
        have xl : x.toNat < f5.length := by omega
        have yl : y.toNat < f5.length := by omega
        let S : List Int → SD := fun f => stO g7 p (some (.fz d)) [] f (some (.fz (.int w))) (some (.fz (.int x))) (some (.fz (.int y)))
        have p2 : fTupO (fCons (fIxS 4 (fVar 7)) (fCons (fIxS 4 (fVar 6)) fNil)) (S f5) = .ok (.tup [.fz (.int (f5.getD y.toNat 0)), .fz (.int (f5.getD x.toNat 0))]) (S f5) := by
          unfold fTupO
          rw [e_cons (e_ixS (i := 4) (s := S f5) (s1 := S f5) rfl (e_var (i := 7) rfl) rfl y0 (by omega)) (e_cons (e_ixS (i := 4) (s := S f5) (s1 := S f5) rfl (e_var (i := 6) rfl) rfl x0 (by omega)) e_nil)]
          show (if 2 ≤ sizeLine then R.ok (OT.tup [.fz (.int (f5.getD y.toNat 0)), .fz (.int (f5.getD x.toNat 0))]) (S f5) else .no) = _
          rw [if_pos (by rw [sizeLine_eq]; omega)]
        have p3 : gIx 4 (fVar 6) (.fz (.int (f5.getD y.toNat 0))) (S f5) = .nx (S (f5.set x.toNat (f5.getD y.toNat 0))) := by
          rw [t_ix (i := 4) (s := S f5) (s1 := S f5) rfl (e_var (i := 6) rfl) rfl x0 (by rw [il_len]; omega), show (OT.fz (.int (f5.getD y.toNat 0))).frz = .int (f5.getD y.toNat 0) from rfl, il_set]
          rfl
        have p4 : gIx 4 (fVar 7) (.fz (.int (f5.getD x.toNat 0))) (S (f5.set x.toNat (f5.getD y.toNat 0))) = .nx (S ((f5.set x.toNat (f5.getD y.toNat 0)).set y.toNat (f5.getD x.toNat 0))) := by
          rw [t_ix (i := 4) (s := S (f5.set x.toNat (f5.getD y.toNat 0))) (s1 := S (f5.set x.toNat (f5.getD y.toNat 0))) rfl (e_var (i := 7) rfl) rfl y0 (by rw [il_len, List.length_set]; omega), show (OT.fz (.int (f5.getD x.toNat 0))).frz = .int (f5.getD x.toNat 0) from rfl, il_set]
          rfl
        have p5 : gTuO [(gIx 4 (fVar 6)), (gIx 4 (fVar 7))] (.tup [.fz (.int (f5.getD y.toNat 0)), .fz (.int (f5.getD x.toNat 0))]) (S f5) = .nx (S ((f5.set x.toNat (f5.getD y.toNat 0)).set y.toNat (f5.getD x.toNat 0))) := by
          show (gIx 4 (fVar 6) (.fz (.int (f5.getD y.toNat 0))) (S f5)).seq (fun s1 => gAllO [gIx 4 (fVar 7)] [.fz (.int (f5.getD x.toNat 0))] s1) = _
          rw [p3]
          show (gIx 4 (fVar 7) (.fz (.int (f5.getD x.toNat 0))) (S (f5.set x.toNat (f5.getD y.toNat 0)))).seq (fun s1 => gAllO [] [] s1) = _
          rw [p4]
          rfl
        refine ⟨_, _, rfl, (seq_nx p1).trans ((e_asg p2).trans p5), g7, some (.fz d), _, _, _, rfl, by rw [show m + 1 + p + 1 + 2 * (i + 1) = m + 1 + p + 1 + 2 * i + 1 + 1 from by omega]; exact I7, (h3.set (h3.getD yl)).set (h3.getD xl), by rw [List.length_set, List.length_set]; exact h4⟩)
      have q6 : sIf (fB (fOp gEqL (fVar 5) (fC (.int 1)))) (sSeq (sSet 4 (fLr1 (fVar 1))) (sFor (iRg1 (fCons (fCall [0] F_law_take [] (lLent 0 (lCons (fC (.int 4)) lNil))) fNil)) (gNmF 2) (sSeq (sPar2 6 7 false false (fCons (fCall [0] F_law_take [] (lLent 0 (lCons (fVar 1) lNil))) (fCons (fCall [0] F_law_take [] (lLent 0 (lCons (fVar 1) lNil))) fNil))) (sAsg (fTupO (fCons (fIxS 4 (fVar 7)) (fCons (fIxS 4 (fVar 6)) fNil))) (gTuO [(gIx 4 (fVar 6)), (gIx 4 (fVar 7))]))))) sNil (stO g2 p k2 [] f2 (some (.fz (.int w))) none none) = .nx s5 := by
        rw [e_ift (c1.trans (congrArg (fun z => R.ok z _) (show (w == 1) = true by rw [hw1]; rfl))), seq_nx q3]
        exact q5
      rw [seq_nx q6, h1]
      refine ⟨.own (il f5), g5, _, rfl, ⟨h2.a0, h2.b0, h2.b1, h2.c0, ?_, h2.cs0⟩, f5, rfl, by omega, h3⟩
      have := h2.c1
      rw [List.length_map, List.length_range] at this
      omega
    · rw [seq_nx (e_no (c1.trans (congrArg (fun z => R.ok z _) (by simpa using hw1))))]
      exact ⟨.own (il f2), g2, _, rfl, ⟨I2.a0, I2.b0, I2.b1, I2.c0, by have := I2.c1; omega, I2.cs0⟩, f2, rfl, l2, r2⟩
end K11

namespace K11
open PySem L2 DL PySem.Spec PyProof.Rows
theorem _root_.DL.Bg.I.up {g : Bg} {m n : Nat} (h : g.I m) (hn : m ≤ n) : g.I n := ⟨h.a0, h.b0, h.b1, h.c0, by have := h.c1; omega, h.cs0⟩
theorem e_callL {F : List OT → FR} {fr : SD → R (List AT)} {s s1 : SD} {vals : List OT} {j m k : Nat} {g : Bg} {P : OT → Prop} (hF : LF F g vals m k P) {g0 : OT} (hs : s[j]? = some (some g0)) (hf : fr s = .ok (vals.map AT.v) s1) (hs1 : s1[j]? = some (some g.t)) :
    ∃ (t : OT) (g' : Bg), fCall [0] F [] (lLent j fr) s = .ok t (s1.set j (some g'.t)) ∧ g'.I (m + k) ∧ P t := by
  obtain ⟨t, g', r, e, h1, h2⟩ := hF
  exact ⟨t, g', e_lent hs hf hs1 ⟨r, e⟩, h1, h2⟩
/-- the draw, its argument draws too -/
theorem take_call2 {fa : SD → R OT} {s s1 : SD} {j : Nat} {g : Bg} {m : Nat} {i : Int} (h : g.I m) (hm : m < 2 ^ 60) (hi : 0 < i) (hi2 : i.natAbs.log2 < 9000) {g0 : OT} (hs : s[j]? = some (some g0)) (hf : fa s = .ok (.fz (.int i)) s1) (hs1 : s1[j]? = some (some g.t)) :
    ∃ (v : Int) (g' : Bg), fCall [0] F_law_take [] (lLent j (lCons fa lNil)) s = .ok (.fz (.int v)) (s1.set j (some g'.t)) ∧ 0 ≤ v ∧ v < i ∧ g'.I (m + 1) := by
  obtain ⟨v, g', r, e, h1, h2, h3⟩ := take_spec h hm hi hi2
  exact ⟨v, g', e_lent (F := F_law_take) (vals := [.fz (.int i)]) hs (a_cons hf a_nil) hs1 ⟨r, e⟩, h1, h2, h3⟩
theorem min2 {i j : Int} : gMin2 [.int i, .int j] = some (.v (.int (if j < i then j else i))) := rfl
abbrev stM (g : Bg) (n q : Int) (k : Option OT) (f l : List Int) : SD := [some g.t, some (.fz (.int n)), some (.fz (.int q)), k, some (.own (il f)), some (.own (il l))]
theorem sMisses {g : Bg} {m : Nat} {n q : Nat} (hI : g.I m) (hm : m + 500 < 2 ^ 60) (hn : n ≤ 400) (hq : q ≤ 400) : LF F_law_misses g [.fz (.int (n : Int)), .fz (.int (q : Int))] m 450 (Ints 400 400) := by
  have q1 : sPar2 4 5 true true (fCons (fLst fNil) (fCons (fLr1 (fVar 1)) fNil)) [some g.t, some (.fz (.int (n : Int))), some (.fz (.int (q : Int))), none, none, none] = .nx (stM g n q none [] (iota n)) := by
    unfold sPar2
    rw [e_cons e_lst0 (e_cons (lr1' (by omega) (e_var (i := 1) rfl)) e_nil)]
    rfl
  obtain ⟨v, g1, e1, v0, v1, I1⟩ := e_tk (j := 0) (fa := fOp gAdd (fVar 2) (fC (.int 1))) (s := stM g n q none [] (iota n)) hI (by omega) (i := (q : Int) + 1) (by omega) (logs (by omega) (by omega)) rfl (e_op (e_var (i := 2) rfl) e_c add_ii) rfl
  let z : Int := if v < (n : Int) then v else n
  have z0 : 0 ≤ z := by show 0 ≤ (if v < (n : Int) then v else n); split <;> omega
  have z1 : z ≤ n := by show (if v < (n : Int) then v else n) ≤ _; split <;> omega
  have em : fCa gMin2 (fCons (fVar 1) (fCons (fCall [0] F_law_take [] (lLent 0 (lCons (fOp gAdd (fVar 2) (fC (.int 1))) lNil))) fNil)) (stM g n q none [] (iota n)) = .ok (.fz (.int z)) (stM g1 n q none [] (iota n)) :=
    e_ca (r := .v (.int z)) (e_cons (e_var (i := 1) rfl) (e_cons e1 e_nil)) min2
  obtain ⟨s2, q2, g2, k2, L, f2, h1, h2, h3, h4, h5, h6⟩ := e_for (ds := (List.range z.toNat).map fun k : Nat => D.int (k : Int)) (g := gNmF 3) (fb := sApp 4 (fPopAt 5 (fCall [0] F_law_take [] (lLent 0 (lCons (fLenS 5) lNil)))))
    (fi := iRg1 (fCons (fCa gMin2 (fCons (fVar 1) (fCons (fCall [0] F_law_take [] (lLent 0 (lCons (fOp gAdd (fVar 2) (fC (.int 1))) lNil))) fNil))) fNil)) (s := stM g n q none [] (iota n)) (s1 := stM g1 n q none [] (iota n))
    (fun i s => ∃ (g2 : Bg) (k2 : Option OT) (L f2 : List Int), s = stM g2 n q k2 f2 L ∧ g2.I (m + 1 + i) ∧ Rng n L ∧ Rng n f2 ∧ L.length + i = n ∧ f2.length = i)
    (i_rg1 (e_cons em e_nil) (by omega) (by omega)) ⟨g1, none, iota n, [], rfl, I1, rng_iota n, fun _ h => absurd h List.not_mem_nil, by rw [iota_len]; omega, rfl⟩ (by
    rintro i s d hd ⟨g2, k2, L, f2, rfl, h2, h3, h4, h5, h6⟩
    have hi : i < z.toNat := by
      have := (List.getElem?_eq_some_iff.mp hd).1
      rwa [List.length_map, List.length_range] at this
    obtain ⟨g', k, x, e, gi, hk, x0, x1⟩ := draw (s := stM g2 n q (some (.fz d)) f2 L) (a := 4) (b := 5) h2 (by omega) rfl rfl rfl (by decide) (by decide) (by decide) (by omega) (by omega) (by omega) h3 h4
    refine ⟨_, _, rfl, e, g', some (.fz d), L.eraseIdx k, f2 ++ [x], rfl, gi, h3.erase, h4.app ⟨x0, x1⟩, ?_, by rw [List.length_append, h6]; rfl⟩
    rw [List.length_eraseIdx_of_lt hk]
    omega)
  rw [List.length_map, List.length_range] at h2 h5 h6
  have er : fCa gSorted (fCons (fVarF 4) fNil) (stM g2 n q k2 f2 L) = .ok (.own (il (sortI f2))) [some g2.t, some (.fz (.int (n : Int))), some (.fz (.int (q : Int))), k2, some (.fz (.lst (f2.map .int))), some (.own (il L))] := by
    have e0 : fVarF 4 (stM g2 n q k2 f2 L) = .ok (.fz (.lst (f2.map .int))) [some g2.t, some (.fz (.int (n : Int))), some (.fz (.int (q : Int))), k2, some (.fz (.lst (f2.map .int))), some (.own (il L))] := by
      show R.ok (OT.fz (OT.own (il f2)).frz) [some g2.t, some (.fz (.int (n : Int))), some (.fz (.int (q : Int))), k2, some (.fz (OT.own (il f2)).frz), some (.own (il L))] = _
      rw [il_frz]
    exact e_ca (r := .l ((sortI f2).map .int)) (e_cons e0 e_nil) sorted_ints
  show ∃ (t : OT) (g' : Bg) (r : SD), endF (sSeq _ (sSeq _ (sRet (fCa gSorted (fCons (fVarF 4) fNil)))) [some g.t, some (.fz (.int (n : Int))), some (.fz (.int (q : Int))), none, none, none]) = _ ∧ _
  rw [seq_nx q1, seq_nx q2, h1, e_ret er]
  refine ⟨_, g2, _, rfl, Bg.I.up h2 (by omega), sortI f2, rfl, ?_, fun x hx => ?_⟩
  · rw [(sortI_perm f2).length_eq]
    omega
  · have := h4 x ((sortI_perm f2).mem_iff.mp hx)
    omega
/-! ### things that are small -/
structure Sm (d : D) : Prop where
  nr : nrm 8 d = true
  sh : d.py.showable = true
  ln : d.py.shown.length ≤ 60
def Good (d : D) : Prop := match d with
  | .lst ds => ds.length ≤ 404 ∧ ∀ e ∈ ds, Sm e
  | .tup ds => ds.length ≤ 404 ∧ ∀ e ∈ ds, Sm e
  | d => Sm d
theorem Sm.no {d : D} (h : Sm d) : noO d = true := by
  cases d with
  | obj _ _ => cases h.nr
  | _ => rfl
theorem Sm.nos {d : D} (h : Sm d) (ns : List Int) : d ≠ .scr ns := fun e => by
  rw [e] at h
  cases h.nr
theorem Good.fit {d : D} (h : Good d) : Fit d := by
  cases d with
  | lst ds => exact ⟨rfl, fun _ e => (D.noConfusion e : False), fun e he => (h.2 e he).no, h.1⟩
  | tup ds => exact ⟨rfl, fun _ e => (D.noConfusion e : False), fun e he => (h.2 e he).no, h.1⟩
  | obj _ _ => cases (show Sm _ from h).nr
  | scr ns => cases (show Sm _ from h).nr
  | _ => exact ⟨rfl, fun _ e => (D.noConfusion e : False), fun e he => absurd he List.not_mem_nil, Nat.zero_le _⟩
theorem showAll : ∀ {ds : List D}, (∀ e ∈ ds, Sm e) → PyData.showableAll (pyL ds) = true ∧ ((PyData.shownAll (pyL ds)).map (·.length)).sum ≤ 60 * ds.length ∧ (PyData.shownAll (pyL ds)).length = ds.length
  | [], _ => ⟨rfl, Nat.le_refl _, rfl⟩
  | d :: ds, h => by
    obtain ⟨h1, h2, h3⟩ := showAll (ds := ds) fun e he => h e (List.mem_cons_of_mem _ he)
    have hd := h d List.mem_cons_self
    have := hd.ln
    rw [pyL, PyData.showableAll, PyData.shownAll, List.map_cons, List.sum_cons, List.length_cons, h1, hd.sh]
    exact ⟨rfl, by omega, by rw [List.length_cons, h3]⟩
theorem nrm_up : ∀ (n : Nat) {d : D}, nrm n d = true → nrm (n + 1) d = true := by
  intro n
  induction n with
  | zero =>
    intro d h
    cases d with
    | lst _ => cases h
    | tup _ => cases h
    | dic _ => cases h
    | scr _ => cases h
    | obj _ _ => cases h
    | _ => rfl
  | succ n ih =>
    intro d h
    cases d with
    | lst xs => exact List.all_eq_true.mpr fun x hx => ih (List.all_eq_true.mp h x hx)
    | tup xs => exact List.all_eq_true.mpr fun x hx => ih (List.all_eq_true.mp h x hx)
    | dic xs => exact List.all_eq_true.mpr fun x hx => ih (List.all_eq_true.mp h x hx)
    | scr _ => cases h
    | obj _ _ => cases h
    | _ => rfl
theorem nrm_to {d : D} {n m : Nat} (h : nrm n d = true) (hm : n ≤ m) : nrm m d = true := by
  obtain ⟨k, rfl⟩ := Nat.exists_eq_add_of_le hm
  induction k with
  | zero => exact h
  | succ k ih => exact nrm_up _ (ih (by omega))
theorem Good.repr {d : D} (h : Good d) : gRepr [d] = some (.v (.str d.py.shown)) := by
  have : nrm 40 d = true ∧ d.py.showable = true ∧ d.py.shown.length ≤ sizeLine := by
    cases d with
    | lst ds =>
      obtain ⟨h1, h2, h3⟩ := showAll h.2
      refine ⟨List.all_eq_true.mpr fun x hx => nrm_to (h.2 x hx).nr (by decide), by rw [D.py, PyData.showable]; exact h1, ?_⟩
      rw [D.py, PyData.shown]
      have := listText_len_le (PyData.shownAll (pyL ds))
      have := h.1
      rw [sizeLine_eq]
      omega
    | tup ds =>
      obtain ⟨h1, h2, h3⟩ := showAll h.2
      refine ⟨List.all_eq_true.mpr fun x hx => nrm_to (h.2 x hx).nr (by decide), by rw [D.py, PyData.showable]; exact h1, ?_⟩
      rw [D.py, PyData.shown]
      have := tupleText_len_le (PyData.shownAll (pyL ds))
      have := h.1
      rw [sizeLine_eq]
      omega
    | _ =>
      have s : Sm _ := h
      exact ⟨nrm_to s.nr (by decide), s.sh, by have := s.ln; rw [sizeLine_eq]; omega⟩
  exact if_pos this
theorem Sm.of {d : D} (h : (nrm 8 d && d.py.showable && decide (d.py.shown.length ≤ 60)) = true) : Sm d := by
  rw [Bool.and_eq_true, Bool.and_eq_true, decide_eq_true_eq] at h
  exact ⟨h.1.1, h.1.2, h.2⟩
def goodB : D → Bool
  | .lst ds => decide (ds.length ≤ 404) && ds.all fun e => nrm 8 e && e.py.showable && decide (e.py.shown.length ≤ 60)
  | .tup ds => decide (ds.length ≤ 404) && ds.all fun e => nrm 8 e && e.py.showable && decide (e.py.shown.length ≤ 60)
  | d => nrm 8 d && d.py.showable && decide (d.py.shown.length ≤ 60)
theorem Good.of {d : D} (h : goodB d = true) : Good d := by
  cases d with
  | lst ds =>
    rw [goodB, Bool.and_eq_true, decide_eq_true_eq] at h
    exact ⟨h.1, fun e he => Sm.of (List.all_eq_true.mp h.2 e he)⟩
  | tup ds =>
    rw [goodB, Bool.and_eq_true, decide_eq_true_eq] at h
    exact ⟨h.1, fun e he => Sm.of (List.all_eq_true.mp h.2 e he)⟩
  | _ => exact Sm.of h
theorem sm_int {i : Int} (h0 : -(10 ^ 45) < i) (h1 : i < 10 ^ 45) : Sm (.int i) := by
  have ha : i.natAbs < 10 ^ 45 := by omega
  refine ⟨rfl, ?_, ?_⟩
  · have : i.natAbs.log2 < 1920 := by
      by_cases e : i.natAbs = 0
      · rw [e]; decide
      · exact (Nat.log2_lt e).mpr (Nat.lt_trans ha (by decide +kernel))
    rw [D.py, PyData.showable]
    exact decide_eq_true this
  · have e := int_text_length_le10 (k := 45) (by decide) ha
    rw [D.py, PyData.shown]
    show (Str.ofString (toString i)).length ≤ 60
    rw [PySem.ofString_length]
    have : (toString i).length = (toString i).toList.length := rfl
    omega
theorem Good.int {i : Int} (h0 : -(10 ^ 45) < i) (h1 : i < 10 ^ 45) : Good (.int i) := sm_int h0 h1
theorem Good.ints {p : Int} {ns : List Int} (h : Rng p ns) (hp : p ≤ 1000) (hl : ns.length ≤ 404) : Good (.lst (ns.map .int)) := ⟨by rw [List.length_map]; exact hl, fun e he => by
  obtain ⟨n, hn, rfl⟩ := List.mem_map.mp he
  have := h n hn
  exact sm_int (by omega) (by omega)⟩
end K11

namespace K11
open PySem L2 DL PySem.Spec PyProof.Rows
def oddA : List D := [.non, .bl true, .bl false, .int 0, .int (-1), .int 1, .int 2, .int 13, .int (10 ^ 18), .int (10 ^ 18 + 1), .int (10 ^ 39), .str "", .str "1", .lst [], .lst [.int 0], .tup [], .tup [.int 1], .dic []]
def oddB : List D := [.tup [.int 1, .int 1], .tup [.int 1, .int 0], .lst [.int 1, .int 1], .tup [.int 1, .int 1, .int 1], .lst [.tup [.int 1, .int 1]], .dic [(.inl 1, .int 1)], .tup [.str "1", .int 1], .tup [.int 1, .non], .lst [.lst [.int 0]], .lst [.non], .tup [.int 0, .int 1]]
def smB (e : D) : Bool := nrm 8 e && e.py.showable && decide (e.py.shown.length ≤ 60)
theorem odd_ok : (oddA ++ oddB).all (fun d => goodB d && smB d) = true := by decide +kernel
def GS (t : OT) : Prop := ∃ d, t = .fz d ∧ Good d ∧ Sm d
theorem sOdd {g : Bg} {m : Nat} (hI : g.I m) (hm : m + 10 < 2 ^ 60) : LF F_law_odd g [] m 1 GS := by
  have q1 : (fun s => sSetF 1 (fLst (fCons (fC .non) (fCons (fC (.bl true)) (fCons (fC (.bl false)) (fCons (fC (.int 0)) (fCons (fUn gNeg (fC (.int 1))) (fCons (fC (.int 1)) (fCons (fC (.int 2)) (fCons (fC (.int 13)) (fCons (fOp gPow (fC (.int 10)) (fC (.int 18))) (fCons (fOp gAdd (fOp gPow (fC (.int 10)) (fC (.int 18))) (fC (.int 1))) (fCons (fOp gPow (fC (.int 10)) (fC (.int 39))) (fCons (fC (.str "")) (fCons (fC (.str "1")) (fCons (fLst fNil) (fCons (fLst (fCons (fC (.int 0)) fNil)) (fCons (fTup fNil) (fCons (fTup (fCons (fC (.int 1)) fNil)) (fCons (fC (.dic [])) fNil))))))))))))))))))) s) [some g.t, none] = .nx [some g.t, some (.fz (.lst oddA))] := rfl
  have q2 : (fun s => sSetF 1 (fOp gAdd (fVar 1) (fLst (fCons (fTup (fCons (fC (.int 1)) (fCons (fC (.int 1)) fNil))) (fCons (fTup (fCons (fC (.int 1)) (fCons (fC (.int 0)) fNil))) (fCons (fLst (fCons (fC (.int 1)) (fCons (fC (.int 1)) fNil))) (fCons (fTup (fCons (fC (.int 1)) (fCons (fC (.int 1)) (fCons (fC (.int 1)) fNil)))) (fCons (fLst (fCons (fTup (fCons (fC (.int 1)) (fCons (fC (.int 1)) fNil))) fNil)) (fCons (fC (.dic [(.inl 1, .int 1)])) (fCons (fTup (fCons (fC (.str "1")) (fCons (fC (.int 1)) fNil))) (fCons (fTup (fCons (fC (.int 1)) (fCons (fC .non) fNil))) (fCons (fLst (fCons (fLst (fCons (fC (.int 0)) fNil)) fNil)) (fCons (fLst (fCons (fC .non) fNil)) (fCons (fTup (fCons (fC (.int 0)) (fCons (fC (.int 1)) fNil))) fNil))))))))))))) s) [some g.t, some (.fz (.lst oddA))] = .nx [some g.t, some (.fz (.lst (oddA ++ oddB)))] := rfl
  have l29 : (oddA ++ oddB).length = 29 := rfl
  obtain ⟨v, g1, e1, v0, v1, I1⟩ := e_tk (j := 0) (fa := fCa gLen (fCons (fVar 1) fNil)) (s := [some g.t, some (.fz (.lst (oddA ++ oddB)))]) hI (by omega) (i := 29) (by decide) (by decide +kernel) rfl (e_ca (r := .v (.int 29)) (e_cons (e_var (i := 1) rfl) e_nil) rfl) rfl
  have vl : v.toNat < (oddA ++ oddB).length := by rw [l29]; omega
  have ei : gIx2 (.lst (oddA ++ oddB)) (.int v) = some (.v (oddA ++ oddB)[v.toNat]) := by
    show (atI (oddA ++ oddB) v).map Rt.v = _
    unfold atI
    rw [ixN_of v0 (by rw [l29]; exact v1)]
    show ((oddA ++ oddB)[v.toNat]?).map Rt.v = _
    rw [List.getElem?_eq_getElem vl]
    rfl
  show ∃ (t : OT) (g' : Bg) (r : SD), endF (sSeq _ (sSeq _ (sRet (fOp gIx2 (fVar 1) (fCall [0] F_law_take [] (lLent 0 (lCons (fCa gLen (fCons (fVar 1) fNil)) lNil)))))) [some g.t, none]) = _ ∧ _
  rw [seq_nx q1, seq_nx q2, e_ret (e_op (e_var (i := 1) rfl) e1 ei)]
  have ok := List.all_eq_true.mp odd_ok _ (List.getElem_mem vl)
  rw [Bool.and_eq_true] at ok
  exact ⟨_, g1, _, rfl, I1, _, rfl, Good.of ok.1, Sm.of ok.2⟩
/-! ### bent -/
def ol (ds : List D) : List OT := ds.map .fz
theorem ol_len {ds : List D} : (ol ds).length = ds.length := List.length_map ..
theorem ol_frz {ds : List D} : (OT.own (ol ds)).frz = .lst ds := frz_own ds
def isLT : D → Bool
  | .lst _ => true
  | .tup _ => true
  | _ => false
theorem neS {ds : List D} {s : SD} (h : s[2]? = some (some (.own (ol ds)))) : fB (fOpS gNeL 2 (fLst fNil)) s = .ok (!ds.isEmpty) s := by
  have e : fOpS gNeL 2 (fLst fNil) s = .ok (.fz (.bl (!ds.isEmpty))) s := by
    unfold fOpS
    rw [if_pos (isOwn_of h), e_lst0]
    show (match s[2]? with
      | some (some t) => (match (gNeL t.frz (OT.own []).frz).bind Rt.flat with
        | some z => R.ok (OT.fz z) s
        | none => .no)
      | _ => .no) = _
    rw [h]
    show (match (gNeL (OT.own (ol ds)).frz (OT.own []).frz).bind Rt.flat with
        | some z => R.ok (OT.fz z) s
        | none => .no) = _
    rw [ol_frz, frz0, ne_nil]
    rfl
  exact e_tst e rfl
theorem e_andT {fc fd : SD → R Bool} {s s1 : SD} {b : Bool} (h : fc s = .ok b s1) : fAnd fc fd s = if b = true then fd s1 else .ok false s1 := by
  unfold fAnd
  rw [h]
  rfl
theorem e_ins {i : Nat} {fk fe : SD → R OT} {s s1 s2 : SD} {ts0 ts : List OT} {n : Int} {y : OT} (hs : s[i]? = some (some (.own ts0))) (hk : fk s = .ok (.fz (.int n)) s1) (he : fe s1 = .ok y s2) (hs2 : s2[i]? = some (some (.own ts))) (h0 : 0 ≤ n) (h1 : n < 2 ^ 60) (hl : ts.length ≤ 1000) :
    sIns i fk fe s = .nx (s2.set i (some (.own (ts.take n.toNat ++ [.fz y.frz] ++ ts.drop n.toNat)))) := by
  unfold sIns
  rw [if_pos (isOwn_of hs), hk]
  show (fe s1).thn _ = _
  rw [he]
  show (match s2[i]?, D.int n with
    | some (some (.own ts)), .int n => if ts.length < sizeLine ∧ 0 ≤ n ∧ n < 2 ^ 63 then RS.nx (s2.set i (some (.own (ts.take n.toNat ++ [OT.fz y.frz] ++ ts.drop n.toNat)))) else .no
    | _, _ => .no) = _
  rw [hs2]
  exact if_pos ⟨by rw [sizeLine_eq]; omega, h0, by omega⟩
theorem ol_ins {ds : List D} {n : Nat} {x : D} : (ol ds).take n ++ [OT.fz x] ++ (ol ds).drop n = ol (ds.take n ++ [x] ++ ds.drop n) := by
  unfold ol
  rw [List.map_append, List.map_append, List.map_take, List.map_drop]
  rfl
theorem ol_get {ds : List D} {k : Nat} (h : k < ds.length) : (ol ds)[k]? = some (.fz ds[k]) := by
  unfold ol
  rw [List.getElem?_map, List.getElem?_eq_getElem h]
  rfl
theorem ol_er {ds : List D} {k : Nat} : (ol ds).eraseIdx k = ol (ds.eraseIdx k) := er
theorem ol_set {ds : List D} {k : Nat} {x : D} : (ol ds).set k (.fz x) = ol (ds.set k x) := by
  unfold ol
  rw [List.map_set]
theorem e_ixO {i : Nat} {fk : SD → R OT} {s s1 : SD} {ts0 : List OT} {ds : List D} {n : Int} (hs : s[i]? = some (some (.own ts0))) (hk : fk s = .ok (.fz (.int n)) s1) (hs1 : s1[i]? = some (some (.own (ol ds)))) (h0 : 0 ≤ n) (h1 : n.toNat < ds.length) : fIxS i fk s = .ok (.fz ds[n.toNat]) s1 := by
  unfold fIxS
  rw [if_pos (isOwn_of hs), hk]
  show (match s1[i]?, D.int n with
    | some (some (.own ts)), .int n => (match atI ts n with
      | some (.fz d) => R.ok (OT.fz d) s1
      | _ => .no)
    | _, _ => .no) = _
  rw [hs1]
  have e : atI (ol ds) n = some (.fz ds[n.toNat]) := by
    unfold atI
    rw [ixN_of h0 (by rw [ol_len]; omega)]
    exact ol_get h1
  show (match atI (ol ds) n with
      | some (.fz d) => R.ok (OT.fz d) s1
      | _ => .no) = _
  rw [e]
abbrev stB (g : Bg) (d : D) (ds : List D) (a : Int) (od : D) (w : Int) : SD := [some g.t, some (.fz d), some (.own (ol ds)), some (.fz (.int a)), some (.fz od), some (.fz (.int w))]
abbrev sm (ds : List D) : Prop := ∀ e ∈ ds, Sm e
abbrev bMin : SD → R OT := fCa gMin2 (fCons (fVar 3) (fCons (fOp gSub (fLenS 2) (fC (.int 1))) fNil))
theorem bmin_eq {g : Bg} {d od : D} {ds : List D} {a w : Int} (ha : 0 ≤ a) (hd : 0 < ds.length) : ∃ z : Int, bMin (stB g d ds a od w) = .ok (.fz (.int z)) (stB g d ds a od w) ∧ 0 ≤ z ∧ z < ds.length := by
  refine ⟨if ((ds.length : Int) - 1) < a then (ds.length : Int) - 1 else a, ?_, by split <;> omega, by split <;> omega⟩
  have e1 : fLenS 2 (stB g d ds a od w) = .ok (.fz (.int (ds.length : Nat))) (stB g d ds a od w) := by
    rw [e_lenS (i := 2) (ts := ol ds) rfl, ol_len]
  exact e_ca (r := .v (.int _)) (e_cons (e_var (i := 3) rfl) (e_cons (e_op e1 e_c sub_ii) e_nil)) min2
/-- the thing itself, its items n at most -/
def Seq (n : Nat) (d : D) : Prop := ∃ ds : List D, (d = .lst ds ∨ d = .tup ds) ∧ ds.length ≤ n ∧ sm ds
abbrev bEnd : SD → RS := sRet (fIf (fB (fIsi ["list"] (fVar 1))) (fMov 2) (fCa gTuple (fCons (fVarF 2) fNil)))
theorem bend_eq {g : Bg} {d od : D} {es : List D} {a w : Int} {n : Nat} (hd : isLT d = true) (hl : es.length ≤ n) (hs : sm es) : ∃ (t : OT) (r : SD), bEnd (stB g d es a od w) = .rt t (some g.t :: r) ∧ Seq n t.frz := by
  cases d with
  | lst ds =>
    refine ⟨.own (ol es), _, rfl, es, .inl ol_frz, hl, hs⟩
  | tup ds =>
    refine ⟨.fz (.tup es), [some (.fz (.tup ds)), some (.fz (.lst es)), some (.fz (.int a)), some (.fz od), some (.fz (.int w))], ?_, es, .inr rfl, hl, hs⟩
    have e0 : fVarF 2 (stB g (.tup ds) es a od w) = .ok (.fz (.lst es)) [some g.t, some (.fz (.tup ds)), some (.fz (.lst es)), some (.fz (.int a)), some (.fz od), some (.fz (.int w))] := by
      show R.ok (OT.fz (OT.own (ol es)).frz) [some g.t, some (.fz (.tup ds)), some (.fz (OT.own (ol es)).frz), some (.fz (.int a)), some (.fz od), some (.fz (.int w))] = _
      rw [ol_frz]
    have e1 : fIf (fB (fIsi ["list"] (fVar 1))) (fMov 2) (fCa gTuple (fCons (fVarF 2) fNil)) (stB g (.tup ds) es a od w) = fCa gTuple (fCons (fVarF 2) fNil) (stB g (.tup ds) es a od w) := rfl
    have e2 := e_ca (q := gTuple) (r := .t es) (e_cons e0 e_nil) (show gTuple [.lst es] = some (.t es) from rfl)
    show sRet _ _ = _
    rw [e_ret (e1.trans e2)]
    rfl
  | _ => cases hd
theorem sBent {g : Bg} {m n : Nat} {d : D} (hI : g.I m) (hm : m + 20 < 2 ^ 60) (hn : n ≤ 402) (hd : Seq n d) : LF F_law_bent g [.fz d] m 4 (fun t => Seq (n + 1) t.frz) := by
  obtain ⟨ds, hds, hl, hs⟩ := hd
  have lt : isLT d = true := by rcases hds with h | h <;> subst h <;> rfl
  have len : gLen ([OT.fz d].map OT.frz) = some (.v (.int (ds.length : Nat))) := by rcases hds with h | h <;> subst h <;> rfl
  have lis : gList ([OT.fz d].map OT.frz) = some (.l ds) := by rcases hds with h | h <;> subst h <;> rfl
  obtain ⟨a, g1, e1, a0, a1, I1⟩ := e_tk (j := 0) (fa := fOp gAdd (fCa gLen (fCons (fVar 1) fNil)) (fC (.int 1))) (s := [some g.t, some (.fz d), none, none, none, none]) hI (by omega) (i := (ds.length : Int) + 1) (by omega) (logs (by omega) (by omega)) rfl (e_op (e_ca (e_cons (e_var (i := 1) rfl) e_nil) len) e_c add_ii) rfl
  obtain ⟨t2, g2, e2, I2, od, rfl, god, sod⟩ := e_callL (j := 0) (s := [some g1.t, some (.fz d), none, none, none, none]) (sOdd I1 (by omega)) rfl a_nil rfl
  obtain ⟨w, g3, e3, w0, w1, I3⟩ := e_tk (j := 0) (fa := fC (.int 6)) (s := [some g2.t, some (.fz d), none, none, none, none]) I2 (by omega) (i := 6) (by decide) (by decide +kernel) rfl e_c rfl
  have q1 : sPar3 3 4 5 false false false (fCons (fCall [0] F_law_take [] (lLent 0 (lCons (fOp gAdd (fCa gLen (fCons (fVar 1) fNil)) (fC (.int 1))) lNil))) (fCons (fCall [0] F_law_odd [] (lLent 0 lNil)) (fCons (fCall [0] F_law_take [] (lLent 0 (lCons (fC (.int 6)) lNil))) fNil))) [some g.t, some (.fz d), none, none, none, none] = .nx [some g3.t, some (.fz d), none, some (.fz (.int a)), some (.fz od), some (.fz (.int w))] := by
    unfold sPar3
    rw [e_cons e1 (e_cons e2 (e_cons e3 e_nil))]
    rfl
  have q2 : sSet 2 (fCa gList (fCons (fVar 1) fNil)) [some g3.t, some (.fz d), none, some (.fz (.int a)), some (.fz od), some (.fz (.int w))] = .nx (stB g3 d ds a od w) := by
    rw [e_set (e_ca (r := .l ds) (e_cons (e_var (i := 1) rfl) e_nil) lis)]
    rfl
  have c : ∀ (k : Int) (gg : Bg) (es : List D), fB (fOp gEqL (fVar 5) (fC (.int k))) (stB gg d es a od w) = .ok (w == k) (stB gg d es a od w) := fun k gg es => e_tcmp (e_var (i := 5) rfl) e_c eq_ii
  have cn : ∀ (k : Int) (gg : Bg) (es : List D), fAnd (fB (fOp gEqL (fVar 5) (fC (.int k)))) (fB (fOpS gNeL 2 (fLst fNil))) (stB gg d es a od w) = .ok (w == k && !es.isEmpty) (stB gg d es a od w) := fun k gg es => by
    rw [e_andT (c k gg es)]
    cases w == k with
    | false => rfl
    | true =>
      rw [if_pos rfl, neS (ds := es) rfl]
      rfl
  -- what the way does
  have mid : ∃ (r : RS), sIf (fB (fOp gEqL (fVar 5) (fC (.int 0)))) (sIns 2 (fVar 3) (fVar 4)) (sIf (fAnd (fB (fOp gEqL (fVar 5) (fC (.int 1)))) (fB (fOpS gNeL 2 (fLst fNil)))) (sDrop (fPopAt 2 bMin)) (sIf (fAnd (fB (fOp gEqL (fVar 5) (fC (.int 2)))) (fB (fOpS gNeL 2 (fLst fNil)))) (sAsg (fVar 4) (gIx 2 bMin)) (sIf (fAnd (fB (fOp gEqL (fVar 5) (fC (.int 3)))) (fB (fOpS gNeL 2 (fLst fNil)))) (sIns 2 (fVar 3) (fIxS 2 (fCall [0] F_law_take [] (lLent 0 (lCons (fLenS 2) lNil))))) (sIf (fB (fOp gEqL (fVar 5) (fC (.int 4)))) (sRet (fIf (fB (fIsi ["list"] (fVar 1))) (fCa gTuple (fCons (fVarF 2) fNil)) (fMov 2))) sNil)))) (stB g3 d ds a od w) = r
      ∧ ((∃ (g4 : Bg) (es : List D), r = .nx (stB g4 d es a od w) ∧ g4.I (m + 4) ∧ es.length ≤ n + 1 ∧ sm es) ∨ ∃ (t : OT) (g4 : Bg) (rr : SD), r = .rt t (some g4.t :: rr) ∧ g4.I (m + 4) ∧ Seq (n + 1) t.frz) := by
    have insOk : ∀ (x : D), Sm x → (ds.take a.toNat ++ [x] ++ ds.drop a.toNat).length ≤ n + 1 ∧ sm (ds.take a.toNat ++ [x] ++ ds.drop a.toNat) := fun x hx => by
      refine ⟨?_, fun e he => ?_⟩
      · simp only [List.length_append, List.length_take, List.length_drop, List.length_singleton]
        omega
      · rcases List.mem_append.mp he with he | he
        · rcases List.mem_append.mp he with he | he
          · exact hs e (List.mem_of_mem_take he)
          · rw [List.mem_singleton.mp he]; exact hx
        · exact hs e (List.mem_of_mem_drop he)
    by_cases h0 : w = 0
    · refine ⟨_, rfl, .inl ⟨g3, ds.take a.toNat ++ [od] ++ ds.drop a.toNat, ?_, I3.up (by omega), (insOk od sod).1, (insOk od sod).2⟩⟩
      rw [e_ift ((c 0 g3 ds).trans (congrArg (fun z => R.ok z _) (by simpa using h0))), e_ins (i := 2) (ts0 := ol ds) (ts := ol ds) rfl (e_var (i := 3) rfl) (e_var (i := 4) rfl) rfl a0 (by omega) (by rw [ol_len]; omega), show (OT.fz od).frz = od from rfl, ol_ins]
      rfl
    rw [e_iff ((c 0 g3 ds).trans (congrArg (fun z => R.ok z _) (by simpa using h0)))]
    by_cases he : ds = []
    · -- an empty one stays as it is, or comes back
      subst he
      have cf : ∀ k, fAnd (fB (fOp gEqL (fVar 5) (fC (.int k)))) (fB (fOpS gNeL 2 (fLst fNil))) (stB g3 d [] a od w) = .ok false (stB g3 d [] a od w) := fun k => (cn k g3 []).trans (congrArg (fun z => R.ok z _) (Bool.and_false _))
      rw [e_iff (cf 1), e_iff (cf 2), e_iff (cf 3)]
      by_cases h4 : w = 4
      · rw [e_ift ((c 4 g3 []).trans (congrArg (fun z => R.ok z _) (by simpa using h4)))]
        rcases hds with h | h <;> subst h
        · exact ⟨_, rfl, .inr ⟨.fz (.tup []), g3, _, rfl, I3.up (by omega), [], .inr rfl, Nat.zero_le _, fun e he => absurd he List.not_mem_nil⟩⟩
        · exact ⟨_, rfl, .inr ⟨.own (ol []), g3, _, rfl, I3.up (by omega), [], .inl ol_frz, Nat.zero_le _, fun e he => absurd he List.not_mem_nil⟩⟩
      · rw [e_no ((c 4 g3 []).trans (congrArg (fun z => R.ok z _) (by simpa using h4)))]
        exact ⟨_, rfl, .inl ⟨g3, [], rfl, I3.up (by omega), Nat.zero_le _, fun e he => absurd he List.not_mem_nil⟩⟩
    have hpos : 0 < ds.length := List.length_pos_iff.mpr he
    have ne : (!ds.isEmpty) = true := by simpa using he
    obtain ⟨z, ez, z0, z1⟩ := bmin_eq (g := g3) (d := d) (od := od) (w := w) a0 hpos
    have zl : z.toNat < ds.length := by omega
    have ct : ∀ k, fAnd (fB (fOp gEqL (fVar 5) (fC (.int k)))) (fB (fOpS gNeL 2 (fLst fNil))) (stB g3 d ds a od w) = .ok (w == k) (stB g3 d ds a od w) := fun k => (cn k g3 ds).trans (congrArg (fun z => R.ok z _) (by rw [ne, Bool.and_true]))
    by_cases h1 : w = 1
    · refine ⟨_, rfl, .inl ⟨g3, ds.eraseIdx z.toNat, ?_, I3.up (by omega), by rw [List.length_eraseIdx_of_lt zl]; omega, fun e he => hs e (List.mem_of_mem_eraseIdx he)⟩⟩
      rw [e_ift ((ct 1).trans (congrArg (fun z => R.ok z _) (by simpa using h1)))]
      have ep := e_pop (i := 2) (s := stB g3 d ds a od w) (s1 := stB g3 d ds a od w) (ts0 := ol ds) (ts := ol ds) rfl ez rfl z0 (by rw [ol_len]; exact z1) (by rw [ol_len]; omega) (ol_get zl)
      show (fPopAt 2 bMin (stB g3 d ds a od w)).thn (fun _ s1 => RS.nx s1) = _
      rw [ep, ol_er]
      rfl
    rw [e_iff ((ct 1).trans (congrArg (fun z => R.ok z _) (by simpa using h1)))]
    by_cases h2 : w = 2
    · refine ⟨_, rfl, .inl ⟨g3, ds.set z.toNat od, ?_, I3.up (by omega), by rw [List.length_set]; omega, fun e he => ?_⟩⟩
      · rw [e_ift ((ct 2).trans (congrArg (fun z => R.ok z _) (by simpa using h2))), e_asg (e_var (i := 4) (d := od) rfl), t_ix (i := 2) (ts0 := ol ds) (ts := ol ds) rfl ez rfl z0 (by rw [ol_len]; exact z1), show (OT.fz od).frz = od from rfl, ol_set]
        rfl
      · rcases List.mem_or_eq_of_mem_set he with he | he
        · exact hs e he
        · rw [he]; exact sod
    rw [e_iff ((ct 2).trans (congrArg (fun z => R.ok z _) (by simpa using h2)))]
    by_cases h3 : w = 3
    · have el : fLenS 2 (stB g3 d ds a od w) = .ok (.fz (.int (ds.length : Nat))) (stB g3 d ds a od w) := by rw [e_lenS (i := 2) (ts := ol ds) rfl, ol_len]
      obtain ⟨y, g4, e4, y0, y1, I4⟩ := e_tk (j := 0) (fa := fLenS 2) (s := stB g3 d ds a od w) I3 (by omega) (i := (ds.length : Int)) (by omega) (logs (by omega) (by omega)) rfl el rfl
      have yl : y.toNat < ds.length := by omega
      have ex := e_ixO (i := 2) (s := stB g3 d ds a od w) (s1 := stB g4 d ds a od w) (ts0 := ol ds) rfl e4 rfl y0 yl
      refine ⟨_, rfl, .inl ⟨g4, ds.take a.toNat ++ [ds[y.toNat]] ++ ds.drop a.toNat, ?_, I4, (insOk _ (hs _ (List.getElem_mem yl))).1, (insOk _ (hs _ (List.getElem_mem yl))).2⟩⟩
      rw [e_ift ((ct 3).trans (congrArg (fun z => R.ok z _) (by simpa using h3))), e_ins (i := 2) (ts0 := ol ds) (ts := ol ds) rfl (e_var (i := 3) rfl) ex rfl a0 (by omega) (by rw [ol_len]; omega), show (OT.fz ds[y.toNat]).frz = ds[y.toNat] from rfl, ol_ins]
      rfl
    rw [e_iff ((ct 3).trans (congrArg (fun z => R.ok z _) (by simpa using h3)))]
    by_cases h4 : w = 4
    · rw [e_ift ((c 4 g3 ds).trans (congrArg (fun z => R.ok z _) (by simpa using h4)))]
      rcases hds with h | h <;> subst h
      · have e0 : fVarF 2 (stB g3 (.lst ds) ds a od w) = .ok (.fz (.lst ds)) [some g3.t, some (.fz (.lst ds)), some (.fz (.lst ds)), some (.fz (.int a)), some (.fz od), some (.fz (.int w))] := by
          show R.ok (OT.fz (OT.own (ol ds)).frz) [some g3.t, some (.fz (.lst ds)), some (.fz (OT.own (ol ds)).frz), some (.fz (.int a)), some (.fz od), some (.fz (.int w))] = _
          rw [ol_frz]
        have e5 : fIf (fB (fIsi ["list"] (fVar 1))) (fCa gTuple (fCons (fVarF 2) fNil)) (fMov 2) (stB g3 (.lst ds) ds a od w) = fCa gTuple (fCons (fVarF 2) fNil) (stB g3 (.lst ds) ds a od w) := rfl
        have e6 := e_ca (q := gTuple) (r := .t ds) (e_cons e0 e_nil) (show gTuple [.lst ds] = some (.t ds) from rfl)
        rw [e_ret (e5.trans e6)]
        exact ⟨_, rfl, .inr ⟨.fz (.tup ds), g3, _, rfl, I3.up (by omega), ds, .inr rfl, by omega, hs⟩⟩
      · exact ⟨_, rfl, .inr ⟨.own (ol ds), g3, _, rfl, I3.up (by omega), ds, .inl ol_frz, by omega, hs⟩⟩
    · rw [e_no ((c 4 g3 ds).trans (congrArg (fun z => R.ok z _) (by simpa using h4)))]
      exact ⟨_, rfl, .inl ⟨g3, ds, rfl, I3.up (by omega), by omega, hs⟩⟩
  obtain ⟨r, em, h⟩ := mid
  show ∃ (t : OT) (g' : Bg) (r : SD), endF (sSeq _ (sSeq _ (sSeq (sIf (fB (fOp gEqL (fVar 5) (fC (.int 0)))) (sIns 2 (fVar 3) (fVar 4)) (sIf (fAnd (fB (fOp gEqL (fVar 5) (fC (.int 1)))) (fB (fOpS gNeL 2 (fLst fNil)))) (sDrop (fPopAt 2 bMin)) (sIf (fAnd (fB (fOp gEqL (fVar 5) (fC (.int 2)))) (fB (fOpS gNeL 2 (fLst fNil)))) (sAsg (fVar 4) (gIx 2 bMin)) (sIf (fAnd (fB (fOp gEqL (fVar 5) (fC (.int 3)))) (fB (fOpS gNeL 2 (fLst fNil)))) (sIns 2 (fVar 3) (fIxS 2 (fCall [0] F_law_take [] (lLent 0 (lCons (fLenS 2) lNil))))) (sIf (fB (fOp gEqL (fVar 5) (fC (.int 4)))) (sRet (fIf (fB (fIsi ["list"] (fVar 1))) (fCa gTuple (fCons (fVarF 2) fNil)) (fMov 2))) sNil))))) bEnd)) [some g.t, some (.fz d), none, none, none, none]) = _ ∧ _
  rw [seq_nx q1, seq_nx q2]
  rcases h with ⟨g4, es, rfl, I4, h1, h2⟩ | ⟨t, g4, rr, rfl, I4, h1⟩
  · rw [seq_nx em]
    obtain ⟨t, rr, e, hq⟩ := bend_eq (g := g4) (d := d) (od := od) (a := a) (w := w) lt h1 h2
    rw [e]
    exact ⟨t, g4, rr, rfl, I4, hq⟩
  · rw [seq_rt em]
    exact ⟨t, g4, rr, rfl, I4, h1⟩
end K11

namespace K11
open PySem L2 DL PySem.Spec PyProof.Rows
theorem ix_at {ds : List D} {n : Int} (h0 : 0 ≤ n) (h1 : n.toNat < ds.length) : gIx2 (.lst ds) (.int n) = some (.v ds[n.toNat]) := by
  show (atI ds n).map Rt.v = _
  unfold atI
  rw [ixN_of h0 (by omega)]
  show (ds[n.toNat]?).map Rt.v = _
  rw [List.getElem?_eq_getElem h1]
  rfl
theorem Seq.good {n : Nat} {d : D} (h : Seq n d) (hn : n ≤ 404) : Good d := by
  obtain ⟨ds, h, hl, hs⟩ := h
  rcases h with h | h <;> subst h
  · exact ⟨by omega, hs⟩
  · exact ⟨by omega, hs⟩
theorem Ints.seq {p : Int} {n : Nat} {t : OT} (h : Ints p n t) (hp : p ≤ 1000) {k : Nat} (hk : n ≤ k) : Seq k t.frz := by
  obtain ⟨ns, rfl, hl, hr⟩ := h
  refine ⟨ns.map .int, .inl il_frz, by rw [List.length_map]; omega, fun e he => ?_⟩
  obtain ⟨x, hx, rfl⟩ := List.mem_map.mp he
  have := hr x hx
  exact sm_int (by omega) (by omega)
def GT (t : OT) : Prop := ∃ d, t = .fz d ∧ Good d
abbrev stT (g : Bg) (p n w : Int) (pr th tu pa mi : Option OT) : SD := [some g.t, some (.fz (.int p)), some (.fz (.int n)), some (.fz (.int w)), pr, th, tu, pa, mi]
theorem sThing {g : Bg} {m p n : Nat} (hI : g.I m) (hm : m + 1000 < 2 ^ 60) (hp : 1 ≤ p) (hp2 : p ≤ 12) (hn : n ≤ 400) : LF F_law_thing g [.fz (.int (p : Int)), .fz (.int (n : Int))] m 1000 GT := by
  obtain ⟨w, g1, e1, w0, w1, I1⟩ := e_tk (j := 0) (fa := fC (.int 5)) (s := [some g.t, some (.fz (.int (p : Int))), some (.fz (.int (n : Int))), none, none, none, none, none, none]) hI (by omega) (i := 5) (by decide) (by decide +kernel) rfl e_c rfl
  have q1 : sSetF 3 (fCall [0] F_law_take [] (lLent 0 (lCons (fC (.int 5)) lNil))) [some g.t, some (.fz (.int (p : Int))), some (.fz (.int (n : Int))), none, none, none, none, none, none] = .nx (stT g1 p n w none none none none none) := by
    rw [e_setF e1]
    rfl
  have c0 : fB (fOp gEqL (fVar 3) (fC (.int 0))) (stT g1 p n w none none none none none) = .ok (w == 0) (stT g1 p n w none none none none none) := e_tcmp (e_var (i := 3) rfl) e_c eq_ii
  show ∃ (t : OT) (g' : Bg) (r : SD), endF (sSeq _ (sSeq (sIf (fB (fOp gEqL (fVar 3) (fC (.int 0)))) (sRet (fOp gIx2 (fLst (fCons (fCall [0] F_law_odd [] (lLent 0 lNil)) (fCons (fOp gSub (fCall [0] F_law_take [] (lLent 0 (lCons (fOp gPow (fC (.int 10)) (fC (.int 40))) lNil))) (fOp gPow (fC (.int 10)) (fC (.int 39)))) fNil))) (fCall [0] F_law_take [] (lLent 0 (lCons (fC (.int 2)) lNil))))) sNil) (sSeq (sSetF 4 (fOp gIx2 (fLst (fCons (fC (.int 0)) (fCons (fC (.int 1)) (fCons (fOp gPow (fC (.int 10)) (fC (.int 18))) (fCons (fOp gAdd (fOp gPow (fC (.int 10)) (fC (.int 18))) (fC (.int 1))) (fCons (fCall [0] F_law_take [] (lLent 0 (lCons (fOp gAdd (fOp gPow (fC (.int 10)) (fC (.int 18))) (fC (.int 1))) lNil))) fNil)))))) (fCall [0] F_law_take [] (lLent 0 (lCons (fC (.int 5)) lNil))))) (sSeq (sPar2 7 8 false false (fCons (fTup (fCons (fCall [0] F_law_take [] (lLent 0 (lCons (fOp gAdd (fVar 1) (fC (.int 1))) lNil))) (fCons (fVar 4) fNil))) (fCons (fCall [0] F_law_misses [] (lLent 0 (lCons (fVar 2) (lCons (fOp gIx2 (fLst (fCons (fC (.int 12)) (fCons (fC (.int 400)) fNil))) (fCa gInt (fCons (fOp gEqL (fCall [0] F_law_take [] (lLent 0 (lCons (fC (.int 8)) lNil))) (fC (.int 0))) fNil))) lNil)))) fNil))) (sSeq (sSetF 5 (fOp gIx2 (fLst (fCons (fCall [0] F_law_order [] (lLent 0 (lCons (fVar 1) lNil))) (fCons (fCall [0] F_law_order [] (lLent 0 (lCons (fVar 1) lNil))) (fCons (fVar 7) (fCons (fVar 8) fNil))))) (fOp gSub (fVar 3) (fC (.int 1))))) (sSeq (sFor (iRg1 (fCons (fCall [0] F_law_take [] (lLent 0 (lCons (fC (.int 3)) lNil))) fNil)) (gNmF 6) (sIf (fB (fIsi ["list", "tuple"] (fVar 5))) (sSetF 5 (fCall [0] F_law_bent [] (lLent 0 (lCons (fVar 5) lNil)))) sNil)) (sRet (fVar 5)))))))
    [some g.t, some (.fz (.int (p : Int))), some (.fz (.int (n : Int))), none, none, none, none, none, none]) = _ ∧ _
  rw [seq_nx q1]
  by_cases h0 : w = 0
  · -- an odd thing, a number
    obtain ⟨t2, g2, e2, I2, od, rfl, god, sod⟩ := e_callL (j := 0) (s := stT g1 p n w none none none none none) (sOdd I1 (by omega)) rfl a_nil rfl
    obtain ⟨x, g3, e3, x0, x1, I3⟩ := e_tk (j := 0) (fa := fOp gPow (fC (.int 10)) (fC (.int 40))) (s := stT g2 p n w none none none none none) I2 (by omega) (i := 10 ^ 40) (by decide) (by decide +kernel) rfl rfl rfl
    obtain ⟨y, g4, e4, y0, y1, I4⟩ := e_tk (j := 0) (fa := fC (.int 2)) (s := stT g3 p n w none none none none none) I3 (by omega) (i := 2) (by decide) (by decide +kernel) rfl e_c rfl
    have el := e_lst (xs := [.fz od, .fz (.int (x - 10 ^ 39))]) (e_cons e2 (e_cons (e_op e3 (show fOp gPow (fC (.int 10)) (fC (.int 39)) _ = .ok (.fz (.int (10 ^ 39))) _ from rfl) sub_ii) e_nil)) (by show 2 ≤ 1000; decide)
    have yl : y.toNat < [od, D.int (x - 10 ^ 39)].length := by show y.toNat < 2; omega
    have ei := e_op el e4 (show gIx2 _ _ = _ from ix_at (ds := [od, D.int (x - 10 ^ 39)]) y0 yl)
    rw [seq_rt ((e_ift (c0.trans (congrArg (fun z => R.ok z _) (by simpa using h0)))).trans (e_ret ei))]
    refine ⟨_, g4, _, rfl, I4.up (by omega), _, rfl, ?_⟩
    have mem := List.getElem_mem yl
    rcases List.mem_cons.mp mem with h | h
    · rw [h]; exact god
    · rw [List.mem_singleton.mp h]; exact Good.int (by omega) (by omega)
  rw [seq_nx (e_no (c0.trans (congrArg (fun z => R.ok z _) (by simpa using h0))))]
  -- the price
  obtain ⟨x, g2, e2, x0, x1, I2⟩ := e_tk (j := 0) (fa := fOp gAdd (fOp gPow (fC (.int 10)) (fC (.int 18))) (fC (.int 1))) (s := stT g1 p n w none none none none none) I1 (by omega) (i := 10 ^ 18 + 1) (by decide) (by decide +kernel) rfl rfl rfl
  obtain ⟨y, g3, e3, y0, y1, I3⟩ := e_tk (j := 0) (fa := fC (.int 5)) (s := stT g2 p n w none none none none none) I2 (by omega) (i := 5) (by decide) (by decide +kernel) rfl e_c rfl
  obtain ⟨pr, q2, pr0, pr1⟩ : ∃ pr : Int, sSetF 4 (fOp gIx2 (fLst (fCons (fC (.int 0)) (fCons (fC (.int 1)) (fCons (fOp gPow (fC (.int 10)) (fC (.int 18))) (fCons (fOp gAdd (fOp gPow (fC (.int 10)) (fC (.int 18))) (fC (.int 1))) (fCons (fCall [0] F_law_take [] (lLent 0 (lCons (fOp gAdd (fOp gPow (fC (.int 10)) (fC (.int 18))) (fC (.int 1))) lNil))) fNil)))))) (fCall [0] F_law_take [] (lLent 0 (lCons (fC (.int 5)) lNil)))) (stT g1 p n w none none none none none) = .nx (stT g3 p n w (some (.fz (.int pr))) none none none none) ∧ 0 ≤ pr ∧ pr < 10 ^ 20 := by
    have el := e_lst (xs := [.fz (.int 0), .fz (.int 1), .fz (.int (10 ^ 18)), .fz (.int (10 ^ 18 + 1)), .fz (.int x)]) (e_cons e_c (e_cons e_c (e_cons (show fOp gPow (fC (.int 10)) (fC (.int 18)) (stT g1 p n w none none none none none) = .ok (.fz (.int (10 ^ 18))) (stT g1 p n w none none none none none) from rfl) (e_cons (show fOp gAdd (fOp gPow (fC (.int 10)) (fC (.int 18))) (fC (.int 1)) (stT g1 p n w none none none none none) = .ok (.fz (.int (10 ^ 18 + 1))) (stT g1 p n w none none none none none) from rfl) (e_cons e2 e_nil))))) (by show 5 ≤ 1000; decide)
    have ei := e_op (r := .v (.int ([0, 1, 10 ^ 18, 10 ^ 18 + 1, x].getD y.toNat 0))) el e3 (g_ix_ints (cs := [0, 1, 10 ^ 18, 10 ^ 18 + 1, x]) y0 y1)
    refine ⟨_, (e_setF ei).trans rfl, ?_⟩
    have r : Rng (10 ^ 20) [0, 1, 10 ^ 18, 10 ^ 18 + 1, x] := fun z hz => by
      simp only [List.mem_cons, List.not_mem_nil, or_false] at hz
      rcases hz with h | h | h | h | h <;> subst h
      · decide
      · decide
      · decide
      · decide
      · exact ⟨x0, by omega⟩
    exact r.getD (by show y.toNat < 5; omega)
  rw [seq_nx q2]
  -- the pair, the misses
  obtain ⟨a, g4, e4, a0, a1, I4⟩ := e_tk (j := 0) (fa := fOp gAdd (fVar 1) (fC (.int 1))) (s := stT g3 p n w (some (.fz (.int pr))) none none none none) I3 (by omega) (i := (p : Int) + 1) (by omega) (logs (by omega) (by omega)) rfl (e_op (e_var (i := 1) rfl) e_c add_ii) rfl
  obtain ⟨b, g5, e5, b0, b1, I5⟩ := e_tk (j := 0) (fa := fC (.int 8)) (s := stT g4 p n w (some (.fz (.int pr))) none none none none) I4 (by omega) (i := 8) (by decide) (by decide +kernel) rfl e_c rfl
  obtain ⟨q, eq, hq⟩ : ∃ q : Nat, fOp gIx2 (fLst (fCons (fC (.int 12)) (fCons (fC (.int 400)) fNil))) (fCa gInt (fCons (fOp gEqL (fCall [0] F_law_take [] (lLent 0 (lCons (fC (.int 8)) lNil))) (fC (.int 0))) fNil)) (stT g4 p n w (some (.fz (.int pr))) none none none none) = .ok (.fz (.int (q : Int))) (stT g5 p n w (some (.fz (.int pr))) none none none none) ∧ q ≤ 400 := by
    have el := e_lst (xs := [.fz (.int 12), .fz (.int 400)]) (s := stT g4 p n w (some (.fz (.int pr))) none none none none) (e_cons e_c (e_cons e_c e_nil)) (by show 2 ≤ 1000; decide)
    have eb : fCa gInt (fCons (fOp gEqL (fCall [0] F_law_take [] (lLent 0 (lCons (fC (.int 8)) lNil))) (fC (.int 0))) fNil) (stT g4 p n w (some (.fz (.int pr))) none none none none) = .ok (.fz (.int (if (b == 0) = true then 1 else 0))) (stT g5 p n w (some (.fz (.int pr))) none none none none) :=
      e_ca (r := .v (.int (if (b == 0) = true then 1 else 0))) (e_cons (e_op e5 e_c eq_ii) e_nil) rfl
    by_cases hb : (b == 0) = true
    · refine ⟨400, e_op (r := .v (.int 400)) el eb ?_, by omega⟩
      rw [if_pos hb]
      rfl
    · refine ⟨12, e_op (r := .v (.int 12)) el eb ?_, by omega⟩
      rw [if_neg hb]
      rfl
  obtain ⟨t6, g6, e6, I6, ms, rfl, ml, mr⟩ := e_callL (j := 0) (s := stT g4 p n w (some (.fz (.int pr))) none none none none) (s1 := stT g5 p n w (some (.fz (.int pr))) none none none none) (sMisses (n := n) (q := q) I5 (by omega) hn hq) rfl (a_cons (e_var (i := 2) rfl) (a_cons eq a_nil)) rfl
  have q3 : sPar2 7 8 false false (fCons (fTup (fCons (fCall [0] F_law_take [] (lLent 0 (lCons (fOp gAdd (fVar 1) (fC (.int 1))) lNil))) (fCons (fVar 4) fNil))) (fCons (fCall [0] F_law_misses [] (lLent 0 (lCons (fVar 2) (lCons (fOp gIx2 (fLst (fCons (fC (.int 12)) (fCons (fC (.int 400)) fNil))) (fCa gInt (fCons (fOp gEqL (fCall [0] F_law_take [] (lLent 0 (lCons (fC (.int 8)) lNil))) (fC (.int 0))) fNil))) lNil)))) fNil)) (stT g3 p n w (some (.fz (.int pr))) none none none none) = .nx (stT g6 p n w (some (.fz (.int pr))) none none (some (.fz (.tup [.int a, .int pr]))) (some (.fz (.lst (ms.map .int))))) := by
    have et : fTup (fCons (fCall [0] F_law_take [] (lLent 0 (lCons (fOp gAdd (fVar 1) (fC (.int 1))) lNil))) (fCons (fVar 4) fNil)) (stT g3 p n w (some (.fz (.int pr))) none none none none) = .ok (.fz (.tup [.int a, .int pr])) (stT g4 p n w (some (.fz (.int pr))) none none none none) := by
      unfold fTup
      rw [e_cons e4 (e_cons (e_var (i := 4) rfl) e_nil)]
      show (if 2 ≤ sizeLine then R.ok (OT.fz (.tup [.int a, .int pr])) (stT g4 p n w (some (.fz (.int pr))) none none none none) else .no) = _
      rw [if_pos (by rw [sizeLine_eq]; omega)]
    unfold sPar2
    rw [e_cons et (e_cons e6 e_nil)]
    show RS.nx _ = _
    rw [show keepB false (OT.own (il ms)) = .fz (.lst (ms.map .int)) from congrArg OT.fz il_frz]
    rfl
  rw [seq_nx q3]
  -- the thing
  let S : Bg → Option OT → Option OT → SD := fun g th tu => stT g p n w (some (.fz (.int pr))) th tu (some (.fz (.tup [.int a, .int pr]))) (some (.fz (.lst (ms.map .int))))
  obtain ⟨o1, g7, e7, I7, P7⟩ := e_callL (j := 0) (s := S g6 none none) (sOrder I6 (by omega) hp hp2) rfl (a_cons (e_var (i := 1) rfl) a_nil) rfl
  obtain ⟨o2, g8, e8, I8, P8⟩ := e_callL (j := 0) (s := S g7 none none) (sOrder I7 (by omega) hp hp2) rfl (a_cons (e_var (i := 1) rfl) a_nil) rfl
  obtain ⟨th, q4, hth⟩ : ∃ th : D, sSetF 5 (fOp gIx2 (fLst (fCons (fCall [0] F_law_order [] (lLent 0 (lCons (fVar 1) lNil))) (fCons (fCall [0] F_law_order [] (lLent 0 (lCons (fVar 1) lNil))) (fCons (fVar 7) (fCons (fVar 8) fNil))))) (fOp gSub (fVar 3) (fC (.int 1)))) (S g6 none none) = .nx (S g8 (some (.fz th)) none) ∧ Seq 400 th := by
    have el := e_lst (xs := [o1, o2, .fz (.tup [.int a, .int pr]), .fz (.lst (ms.map .int))]) (e_cons e7 (e_cons e8 (e_cons (e_var (i := 7) rfl) (e_cons (e_var (i := 8) rfl) e_nil)))) (by show 4 ≤ 1000; decide)
    have wl : (w - 1).toNat < [o1.frz, o2.frz, D.tup [.int a, .int pr], .lst (ms.map .int)].length := by show (w - 1).toNat < 4; omega
    have ei := e_op el (e_op (e_var (i := 3) rfl) e_c sub_ii) (show gIx2 _ _ = _ from ix_at (ds := [o1.frz, o2.frz, D.tup [.int a, .int pr], .lst (ms.map .int)]) (n := w - 1) (by omega) wl)
    refine ⟨_, (e_setF ei).trans rfl, ?_⟩
    have mem := List.getElem_mem wl
    show Seq 400 ([o1.frz, o2.frz, D.tup [.int a, .int pr], .lst (ms.map .int)][(w - 1).toNat])
    generalize [o1.frz, o2.frz, D.tup [.int a, .int pr], .lst (ms.map .int)][(w - 1).toNat] = z at mem
    simp only [List.mem_cons, List.not_mem_nil, or_false] at mem
    rcases mem with h | h | h | h <;> subst h
    · exact P7.seq (by omega) (by decide)
    · exact P8.seq (by omega) (by decide)
    · refine ⟨_, .inr rfl, by show 2 ≤ 400; decide, fun e he => ?_⟩
      simp only [List.mem_cons, List.not_mem_nil, or_false] at he
      rcases he with h | h <;> subst h
      · exact sm_int (by omega) (by omega)
      · exact sm_int (by omega) (by omega)
    · refine ⟨_, .inl rfl, by rw [List.length_map]; exact ml, fun e he => ?_⟩
      obtain ⟨z, hz, rfl⟩ := List.mem_map.mp he
      have := mr z hz
      exact sm_int (by omega) (by omega)
  rw [seq_nx q4]
  -- the bends
  obtain ⟨v, g9, e9, v0, v1, I9⟩ := e_tk (j := 0) (fa := fC (.int 3)) (s := S g8 (some (.fz th)) none) I8 (by omega) (i := 3) (by decide) (by decide +kernel) rfl e_c rfl
  obtain ⟨s5, q5, g10, d10, tu, h1, h2, h3⟩ := e_for (ds := (List.range v.toNat).map fun k : Nat => D.int (k : Int)) (g := gNmF 6) (fb := sIf (fB (fIsi ["list", "tuple"] (fVar 5))) (sSetF 5 (fCall [0] F_law_bent [] (lLent 0 (lCons (fVar 5) lNil)))) sNil)
    (fi := iRg1 (fCons (fCall [0] F_law_take [] (lLent 0 (lCons (fC (.int 3)) lNil))) fNil)) (s := S g8 (some (.fz th)) none) (s1 := S g9 (some (.fz th)) none)
    (fun i s => ∃ (gg : Bg) (d : D) (tu : Option OT), s = S gg (some (.fz d)) tu ∧ gg.I (m + 700 + 4 * i) ∧ Seq (400 + i) d)
    (i_rg1 (e_cons e9 e_nil) (by omega) (by omega)) ⟨g9, th, none, rfl, I9.up (by omega), hth⟩ (by
    rintro i s dd hd ⟨gg, d, tu, rfl, h2, h3⟩
    have hi : i < 3 := by
      have := (List.getElem?_eq_some_iff.mp hd).1
      rw [List.length_map, List.length_range] at this
      omega
    obtain ⟨t, g', e, gi, hs⟩ := e_callL (j := 0) (s := S gg (some (.fz d)) (some (.fz dd))) (sBent h2 (by omega) (by omega) h3) rfl (a_cons (e_var (i := 5) rfl) a_nil) rfl
    have it : fB (fIsi ["list", "tuple"] (fVar 5)) (S gg (some (.fz d)) (some (.fz dd))) = .ok true (S gg (some (.fz d)) (some (.fz dd))) := by
      obtain ⟨es, h, _⟩ := h3
      rcases h with h | h <;> subst h <;> rfl
    refine ⟨S gg (some (.fz d)) (some (.fz dd)), S g' (some (.fz t.frz)) (some (.fz dd)), rfl, ?_, g', t.frz, some (.fz dd), rfl, gi.up (by omega), by rw [show 400 + (i + 1) = 400 + i + 1 from rfl]; exact hs⟩
    rw [e_ift it, e_setF e]
    rfl)
  rw [seq_nx q5, h1]
  rw [List.length_map, List.length_range] at h2 h3
  exact ⟨.fz d10, g10, _, rfl, h2.up (by omega), d10, rfl, h3.good (by omega)⟩
end K11

namespace K11
open PySem L2 DL PySem.Spec PyProof.Rows
def absI (i : Int) : Int := if i < 0 then -i else i
theorem sBag {ns : List Int} (hl : ns.length ≤ 63) : ∃ bk, F_law_bag [.fz (.scr ns)] = .ok (Bg.t ⟨0, 1234567891, 0, ns.map absI⟩) bk := by
  let s : SD := [some (.fz (.scr ns)), none]
  have cut : fSl gSl (fVar 0) oNo (oSome (fC (.int 63))) s = .ok (.own (il ns)) s := by
    have e : gSl (.scr ns) none (some 63) = some (.l (ns.map .int)) := by
      show some (Rt.l ((L2.cutV (ns.map V.int) none (some 63)).map fun v => match v with | .int i => D.int i | _ => .non)) = _
      rw [cut_int]
      have e1 : HT.sIx ns.length ns.length (some 63) = ns.length := by
        show (if (63 : Int) < 0 then ((63 : Int) + (ns.length : Int)).toNat else min (63 : Int).toNat ns.length) = _
        rw [if_neg (by decide)]
        show min 63 ns.length = _
        omega
      rw [e1]
      show some (Rt.l (((((ns.drop 0).take (ns.length - 0)).map V.int)).map fun v => match v with | .int i => D.int i | _ => .non)) = _
      rw [List.drop_zero, Nat.sub_zero, List.take_length, List.map_map]
      rfl
    show R.of (gSl (.scr ns) none (some 63)) s = _
    rw [e]
    rfl
  have lc := e_lcAll (fi := iLs (fSl gSl (fVar 0) oNo (oSome (fC (.int 63))))) (fe := fCa gAbs (fCons (fVar 1) fNil)) (j := 1) (F := fun d => match d with | .int i => D.int (absI i) | _ => .non) (s := s) (s1 := s) (i_ls cut il_frz) (by rw [List.length_map, sizeLine_eq]; omega) fun d hd => by
    obtain ⟨i, hi, rfl⟩ := List.mem_map.mp hd
    exact ⟨.fz (.int (absI i)), e_ca (r := .v (.int (absI i))) (e_cons (e_var (i := 1) rfl) e_nil) rfl, rfl⟩
  have el := e_lst (xs := [.fz (.int 0), .fz (.int 1234567891), .fz (.int 0), _]) (e_cons (s := s) e_c (e_cons e_c (e_cons e_c (e_cons lc e_nil)))) (by show 4 ≤ 1000; decide)
  refine ⟨s, ?_⟩
  show endF (sRet (fLst (fCons (fC (.int 0)) (fCons (fC (.int 1234567891)) (fCons (fC (.int 0)) (fCons (fLc (iLs (fSl gSl (fVar 0) oNo (oSome (fC (.int 63))))) (gNmF 1) fYes (fCa gAbs (fCons (fVar 1) fNil)) [1]) fNil))))) s) = _
  rw [e_ret el]
  show FR.ok (OT.own [.fz (.int 0), .fz (.int 1234567891), .fz (.int 0), .fz (OT.own _).frz]) s = _
  rw [frz_own, List.map_map]
  show _ = FR.ok (OT.own [.fz (.int 0), .fz (.int 1234567891), .fz (.int 0), .fz (.lst ((ns.map absI).map .int))]) s
  rw [List.map_map]
  rfl
theorem bag_I {ns : List Int} : (Bg.mk 0 1234567891 0 (ns.map absI)).I 0 := ⟨Int.le_refl 0, show (0 : Int) ≤ 1234567891 by decide, show (1234567891 : Int) < 2147483647 by decide, Int.le_refl 0, Int.le_refl 0, fun x hx => by
  obtain ⟨i, _, rfl⟩ := List.mem_map.mp hx
  unfold absI
  split <;> omega⟩
theorem sm_bl {b : Bool} : Sm (.bl b) := by cases b <;> exact Sm.of (by decide +kernel)
abbrev stG (sc : D) (g : Bg) (o2 o3 o4 o5 o6 o7 o8 o9 : Option OT) : SD := [some (.fz sc), some g.t, o2, o3, o4, o5, o6, o7, o8, o9]
theorem main (ns : List Int) (hl : ns.length ≤ 63) : ∃ bk, F_law [.fz (.scr ns)] = .ok (.fz (.bl true)) bk := by
  have q1 : sSet 1 (fCall [] F_law_bag [] (lCons (fVar 0) lNil)) [some (.fz (.scr ns)), none, none, none, none, none, none, none, none, none] = .nx (stG (.scr ns) ⟨0, 1234567891, 0, ns.map absI⟩ none none none none none none none none) := by
    rw [e_set (e_call (s := [some (.fz (.scr ns)), none, none, none, none, none, none, none, none, none]) (a_cons (e_var (i := 0) rfl) a_nil) (sBag hl))]
    rfl
  obtain ⟨s2, q2, _⟩ := e_for (ds := (List.range (24 : Int).toNat).map fun k : Nat => D.int (k : Int)) (g := gNmF 2) (fb := sSeq (sPar2 5 6 false false (fCons (fOp gAdd (fC (.int 1)) (fCall [0] F_law_take [] (lLent 1 (lCons (fC (.int 12)) lNil)))) (fCons (fCall [0] F_law_take [] (lLent 1 (lCons (fOp gIx2 (fLst (fCons (fC (.int 9)) (fCons (fC (.int 401)) fNil))) (fCall [0] F_law_take [] (lLent 1 (lCons (fC (.int 2)) lNil)))) lNil))) fNil))) (sSeq (sSetF 3 (fCall [0] F_law_thing [] (lLent 1 (lCons (fVar 5) (lCons (fVar 6) lNil))))) (sSeq (sPar2 7 8 false false (fCons (fCa gRepr (fCons (fVar 3) fNil)) (fCons (fCall [] F_law_due [] (lCons (fVar 3) (lCons (fVar 5) (lCons (fVar 6) lNil)))) fNil))) (sFor (iRg1 (fCons (fC (.int 2)) fNil)) (gNmF 4) (sSeq (sSetF 9 (fLst (fCons (fCall [] F_is_integer [] (lCons (fVar 3) lNil)) (fCons (fCall [] F_is_order [] (lCons (fVar 3) (lCons (fVar 5) lNil))) (fCons (fCall [] F_is_comparison [] (lCons (fVar 3) (lCons (fVar 5) lNil))) fNil))))) (sIf (fOr (fB (fOp gNeL (fCa gRepr (fCons (fOp gAdd (fVar 9) (fLst (fCons (fCall [] F_are_misses [] (lCons (fVar 3) (lCons (fVar 6) lNil))) fNil))) fNil)) (fCa gRepr (fCons (fVar 8) fNil)))) (fB (fOp gNeL (fCa gRepr (fCons (fVar 3) fNil)) (fVar 7)))) (sRet (fC (.bl false))) sNil))))))
    (fi := iRg1 (fCons (fC (.int 24)) fNil)) (s := stG (.scr ns) ⟨0, 1234567891, 0, ns.map absI⟩ none none none none none none none none)
    (fun i s => ∃ (g : Bg) (o2 o3 o4 o5 o6 o7 o8 o9 : Option OT), s = stG (.scr ns) g o2 o3 o4 o5 o6 o7 o8 o9 ∧ g.I (2000 * i))
    (i_rg1 (e_cons e_c e_nil) (by decide) (by decide)) ⟨_, _, _, _, _, _, _, _, _, rfl, bag_I⟩ (by
    rintro i s dd hd ⟨g, o2, o3, o4, o5, o6, o7, o8, o9, rfl, hI⟩
    have hi : i < 24 := by
      have := (List.getElem?_eq_some_iff.mp hd).1
      rwa [List.length_map, List.length_range] at this
    refine ⟨stG (.scr ns) g (some (.fz dd)) o3 o4 o5 o6 o7 o8 o9, ?_⟩
    -- places, many
    obtain ⟨a, g1, e1, a0, a1, I1⟩ := e_tk (j := 1) (fa := fC (.int 12)) (s := stG (.scr ns) g (some (.fz dd)) o3 o4 o5 o6 o7 o8 o9) hI (by omega) (i := 12) (by decide) (by decide +kernel) rfl e_c rfl
    obtain ⟨b, g2, e2, b0, b1, I2⟩ := e_tk (j := 1) (fa := fC (.int 2)) (s := stG (.scr ns) g1 (some (.fz dd)) o3 o4 o5 o6 o7 o8 o9) I1 (by omega) (i := 2) (by decide) (by decide +kernel) rfl e_c rfl
    have ix := e_op (r := .v (.int ([9, 401].getD b.toNat 0))) (e_lst (xs := [.fz (.int 9), .fz (.int 401)]) (s := stG (.scr ns) g1 (some (.fz dd)) o3 o4 o5 o6 o7 o8 o9) (e_cons e_c (e_cons e_c e_nil)) (by show 2 ≤ 1000; decide)) e2 (g_ix_ints (cs := [9, 401]) b0 b1)
    have r9 : ∀ z ∈ ([9, 401] : List Int), 0 < z ∧ z ≤ 401 := by decide
    have bl : b.toNat < ([9, 401] : List Int).length := by show b.toNat < 2; omega
    have rz : 0 < ([9, 401] : List Int).getD b.toNat 0 ∧ ([9, 401] : List Int).getD b.toNat 0 ≤ 401 := by
      rw [List.getD_eq_getElem?_getD, List.getElem?_eq_getElem bl]
      exact r9 _ (List.getElem_mem bl)
    obtain ⟨c, g3, e3, c0, c1, I3⟩ := take_call2 I2 (by omega) rz.1 (logs (by omega) (by omega)) (s := stG (.scr ns) g1 (some (.fz dd)) o3 o4 o5 o6 o7 o8 o9) (s1 := stG (.scr ns) g2 (some (.fz dd)) o3 o4 o5 o6 o7 o8 o9) (j := 1) rfl ix rfl
    obtain ⟨p, ep, hp, hp2⟩ : ∃ p : Nat, 1 + a = (p : Int) ∧ 1 ≤ p ∧ p ≤ 12 := ⟨(1 + a).toNat, by omega, by omega, by omega⟩
    obtain ⟨n, en, hn⟩ : ∃ n : Nat, c = (n : Int) ∧ n ≤ 400 := ⟨c.toNat, by omega, by omega⟩
    subst en
    have m1 : sPar2 5 6 false false (fCons (fOp gAdd (fC (.int 1)) (fCall [0] F_law_take [] (lLent 1 (lCons (fC (.int 12)) lNil)))) (fCons (fCall [0] F_law_take [] (lLent 1 (lCons (fOp gIx2 (fLst (fCons (fC (.int 9)) (fCons (fC (.int 401)) fNil))) (fCall [0] F_law_take [] (lLent 1 (lCons (fC (.int 2)) lNil)))) lNil))) fNil)) (stG (.scr ns) g (some (.fz dd)) o3 o4 o5 o6 o7 o8 o9) = .nx (stG (.scr ns) g3 (some (.fz dd)) o3 o4 (some (.fz (.int (p : Int)))) (some (.fz (.int (n : Int)))) o7 o8 o9) := by
      unfold sPar2
      rw [e_cons (e_op e_c e1 add_ii) (e_cons e3 e_nil), ep]
      rfl
    -- the thing
    obtain ⟨t, g4, e4, I4, th, rfl, gth⟩ := e_callL (j := 1) (s := stG (.scr ns) g3 (some (.fz dd)) o3 o4 (some (.fz (.int (p : Int)))) (some (.fz (.int (n : Int)))) o7 o8 o9) (sThing I3 (by omega) hp hp2 hn) rfl (a_cons (e_var (i := 5) rfl) (a_cons (e_var (i := 6) rfl) a_nil)) rfl
    have m2 : sSetF 3 (fCall [0] F_law_thing [] (lLent 1 (lCons (fVar 5) (lCons (fVar 6) lNil)))) (stG (.scr ns) g3 (some (.fz dd)) o3 o4 (some (.fz (.int (p : Int)))) (some (.fz (.int (n : Int)))) o7 o8 o9) = .nx (stG (.scr ns) g4 (some (.fz dd)) (some (.fz th)) o4 (some (.fz (.int (p : Int)))) (some (.fz (.int (n : Int)))) o7 o8 o9) := by
      rw [e_setF e4]
      rfl
    -- what is due
    let L : List D := [.bl (isI th), .bl (isOrd p th), .bl (isCmp p th), .bl (isMis n th)]
    have gL : Good (.lst L) := ⟨show 4 ≤ 404 by decide, fun e he => by
      simp only [L, List.mem_cons, List.not_mem_nil, or_false] at he
      rcases he with h | h | h | h <;> subst h <;> exact sm_bl⟩
    have m3 : sPar2 7 8 false false (fCons (fCa gRepr (fCons (fVar 3) fNil)) (fCons (fCall [] F_law_due [] (lCons (fVar 3) (lCons (fVar 5) (lCons (fVar 6) lNil)))) fNil)) (stG (.scr ns) g4 (some (.fz dd)) (some (.fz th)) o4 (some (.fz (.int (p : Int)))) (some (.fz (.int (n : Int)))) o7 o8 o9) = .nx (stG (.scr ns) g4 (some (.fz dd)) (some (.fz th)) o4 (some (.fz (.int (p : Int)))) (some (.fz (.int (n : Int)))) (some (.fz (.str th.py.shown))) (some (.fz (.lst L))) o9) := by
      have er := e_ca (q := gRepr) (r := .v (.str th.py.shown)) (e_cons (e_var (i := 3) (s := stG (.scr ns) g4 (some (.fz dd)) (some (.fz th)) o4 (some (.fz (.int (p : Int)))) (some (.fz (.int (n : Int)))) o7 o8 o9) rfl) e_nil) gth.repr
      have ed := e_call (fx := []) (F := F_law_due) (s := stG (.scr ns) g4 (some (.fz dd)) (some (.fz th)) o4 (some (.fz (.int (p : Int)))) (some (.fz (.int (n : Int)))) o7 o8 o9) (a_cons (e_var (i := 3) rfl) (a_cons (e_var (i := 5) rfl) (a_cons (e_var (i := 6) rfl) a_nil))) (sDue gth.fit (by omega) (by omega))
      unfold sPar2
      rw [e_cons er (e_cons ed e_nil)]
      rfl
    -- twice
    let S : Option OT → Option OT → SD := fun o4 o9 => stG (.scr ns) g4 (some (.fz dd)) (some (.fz th)) o4 (some (.fz (.int (p : Int)))) (some (.fz (.int (n : Int)))) (some (.fz (.str th.py.shown))) (some (.fz (.lst L))) o9
    obtain ⟨s5, q5, o4', o9', h5⟩ := e_for (ds := (List.range (2 : Int).toNat).map fun k : Nat => D.int (k : Int)) (g := gNmF 4) (fb := sSeq (sSetF 9 (fLst (fCons (fCall [] F_is_integer [] (lCons (fVar 3) lNil)) (fCons (fCall [] F_is_order [] (lCons (fVar 3) (lCons (fVar 5) lNil))) (fCons (fCall [] F_is_comparison [] (lCons (fVar 3) (lCons (fVar 5) lNil))) fNil))))) (sIf (fOr (fB (fOp gNeL (fCa gRepr (fCons (fOp gAdd (fVar 9) (fLst (fCons (fCall [] F_are_misses [] (lCons (fVar 3) (lCons (fVar 6) lNil))) fNil))) fNil)) (fCa gRepr (fCons (fVar 8) fNil)))) (fB (fOp gNeL (fCa gRepr (fCons (fVar 3) fNil)) (fVar 7)))) (sRet (fC (.bl false))) sNil))
      (fi := iRg1 (fCons (fC (.int 2)) fNil)) (s := S o4 o9) (fun i s => ∃ (o4 o9 : Option OT), s = S o4 o9)
      (i_rg1 (e_cons e_c e_nil) (by decide) (by decide)) ⟨_, _, rfl⟩ (by
      rintro i s de _ ⟨o4, o9, rfl⟩
      let T : SD := S (some (.fz de)) (some (.fz (.lst [.bl (isI th), .bl (isOrd p th), .bl (isCmp p th)])))
      have f1 := e_call (fx := []) (F := F_is_integer) (s := S (some (.fz de)) o9) (a_cons (e_var (i := 3) rfl) a_nil) (sI gth.fit.top)
      have f2 := e_call (fx := []) (F := F_is_order) (s := S (some (.fz de)) o9) (a_cons (e_var (i := 3) rfl) (a_cons (e_var (i := 5) rfl) a_nil)) (sO gth.fit (by omega))
      have f3 := e_call (fx := []) (F := F_is_comparison) (s := S (some (.fz de)) o9) (a_cons (e_var (i := 3) rfl) (a_cons (e_var (i := 5) rfl) a_nil)) (sC gth.fit)
      have n1 : sSetF 9 (fLst (fCons (fCall [] F_is_integer [] (lCons (fVar 3) lNil)) (fCons (fCall [] F_is_order [] (lCons (fVar 3) (lCons (fVar 5) lNil))) (fCons (fCall [] F_is_comparison [] (lCons (fVar 3) (lCons (fVar 5) lNil))) fNil)))) (S (some (.fz de)) o9) = .nx T := by
        rw [e_setF (e_lst (xs := [.fz (.bl (isI th)), .fz (.bl (isOrd p th)), .fz (.bl (isCmp p th))]) (e_cons f1 (e_cons f2 (e_cons f3 e_nil))) (by show 3 ≤ 1000; decide))]
        rfl
      have f4 := e_call (fx := []) (F := F_are_misses) (s := T) (a_cons (e_var (i := 3) rfl) (a_cons (e_var (i := 6) rfl) a_nil)) (sM (m := n) gth.fit)
      have ea := e_op (g := gAdd) (r := .l L) (fa := fVar 9) (s := T) (e_var (i := 9) rfl) (e_lst (xs := [.fz (.bl (isMis n th))]) (e_cons f4 e_nil) (by show 1 ≤ 1000; decide)) rfl
      have rL : gRepr ([(Rt.l L).ot].map OT.frz) = some (.v (.str (D.lst L).py.shown)) := by
        show gRepr [(OT.own (L.map .fz)).frz] = _
        rw [frz_own]
        exact gL.repr
      have x1 := e_tcmp (g := gNeL) (e_ca (e_cons ea e_nil) rL) (e_ca (q := gRepr) (r := .v (.str (D.lst L).py.shown)) (e_cons (e_var (i := 8) rfl) e_nil) gL.repr) ne_ss
      have x2 := e_tcmp (g := gNeL) (s := T) (e_ca (q := gRepr) (r := .v (.str th.py.shown)) (e_cons (e_var (i := 3) rfl) e_nil) gth.repr) (e_var (i := 7) rfl) ne_ss
      have n2 : fOr (fB (fOp gNeL (fCa gRepr (fCons (fOp gAdd (fVar 9) (fLst (fCons (fCall [] F_are_misses [] (lCons (fVar 3) (lCons (fVar 6) lNil))) fNil))) fNil)) (fCa gRepr (fCons (fVar 8) fNil)))) (fB (fOp gNeL (fCa gRepr (fCons (fVar 3) fNil)) (fVar 7))) T = .ok false T := by
        unfold fOr
        rw [x1]
        show (if (!((D.lst L).py.shown == (D.lst L).py.shown)) = true then R.ok true T else fB (fOp gNeL (fCa gRepr (fCons (fVar 3) fNil)) (fVar 7)) T) = _
        rw [beq_self_eq_true, if_neg (by decide), x2, beq_self_eq_true]
        rfl
      exact ⟨S (some (.fz de)) o9, T, rfl, (seq_nx n1).trans (e_no n2), _, _, rfl⟩)
    refine ⟨s5, rfl, (seq_nx m1).trans ((seq_nx m2).trans ((seq_nx m3).trans q5)), g4, _, _, _, _, _, _, _, _, h5, I4.up (by omega)⟩)
  show ∃ bk, endF (sSeq _ (sSeq _ (sRet (fC (.bl true)))) [some (.fz (.scr ns)), none, none, none, none, none, none, none, none, none]) = _
  rw [seq_nx q1, seq_nx q2, e_ret e_c]
  exact ⟨_, rfl⟩
end K11
theorem PySem.Challenge.cw_bearsmisses_k11_kinds_holds : PySem.Challenge.rw_bearsmisses_k11_kinds.Holds := by
  exact K11.holds_of K11.main

