import PyProof.Rows.All
import Wide.All
import OpenK.AllK
import Wide.FinOn
import HandS.ForMost
import HandS.Exc
import HandS.TryOnly
import HandS.ExcOwn
import HandS.WordsExc
import HandS.Defaults
import HandS.Walk
import HandS.IsInst
import HandS.HeadHook1
import HandS.HeadHook2
import HandS.HeadHook3
import HandS.HeadHook4
import KE.KExcIs
import HandS.Deep
import HandS.ExcIs
import HandS.Style
import HandS.Zip
import HandS.Rev
import HandS.Lambda
import KE.KExcSuper
import HandS.ForExc
import HandS.HeadWalk
import HandS.ExcValue
import HandS.RaiseMore
import PyProof.ReprRoads
import HandS.Head0
import HandS.Head1
import HandS.Head2
import HandS.Head3
import HandS.HeadEnd
import HandS.EndBits
import HandS.Text
import HandS.List
import KE.LcSums
import HandS.Property
import HandS.EndTab
import HandS.OwnEq
import HandS.Replace
import PySem.Challenge.RW_unswayed_k97_texts_of_deeds
set_option Elab.async false
set_option linter.all false
set_option maxRecDepth 100000
set_option maxHeartbeats 2000000
/-! PD: a heap-free layer over the hand layer: data, what represents them, predicate transformers over data -/
namespace PD
open PySem PySem.Spec PyProof.Rows L2

/-- data -/
inductive D where
  | non | bl (b : Bool) | int (i : Int) | str (x : Str)
  | lst (xs : List D) | tup (xs : List D) | ktp (xs : List D) | kls (xs : List D)
  | dT (ks : List (List Key)) (xs : List D)
  | dK (ks : List Key) (xs : List D)
  | ins (C : Nat) (xs : List D) | par (C : Nat) (xs : List D)
  | exc (C : Nat) (xs : List D)
  | cls (C : Nat)
  | ty (n : String)
  | drw

/-! ### the classes, by numbers -/
def cName : Nat → Str
  | 0 => "SwayError" | 1 => "BadPrime" | 2 => "BadTable" | 3 => "BadNumber" | 4 => "BadPoly" | 5 => "BadHouse" | 6 => "BadPoint" | 7 => "NoMean" | 8 => "TooMany" | 9 => "BadInner"
  | 10 => "NoStep" | 11 => "BadDeed" | 12 => "BadName" | 13 => "BadLive" | 14 => "NothingLeft" | 15 => "NoMark" | 16 => "NoWatch" | 17 => "BadText" | 18 => "BadLot" | 19 => "BadOthers"
  | 20 => "Swayed" | 21 => "BadRow" | 22 => "BadMakers" | 23 => "BadEquations" | 24 => "LowPrime" | 25 => "BadAlone" | 26 => "BadToll" | 27 => "BadSlant" | 28 => "BadFamily"
  | 40 => "Table" | 41 => "Poly" | 42 => "House" | 43 => "WideField" | 44 => "Slant" | 45 => "LiveHouse" | 46 => "Desk"
  | _ => ""
def cFields : Nat → List Str
  | 3 => ["part"] | 5 => ["part"] | 8 => ["most"] | 15 => ["name"] | 16 => ["name"] | 17 => ["at"]
  | 40 => ["own_prime", "own_tall", "own_wide", "own_lines"]
  | 41 => ["own_prime", "own_wide", "own_terms"]
  | 42 => ["own_prime", "own_wide", "own_tables"]
  | 43 => ["own_prime", "own_degree", "own_modulus"]
  | _ => []
def nCls : Nat := 47
/-- an error's class is below another one -/
def subE (C C2 : Nat) : Bool := decide (C = C2) || decide (C2 = 0)
/-- the name of a class is the module's -/
def KnC (K : PySem.W.Frag) (C : Nat) : Prop := C < nCls ∧ (match PySem.W.nsIn K mainGlobals (cName C) with
  | some (some (.ref _)) => true
  | _ => false) = true
abbrev cA (K : PySem.W.Frag) (C : Nat) : Addr := He.ga K (cName C)
def bTys : List String := ["int", "bool", "str", "list", "tuple", "dict"]
/-- what the written part says of a plain class -/
structure InK (K : PySem.W.Frag) (C : Nat) : Prop where
  cl : Cls K (cA K C)
  ha : PySem.W.findIn K (.ref (cA K C)) "__class__" = some (some (.builtin "object.__class__"))
  hn : PySem.W.specialIn K (.builtin "object.__class__") "__get__" = some (some (.builtin "getset_descriptor.__get__"))
  htk : PySem.W.takesIn K (.builtin "object.__class__") = some true
  hm : PySem.W.mroIn K (cA K C) (.type "object") = some true
  kb : ∀ n ∈ bTys, PySem.W.kitOne K (.ref (cA K C)) (.type n) = some false
  kc : ∀ C2, KnC K C2 → PySem.W.kitOne K (.ref (cA K C)) (.ref (cA K C2)) = some (decide (C = C2))
/-- what it says of an error's class -/
structure ExK (K : PySem.W.Frag) (C : Nat) : Prop where
  ga : PySem.W.findIn K (.ref (cA K C)) "__getattribute__" = some (some (.builtin "BaseException.__getattribute__"))
  gt : PySem.W.findIn K (.ref (cA K C)) "__getattr__" = some none
  sub : PySem.W.subIn K (.ref (cA K C)) (.type "BaseException") = some true
  hd : PySem.W.hasDictIn K (cA K C) = true
  ha : PySem.W.findIn K (.ref (cA K C)) "__class__" = some (some (.builtin "object.__class__"))
  hn : PySem.W.specialIn K (.builtin "object.__class__") "__get__" = some (some (.builtin "getset_descriptor.__get__"))
  htk : PySem.W.takesIn K (.builtin "object.__class__") = some true
  hm : PySem.W.mroIn K (cA K C) (.type "object") = some true
  no : ∀ f ∈ cFields C, PySem.W.findIn K (.ref (cA K C)) f = some none
  kb : ∀ n ∈ bTys, PySem.W.kitOne K (.ref (cA K C)) (.type n) = some false
  kc : ∀ C2, KnC K C2 → PySem.W.kitOne K (.ref (cA K C)) (.ref (cA K C2)) = some (subE C C2)
/-- an exception object, caught: its class, its own dict -/
def ExH (cls : Value) (d : Option Addr) (a : Addr) : HO := .ext fun h => ∃ oe : Obj, h.get? a = some oe ∧ Zc cls d oe ∧ ∃ vs, oe.data = .fields vs

/-- the shared things that may change under all: where they lie, what holds of them, the value that stands for them -/
structure Om where
  own : Addr → Prop
  inv : Hp → Prop
  loc : ∀ H H', inv H → (∀ a, own a → H' a = H a) → (∀ a φ, H a = some (.ext φ) → H' a = some (.ext φ)) → inv H'
  nt : ∀ H a xs, inv H → own a → H a ≠ some (.tup xs)
  drw : V
  fz : Hp

section
variable (Ω : Om) (K : PySem.W.Frag) (G : Hp)
def Kt (a : Addr) (vs : List V) : Prop :=
  ∃ (o : Obj) (its : Array Value) (n : Nat), K.lookup a = some o ∧ o.cls = .type "tuple" ∧ o.data = .seq its n ∧ its.size ≤ sizeLine ∧ Vals vs its.toList
mutual
/-- the value v stands for the datum, by the frozen heap G -/
def Rp : D → V → Prop
  | .non, v => v = .non
  | .bl b, v => v = .bl b
  | .int i, v => v = .int i
  | .str x, v => v = .str x
  | .lst ds, v => ∃ a vs, v = .ref a ∧ G a = some (.lst vs) ∧ Rps ds vs
  | .tup ds, v => ∃ a vs, v = .ref a ∧ G a = some (.tup vs) ∧ Rps ds vs
  | .ktp ds, v => ∃ a vs, v = .ref a ∧ Kt K a vs ∧ Rps ds vs
  | .kls ds, v => ∃ a vs, v = .ref a ∧ SqL K G a vs ∧ Rps ds vs
  | .dT ks ds, v => ∃ a o vs, v = .ref a ∧ G a = some (.frz o (.dT (ks.zip vs))) ∧ ks.length = vs.length ∧ Rps ds vs
  | .dK ks ds, v => ∃ a o vs, v = .ref a ∧ G a = some (.frz o (.dK (ks.zip vs))) ∧ ks.length = vs.length ∧ Rps ds vs
  | .ins C ds, v => ∃ a dx vs, v = .ref a ∧ G a = some (.ins (cA K C) dx ((cFields C).zip vs)) ∧ (cFields C).length = vs.length ∧ InK K C ∧ Rps ds vs
  | .par _ _, _ => False
  | .exc C ds, v => ∃ a d vs, v = .ref a ∧ G a = some (ExH (.ref (cA K C)) d a) ∧ (cFields C).length = vs.length ∧ (cFields C = [] ∧ d = none ∨ ∃ dd, d = some dd ∧ G dd = some (.xd ((cFields C).zip vs))) ∧ ExK K C ∧ Rps ds vs
  | .cls C, v => v = .ref (cA K C)
  | .ty n, v => v = .ty n
  | .drw, v => v = Ω.drw
def Rps : List D → List V → Prop
  | [], vs => vs = []
  | d :: ds, vs => ∃ v r, vs = v :: r ∧ Rp d v ∧ Rps ds r
end
end

section
variable {Ω : Om} {K : PySem.W.Frag} {G G' : Hp}
def Sub (G H : Hp) : Prop := ∀ a o, G a = some o → H a = some o
theorem Sub.refl (G : Hp) : Sub G G := fun _ _ h => h
theorem Sub.trans {G H J : Hp} (a : Sub G H) (b : Sub H J) : Sub G J := fun c o h => b c o (a c o h)
theorem Sub.new {G : Hp} {p : Addr} {o : HO} (h : G p = none) : Sub G (upd G p o) := fun a u e => by
  rw [upd_ne (ne_of_none e h)]
  exact e
theorem Sub.rd (s : Sub G G') {a : Addr} {u : HO} (h : Rd G a u) : Rd G' a u := by
  rcases h with h | ⟨o, h⟩
  · exact .inl (s _ _ h)
  · exact .inr ⟨o, s _ _ h⟩
theorem Sub.sqL (s : Sub G G') {a : Addr} {xs : List V} (h : SqL K G a xs) : SqL K G' a xs := by
  rcases h with h | h
  · exact .inl (s.rd h)
  · exact .inr h
theorem Sub.sqT (s : Sub G G') {a : Addr} {xs : List V} (h : SqT K G a xs) : SqT K G' a xs := by
  rcases h with h | h
  · exact .inl (s.rd h)
  · exact .inr h
mutual
theorem Rp.mono (s : Sub G G') : ∀ {d : D} {v : V}, Rp Ω K G d v → Rp Ω K G' d v
  | .non, _, h => h
  | .bl _, _, h => h
  | .int _, _, h => h
  | .str _, _, h => h
  | .lst ds, _, ⟨a, vs, e, g, r⟩ => ⟨a, vs, e, s _ _ g, Rps.mono s r⟩
  | .tup ds, _, ⟨a, vs, e, g, r⟩ => ⟨a, vs, e, s _ _ g, Rps.mono s r⟩
  | .ktp ds, _, ⟨a, vs, e, g, r⟩ => ⟨a, vs, e, g, Rps.mono s r⟩
  | .kls ds, _, ⟨a, vs, e, g, r⟩ => ⟨a, vs, e, s.sqL g, Rps.mono s r⟩
  | .dT ks ds, _, ⟨a, o, vs, e, g, l, r⟩ => ⟨a, o, vs, e, s _ _ g, l, Rps.mono s r⟩
  | .dK ks ds, _, ⟨a, o, vs, e, g, l, r⟩ => ⟨a, o, vs, e, s _ _ g, l, Rps.mono s r⟩
  | .ins C ds, _, ⟨a, dx, vs, e, g, l, k, r⟩ => ⟨a, dx, vs, e, s _ _ g, l, k, Rps.mono s r⟩
  | .par _ _, _, h => h.elim
  | .exc C ds, _, ⟨a, d, vs, e, g, l, x, k, r⟩ => ⟨a, d, vs, e, s _ _ g, l, x.imp id (fun ⟨dd, e, y⟩ => ⟨dd, e, s _ _ y⟩), k, Rps.mono s r⟩
  | .cls _, _, h => h
  | .ty _, _, h => h
  | .drw, _, h => h
theorem Rps.mono (s : Sub G G') : ∀ {ds : List D} {vs : List V}, Rps Ω K G ds vs → Rps Ω K G' ds vs
  | [], _, h => h
  | _ :: _, _, ⟨v, r, e, h, t⟩ => ⟨v, r, e, Rp.mono s h, Rps.mono s t⟩
end
theorem Rps.nil : Rps Ω K G [] [] := rfl
theorem Rps.cons {d : D} {v : V} {ds : List D} {vs : List V} (h : Rp Ω K G d v) (t : Rps Ω K G ds vs) : Rps Ω K G (d :: ds) (v :: vs) := ⟨v, vs, rfl, h, t⟩
theorem Rps.length : ∀ {ds : List D} {vs : List V}, Rps Ω K G ds vs → vs.length = ds.length
  | [], _, h => by rw [show _ = _ from h]; rfl
  | _ :: _, _, ⟨_, _, e, _, t⟩ => by rw [e, List.length_cons, List.length_cons, Rps.length t]
theorem Rps.get : ∀ {ds : List D} {vs : List V} {i : Nat} {v : V}, Rps Ω K G ds vs → vs[i]? = some v → ∃ d, ds[i]? = some d ∧ Rp Ω K G d v
  | [], _, _, _, h, e => by rw [show _ = _ from h] at e; simp at e
  | d :: ds, _, 0, v, ⟨w, r, e1, h, t⟩, e => by
    rw [e1] at e; simp at e; subst e; exact ⟨d, rfl, h⟩
  | d :: ds, _, i + 1, v, ⟨w, r, e1, h, t⟩, e => by
    rw [e1] at e
    obtain ⟨x, h1, h2⟩ := Rps.get (i := i) t (by simpa using e)
    exact ⟨x, by simpa using h1, h2⟩
theorem Rps.getD : ∀ {ds : List D} {vs : List V} {i : Nat} {d : D}, Rps Ω K G ds vs → ds[i]? = some d → ∃ v, vs[i]? = some v ∧ Rp Ω K G d v
  | [], _, _, _, _, e => by simp at e
  | _ :: ds, _, 0, d, ⟨w, r, e1, h, t⟩, e => by
    simp at e; subst e; exact ⟨w, by rw [e1]; rfl, h⟩
  | _ :: ds, _, i + 1, d, ⟨w, r, e1, h, t⟩, e => by
    obtain ⟨x, h1, h2⟩ := Rps.getD (i := i) t (by simpa using e)
    exact ⟨x, by rw [e1]; simpa using h1, h2⟩
theorem Rps.append : ∀ {ds es : List D} {vs us : List V}, Rps Ω K G ds vs → Rps Ω K G es us → Rps Ω K G (ds ++ es) (vs ++ us)
  | [], _, _, _, h, t => by rw [show _ = _ from h]; exact t
  | d :: ds, _, _, _, ⟨w, r, e1, h, q⟩, t => by rw [e1]; exact ⟨w, r ++ _, rfl, h, Rps.append q t⟩
theorem Rps.snoc {ds : List D} {d : D} {vs : List V} {v : V} (h : Rps Ω K G ds vs) (t : Rp Ω K G d v) : Rps Ω K G (ds ++ [d]) (vs ++ [v]) := h.append (.cons t .nil)
theorem Rps.set : ∀ {ds : List D} {vs : List V} (i : Nat) {d : D} {v : V}, Rps Ω K G ds vs → Rp Ω K G d v → Rps Ω K G (ds.set i d) (vs.set i v)
  | [], _, _, _, _, h, _ => by rw [show _ = _ from h]; rfl
  | _ :: ds, _, 0, d, v, ⟨w, r, e1, h, t⟩, q => by rw [e1]; exact ⟨v, r, rfl, q, t⟩
  | _ :: ds, _, i + 1, d, v, ⟨w, r, e1, h, t⟩, q => by rw [e1]; exact ⟨w, r.set i v, rfl, h, Rps.set i t q⟩
theorem Rps.take : ∀ {ds : List D} {vs : List V} (n : Nat), Rps Ω K G ds vs → Rps Ω K G (ds.take n) (vs.take n)
  | [], _, n, h => by rw [show _ = _ from h]; simp [Rps]
  | _ :: ds, _, 0, h => by simp [Rps]
  | _ :: ds, _, n + 1, ⟨w, r, e1, h, t⟩ => by rw [e1]; exact ⟨w, r.take n, rfl, h, Rps.take n t⟩
theorem Rps.drop : ∀ {ds : List D} {vs : List V} (n : Nat), Rps Ω K G ds vs → Rps Ω K G (ds.drop n) (vs.drop n)
  | [], _, n, h => by rw [show _ = _ from h]; simp [Rps]
  | _ :: ds, _, 0, h => h
  | _ :: ds, _, n + 1, ⟨w, r, e1, h, t⟩ => by rw [e1]; exact Rps.drop n t
theorem Rps.rev : ∀ {ds : List D} {vs : List V}, Rps Ω K G ds vs → Rps Ω K G ds.reverse vs.reverse
  | [], _, h => by rw [show _ = _ from h]; simp [Rps]
  | d :: ds, _, ⟨w, r, e1, h, t⟩ => by rw [e1, List.reverse_cons, List.reverse_cons]; exact (Rps.rev t).snoc h
theorem Rps.eraseIdx : ∀ {ds : List D} {vs : List V} (i : Nat), Rps Ω K G ds vs → Rps Ω K G (ds.eraseIdx i) (vs.eraseIdx i)
  | [], _, _, h => by rw [show _ = _ from h]; simp [Rps]
  | _ :: ds, _, 0, ⟨w, r, e1, h, t⟩ => by rw [e1]; exact t
  | _ :: ds, _, i + 1, ⟨w, r, e1, h, t⟩ => by rw [e1]; exact ⟨w, r.eraseIdx i, rfl, h, Rps.eraseIdx i t⟩
/-- lists of ints, bools, texts -/
theorem Rps.ints : ∀ {ns : List Int} {vs : List V}, Rps Ω K G (ns.map D.int) vs → vs = ns.map V.int
  | [], _, h => h
  | n :: ns, _, ⟨w, r, e1, h, t⟩ => by rw [e1, Rps.ints t]; rw [show w = _ from h]; rfl
theorem Rps.bls : ∀ {ns : List Bool} {vs : List V}, Rps Ω K G (ns.map D.bl) vs → vs = ns.map V.bl
  | [], _, h => h
  | n :: ns, _, ⟨w, r, e1, h, t⟩ => by rw [e1, Rps.bls t]; rw [show w = _ from h]; rfl
theorem Rps.strs_ : ∀ {ns : List Str} {vs : List V}, Rps Ω K G (ns.map D.str) vs → vs = ns.map V.str
  | [], _, h => h
  | n :: ns, _, ⟨w, r, e1, h, t⟩ => by rw [e1, Rps.strs_ t]; rw [show w = _ from h]; rfl
theorem rps_ints (ns : List Int) : Rps Ω K G (ns.map D.int) (ns.map V.int) := by
  induction ns with
  | nil => rfl
  | cons n ns ih => exact ⟨_, _, rfl, rfl, ih⟩
theorem rps_strs (ns : List Str) : Rps Ω K G (ns.map D.str) (ns.map V.str) := by
  induction ns with
  | nil => rfl
  | cons n ns ih => exact ⟨_, _, rfl, rfl, ih⟩
end

/-- a slot: not known, frozen, or an object of one's own that no one else names -/
inductive Sl where
  | no | fro (d : D) | own (d : D)
/-- where the def was entered -/
structure Bs where
  G0 : Hp
  H0 : Hp
  X0 : Option Addr
structure Ct where
  Om : Om
  B : Bs

/-- what is kept, one's own objects apart -/
structure Out (c : Ct) (G H : Hp) : Prop where
  sub : Sub G H
  inv : c.Om.inv H
  omG : ∀ a, c.Om.own a → G a = none
  omH : ∀ a, c.Om.own a → ∃ o, H a = some o
  fz : Sub c.Om.fz G
  ext : Sub c.B.G0 G
  kp : ∀ a o, c.B.H0 a = some o → ¬ c.Om.own a → c.B.X0 ≠ some a → H a = some o ∧ (c.B.G0 a = none → Mut (some o) → G a = none)
  tb : ∀ a ps, G a ≠ some (.tbl ps)
theorem tb_upd {G : Hp} {p : Addr} {u : HO} (h : ∀ a ps, G a ≠ some (.tbl ps)) (hu : ∀ ps, u ≠ .tbl ps) : ∀ a ps, upd G p u a ≠ some (.tbl ps) := fun a ps e => by
  by_cases z : a = p
  · rw [z, upd_same] at e; exact hu ps (Option.some.inj e)
  · rw [upd_ne z] at e; exact h a ps e

/-- p holds an object of one's own -/
def OwD (Ω : Om) (K : PySem.W.Frag) (G : Hp) : D → HO → Prop
  | .lst ds, o => ∃ vs, o = .lst vs ∧ Rps Ω K G ds vs
  | .dT ks ds, o => ∃ vs, o = .dT (ks.zip vs) ∧ ks.length = vs.length ∧ Rps Ω K G ds vs
  | .dK ks ds, o => ∃ vs, o = .dK (ks.zip vs) ∧ ks.length = vs.length ∧ Rps Ω K G ds vs
  | .ins C ds, o => ∃ dx vs, o = .ins (cA K C) dx ((cFields C).zip vs) ∧ (cFields C).length = vs.length ∧ InK K C ∧ Rps Ω K G ds vs
  | .par C ds, o => ∃ dx vs, o = .ins (cA K C) dx ((cFields C).zip vs) ∧ vs.length ≤ (cFields C).length ∧ InK K C ∧ Rps Ω K G ds vs
  | _, _ => False
structure Ow (Ω : Om) (K : PySem.W.Frag) (G H : Hp) (d : D) (p : Addr) : Prop where
  g : G p = none
  om : ¬ Ω.own p
  ob : ∃ o, H p = some o ∧ OwD Ω K G d o
theorem OwD.mono {Ω : Om} {K : PySem.W.Frag} {G G' : Hp} (s : Sub G G') {d : D} {o : HO} (h : OwD Ω K G d o) : OwD Ω K G' d o := by
  cases d with
  | lst ds => obtain ⟨vs, e, r⟩ := h; exact ⟨vs, e, r.mono s⟩
  | dT ks ds => obtain ⟨vs, e, l, r⟩ := h; exact ⟨vs, e, l, r.mono s⟩
  | dK ks ds => obtain ⟨vs, e, l, r⟩ := h; exact ⟨vs, e, l, r.mono s⟩
  | ins C ds => obtain ⟨dx, vs, e, l, k, r⟩ := h; exact ⟨dx, vs, e, l, k, r.mono s⟩
  | par C ds => obtain ⟨dx, vs, e, l, k, r⟩ := h; exact ⟨dx, vs, e, l, k, r.mono s⟩
  | _ => exact h.elim
theorem OwD.mut {Ω : Om} {K : PySem.W.Frag} {G : Hp} {d : D} {o : HO} (h : OwD Ω K G d o) : Mut (some o) := by
  cases d with
  | lst ds => obtain ⟨vs, rfl, r⟩ := h; trivial
  | dT ks ds => obtain ⟨vs, rfl, l, r⟩ := h; trivial
  | dK ks ds => obtain ⟨vs, rfl, l, r⟩ := h; trivial
  | ins C ds => obtain ⟨dx, vs, rfl, l, k, r⟩ := h; trivial
  | par C ds => obtain ⟨dx, vs, rfl, l, k, r⟩ := h; trivial
  | _ => exact h.elim

theorem OwD.notbl {Ω : Om} {K : PySem.W.Frag} {G : Hp} {d : D} {ps : Array Value} (h : OwD Ω K G d (.tbl ps)) : False := by
  cases d with
  | lst ds => obtain ⟨vs, e, r⟩ := h; cases e
  | dT ks ds => obtain ⟨vs, e, l, r⟩ := h; cases e
  | dK ks ds => obtain ⟨vs, e, l, r⟩ := h; cases e
  | ins C ds => obtain ⟨dx, vs, e, l, k, r⟩ := h; cases e
  | par C ds => obtain ⟨dx, vs, e, l, k, r⟩ := h; cases e
  | _ => exact h.elim
theorem OwD.noext {Ω : Om} {K : PySem.W.Frag} {G : Hp} {d : D} {φ : Heap → Prop} (h : OwD Ω K G d (.ext φ)) : False := by
  cases d with
  | lst ds => obtain ⟨vs, e, r⟩ := h; cases e
  | dT ks ds => obtain ⟨vs, e, l, r⟩ := h; cases e
  | dK ks ds => obtain ⟨vs, e, l, r⟩ := h; cases e
  | ins C ds => obtain ⟨dx, vs, e, l, k, r⟩ := h; cases e
  | par C ds => obtain ⟨dx, vs, e, l, k, r⟩ := h; cases e
  | _ => exact h.elim

def parB : D → Bool
  | .par _ _ => true
  | _ => false
/-- where an object of one's own is from; one half made is the one that was handed in -/
def FrO (c : Ct) (d : D) (p : Addr) : Prop := (c.B.H0 p = none ∨ c.B.X0 = some p) ∧ (parB d = true → c.B.X0 = some p)
/-- the slots -/
def OwnAt (σ : L2.St) (δ : List Sl) (a : Addr) : Prop := ∃ (i : Nat) (d : D), δ[i]? = some (.own d) ∧ σ[i]? = some (some (.ref a))
structure SR (c : Ct) (K : PySem.W.Frag) (G H : Hp) (σ : L2.St) (δ : List Sl) : Prop where
  out : Out c G H
  len : δ.length = σ.length
  fro : ∀ (i : Nat) d, δ[i]? = some (.fro d) → ∃ v, σ[i]? = some (some v) ∧ Rp c.Om K G d v
  own : ∀ (i : Nat) d, δ[i]? = some (.own d) → ∃ p, σ[i]? = some (some (.ref p)) ∧ Ow c.Om K G H d p ∧ FrO c d p
  sep : ∀ (i j : Nat) d e p, δ[i]? = some (.own d) → δ[j]? = some (.own e) → σ[i]? = some (some (.ref p)) → σ[j]? = some (some (.ref p)) → i = j
/-- what an expression keeps -/
structure Kp (c : Ct) (G H : Hp) (σ : L2.St) (δ δ' : List Sl) (G' H' : Hp) : Prop where
  ext : Sub G G'
  old : ∀ a, OwnAt σ δ' a → OwnAt σ δ a
  nu : ∀ a, H' a = none → H a = none
  kp : ∀ a o, H a = some o → ¬ c.Om.own a → ¬ OwnAt σ δ a → H' a = some o ∧ (G a = none → Mut (some o) → G' a = none)
/-- what a value is worth -/
structure RV (c : Ct) (K : PySem.W.Frag) (H : Hp) (G' H' : Hp) (d : D) (o : Bool) (v : V) : Prop where
  fro : o = false → Rp c.Om K G' d v
  own : o = true → ∃ p, v = .ref p ∧ H p = none ∧ Ow c.Om K G' H' d p ∧ parB d = false

abbrev WE := List Sl → (D → Bool → List Sl → Prop) → Prop
abbrev WT := List Sl → (Bool → List Sl → Prop) → Prop
abbrev WA := List Sl → (List D → List Sl → Prop) → Prop
structure DE where
  nx : List Sl → Prop
  rt : D → Bool → Prop
  bk : List Sl → Prop := fun _ => False
  ct : List Sl → Prop := fun _ => False
abbrev WS := DE → List Sl → Prop

/-- the readings -/
def lE (c : Ct) (K : PySem.W.Frag) (w : WE) : TE := fun σ H Q => ∃ G δ, SR c K G H σ δ ∧ w δ fun d o δ' => ∀ v G' H', SR c K G' H' σ δ' → Kp c G H σ δ δ' G' H' → RV c K H G' H' d o v → Q v H'
def lT (c : Ct) (K : PySem.W.Frag) (w : WT) : TT := fun σ H Q => ∃ G δ, SR c K G H σ δ ∧ w δ fun b δ' => ∀ G' H', SR c K G' H' σ δ' → Kp c G H σ δ δ' G' H' → Q b H'
def lA (c : Ct) (K : PySem.W.Frag) (w : WA) : TA := fun σ H Q => ∃ G δ, SR c K G H σ δ ∧ w δ fun ds δ' => ∀ vs G' H', SR c K G' H' σ δ' → Kp c G H σ δ δ' G' H' → Rps c.Om K G' ds vs → Q vs H'
/-- what a def hands back -/
structure RO (c : Ct) (K : PySem.W.Frag) (G' H' : Hp) (d : D) (o : Bool) (v : V) : Prop where
  fro : o = false → Rp c.Om K G' d v
  own : o = true → ∃ p, v = .ref p ∧ (c.B.H0 p = none ∨ c.B.X0 = some p) ∧ Ow c.Om K G' H' d p ∧ parB d = false
def lS (c : Ct) (K : PySem.W.Frag) (w : WS) : TS := fun X σ H => ∃ G δ, SR c K G H σ δ ∧ ∃ Z : DE, w Z δ ∧
  (∀ σ' δ' G' H', SR c K G' H' σ' δ' → Sub G G' → Z.nx δ' → X.nx σ' H') ∧ (∀ v d o G' H', Out c G' H' → RO c K G' H' d o v → Z.rt d o → X.rt v H') ∧
  (∀ σ' δ' G' H', SR c K G' H' σ' δ' → Sub G G' → Z.bk δ' → X.bk σ' H') ∧ (∀ σ' δ' G' H', SR c K G' H' σ' δ' → Sub G G' → Z.ct δ' → X.ct σ' H')
theorem lS_sub {c : Ct} {K : PySem.W.Frag} {w : WS} {X : Ends} {σ : L2.St} {H : Hp} {G : Hp} {δ : List Sl} {Z : DE} {G0 : Hp} (S : SR c K G H σ δ) (h : w Z δ) (sb : Sub G0 G)
  (n : (∀ σ' δ' G' H', SR c K G' H' σ' δ' → Sub G0 G' → Z.nx δ' → X.nx σ' H') ∧ (∀ v d o G' H', Out c G' H' → RO c K G' H' d o v → Z.rt d o → X.rt v H') ∧
  (∀ σ' δ' G' H', SR c K G' H' σ' δ' → Sub G0 G' → Z.bk δ' → X.bk σ' H') ∧ (∀ σ' δ' G' H', SR c K G' H' σ' δ' → Sub G0 G' → Z.ct δ' → X.ct σ' H')) : lS c K w X σ H :=
  ⟨G, δ, S, Z, h, fun a b c d e f g => n.1 a b c d e (sb.trans f) g, n.2.1, fun a b c d e f g => n.2.2.1 a b c d e (sb.trans f) g, fun a b c d e f g => n.2.2.2 a b c d e (sb.trans f) g⟩

def MoE (w : WE) : Prop := ∀ δ Q Q', (∀ d o δ', Q d o δ' → Q' d o δ') → w δ Q → w δ Q'
def MoT (w : WT) : Prop := ∀ δ Q Q', (∀ b δ', Q b δ' → Q' b δ') → w δ Q → w δ Q'
def MoA (w : WA) : Prop := ∀ δ Q Q', (∀ ds δ', Q ds δ' → Q' ds δ') → w δ Q → w δ Q'
structure DE.Le (Z Z' : DE) : Prop where
  nx : ∀ δ, Z.nx δ → Z'.nx δ
  rt : ∀ d o, Z.rt d o → Z'.rt d o
  bk : ∀ δ, Z.bk δ → Z'.bk δ
  ct : ∀ δ, Z.ct δ → Z'.ct δ
def MoS (w : WS) : Prop := ∀ Z Z' δ, Z.Le Z' → w Z δ → w Z' δ

structure QE (X : Cx) (c : Ct) (e : Expr) (w : WE) : Prop where
  mo : MoE w
  pe : PE X e (lE c X.K w)
structure QT (X : Cx) (c : Ct) (e : Expr) (w : WT) : Prop where
  mo : MoT w
  pt : PT X e (lT c X.K w)
structure QA (X : Cx) (c : Ct) (es : List Expr) (w : WA) : Prop where
  mo : MoA w
  pa : PA X es (lA c X.K w)
structure QS (X : Cx) (c : Ct) (st : Stmt) (w : WS) : Prop where
  mo : MoS w
  ps : PS X st (lS c X.K w)
structure QSs (X : Cx) (c : Ct) (st : List Stmt) (w : WS) : Prop where
  mo : MoS w
  ps : PSs X st (lS c X.K w)
end PD

set_option Elab.async false
set_option linter.all false
set_option maxRecDepth 100000
set_option maxHeartbeats 2000000
/-! PD, second part: locks, freezing, names, constants, operators -/
namespace PD
open PySem PySem.Spec PyProof.Rows L2

/-! ### locks -/
/-- behind some locks R holds -/
inductive Lks : Hp → (Hp → Prop) → Prop
  | done {H : Hp} {R : Hp → Prop} : R H → Lks H R
  | step {H : Hp} {R : Hp → Prop} {d : Addr} {u : HO} : H d = some u → Mut (some u) → (∀ od, Lks (upd H d (.frz od u)) R) → Lks H R
theorem Lks.imp {H : Hp} {R R' : Hp → Prop} (h : Lks H R) (f : ∀ H, R H → R' H) : Lks H R' := by
  induction h with
  | done r => exact .done (f _ r)
  | step a b _ ih => exact .step a b fun od => ih od f
theorem Lks.bind {H : Hp} {R R' : Hp → Prop} (h : Lks H R) (f : ∀ H, R H → Lks H R') : Lks H R' := by
  induction h with
  | done r => exact f _ r
  | step a b _ ih => exact .step a b fun od => ih od f
section
variable {X : Cx} {pins : List (Addr × Obj)} {σ : L2.St} {H : Hp} {s : Shared}
theorem lks_inv {R : Hp → Prop} (h : Lks H R) (I : Inv X pins σ H s) : ∃ H', Inv X pins σ H' s ∧ R H' := by
  induction h with
  | done r => exact ⟨_, I, r⟩
  | step a b _ ih =>
    obtain ⟨od, I1⟩ := I.lock a b
    exact ih od I1
end
section
variable {X : Cx} {e : Expr} {es : List Expr} {st : Stmt} {sts : List Stmt}
theorem pe_lk {t t' : TE} (h : PE X e t) (hw : ∀ σ H Q, t' σ H Q → Lks H fun H1 => t σ H1 fun v H2 => Lks H2 (Q v)) : PE X e t' := by
  refine ⟨fun pins s σ H Q I q => ?_⟩
  obtain ⟨H1, I1, q1⟩ := lks_inv (hw σ H Q q) I
  refine thn (h.run pins s σ H1 _ I1 q1) fun v s1 ⟨x, H2, I2, r, q2⟩ => ?_
  obtain ⟨H3, I3, q3⟩ := lks_inv q2 I2
  exact ⟨x, H3, I3, r, q3⟩
theorem pt_lk {t t' : TT} (h : PT X e t) (hw : ∀ σ H Q, t' σ H Q → Lks H fun H1 => t σ H1 fun v H2 => Lks H2 (Q v)) : PT X e t' := by
  refine ⟨fun pins s σ H Q I q => ?_⟩
  obtain ⟨H1, I1, q1⟩ := lks_inv (hw σ H Q q) I
  refine thn (h.run pins s σ H1 _ I1 q1) fun v s1 ⟨H2, I2, q2⟩ => ?_
  obtain ⟨H3, I3, q3⟩ := lks_inv q2 I2
  exact ⟨H3, I3, q3⟩
theorem pw_lk {t t' : TT} (h : PW X e t) (hw : ∀ σ H Q, t' σ H Q → Lks H fun H1 => t σ H1 fun v H2 => Lks H2 (Q v)) : PW X e t' := by
  refine ⟨fun wh pins s σ H Q I q => ?_⟩
  obtain ⟨H1, I1, q1⟩ := lks_inv (hw σ H Q q) I
  refine thn (h.run wh pins s σ H1 _ I1 q1) fun v s1 ⟨H2, I2, q2⟩ => ?_
  obtain ⟨H3, I3, q3⟩ := lks_inv q2 I2
  exact ⟨H3, I3, q3⟩
theorem pa_lk {t t' : TA} (h : PA X es t) (hw : ∀ σ H Q, t' σ H Q → Lks H fun H1 => t σ H1 fun v H2 => Lks H2 (Q v)) : PA X es t' := by
  refine ⟨fun pos pins s σ H Q I q => ?_⟩
  obtain ⟨H1, I1, q1⟩ := lks_inv (hw σ H Q q) I
  refine thn (h.run pos pins s σ H1 _ I1 q1) fun v s1 ⟨x, H2, I2, r, q2⟩ => ?_
  obtain ⟨H3, I3, q3⟩ := lks_inv q2 I2
  exact ⟨x, H3, I3, r, q3⟩
def lkD (Z : Ends) : Ends := ⟨fun σ H => Lks H (Z.nx σ), fun v H => Lks H (Z.rt v), fun σ H => Lks H (Z.bk σ), fun σ H => Lks H (Z.ct σ)⟩
theorem sp_lk {pins : List (Addr × Obj)} {Z : Ends} {f : Flow} {s : Shared} (h : SP X pins (lkD Z) f s) : SP X pins Z f s := by
  cases f with
  | next => obtain ⟨σ', H', I, q⟩ := h; obtain ⟨H3, I3, q3⟩ := lks_inv q I; exact ⟨σ', H3, I3, q3⟩
  | brk => obtain ⟨σ', H', I, q⟩ := h; obtain ⟨H3, I3, q3⟩ := lks_inv q I; exact ⟨σ', H3, I3, q3⟩
  | cont => obtain ⟨σ', H', I, q⟩ := h; obtain ⟨H3, I3, q3⟩ := lks_inv q I; exact ⟨σ', H3, I3, q3⟩
  | ret u => obtain ⟨v, σ', H', I, r, q⟩ := h; obtain ⟨H3, I3, q3⟩ := lks_inv q I; exact ⟨v, σ', H3, I3, r, q3⟩
theorem ps_lk {t t' : TS} (h : PS X st t) (hw : ∀ Z σ H, t' Z σ H → Lks H fun H1 => t (lkD Z) σ H1) : PS X st t' := by
  refine ⟨fun pins s σ H Z I q => ?_⟩
  obtain ⟨H1, I1, q1⟩ := lks_inv (hw Z σ H q) I
  exact thn (h.run pins s σ H1 _ I1 q1) fun f s1 q2 => sp_lk q2
theorem pss_lk {t t' : TS} (h : PSs X sts t) (hw : ∀ Z σ H, t' Z σ H → Lks H fun H1 => t (lkD Z) σ H1) : PSs X sts t' := by
  refine ⟨fun pins s σ H Z I q => ?_⟩
  obtain ⟨H1, I1, q1⟩ := lks_inv (hw Z σ H q) I
  exact thn (h.run pins s σ H1 _ I1 q1) fun f s1 q2 => sp_lk q2
end

/-! ### keeping -/
section
variable {c : Ct} {K : PySem.W.Frag} {G G1 G2 H H1 H2 : Hp} {σ : L2.St} {δ δ1 δ2 : List Sl}
theorem Kp.refl : Kp c G H σ δ δ G H := ⟨Sub.refl _, fun _ h => h, fun _ h => h, fun a o h _ _ => ⟨h, fun g _ => g⟩⟩
theorem Kp.trans (a : Kp c G H σ δ δ1 G1 H1) (b : Kp c G1 H1 σ δ1 δ2 G2 H2) : Kp c G H σ δ δ2 G2 H2 :=
  ⟨a.ext.trans b.ext, fun x h => a.old x (b.old x h), fun x h => a.nu x (b.nu x h), fun x o h n1 n2 => by
    obtain ⟨h1, g1⟩ := a.kp x o h n1 n2
    obtain ⟨h2, g2⟩ := b.kp x o h1 n1 (fun z => n2 (a.old x z))
    exact ⟨h2, fun g m => g2 (g1 g m) m⟩⟩
theorem SR.notNew (S : SR c K G H σ δ) {p : Addr} (h : H p = none) : ¬ OwnAt σ δ p := fun ⟨i, d, h1, h2⟩ => by
  obtain ⟨q, h3, w, _⟩ := S.own i d h1
  rw [h2] at h3
  cases h3
  obtain ⟨u, h5, _⟩ := w.ob
  rw [h] at h5
  cases h5
theorem Out.h0 (o : Out c G H) {p : Addr} (h : H p = none) (om : ¬ c.Om.own p) : c.B.H0 p = none ∨ c.B.X0 = some p := by
  cases e : c.B.H0 p with
  | none => exact .inl rfl
  | some u =>
    by_cases q : c.B.X0 = some p
    · exact .inr q
    · have z := (o.kp p u e om q).1
      rw [h] at z
      cases z
theorem Out.nom (o : Out c G H) {p : Addr} (h : H p = none) : ¬ c.Om.own p := fun z => by
  obtain ⟨u, e⟩ := o.omH p z
  rw [h] at e
  cases e
theorem upd_nu {p a : Addr} {u : HO} {H : Hp} (h : upd H p u a = none) : H a = none := by
  by_cases e : a = p
  · rw [e, upd_same] at h; cases h
  · rw [upd_ne e] at h; exact h
theorem Out.gone (o : Out c G H) {p : Addr} (h : H p = none) : G p = none := by
  cases e : G p with
  | none => rfl
  | some u =>
    have z := o.sub p u e
    rw [h] at z
    cases z
theorem noext_ob {Ω : Om} {K : PySem.W.Frag} {G H : Hp} {d : D} {p : Addr} {u : HO} (w : Ow Ω K G H d p) (hp : H p = some u) : ∀ φ, some u ≠ some (HO.ext φ) := fun φ z => by
  obtain ⟨o, e1, e2⟩ := w.ob
  rw [hp, z] at e1
  cases e1
  exact e2.noext
theorem notbl_ob {Ω : Om} {K : PySem.W.Frag} {G H : Hp} {d : D} {p : Addr} {u : HO} (w : Ow Ω K G H d p) (hp : H p = some u) : ∀ ps, u ≠ .tbl ps := fun ps z => by
  obtain ⟨o, e1, e2⟩ := w.ob
  rw [hp, z] at e1
  cases e1
  exact e2.notbl
/-- an object of one's own (or a new one) is frozen, perhaps locked -/
theorem frz_at (S : SR c K G H σ δ) {p : Addr} {u u' : HO} (hnt : ∀ ps, u ≠ .tbl ps) (hnx : ∀ φ, some u ≠ some (.ext φ)) (hp : H p = some u) (hu : u' = u ∨ ∃ od, u' = .frz od u) (g : G p = none) (om : ¬ c.Om.own p) (fr : c.B.H0 p = none ∨ c.B.X0 = some p)
    (hl : δ1.length = σ.length)
    (ho : ∀ (i : Nat) d, δ1[i]? = some (.own d) → δ[i]? = some (.own d) ∧ σ[i]? ≠ some (some (.ref p)))
    (hf : ∀ (i : Nat) d, δ1[i]? = some (.fro d) → δ[i]? = some (.fro d) ∨ (σ[i]? = some (some (.ref p)) ∧ Rp c.Om K (upd G p u') d (.ref p))) :
    SR c K (upd G p u') (upd H p u') σ δ1 := by
  have sg : Sub G (upd G p u') := Sub.new g
  have neO : ∀ a, c.Om.own a → a ≠ p := fun a ha z => om (by rw [← z]; exact ha)
  refine ⟨⟨fun a o e => ?_, ?_, fun a ha => ?_, fun a ha => ?_, S.out.fz.trans sg, S.out.ext.trans sg, fun a o e n x => ?_, tb_upd S.out.tb (fun ps z => by rcases hu with hu | ⟨od, hu⟩ <;> rw [hu] at z <;> first | exact hnt ps z | cases z)⟩, hl, fun i d e => ?_, fun i d e => ?_, fun i j d e q h1 h2 h3 h4 => ?_⟩
  · by_cases h : a = p
    · subst h; rw [upd_same] at e ⊢; exact e
    · rw [upd_ne h] at e ⊢; exact S.out.sub a o e
  · refine c.Om.loc H _ S.out.inv (fun a ha => by rw [upd_ne (neO a ha)]) fun a φ e => ?_
    rw [upd_ne (fun z => hnx φ (by rw [← hp, ← z]; exact e))]; exact e
  · rw [upd_ne (neO a ha)]; exact S.out.omG a ha
  · rw [upd_ne (neO a ha)]; exact S.out.omH a ha
  · have ne : a ≠ p := fun z => by
      subst z
      rcases fr with fr | fr
      · rw [fr] at e; cases e
      · exact x fr
    rw [upd_ne ne, upd_ne ne]
    exact S.out.kp a o e n x
  · rcases hf i d e with h | ⟨h, r⟩
    · obtain ⟨v, h1, h2⟩ := S.fro i d h
      exact ⟨v, h1, h2.mono sg⟩
    · exact ⟨_, h, r⟩
  · obtain ⟨h1, h2⟩ := ho i d e
    obtain ⟨q, h3, w, f⟩ := S.own i d h1
    have ne : q ≠ p := fun z => h2 (z ▸ h3)
    obtain ⟨o, e1, e2⟩ := w.ob
    exact ⟨q, h3, ⟨by rw [upd_ne ne]; exact w.g, w.om, o, by rw [upd_ne ne]; exact e1, e2.mono sg⟩, f⟩
  · exact S.sep i j d e q (ho i d h1).1 (ho j e h2).1 h3 h4
/-- a value, frozen -/
theorem fz {d : D} {o : Bool} {v : V} (S0 : SR c K G H σ δ) (S : SR c K G1 H1 σ δ1) (k : Kp c G H σ δ δ1 G1 H1) (r : RV c K H G1 H1 d o v) :
    Lks H1 fun H2 => ∃ G2, SR c K G2 H2 σ δ1 ∧ Kp c G H σ δ δ1 G2 H2 ∧ Rp c.Om K G2 d v := by
  cases o with
  | false => exact .done ⟨G1, S, k, r.fro rfl⟩
  | true =>
    obtain ⟨p, rfl, hn, w, np⟩ := r.own rfl
    have fr := S0.out.h0 hn w.om
    have nO : ¬ OwnAt σ δ1 p := fun z => S0.notNew hn (k.old p z)
    have kk : ∀ u', Kp c G H σ δ δ1 (upd G1 p u') (upd H1 p u') := fun u' => ⟨k.ext.trans (Sub.new w.g), k.old, fun a h => k.nu a (upd_nu h), fun a o e n1 n2 => by
      have ne : a ≠ p := ne_of_none e hn
      rw [upd_ne ne, upd_ne ne]
      exact k.kp a o e n1 n2⟩
    have ss : ∀ (u u' : HO), H1 p = some u → (u' = u ∨ ∃ od, u' = .frz od u) → SR c K (upd G1 p u') (upd H1 p u') σ δ1 := fun u u' hp hu =>
      frz_at S (notbl_ob w hp) (noext_ob w hp) hp hu w.g w.om fr S.len (fun i d e => ⟨e, fun z => nO ⟨i, d, e, z⟩⟩) fun i d e => .inl e
    have same : ∀ u : HO, H1 p = some u → upd H1 p u = H1 := fun u hp => by
      funext b
      by_cases h : b = p
      · rw [h, upd_same, hp]
      · rw [upd_ne h]
    obtain ⟨u, hu, od⟩ := w.ob
    have sg : ∀ u', Sub G1 (upd G1 p u') := fun u' => Sub.new w.g
    cases d with
    | lst ds =>
      obtain ⟨vs, rfl, r⟩ := od
      refine .done ⟨upd G1 p (.lst vs), ?_, ?_, p, vs, rfl, upd_same, r.mono (sg _)⟩
      · have z := ss _ _ hu (.inl rfl); rw [same _ hu] at z; exact z
      · have z := kk (.lst vs); rw [same _ hu] at z; exact z
    | dT ks ds =>
      obtain ⟨vs, rfl, l, r⟩ := od
      exact .step hu trivial fun ob => .done ⟨_, ss _ _ hu (.inr ⟨ob, rfl⟩), kk _, p, ob, vs, rfl, upd_same, l, r.mono (sg _)⟩
    | dK ks ds =>
      obtain ⟨vs, rfl, l, r⟩ := od
      exact .step hu trivial fun ob => .done ⟨_, ss _ _ hu (.inr ⟨ob, rfl⟩), kk _, p, ob, vs, rfl, upd_same, l, r.mono (sg _)⟩
    | ins C ds =>
      obtain ⟨dx, vs, rfl, l, ik, r⟩ := od
      refine .done ⟨upd G1 p (.ins (cA K C) dx ((cFields C).zip vs)), ?_, ?_, p, dx, vs, rfl, upd_same, l, ik, r.mono (sg _)⟩
      · have z := ss _ _ hu (.inl rfl); rw [same _ hu] at z; exact z
      · have z := kk (.ins (cA K C) dx ((cFields C).zip vs)); rw [same _ hu] at z; exact z
    | par C ds => cases np
    | _ => exact od.elim
/-- a slot that holds one's own object, frozen -/
theorem fz_slot (S : SR c K G H σ δ) {i : Nat} {d : D} (hi : δ[i]? = some (.own d)) (np : parB d = false) :
    ∃ v, σ[i]? = some (some v) ∧ Lks H fun H2 => ∃ G2, SR c K G2 H2 σ (δ.set i (.fro d)) ∧ Kp c G H σ δ (δ.set i (.fro d)) G2 H2 ∧ Rp c.Om K G2 d v := by
  obtain ⟨p, hs, w, fr⟩ := S.own i d hi
  refine ⟨_, hs, ?_⟩
  have hlt : i < δ.length := (List.getElem?_eq_some_iff.mp hi).1
  have old : ∀ a, OwnAt σ (δ.set i (.fro d)) a → OwnAt σ δ a := fun a ⟨j, e, h1, h2⟩ => by
    by_cases q : i = j
    · subst q; rw [List.getElem?_set_self hlt] at h1; cases h1
    · rw [List.getElem?_set_ne q] at h1; exact ⟨j, e, h1, h2⟩
  have kk : ∀ u', Kp c G H σ δ (δ.set i (.fro d)) (upd G p u') (upd H p u') := fun u' => ⟨Sub.new w.g, old, fun a h => upd_nu h, fun a o e n1 n2 => by
    have ne : a ≠ p := fun z => n2 ⟨i, d, hi, by rw [z]; exact hs⟩
    rw [upd_ne ne, upd_ne ne]
    exact ⟨e, fun g _ => g⟩⟩
  have ss : ∀ (u u' : HO), H p = some u → (u' = u ∨ ∃ od, u' = .frz od u) → Rp c.Om K (upd G p u') d (.ref p) → SR c K (upd G p u') (upd H p u') σ (δ.set i (.fro d)) := fun u u' hp hu hr =>
    frz_at S (notbl_ob w hp) (noext_ob w hp) hp hu w.g w.om fr.1 (by rw [List.length_set]; exact S.len) (fun j e h1 => by
      by_cases q : i = j
      · subst q; rw [List.getElem?_set_self hlt] at h1; cases h1
      · rw [List.getElem?_set_ne q] at h1
        exact ⟨h1, fun z => q (S.sep i j d e p hi h1 hs z)⟩) fun j e h1 => by
      by_cases q : i = j
      · subst q; rw [List.getElem?_set_self hlt] at h1; cases h1; exact .inr ⟨hs, hr⟩
      · rw [List.getElem?_set_ne q] at h1; exact .inl h1
  have same : ∀ u : HO, H p = some u → upd H p u = H := fun u hp => by
    funext b
    by_cases h : b = p
    · rw [h, upd_same, hp]
    · rw [upd_ne h]
  obtain ⟨u, hu, od⟩ := w.ob
  have sg : ∀ u', Sub G (upd G p u') := fun u' => Sub.new w.g
  cases d with
  | lst ds =>
    obtain ⟨vs, rfl, r⟩ := od
    have hr : Rp c.Om K (upd G p (.lst vs)) (.lst ds) (.ref p) := ⟨p, vs, rfl, upd_same, r.mono (sg _)⟩
    refine .done ⟨upd G p (.lst vs), ?_, ?_, hr⟩
    · have z := ss _ _ hu (.inl rfl) hr; rw [same _ hu] at z; exact z
    · have z := kk (.lst vs); rw [same _ hu] at z; exact z
  | dT ks ds =>
    obtain ⟨vs, rfl, l, r⟩ := od
    refine .step hu trivial fun ob => ?_
    have hr : Rp c.Om K (upd G p (.frz ob (.dT (ks.zip vs)))) (.dT ks ds) (.ref p) := ⟨p, ob, vs, rfl, upd_same, l, r.mono (sg _)⟩
    exact .done ⟨_, ss _ _ hu (.inr ⟨ob, rfl⟩) hr, kk _, hr⟩
  | dK ks ds =>
    obtain ⟨vs, rfl, l, r⟩ := od
    refine .step hu trivial fun ob => ?_
    have hr : Rp c.Om K (upd G p (.frz ob (.dK (ks.zip vs)))) (.dK ks ds) (.ref p) := ⟨p, ob, vs, rfl, upd_same, l, r.mono (sg _)⟩
    exact .done ⟨_, ss _ _ hu (.inr ⟨ob, rfl⟩) hr, kk _, hr⟩
  | ins C ds =>
    obtain ⟨dx, vs, rfl, l, ik, r⟩ := od
    have hr : Rp c.Om K (upd G p (.ins (cA K C) dx ((cFields C).zip vs))) (.ins C ds) (.ref p) := ⟨p, dx, vs, rfl, upd_same, l, ik, r.mono (sg _)⟩
    refine .done ⟨upd G p (.ins (cA K C) dx ((cFields C).zip vs)), ?_, ?_, hr⟩
    · have z := ss _ _ hu (.inl rfl) hr; rw [same _ hu] at z; exact z
    · have z := kk (.ins (cA K C) dx ((cFields C).zip vs)); rw [same _ hu] at z; exact z
  | par C ds => cases np
  | _ => exact od.elim
end

/-! ### expressions frozen -/
def wF (w : WE) : WE := fun δ Q => w δ fun d _ δ' => Q d false δ'
theorem MoE.f {w : WE} (m : MoE w) : MoE (wF w) := fun δ Q Q' h q => m δ _ _ (fun d o δ' z => h d false δ' z) q
section
variable {X : Cx} {c : Ct} {e : Expr} {w : WE}
theorem QE.f (h : QE X c e w) : QE X c e (wF w) := by
  refine ⟨h.mo.f, pe_lk h.pe fun σ H Q ⟨G, δ, S, q⟩ => .done ⟨G, δ, S, h.mo δ _ _ (fun d o δ' z v G' H' S' k r => ?_) q⟩⟩
  refine (fz S S' k r).imp fun H2 ⟨G2, S2, k2, r2⟩ => z v G2 H2 S2 k2 ⟨fun _ => r2, fun h => nomatch h⟩
/-- the reading of a frozen one, with a continuation of one's own -/
theorem lF {K : PySem.W.Frag} (m : MoE w) {σ : L2.St} {G H : Hp} {δ : List Sl} {Q : VK} {R : D → List Sl → Prop} (S : SR c K G H σ δ) (h : w δ fun d _ δ' => R d δ')
    (k : ∀ d δ' v G' H', R d δ' → SR c K G' H' σ δ' → Kp c G H σ δ δ' G' H' → Rp c.Om K G' d v → Q v H') : lE c K (wF w) σ H Q :=
  ⟨G, δ, S, m δ _ _ (fun d o δ' z v G' H' S' kk r => k d δ' v G' H' z S' kk (r.fro rfl)) h⟩
end

/-! ### names, constants -/
def wVar (i : Nat) : WE := fun δ Q => match δ[i]? with
  | some (.fro d) => Q d false δ
  | some (.own d) => parB d = false ∧ Q d false (δ.set i (.fro d))
  | _ => False
theorem mo_var (i : Nat) : MoE (wVar i) := fun δ Q Q' h q => by
  unfold wVar at q ⊢
  cases e : δ[i]? with
  | none => rw [e] at q; exact q.elim
  | some s =>
    rw [e] at q
    cases s with
    | no => exact q.elim
    | fro d => exact h _ _ _ q
    | own d => exact ⟨q.1, h _ _ _ q.2⟩
def wC (d : D) : WE := fun δ Q => Q d false δ
theorem mo_c (d : D) : MoE (wC d) := fun δ Q Q' h q => h _ _ _ q
section
variable {X : Cx} {c : Ct} {pos : Pos}
theorem qe_var (i : Nat) {x : Str} (hN : X.N[i]? = some x := by rfl) (hv : Vis X.env.scope x := by first | exact Or.inl rfl | exact Or.inr (Or.inl rfl) | exact Or.inr (Or.inr rfl)) (hd : (x == ("__debug__" : Str)) = false := by decide)
    (hcd : (x == ("__classdict__" : Str)) = false := by decide) : QE X c (.Name x pos) (wVar i) := by
  refine ⟨mo_var i, pe_lk (pe_var hN hv hd hcd) fun σ H Q ⟨G, δ, S, q⟩ => .done ?_⟩
  unfold wVar at q
  cases e : δ[i]? with
  | none => rw [e] at q; exact q.elim
  | some s =>
    rw [e] at q
    cases s with
    | no => exact q.elim
    | fro d =>
      obtain ⟨v, h1, h2⟩ := S.fro i d e
      exact ⟨v, h1, .done (q v G H S .refl ⟨fun _ => h2, fun h => nomatch h⟩)⟩
    | own d =>
      obtain ⟨v, h1, h2⟩ := fz_slot S e q.1
      exact ⟨v, h1, h2.imp fun H2 ⟨G2, S2, k2, r2⟩ => q.2 v G2 H2 S2 k2 ⟨fun _ => r2, fun h => nomatch h⟩⟩
theorem qe_c {e : Expr} {d : D} {v : V} (h : PE X e (tC v)) (r : ∀ G, Rp c.Om X.K G d v) : QE X c e (wC d) :=
  ⟨mo_c d, pe_lk h fun σ H Q ⟨G, δ, S, q⟩ => .done (.done (q v G H S .refl ⟨fun _ => r G, fun h => nomatch h⟩))⟩
theorem qe_int {i j} : QE X c (.Constant (.int i) j pos) (wC (.int i)) := qe_c pe_int fun _ => rfl
theorem qe_bl {i j} : QE X c (.Constant (.bool i) j pos) (wC (.bl i)) := qe_c pe_bl fun _ => rfl
theorem qe_non {j} : QE X c (.Constant .none j pos) (wC .non) := qe_c pe_non fun _ => rfl
theorem qe_str {i j} : QE X c (.Constant (.str i) j pos) (wC (.str i)) := qe_c pe_str fun _ => rfl
end

/-! ### operators -/
/-- f: two data, what is wanted of the result and whether it is new -/
abbrev F2 := D → D → (D → Bool → Prop) → Prop
abbrev F1 := D → (D → Bool → Prop) → Prop
def MoF2 (f : F2) : Prop := ∀ a b Q Q', (∀ d o, Q d o → Q' d o) → f a b Q → f a b Q'
def MoF1 (f : F1) : Prop := ∀ a Q Q', (∀ d o, Q d o → Q' d o) → f a Q → f a Q'
def wBin (f : F2) (wa wb : WE) : WE := fun δ Q => wa δ fun a _ δ1 => wb δ1 fun b _ δ2 => f a b fun r o => Q r o δ2
def wUn (f : F1) (wa : WE) : WE := fun δ Q => wa δ fun a _ δ1 => f a fun r o => Q r o δ1
theorem mo_bin {f : F2} {wa wb : WE} (mf : MoF2 f) (ma : MoE wa) (mb : MoE wb) : MoE (wBin f wa wb) := fun δ Q Q' h q =>
  ma δ _ _ (fun a _ δ1 z => mb δ1 _ _ (fun b _ δ2 y => mf a b _ _ (fun d o x => h d o δ2 x) y) z) q
theorem mo_un {f : F1} {wa : WE} (mf : MoF1 f) (ma : MoE wa) : MoE (wUn f wa) := fun δ Q Q' h q =>
  ma δ _ _ (fun a _ δ1 z => mf a _ _ (fun d o x => h d o δ1 x) z) q
/-- a result that needs nothing, a new object -/
def Res (c : Ct) (K : PySem.W.Frag) (G H : Hp) (σ : L2.St) (δ : List Sl) (R : D → Bool → Prop) (Q : VK) : Prop :=
  ∀ d o v G' H', R d o → SR c K G' H' σ δ → Kp c G H σ δ δ G' H' → RV c K H G' H' d o v → Q v H'
/-- what an operator on values does with data -/
def Op2 (c : Ct) (K : PySem.W.Frag) (r : R2) (f : F2) : Prop := ∀ G H σ δ a b x y R Q, SR c K G H σ δ → Rp c.Om K G a x → Rp c.Om K G b y → f a b R → Res c K G H σ δ R Q → r x y H Q
section
variable {c : Ct} {K : PySem.W.Frag} {G H : Hp} {σ : L2.St} {δ : List Sl} {R : D → Bool → Prop} {Q : VK}
theorem Res.val (S : SR c K G H σ δ) (h : Res c K G H σ δ R Q) {d : D} {v : V} (r : R d false) (hv : Rp c.Om K G d v) : Q v H := h d false v G H r S .refl ⟨fun _ => hv, fun h => nomatch h⟩
/-- a new object, one's own -/
theorem Res.new (S : SR c K G H σ δ) (h : Res c K G H σ δ R Q) {d : D} {u : HO} (r : R d true) (hu : OwD c.Om K G d u) {p : Addr} (hp : H p = none) (np : parB d = false := by rfl) : Q (.ref p) (upd H p u) := by
  have nom := S.out.nom hp
  have gp := S.out.gone hp
  have ne : ∀ {a o}, H a = some o → a ≠ p := fun e => ne_of_none e hp
  have neO : ∀ a, c.Om.own a → a ≠ p := fun a ha z => nom (by rw [← z]; exact ha)
  refine h d true (.ref p) G (upd H p u) r ⟨⟨fun a o e => ?_, ?_, S.out.omG, fun a ha => ?_, S.out.fz, S.out.ext, fun a o e n x => ?_, S.out.tb⟩, S.len, S.fro, fun i d e => ?_, S.sep⟩ ⟨Sub.refl _, fun _ h => h, fun a h => upd_nu h, fun a o e n1 n2 => ?_⟩ ⟨fun h => (by cases h), fun _ => ⟨p, rfl, hp, ⟨gp, nom, u, upd_same, hu⟩, np⟩⟩
  · rw [upd_ne (ne (S.out.sub a o e))]; exact S.out.sub a o e
  · exact c.Om.loc H _ S.out.inv (fun a ha => by rw [upd_ne (neO a ha)]) fun a φ e => by rw [upd_ne (ne e)]; exact e
  · rw [upd_ne (neO a ha)]; exact S.out.omH a ha
  · obtain ⟨h1, h2⟩ := S.out.kp a o e n x
    rw [upd_ne (ne h1)]
    exact ⟨h1, h2⟩
  · obtain ⟨q, h3, w, f⟩ := S.own i d e
    obtain ⟨o, e1, e2⟩ := w.ob
    exact ⟨q, h3, ⟨w.g, w.om, o, by rw [upd_ne (ne e1)]; exact e1, e2⟩, f⟩
  · rw [upd_ne (ne e)]
    exact ⟨e, fun g _ => g⟩
/-- a value behind further steps -/
theorem RV.back {G1 H1 : Hp} {δ1 : List Sl} (k : Kp c G H σ δ δ1 G1 H1) {G2 H2 : Hp} {d : D} {o : Bool} {v : V} (r : RV c K H1 G2 H2 d o v) : RV c K H G2 H2 d o v :=
  ⟨r.fro, fun ho => let ⟨p, e1, e2, w, np⟩ := r.own ho; ⟨p, e1, k.nu p e2, w, np⟩⟩
end
section
variable {X : Cx} {c : Ct} {pos : Pos} {a b : Expr} {wa wb : WE} {f : F2} {g : F1} {r : R2} {ru : V → Hp → VK → Prop}
theorem link2 (ma : MoE wa) (mb : MoE wb) (ho : Op2 c X.K r f) {σ : L2.St} {H : Hp} {Q : VK} (h : lE c X.K (wBin f wa wb) σ H Q) : tOp r (lE c X.K (wF wa)) (lE c X.K (wF wb)) σ H Q := by
  obtain ⟨G, δ, S, q⟩ := h
  refine lF ma S q fun d δ1 v G1 H1 z S1 k1 r1 => ?_
  refine lF mb S1 z fun d2 δ2 v2 G2 H2 z2 S2 k2 r2 => ?_
  exact ho G2 H2 σ δ2 d d2 v v2 _ Q S2 (r1.mono k2.ext) r2 z2 fun d3 o v3 G3 H3 z3 S3 k3 r3 => z3 v3 G3 H3 S3 ((k1.trans k2).trans k3) (r3.back (k1.trans k2))
theorem qe_bin {op : Operator} (hr : OpR X (binaryOp op) r) (mf : MoF2 f) (ho : Op2 c X.K r f) (ha : QE X c a wa) (hb : QE X c b wb) : QE X c (.BinOp a op b pos) (wBin f wa wb) :=
  ⟨mo_bin mf ha.mo hb.mo, pe_lk (pe_op hr ha.f.pe hb.f.pe) fun σ H Q h => .done (link2 (Q := fun v H => Lks H (Q v)) ha.mo hb.mo ho (by
    obtain ⟨G, δ, S, q⟩ := h
    exact ⟨G, δ, S, mo_bin mf ha.mo hb.mo δ _ _ (fun d o δ' z v G' H' S' k r => .done (z v G' H' S' k r)) q⟩))⟩
end
end PD

set_option Elab.async false
set_option linter.all false
set_option maxRecDepth 100000
set_option maxHeartbeats 2000000
/-! PD, third part: tests, operators by data, arguments, built-in calls -/
namespace PD
open PySem PySem.Spec PyProof.Rows L2

section
variable {X : Cx} {e : Expr} {es : List Expr} {st : Stmt} {sts : List Stmt}
theorem pe_imp {t t' : TE} (h : PE X e t) (hw : ∀ σ H Q, t' σ H Q → t σ H Q) : PE X e t' := ⟨fun pins s σ H Q I q => h.run pins s σ H Q I (hw _ _ _ q)⟩
theorem pt_imp {t t' : TT} (h : PT X e t) (hw : ∀ σ H Q, t' σ H Q → t σ H Q) : PT X e t' := ⟨fun pins s σ H Q I q => h.run pins s σ H Q I (hw _ _ _ q)⟩
theorem pw_imp {t t' : TT} (h : PW X e t) (hw : ∀ σ H Q, t' σ H Q → t σ H Q) : PW X e t' := ⟨fun wh pins s σ H Q I q => h.run wh pins s σ H Q I (hw _ _ _ q)⟩
theorem pa_imp {t t' : TA} (h : PA X es t) (hw : ∀ σ H Q, t' σ H Q → t σ H Q) : PA X es t' := ⟨fun pos pins s σ H Q I q => h.run pos pins s σ H Q I (hw _ _ _ q)⟩
theorem ps_imp {t t' : TS} (h : PS X st t) (hw : ∀ Z σ H, t' Z σ H → t Z σ H) : PS X st t' := ⟨fun pins s σ H Z I q => h.run pins s σ H Z I (hw _ _ _ q)⟩
theorem pss_imp {t t' : TS} (h : PSs X sts t) (hw : ∀ Z σ H, t' Z σ H → t Z σ H) : PSs X sts t' := ⟨fun pins s σ H Z I q => h.run pins s σ H Z I (hw _ _ _ q)⟩
end

/-! ### tests -/
/-- a value that is a truth -/
def wB (w : WE) : WT := fun δ Q => w δ fun d _ δ' => match d with
  | .bl b => Q b δ'
  | _ => False
theorem mo_B {w : WE} (m : MoE w) : MoT (wB w) := fun δ Q Q' h q => m δ _ _ (fun d o δ' z => by
  cases d with
  | bl b => exact h b δ' z
  | _ => exact z.elim) q
def wAnd (a b : WT) : WT := fun δ Q => a δ fun k δ1 => match k with | true => b δ1 Q | false => Q false δ1
def wOr (a b : WT) : WT := fun δ Q => a δ fun k δ1 => match k with | true => Q true δ1 | false => b δ1 Q
def wNot (a : WT) : WT := fun δ Q => a δ fun k δ1 => Q (!k) δ1
theorem mo_and {a b : WT} (ma : MoT a) (mb : MoT b) : MoT (wAnd a b) := fun δ Q Q' h q => ma δ _ _ (fun k δ1 z => by
  cases k with
  | true => exact mb δ1 _ _ h z
  | false => exact h _ _ z) q
theorem mo_or {a b : WT} (ma : MoT a) (mb : MoT b) : MoT (wOr a b) := fun δ Q Q' h q => ma δ _ _ (fun k δ1 z => by
  cases k with
  | false => exact mb δ1 _ _ h z
  | true => exact h _ _ z) q
theorem mo_not {a : WT} (ma : MoT a) : MoT (wNot a) := fun δ Q Q' h q => ma δ _ _ (fun k δ1 z => h _ _ z) q
def wIf (t : WT) (a b : WE) : WE := fun δ Q => t δ fun k δ1 => match k with | true => a δ1 Q | false => b δ1 Q
theorem mo_if {t : WT} {a b : WE} (mt : MoT t) (ma : MoE a) (mb : MoE b) : MoE (wIf t a b) := fun δ Q Q' h q => mt δ _ _ (fun k δ1 z => by
  cases k with
  | true => exact ma δ1 _ _ h z
  | false => exact mb δ1 _ _ h z) q
def wAndV (a b : WE) : WE := fun δ Q => a δ fun d _ δ1 => match d with
  | .bl true => b δ1 Q
  | .bl false => Q (.bl false) false δ1
  | _ => False
def wOrV (a b : WE) : WE := fun δ Q => a δ fun d _ δ1 => match d with
  | .bl false => b δ1 Q
  | .bl true => Q (.bl true) false δ1
  | _ => False
def wNotV (a : WE) : WE := fun δ Q => a δ fun d _ δ1 => match d with
  | .bl b => Q (.bl (!b)) false δ1
  | _ => False
theorem mo_andV {a b : WE} (ma : MoE a) (mb : MoE b) : MoE (wAndV a b) := fun δ Q Q' h q => ma δ _ _ (fun d o δ1 z => by
  cases d with
  | bl k =>
    cases k with
    | true => exact mb δ1 _ _ h z
    | false => exact h _ _ _ z
  | _ => exact z.elim) q
theorem mo_orV {a b : WE} (ma : MoE a) (mb : MoE b) : MoE (wOrV a b) := fun δ Q Q' h q => ma δ _ _ (fun d o δ1 z => by
  cases d with
  | bl k =>
    cases k with
    | false => exact mb δ1 _ _ h z
    | true => exact h _ _ _ z
  | _ => exact z.elim) q
theorem mo_notV {a : WE} (ma : MoE a) : MoE (wNotV a) := fun δ Q Q' h q => ma δ _ _ (fun d o δ1 z => by
  cases d with
  | bl k => exact h _ _ _ z
  | _ => exact z.elim) q
structure QW (X : Cx) (c : Ct) (e : Expr) (w : WT) : Prop where
  mo : MoT w
  pw : PW X e (lT c X.K w)
section
variable {X : Cx} {c : Ct} {e a b : Expr} {rest : List Expr} {w wa wb : WE} {ta tb : WT} {pos : Pos}
theorem lB (m : MoE w) {σ : L2.St} {H : Hp} {K : PySem.W.Frag} {Q : Bool → Hp → Prop} (h : lT c K (wB w) σ H Q) : lE c K w σ H fun x H' => ∃ k, x = .bl k ∧ Q k H' := by
  obtain ⟨G, δ, S, q⟩ := h
  refine ⟨G, δ, S, m δ _ _ (fun d o δ' z v G' H' S' k r => ?_) q⟩
  cases d with
  | bl b =>
    cases o with
    | false => exact ⟨b, r.fro rfl, z G' H' S' k⟩
    | true =>
      obtain ⟨_, _, _, w', _⟩ := r.own rfl
      obtain ⟨_, _, x⟩ := w'.ob
      exact x.elim
  | _ => exact z.elim
theorem qt_of (h : PT X e (tTest (lE c X.K w))) (m : MoE w) : QT X c e (wB w) := ⟨mo_B m, pt_imp h fun σ H Q q => lB m q⟩
theorem qt_val (h : QE X c e w) (he : ∀ whole, isTrue e X.env whole = (do let v ← whole; standAt e.pos; holding [v] (truthy v)) := by intro _; rfl) : QT X c e (wB w) :=
  ⟨mo_B h.mo, pt_imp (pt_val h.pe he) fun σ H Q q => lB h.mo q⟩
theorem QW.qt (h : QW X c e ta) : QT X c e ta := ⟨h.mo, h.pw.pt⟩
theorem qw_and1 (ha : QT X c a ta) : QW X c (.BoolOp .And [a] pos) ta := ⟨ha.mo, pw_and1 ha.pt⟩
theorem qw_or1 (ha : QT X c a ta) : QW X c (.BoolOp .Or [a] pos) ta := ⟨ha.mo, pw_or1 ha.pt⟩
theorem qw_and (ha : QT X c a ta) (hb : QW X c (.BoolOp .And (b :: rest) pos) tb) : QW X c (.BoolOp .And (a :: b :: rest) pos) (wAnd ta tb) :=
  ⟨mo_and ha.mo hb.mo, pw_imp (pw_and ha.pt hb.pw) fun σ H Q ⟨G, δ, S, q⟩ => ⟨G, δ, S, ha.mo δ _ _ (fun k δ1 z G1 H1 S1 k1 => by
    cases k with
    | true =>
      rw [if_pos rfl]
      exact ⟨G1, δ1, S1, hb.mo δ1 _ _ (fun k2 δ2 z2 G2 H2 S2 k3 => z2 G2 H2 S2 (k1.trans k3)) z⟩
    | false =>
      rw [if_neg (by decide)]
      exact z G1 H1 S1 k1) q⟩⟩
theorem qw_or (ha : QT X c a ta) (hb : QW X c (.BoolOp .Or (b :: rest) pos) tb) : QW X c (.BoolOp .Or (a :: b :: rest) pos) (wOr ta tb) :=
  ⟨mo_or ha.mo hb.mo, pw_imp (pw_or ha.pt hb.pw) fun σ H Q ⟨G, δ, S, q⟩ => ⟨G, δ, S, ha.mo δ _ _ (fun k δ1 z G1 H1 S1 k1 => by
    cases k with
    | false =>
      rw [if_neg (by decide)]
      exact ⟨G1, δ1, S1, hb.mo δ1 _ _ (fun k2 δ2 z2 G2 H2 S2 k3 => z2 G2 H2 S2 (k1.trans k3)) z⟩
    | true =>
      rw [if_pos rfl]
      exact z G1 H1 S1 k1) q⟩⟩
theorem qt_not (ha : QT X c a ta) : QT X c (.UnaryOp .Not a pos) (wNot ta) :=
  ⟨mo_not ha.mo, pt_imp (pt_not ha.pt) fun σ H Q ⟨G, δ, S, q⟩ => ⟨G, δ, S, ha.mo δ _ _ (fun k δ1 z G1 H1 S1 k1 => z G1 H1 S1 k1) q⟩⟩
theorem qe_if {t : Expr} (ht : QT X c t ta) (ha : QE X c a wa) (hb : QE X c b wb) : QE X c (.IfExp t a b pos) (wIf ta wa wb) :=
  ⟨mo_if ht.mo ha.mo hb.mo, pe_imp (pe_ifExp ht.pt ha.pe hb.pe) fun σ H Q ⟨G, δ, S, q⟩ => ⟨G, δ, S, ht.mo δ _ _ (fun k δ1 z G1 H1 S1 k1 => by
    cases k with
    | true =>
      rw [if_pos rfl]
      exact ⟨G1, δ1, S1, ha.mo δ1 _ _ (fun d o δ2 z2 v G2 H2 S2 k3 r => z2 v G2 H2 S2 (k1.trans k3) (r.back k1)) z⟩
    | false =>
      rw [if_neg (by decide)]
      exact ⟨G1, δ1, S1, hb.mo δ1 _ _ (fun d o δ2 z2 v G2 H2 S2 k3 r => z2 v G2 H2 S2 (k1.trans k3) (r.back k1)) z⟩) q⟩⟩
theorem bl_of {G1 H1 H : Hp} {d : D} {o : Bool} {v : V} {k : Bool} {K : PySem.W.Frag} (e : d = .bl k) (r : RV c K H G1 H1 d o v) : v = .bl k := by
  subst e
  cases o with
  | false => exact r.fro rfl
  | true =>
    obtain ⟨_, _, _, w', _⟩ := r.own rfl
    obtain ⟨_, _, x⟩ := w'.ob
    exact x.elim
theorem qe_one {op} (ha : QE X c a wa) : QE X c (.BoolOp op [a] pos) wa := ⟨ha.mo, pe_one ha.pe⟩
theorem qe_and (ha : QE X c a wa) (hb : QE X c (.BoolOp .And (b :: rest) pos) wb) : QE X c (.BoolOp .And (a :: b :: rest) pos) (wAndV wa wb) :=
  ⟨mo_andV ha.mo hb.mo, pe_imp (pe_and ha.pe hb.pe) fun σ H Q ⟨G, δ, S, q⟩ => ⟨G, δ, S, ha.mo δ _ _ (fun d o δ1 z v G1 H1 S1 k1 r => by
    cases d with
    | bl k =>
      refine ⟨k, bl_of rfl r, ?_⟩
      cases k with
      | true =>
        rw [if_pos rfl]
        exact ⟨G1, δ1, S1, hb.mo δ1 _ _ (fun d o δ2 z2 v G2 H2 S2 k3 r => z2 v G2 H2 S2 (k1.trans k3) (r.back k1)) z⟩
      | false =>
        rw [if_neg (by decide)]
        exact z _ G1 H1 S1 k1 ⟨fun _ => rfl, fun h => (by cases h)⟩
    | _ => exact z.elim) q⟩⟩
theorem qe_or (ha : QE X c a wa) (hb : QE X c (.BoolOp .Or (b :: rest) pos) wb) : QE X c (.BoolOp .Or (a :: b :: rest) pos) (wOrV wa wb) :=
  ⟨mo_orV ha.mo hb.mo, pe_imp (pe_or ha.pe hb.pe) fun σ H Q ⟨G, δ, S, q⟩ => ⟨G, δ, S, ha.mo δ _ _ (fun d o δ1 z v G1 H1 S1 k1 r => by
    cases d with
    | bl k =>
      refine ⟨k, bl_of rfl r, ?_⟩
      cases k with
      | false =>
        rw [if_neg (by decide)]
        exact ⟨G1, δ1, S1, hb.mo δ1 _ _ (fun d o δ2 z2 v G2 H2 S2 k3 r => z2 v G2 H2 S2 (k1.trans k3) (r.back k1)) z⟩
      | true =>
        rw [if_pos rfl]
        exact z _ G1 H1 S1 k1 ⟨fun _ => rfl, fun h => (by cases h)⟩
    | _ => exact z.elim) q⟩⟩
theorem qe_not (ha : QE X c a wa) : QE X c (.UnaryOp .Not a pos) (wNotV wa) :=
  ⟨mo_notV ha.mo, pe_imp (pe_not ha.pe) fun σ H Q ⟨G, δ, S, q⟩ => ⟨G, δ, S, ha.mo δ _ _ (fun d o δ1 z v G1 H1 S1 k1 r => by
    cases d with
    | bl k => exact ⟨k, bl_of rfl r, z _ G1 H1 S1 k1 ⟨fun _ => rfl, fun h => (by cases h)⟩⟩
    | _ => exact z.elim) q⟩⟩
end

/-! ### comparisons -/
section
variable {X : Cx} {c : Ct} {pos : Pos} {a b d : Expr} {wa wb wd : WE} {f f' : F2} {r r' : R2}
/-- Op2 with locks behind: the wish may be under locks -/
theorem qe_cmp {op : CmpOp} (hr : OpR X (compareOp op) r) (mf : MoF2 f) (ho : Op2 c X.K r f) (ha : QE X c a wa) (hb : QE X c b wb) (hm : behindInMarks op b = false) : QE X c (.Compare a [op] [b] pos) (wBin f wa wb) :=
  ⟨mo_bin mf ha.mo hb.mo, pe_imp (pe_cmpR hr ha.f.pe hb.f.pe hm) fun σ H Q h => link2 ha.mo hb.mo ho h⟩
theorem qt_cmp {op : CmpOp} (hr : OpR X (compareOp op) r) (mf : MoF2 f) (ho : Op2 c X.K r f) (ha : QE X c a wa) (hb : QE X c b wb) (hm : behindInMarks op b = false) : QT X c (.Compare a [op] [b] pos) (wB (wBin f wa wb)) :=
  qt_of (pt_imp (pt_cmpR hr ha.f.pe hb.f.pe hm) fun σ H Q h => link2 ha.mo hb.mo ho h) (mo_bin mf ha.mo hb.mo)
def wChain (f f' : F2) (wa wb wd : WE) : WE := fun δ Q => wa δ fun a _ δ1 => wb δ1 fun b _ δ2 => f a b fun k _ => match k with
  | .bl true => wd δ2 fun d _ δ3 => f' b d fun r o => Q r o δ3
  | .bl false => Q (.bl false) false δ2
  | _ => False
theorem mo_chain (mf : MoF2 f) (mf' : MoF2 f') (ma : MoE wa) (mb : MoE wb) (md : MoE wd) : MoE (wChain f f' wa wb wd) := fun δ Q Q' h q =>
  ma δ _ _ (fun a _ δ1 z => mb δ1 _ _ (fun b _ δ2 y => mf a b _ _ (fun k o x => by
    cases k with
    | bl k =>
      cases k with
      | true => exact md δ2 _ _ (fun d _ δ3 u => mf' b d _ _ (fun r o t => h _ _ _ t) u) x
      | false => exact h _ _ _ x
    | _ => exact x.elim) y) z) q
theorem link_chain (ma : MoE wa) (mb : MoE wb) (md : MoE wd) (ho : Op2 c X.K r f) (ho' : Op2 c X.K r' f') {σ : L2.St} {H : Hp} {Q : VK} (h : lE c X.K (wChain f f' wa wb wd) σ H Q) :
    tChain r r' (lE c X.K (wF wa)) (lE c X.K (wF wb)) (lE c X.K (wF wd)) σ H Q := by
  obtain ⟨G, δ, S, q⟩ := h
  refine lF ma S q fun d1 δ1 v G1 H1 z S1 k1 r1 => ?_
  refine lF mb S1 z fun d2 δ2 v2 G2 H2 z2 S2 k2 r2 => ?_
  refine ho G2 H2 σ δ2 d1 d2 v v2 _ _ S2 (r1.mono k2.ext) r2 z2 fun d3 o v3 G3 H3 z3 S3 k3 r3 => ?_
  cases d3 with
  | bl k =>
    refine ⟨k, bl_of rfl r3, ?_⟩
    cases k with
    | true =>
      rw [if_pos rfl]
      refine lF md S3 z3 fun d4 δ4 v4 G4 H4 z4 S4 k4 r4 => ?_
      exact ho' G4 H4 σ δ4 d2 d4 v2 v4 _ Q S4 ((r2.mono k3.ext).mono k4.ext) r4 z4 fun d5 o v5 G5 H5 z5 S5 k5 r5 => z5 v5 G5 H5 S5 ((((k1.trans k2).trans k3).trans k4).trans k5) (r5.back (((k1.trans k2).trans k3).trans k4))
    | false =>
      rw [if_neg (by decide)]
      exact z3 _ G3 H3 S3 ((k1.trans k2).trans k3) ⟨fun _ => rfl, fun h => (by cases h)⟩
  | _ => exact z3.elim
theorem qe_chain {op op' : CmpOp} (hr : OpR X (compareOp op) r) (hr' : OpR X (compareOp op') r') (mf : MoF2 f) (mf' : MoF2 f') (ho : Op2 c X.K r f) (ho' : Op2 c X.K r' f') (ha : QE X c a wa) (hb : QE X c b wb) (hd : QE X c d wd) (hm : lastMarks [op, op'] [b, d] = false := by rfl) : QE X c (.Compare a [op, op'] [b, d] pos) (wChain f f' wa wb wd) :=
  ⟨mo_chain mf mf' ha.mo hb.mo hd.mo, pe_imp (pe_chain hr hr' ha.f.pe hb.f.pe hd.f.pe (hm := hm)) fun σ H Q h => link_chain ha.mo hb.mo hd.mo ho ho' h⟩
theorem qt_chain {op op' : CmpOp} (hr : OpR X (compareOp op) r) (hr' : OpR X (compareOp op') r') (mf : MoF2 f) (mf' : MoF2 f') (ho : Op2 c X.K r f) (ho' : Op2 c X.K r' f') (ha : QE X c a wa) (hb : QE X c b wb) (hd : QE X c d wd) (hm : lastMarks [op, op'] [b, d] = false := by rfl) : QT X c (.Compare a [op, op'] [b, d] pos) (wB (wChain f f' wa wb wd)) :=
  qt_of (pt_imp (pt_chain hr hr' ha.f.pe hb.f.pe hd.f.pe (hm := hm)) fun σ H Q h => link_chain ha.mo hb.mo hd.mo ho ho' h) (mo_chain mf mf' ha.mo hb.mo hd.mo)
theorem qe_un {op : UnaryOp} {g : F1} {ru : V → Hp → VK → Prop} (hr : UnR X (unaryOp op) ru) (mg : MoF1 g) (ho : ∀ G H σ δ a x R Q, SR c X.K G H σ δ → Rp c.Om X.K G a x → g a R → Res c X.K G H σ δ R Q → ru x H Q) (ha : QE X c a wa) : QE X c (.UnaryOp op a pos) (wUn g wa) :=
  ⟨mo_un mg ha.mo, pe_imp (pe_un hr ha.f.pe) fun σ H Q ⟨G, δ, S, q⟩ => lF ha.mo S q fun d δ1 v G1 H1 z S1 k1 r1 =>
    ho G1 H1 σ δ1 d v _ Q S1 r1 z fun d3 o v3 G3 H3 z3 S3 k3 r3 => z3 v3 G3 H3 S3 (k1.trans k3) (r3.back k1)⟩
end

/-! ### arguments -/
def wNil : WA := fun δ Q => Q [] δ
def wCons (w : WE) (t : WA) : WA := fun δ Q => w δ fun d _ δ1 => t δ1 fun ds δ2 => Q (d :: ds) δ2
theorem mo_nil : MoA wNil := fun δ Q Q' h q => h _ _ q
theorem mo_cons {w : WE} {t : WA} (m : MoE w) (mt : MoA t) : MoA (wCons w t) := fun δ Q Q' h q => m δ _ _ (fun d o δ1 z => mt δ1 _ _ (fun ds δ2 y => h _ _ y) z) q
section
variable {X : Cx} {c : Ct} {e : Expr} {es : List Expr} {w : WE} {t : WA} {pos : Pos}
theorem qa_nil : QA X c [] wNil := ⟨mo_nil, pa_imp pa_nil fun σ H Q ⟨G, δ, S, q⟩ => q [] G H S .refl .nil⟩
theorem qa_cons (h : QE X c e w) (ht : QA X c es t) (hs : starEach (e :: es) X.env = (false, eval e X.env) :: starEach es X.env := by rfl) : QA X c (e :: es) (wCons w t) :=
  ⟨mo_cons h.mo ht.mo, pa_imp (pa_cons h.f.pe ht.pa hs) fun σ H Q ⟨G, δ, S, q⟩ => lF h.mo S q fun d δ1 v G1 H1 z S1 k1 r1 =>
    ⟨G1, δ1, S1, ht.mo δ1 _ _ (fun ds δ2 z2 vs G2 H2 S2 k2 r2 => z2 _ G2 H2 S2 (k1.trans k2) (.cons (r1.mono k2.ext) r2)) z⟩⟩
/-- displays -/
def wLst (t : WA) : WE := fun δ Q => t δ fun ds δ1 => ds.length ≤ 16777216 ∧ Q (.lst ds) true δ1
def wTup (t : WA) : WE := fun δ Q => t δ fun ds δ1 => ds.length ≤ 16777216 ∧ Q (.tup ds) false δ1
theorem mo_lst (mt : MoA t) : MoE (wLst t) := fun δ Q Q' h q => mt δ _ _ (fun ds δ1 z => ⟨z.1, h _ _ _ z.2⟩) q
theorem mo_tup (mt : MoA t) : MoE (wTup t) := fun δ Q Q' h q => mt δ _ _ (fun ds δ1 z => ⟨z.1, h _ _ _ z.2⟩) q
/-- a new frozen tuple -/
theorem new_tup {K : PySem.W.Frag} {G H : Hp} {σ : L2.St} {δ : List Sl} (S : SR c K G H σ δ) {p : Addr} {vs : List V} (hp : H p = none) : SR c K (upd G p (.tup vs)) (upd H p (.tup vs)) σ δ ∧ Kp c G H σ δ δ (upd G p (.tup vs)) (upd H p (.tup vs)) := by
  have nom := S.out.nom hp
  have gp := S.out.gone hp
  have ne : ∀ {a o}, H a = some o → a ≠ p := fun e => ne_of_none e hp
  have neO : ∀ a, c.Om.own a → a ≠ p := fun a ha z => nom (by rw [← z]; exact ha)
  have sg : Sub G (upd G p (.tup vs)) := Sub.new gp
  refine ⟨⟨⟨fun a o e => ?_, ?_, fun a ha => ?_, fun a ha => ?_, S.out.fz.trans sg, S.out.ext.trans sg, fun a o e n x => ?_, tb_upd S.out.tb (fun ps z => by cases z)⟩, S.len, fun i d e => ?_, fun i d e => ?_, S.sep⟩, ⟨sg, fun _ h => h, fun a h => upd_nu h, fun a o e n1 n2 => ?_⟩⟩
  · by_cases h : a = p
    · subst h; rw [upd_same] at e ⊢; exact e
    · rw [upd_ne h] at e ⊢; exact S.out.sub a o e
  · exact c.Om.loc H _ S.out.inv (fun a ha => by rw [upd_ne (neO a ha)]) fun a φ e => by rw [upd_ne (ne e)]; exact e
  · rw [upd_ne (neO a ha)]; exact S.out.omG a ha
  · rw [upd_ne (neO a ha)]; exact S.out.omH a ha
  · obtain ⟨h1, h2⟩ := S.out.kp a o e n x
    rw [upd_ne (ne h1), upd_ne (ne h1)]
    exact ⟨h1, h2⟩
  · obtain ⟨v, h1, h2⟩ := S.fro i d e
    exact ⟨v, h1, h2.mono sg⟩
  · obtain ⟨q, h3, w, f⟩ := S.own i d e
    obtain ⟨o, e1, e2⟩ := w.ob
    exact ⟨q, h3, ⟨by rw [upd_ne (ne e1)]; exact w.g, w.om, o, by rw [upd_ne (ne e1)]; exact e1, e2.mono sg⟩, f⟩
  · rw [upd_ne (ne e), upd_ne (ne e)]
    exact ⟨e, fun g _ => g⟩
theorem Res.tup {K : PySem.W.Frag} {G H : Hp} {σ : L2.St} {δ : List Sl} {R : D → Bool → Prop} {Q : VK} (S : SR c K G H σ δ) (h : Res c K G H σ δ R Q) {ds : List D} {vs : List V} (r : R (.tup ds) false) (hv : Rps c.Om K G ds vs) {p : Addr} (hp : H p = none) : Q (.ref p) (upd H p (.tup vs)) := by
  obtain ⟨S1, k1⟩ := new_tup (vs := vs) S hp
  exact h _ _ _ _ _ r S1 k1 ⟨fun _ => ⟨p, vs, rfl, upd_same, hv.mono k1.ext⟩, fun h => (by cases h)⟩
theorem line16 : (16777216 : Nat) = sizeLine := by rw [sizeLine_eq]
theorem qe_lst (h : QA X c es t) : QE X c (.List es pos) (wLst t) :=
  ⟨mo_lst h.mo, pe_imp (pe_lst h.pa) fun σ H Q ⟨G, δ, S, q⟩ => ⟨G, δ, S, h.mo δ _ _ (fun ds δ1 z vs G1 H1 S1 k1 r1 => ⟨by rw [r1.length, ← line16]; exact z.1, fun p hp =>
    Res.new (R := fun d o => d = .lst ds ∧ o = true) S1 (fun d o v G2 H2 e S2 k2 r2 => by
      obtain ⟨rfl, rfl⟩ := e
      exact z.2 v G2 H2 S2 (k1.trans k2) (r2.back k1)) ⟨rfl, rfl⟩ ⟨vs, rfl, r1⟩ hp⟩) q⟩⟩
theorem qe_tup {x1} (h : QA X c es t) : QE X c (.Tuple es x1 pos) (wTup t) :=
  ⟨mo_tup h.mo, pe_imp (pe_tup h.pa) fun σ H Q ⟨G, δ, S, q⟩ => ⟨G, δ, S, h.mo δ _ _ (fun ds δ1 z vs G1 H1 S1 k1 r1 => ⟨by rw [r1.length, ← line16]; exact z.1, fun p hp =>
    Res.tup (R := fun d o => d = .tup ds ∧ o = false) S1 (fun d o v G2 H2 e S2 k2 r2 => by
      obtain ⟨rfl, rfl⟩ := e
      exact z.2 v G2 H2 S2 (k1.trans k2) (r2.back k1)) ⟨rfl, rfl⟩ r1 hp⟩) q⟩⟩
end

/-! ### built-in calls -/
abbrev FN := List D → (D → Bool → Prop) → Prop
def MoFN (f : FN) : Prop := ∀ ds Q Q', (∀ d o, Q d o → Q' d o) → f ds Q → f ds Q'
def OpN (c : Ct) (K : PySem.W.Frag) (r : List V → Hp → VK → Prop) (f : FN) : Prop := ∀ G H σ δ ds vs R Q, SR c K G H σ δ → Rps c.Om K G ds vs → f ds R → Res c K G H σ δ R Q → r vs H Q
def wCB (f : FN) (t : WA) : WE := fun δ Q => t δ fun ds δ1 => f ds fun d o => Q d o δ1
theorem mo_cb {f : FN} {t : WA} (mf : MoFN f) (mt : MoA t) : MoE (wCB f t) := fun δ Q Q' h q => mt δ _ _ (fun ds δ1 z => mf ds _ _ (fun d o x => h d o δ1 x) z) q
section
variable {X : Cx} {c : Ct} {x : Str} {p pos : Pos} {e : Expr} {es : List Expr} {t : WA} {id T : String} {r : List V → Hp → VK → Prop} {f : FN}
theorem link_cb (ho : OpN c X.K r f) (mt : MoA t) {σ : L2.St} {H : Hp} {Q : VK} (h : lE c X.K (wCB f t) σ H Q) : tCB r (lA c X.K t) σ H Q := by
  obtain ⟨G, δ, S, q⟩ := h
  exact ⟨G, δ, S, mt δ _ _ (fun ds δ1 z vs G1 H1 S1 k1 r1 => ho G1 H1 σ δ1 ds vs _ Q S1 r1 z fun d3 o v3 G3 H3 z3 S3 k3 r3 => z3 v3 G3 H3 S3 (k1.trans k3) (r3.back k1)) q⟩
theorem qe_callB (hc : CallR X (.builtin id) r) (hg : Gl X x) (hm : X.mg x = none) (hv : bootBuiltins x = some (.builtin id)) (mf : MoFN f) (ho : OpN c X.K r f) (ha : QA X c (e :: es) t) (hn : x ≠ "__name__" := by decide) (hdb : (x == ("__debug__" : Str)) = false := by decide)
    (he : starEach (e :: es) X.env = (false, eval e X.env) :: starEach es X.env := by rfl) (hpl : (backTo pos (starEach es X.env)).any (·.1) = false := by rfl) : QE X c (.Call (.Name x p) (e :: es) [] pos) (wCB f t) :=
  ⟨mo_cb mf ha.mo, pe_imp (pe_callB hc hg hm hv ha.pa hn hdb he hpl) fun σ H Q h => link_cb ho ha.mo h⟩
theorem qe_callTy (hc : CallR X (.type T) r) (hg : Gl X x) (hm : X.mg x = none) (hv : bootBuiltins x = some (.type T)) (mf : MoFN f) (ho : OpN c X.K r f) (ha : QA X c (e :: es) t) (hn : x ≠ "__name__" := by decide) (hdb : (x == ("__debug__" : Str)) = false := by decide)
    (he : starEach (e :: es) X.env = (false, eval e X.env) :: starEach es X.env := by rfl) (hpl : (backTo pos (starEach es X.env)).any (·.1) = false := by rfl) : QE X c (.Call (.Name x p) (e :: es) [] pos) (wCB f t) :=
  ⟨mo_cb mf ha.mo, pe_imp (pe_callTy hc hg hm hv ha.pa hn hdb he hpl) fun σ H Q h => link_cb ho ha.mo h⟩
end
end PD

set_option Elab.async false
set_option linter.all false
set_option maxRecDepth 100000
set_option maxHeartbeats 2000000
/-! PD, fourth part: operators and built-ins by data -/
namespace PD
open PySem PySem.Spec PyProof.Rows L2

/-! ### arithmetic -/
def addF : F2
  | .int i, .int j, R => R (.int (i + j)) false
  | .str x, .str y, R => x.length + y.length ≤ 16777216 ∧ R (.str (x ++ y)) false
  | .lst xs, .lst ys, R => xs.length + ys.length ≤ 16777216 ∧ R (.lst (xs ++ ys)) true
  | .tup xs, .tup ys, R => xs ≠ [] ∧ xs.length + ys.length ≤ 16777216 ∧ R (.tup (xs ++ ys)) false
  | _, _, _ => False
def subF : F2
  | .int i, .int j, R => R (.int (i - j)) false
  | _, _, _ => False
def mulF : F2
  | .int i, .int j, R => CMul i j ∧ R (.int (i * j)) false
  | .lst xs, .int k, R => xs.length ≤ 4096 ∧ 0 ≤ k ∧ k ≤ 4096 ∧ R (.lst (List.replicate k.toNat xs).flatten) true
  | _, _, _ => False
def modF : F2
  | .int i, .int j, R => 0 < j ∧ R (.int (i % j)) false
  | _, _, _ => False
def fdivF : F2
  | .int i, .int j, R => CDiv i j ∧ R (.int (i / j)) false
  | _, _, _ => False
def powF : F2
  | .int i, .int j, R => CPow i j ∧ R (.int (i ^ j.toNat)) false
  | _, _, _ => False
def negF : F1
  | .int i, R => R (.int (-i)) false
  | _, _ => False
theorem mo_add : MoF2 addF := fun a b Q Q' h q => by
  cases a <;> cases b <;> first | exact h _ _ q | exact ⟨q.1, h _ _ q.2⟩ | exact ⟨q.1, q.2.1, h _ _ q.2.2⟩ | exact q
theorem mo_sub : MoF2 subF := fun a b Q Q' h q => by cases a <;> cases b <;> first | exact h _ _ q | exact q
theorem mo_mul : MoF2 mulF := fun a b Q Q' h q => by cases a <;> cases b <;> first | exact ⟨q.1, h _ _ q.2⟩ | exact ⟨q.1, q.2.1, q.2.2.1, h _ _ q.2.2.2⟩ | exact q
theorem mo_mod : MoF2 modF := fun a b Q Q' h q => by cases a <;> cases b <;> first | exact ⟨q.1, h _ _ q.2⟩ | exact q
theorem mo_fdiv : MoF2 fdivF := fun a b Q Q' h q => by cases a <;> cases b <;> first | exact ⟨q.1, h _ _ q.2⟩ | exact q
theorem mo_pow : MoF2 powF := fun a b Q Q' h q => by cases a <;> cases b <;> first | exact ⟨q.1, h _ _ q.2⟩ | exact q
theorem mo_neg : MoF1 negF := fun a Q Q' h q => by cases a <;> first | exact h _ _ q | exact q
section
variable {c : Ct} {K : PySem.W.Frag}
def rAddA (K : PySem.W.Frag) : R2 := fun x y H Q => rI0 (fun i j => .int (i + j)) x y H Q ∨ (∃ i j, x = .str i ∧ y = .str j ∧ i.length + j.length ≤ sizeLine ∧ Q (.str (i ++ j)) H) ∨ rCat x y H Q ∨ rCatT K x y H Q
theorem opr_add {X : Cx} : OpR X (binaryOp .Add) (rAddA X.K) := op_add.or (op_add_str.or (op_cat.or op_catT))
theorem or_add : Op2 c K (rAddA K) addF := fun G H σ δ a b x y R Q S ra rb h q => by
  cases a <;> cases b <;> try exact h.elim
  · rename_i i j
    exact .inl ⟨i, j, ra, rb, q.val S h rfl⟩
  · rename_i i j
    exact .inr (.inl ⟨i, j, ra, rb, by rw [← line16]; exact h.1, q.val S h.2 rfl⟩)
  · rename_i xs ys
    obtain ⟨a1, vs, rfl, g1, r1⟩ := ra
    obtain ⟨a2, us, rfl, g2, r2⟩ := rb
    exact .inr (.inr (.inl ⟨a1, a2, vs, us, rfl, rfl, S.out.sub _ _ g1, S.out.sub _ _ g2, by rw [r1.length, r2.length, ← line16]; exact h.1, fun p hp => q.new S h.2 ⟨_, rfl, r1.append r2⟩ hp⟩))
  · rename_i xs ys
    obtain ⟨a1, vs, rfl, g1, r1⟩ := ra
    obtain ⟨a2, us, rfl, g2, r2⟩ := rb
    obtain ⟨h1, h2, h3⟩ := h
    refine .inr (.inr (.inr ⟨a1, a2, vs, us, rfl, rfl, SqT.of (S.out.sub _ _ g1), SqT.of (S.out.sub _ _ g2), fun z => h1 ?_, by rw [r1.length, r2.length, ← line16]; exact h2, fun z => ?_, fun z p hp => ?_⟩))
    · have := r1.length
      rw [z] at this
      exact List.length_eq_zero_iff.mp this.symm
    · have e : ys = [] := by
        have := r2.length
        rw [z] at this
        exact List.length_eq_zero_iff.mp this.symm
      subst e
      rw [List.append_nil] at h3
      exact q.val S h3 ⟨a1, vs, rfl, g1, r1⟩
    · exact q.tup S h3 (r1.append r2) hp
theorem or_sub : Op2 c K (rI0 fun i j => .int (i - j)) subF := fun G H σ δ a b x y R Q S ra rb h q => by
  cases a <;> cases b <;> try exact h.elim
  rename_i i j
  exact ⟨i, j, ra, rb, q.val S h rfl⟩
def rMulA : R2 := fun x y H Q => rI CMul (fun i j => .int (i * j)) x y H Q ∨ rRep x y H Q
theorem opr_mul {X : Cx} : OpR X (binaryOp .Mult) rMulA := op_mul.or op_rep
theorem rep_flat {α : Type} (xs : List α) : ∀ n : Nat, (List.replicate n xs).flatten.length = n * xs.length
  | 0 => by simp
  | n + 1 => by rw [List.replicate_succ, List.flatten_cons, List.length_append, rep_flat xs n, Nat.succ_mul]; omega
theorem rps_rep {Ω : Om} {G : Hp} {ds : List D} {vs : List V} (r : Rps Ω K G ds vs) : ∀ n : Nat, Rps Ω K G (List.replicate n ds).flatten (List.replicate n vs).flatten
  | 0 => .nil
  | n + 1 => by rw [List.replicate_succ, List.flatten_cons, List.replicate_succ, List.flatten_cons]; exact r.append (rps_rep r n)
theorem or_mod : Op2 c K (rI (fun _ j => 0 < j) fun i j => .int (i % j)) modF := fun G H σ δ a b x y R Q S ra rb h q => by
  cases a <;> cases b <;> try exact h.elim
  rename_i i j
  exact ⟨i, j, ra, rb, h.1, q.val S h.2 rfl⟩
theorem or_fdiv : Op2 c K (rI CDiv fun i j => .int (i / j)) fdivF := fun G H σ δ a b x y R Q S ra rb h q => by
  cases a <;> cases b <;> try exact h.elim
  rename_i i j
  exact ⟨i, j, ra, rb, h.1, q.val S h.2 rfl⟩
theorem or_pow : Op2 c K (rI CPow fun i j => .int (i ^ j.toNat)) powF := fun G H σ δ a b x y R Q S ra rb h q => by
  cases a <;> cases b <;> try exact h.elim
  rename_i i j
  exact ⟨i, j, ra, rb, h.1, q.val S h.2 rfl⟩
theorem or_neg : ∀ G H σ δ a x R Q, SR c K G H σ δ → Rp c.Om K G a x → negF a R → Res c K G H σ δ R Q → (rU fun i => .int (-i)) x H Q := fun G H σ δ a x R Q S ra h q => by
  cases a <;> try exact h.elim
  rename_i i
  exact ⟨i, ra, q.val S h rfl⟩
end

/-! ### comparisons of ints -/
def cmpF (p : Int → Int → Bool) : F2
  | .int i, .int j, R => R (.bl (p i j)) false
  | _, _, _ => False
abbrev ltF : F2 := cmpF fun i j => decide (i < j)
abbrev leF : F2 := cmpF fun i j => decide (i ≤ j)
abbrev gtF : F2 := cmpF fun i j => decide (j < i)
abbrev geF : F2 := cmpF fun i j => decide (j ≤ i)
theorem mo_cmp (p : Int → Int → Bool) : MoF2 (cmpF p) := fun a b Q Q' h q => by cases a <;> cases b <;> first | exact h _ _ q | exact q
theorem or_cmp {c : Ct} {K : PySem.W.Frag} (p : Int → Int → Bool) : Op2 c K (rI0 fun i j => .bl (p i j)) (cmpF p) := fun G H σ δ a b x y R Q S ra rb h q => by
  cases a <;> cases b <;> try exact h.elim
  rename_i i j
  exact ⟨i, j, ra, rb, q.val S h rfl⟩

/-! ### is None -/
def isNF (neg : Bool) : F2
  | .non, .non, R => R (.bl (!neg)) false
  | .drw, .non, _ => False
  | _, .non, R => R (.bl neg) false
  | _, _, _ => False
theorem mo_isN (neg : Bool) : MoF2 (isNF neg) := fun a b Q Q' h q => by cases a <;> cases b <;> first | exact h _ _ q | exact q
theorem rp_non {Ω : Om} {K : PySem.W.Frag} {G : Hp} {d : D} {x : V} (r : Rp Ω K G d x) (h : ∀ R : D → Bool → Prop, ∀ neg, isNF neg d .non R → R (.bl neg) false) (hd : d ≠ .drw) : d ≠ .non → decide (x = .non) = false := fun hn => by
  refine decide_eq_false fun e => ?_
  subst e
  cases d with
  | non => exact hn rfl
  | drw => exact hd rfl
  | bl b => exact nomatch (show V.non = V.bl b from r)
  | int b => exact nomatch (show V.non = V.int b from r)
  | str b => exact nomatch (show V.non = V.str b from r)
  | cls b => exact nomatch (show V.non = V.ref _ from r)
  | ty b => exact nomatch (show V.non = V.ty b from r)
  | par _ _ => exact r.elim
  | lst _ => obtain ⟨_, _, e, _⟩ := r; cases e
  | tup _ => obtain ⟨_, _, e, _⟩ := r; cases e
  | ktp _ => obtain ⟨_, _, e, _⟩ := r; cases e
  | kls _ => obtain ⟨_, _, e, _⟩ := r; cases e
  | dT _ _ => obtain ⟨_, _, _, e, _⟩ := r; cases e
  | dK _ _ => obtain ⟨_, _, _, e, _⟩ := r; cases e
  | ins _ _ => obtain ⟨_, _, _, e, _⟩ := r; cases e
  | exc _ _ => obtain ⟨_, _, _, e, _⟩ := r; cases e
theorem or_isN {c : Ct} {K : PySem.W.Frag} : Op2 c K (fun x y H Q => y = .non ∧ Q (.bl (decide (x = .non))) H) (isNF false) := fun G H σ δ a b x y R Q S ra rb h q => by
  cases b <;> try (cases a <;> exact h.elim)
  refine ⟨rb, ?_⟩
  cases a with
  | non =>
    rw [show x = .non from ra]
    exact q.val S (show R (.bl true) false from h) rfl
  | drw => exact h.elim
  | _ =>
    rw [rp_non ra (fun _ _ z => z) (by intro z; cases z) (by intro z; cases z)]
    exact q.val S (show R (.bl false) false from h) rfl
theorem or_notN {c : Ct} {K : PySem.W.Frag} : Op2 c K (fun x y H Q => y = .non ∧ Q (.bl (!decide (x = .non))) H) (isNF true) := fun G H σ δ a b x y R Q S ra rb h q => by
  cases b <;> try (cases a <;> exact h.elim)
  refine ⟨rb, ?_⟩
  cases a with
  | non =>
    rw [show x = .non from ra]
    exact q.val S (show R (.bl false) false from h) rfl
  | drw => exact h.elim
  | _ =>
    rw [rp_non ra (fun _ _ z => z) (by intro z; cases z) (by intro z; cases z)]
    exact q.val S (show R (.bl true) false from h) rfl

/-! ### equality of plain data -/
mutual
def deq : D → D → Bool
  | .non, .non => true
  | .bl a, .bl b => a == b
  | .bl a, .int j => (if a then 1 else 0) == j
  | .int i, .bl b => i == (if b then 1 else 0)
  | .int i, .int j => i == j
  | .str x, .str y => x == y
  | .lst xs, .lst ys => deqs xs ys
  | .tup xs, .tup ys => deqs xs ys
  | .tup xs, .ktp ys => deqs xs ys
  | .ktp xs, .tup ys => deqs xs ys
  | .ktp xs, .ktp ys => deqs xs ys
  | _, _ => false
def deqs : List D → List D → Bool
  | [], [] => true
  | x :: xs, y :: ys => deq x y && deqs xs ys
  | _, _ => false
end
mutual
def py : D → PyData
  | .non => .none
  | .bl b => .bool b
  | .int i => .int i
  | .str x => .str x
  | .lst ds => .list (pys ds)
  | .tup ds => .tuple (pys ds)
  | .ktp ds => .tuple (pys ds)
  | _ => .none
def pys : List D → List PyData
  | [] => []
  | d :: ds => py d :: pys ds
end
/-- plain, to a depth -/
def shp : Nat → D → Bool
  | _, .non => true
  | _, .bl _ => true
  | _, .int _ => true
  | _, .str x => PyData.strOk x
  | k + 1, .lst ds => ds.all (shp k)
  | k + 1, .tup ds => ds.all (shp k)
  | k + 1, .ktp ds => ds.all (shp k)
  | _, _ => false
theorem pys_len : ∀ ds : List D, (pys ds).length = ds.length
  | [] => by simp [pys]
  | d :: ds => by simp [pys, pys_len ds]
theorem all_py {k : Nat} (ih : ∀ d : D, shp k d = true → (py d).canLay0 = true ∧ (py d).depth ≤ k) : ∀ ds : List D, ds.all (shp k) = true → PyData.canLayAll0 (pys ds) = true ∧ PyData.depthAll (pys ds) ≤ k
  | [], _ => by simp [pys, PyData.canLayAll0, PyData.depthAll]
  | d :: ds, h => by
    rw [List.all_cons, Bool.and_eq_true] at h
    obtain ⟨a1, a2⟩ := ih d h.1
    obtain ⟨b1, b2⟩ := all_py ih ds h.2
    simp only [pys, PyData.canLayAll0, PyData.depthAll, a1, b1, Bool.and_self, true_and]
    omega
theorem shp_py : ∀ (k : Nat) (d : D), shp k d = true → (py d).canLay0 = true ∧ (py d).depth ≤ k := by
  intro k
  induction k with
  | zero =>
    intro d h
    cases d <;> first | (simp [shp] at h; done) | (simp only [shp] at h; simp [py, PyData.canLay0, PyData.depth, h])
  | succ k ih =>
    intro d h
    cases d with
    | lst ds =>
      obtain ⟨a, b⟩ := all_py ih ds (by simpa only [shp] using h)
      simp only [py, PyData.canLay0, PyData.depth, a, true_and]
      omega
    | tup ds =>
      obtain ⟨a, b⟩ := all_py ih ds (by simpa only [shp] using h)
      simp only [py, PyData.canLay0, PyData.depth, a, true_and]
      omega
    | ktp ds =>
      obtain ⟨a, b⟩ := all_py ih ds (by simpa only [shp] using h)
      simp only [py, PyData.canLay0, PyData.depth, a, true_and]
      omega
    | _ => first | (simp [shp] at h; done) | (simp only [shp] at h; simp [py, PyData.canLay0, PyData.depth, h])
theorem shp_shaped {d : D} (h : shp 60 d = true) : SeqAt.shaped (py d) = true := by
  obtain ⟨a, b⟩ := shp_py 60 d h
  unfold SeqAt.shaped
  rw [a, Bool.true_and]
  exact decide_eq_true (by omega)
section
variable {Ω : Om} {K : PySem.W.Frag} {G H : Hp}
mutual
theorem dp_of (s : Sub G H) : ∀ (k : Nat) (d : D) (v : V), shp k d = true → Rp Ω K G d v → Dp K H v (py d)
  | _, .non, v, _, r => by rw [show v = .non from r]; exact .non
  | _, .bl b, v, _, r => by rw [show v = .bl b from r]; exact .bl b
  | _, .int i, v, _, r => by rw [show v = .int i from r]; exact .int i
  | _, .str x, v, _, r => by rw [show v = .str x from r]; exact .str x
  | k + 1, .lst ds, v, h, r => by
    obtain ⟨a, vs, rfl, g, q⟩ := r
    exact .lst (SqL.of (s _ _ g)) (dps_of s k ds vs (by simpa only [shp] using h) q)
  | k + 1, .tup ds, v, h, r => by
    obtain ⟨a, vs, rfl, g, q⟩ := r
    exact .tup (SqT.of (s _ _ g)) (dps_of s k ds vs (by simpa only [shp] using h) q)
  | k + 1, .ktp ds, v, h, r => by
    obtain ⟨a, vs, rfl, g, q⟩ := r
    exact .tup (.inr g) (dps_of s k ds vs (by simpa only [shp] using h) q)
  | 0, .lst ds, _, h, _ => by simp [shp] at h
  | 0, .tup ds, _, h, _ => by simp [shp] at h
  | 0, .ktp ds, _, h, _ => by simp [shp] at h
  | _, .kls _, _, h, _ => by simp [shp] at h
  | _, .dT _ _, _, h, _ => by simp [shp] at h
  | _, .dK _ _, _, h, _ => by simp [shp] at h
  | _, .ins _ _, _, h, _ => by simp [shp] at h
  | _, .par _ _, _, h, _ => by simp [shp] at h
  | _, .exc _ _, _, h, _ => by simp [shp] at h
  | _, .cls _, _, h, _ => by simp [shp] at h
  | _, .ty _, _, h, _ => by simp [shp] at h
  | _, .drw, _, h, _ => by simp [shp] at h
theorem dps_of (s : Sub G H) : ∀ (k : Nat) (ds : List D) (vs : List V), ds.all (shp k) = true → Rps Ω K G ds vs → DpAll K H vs (pys ds)
  | _, [], vs, _, r => by rw [show vs = [] from r]; exact .nil
  | k, d :: ds, _, h, ⟨v, r, e, h1, t⟩ => by
    subst e
    rw [List.all_cons, Bool.and_eq_true] at h
    exact .cons (dp_of s k d v h.1 h1) (dps_of s k ds r h.2 t)
end
end
mutual
theorem eqv_py : ∀ (k : Nat) (a b : D), shp k a = true → shp k b = true → PyData.eqv (py a) (py b) = deq a b
  | k + 1, .lst xs, .lst ys, h1, h2 => by
    simp only [py, PyData.eqv, deq]
    exact eqv_pys k xs ys (by simpa only [shp] using h1) (by simpa only [shp] using h2)
  | k + 1, .tup xs, .tup ys, h1, h2 => by
    simp only [py, PyData.eqv, deq]
    exact eqv_pys k xs ys (by simpa only [shp] using h1) (by simpa only [shp] using h2)
  | k + 1, .tup xs, .ktp ys, h1, h2 => by
    simp only [py, PyData.eqv, deq]
    exact eqv_pys k xs ys (by simpa only [shp] using h1) (by simpa only [shp] using h2)
  | k + 1, .ktp xs, .tup ys, h1, h2 => by
    simp only [py, PyData.eqv, deq]
    exact eqv_pys k xs ys (by simpa only [shp] using h1) (by simpa only [shp] using h2)
  | k + 1, .ktp xs, .ktp ys, h1, h2 => by
    simp only [py, PyData.eqv, deq]
    exact eqv_pys k xs ys (by simpa only [shp] using h1) (by simpa only [shp] using h2)
  | 0, a, b, h1, h2 => by
    cases a <;> first | (simp [shp] at h1; done) | (cases b <;> first | (simp [shp] at h2; done) | simp [py, PyData.eqv, deq])
  | k + 1, .non, b, h1, h2 => by cases b <;> first | (simp [shp] at h2; done) | simp [py, PyData.eqv, deq]
  | k + 1, .bl _, b, h1, h2 => by cases b <;> first | (simp [shp] at h2; done) | simp [py, PyData.eqv, deq]
  | k + 1, .int _, b, h1, h2 => by cases b <;> first | (simp [shp] at h2; done) | simp [py, PyData.eqv, deq]
  | k + 1, .str _, b, h1, h2 => by cases b <;> first | (simp [shp] at h2; done) | simp [py, PyData.eqv, deq]
  | k + 1, .lst _, .non, _, _ => by simp [py, PyData.eqv, deq]
  | k + 1, .lst _, .bl _, _, _ => by simp [py, PyData.eqv, deq]
  | k + 1, .lst _, .int _, _, _ => by simp [py, PyData.eqv, deq]
  | k + 1, .lst _, .str _, _, _ => by simp [py, PyData.eqv, deq]
  | k + 1, .lst _, .tup _, _, _ => by simp [py, PyData.eqv, deq]
  | k + 1, .lst _, .ktp _, _, _ => by simp [py, PyData.eqv, deq]
  | k + 1, .tup _, .non, _, _ => by simp [py, PyData.eqv, deq]
  | k + 1, .tup _, .bl _, _, _ => by simp [py, PyData.eqv, deq]
  | k + 1, .tup _, .int _, _, _ => by simp [py, PyData.eqv, deq]
  | k + 1, .tup _, .str _, _, _ => by simp [py, PyData.eqv, deq]
  | k + 1, .tup _, .lst _, _, _ => by simp [py, PyData.eqv, deq]
  | k + 1, .ktp _, .non, _, _ => by simp [py, PyData.eqv, deq]
  | k + 1, .ktp _, .bl _, _, _ => by simp [py, PyData.eqv, deq]
  | k + 1, .ktp _, .int _, _, _ => by simp [py, PyData.eqv, deq]
  | k + 1, .ktp _, .str _, _, _ => by simp [py, PyData.eqv, deq]
  | k + 1, .ktp _, .lst _, _, _ => by simp [py, PyData.eqv, deq]
  | k + 1, a, .kls _, _, h2 => by simp [shp] at h2
  | k + 1, a, .dT _ _, _, h2 => by simp [shp] at h2
  | k + 1, a, .dK _ _, _, h2 => by simp [shp] at h2
  | k + 1, a, .ins _ _, _, h2 => by simp [shp] at h2
  | k + 1, a, .par _ _, _, h2 => by simp [shp] at h2
  | k + 1, a, .exc _ _, _, h2 => by simp [shp] at h2
  | k + 1, a, .cls _, _, h2 => by simp [shp] at h2
  | k + 1, a, .ty _, _, h2 => by simp [shp] at h2
  | k + 1, a, .drw, _, h2 => by simp [shp] at h2
  | k + 1, .kls _, _, h1, _ => by simp [shp] at h1
  | k + 1, .dT _ _, _, h1, _ => by simp [shp] at h1
  | k + 1, .dK _ _, _, h1, _ => by simp [shp] at h1
  | k + 1, .ins _ _, _, h1, _ => by simp [shp] at h1
  | k + 1, .par _ _, _, h1, _ => by simp [shp] at h1
  | k + 1, .exc _ _, _, h1, _ => by simp [shp] at h1
  | k + 1, .cls _, _, h1, _ => by simp [shp] at h1
  | k + 1, .ty _, _, h1, _ => by simp [shp] at h1
  | k + 1, .drw, _, h1, _ => by simp [shp] at h1
theorem eqv_pys : ∀ (k : Nat) (a b : List D), a.all (shp k) = true → b.all (shp k) = true → PyData.eqvAll (pys a) (pys b) = deqs a b
  | _, [], [], _, _ => by simp [pys, PyData.eqvAll, deqs]
  | _, [], _ :: _, _, _ => by simp [pys, PyData.eqvAll, deqs]
  | _, _ :: _, [], _, _ => by simp [pys, PyData.eqvAll, deqs]
  | k, x :: xs, y :: ys, h1, h2 => by
    rw [List.all_cons, Bool.and_eq_true] at h1 h2
    simp only [pys, PyData.eqvAll, deqs]
    rw [eqv_py k x y h1.1 h2.1, eqv_pys k xs ys h1.2 h2.2]
end
/-- ==, != of plain data -/
def eqF : F2 := fun a b R => shp 60 a = true ∧ shp 60 b = true ∧ R (.bl (deq a b)) false
def neF : F2 := fun a b R => shp 60 a = true ∧ shp 60 b = true ∧ R (.bl (!deq a b)) false
theorem mo_eq : MoF2 eqF := fun a b Q Q' h q => ⟨q.1, q.2.1, h _ _ q.2.2⟩
theorem mo_ne : MoF2 neF := fun a b Q Q' h q => ⟨q.1, q.2.1, h _ _ q.2.2⟩
theorem or_eq {c : Ct} {K : PySem.W.Frag} : Op2 c K (rEqD K) eqF := fun G H σ δ a b x y R Q S ra rb h q => by
  obtain ⟨h1, h2, h3⟩ := h
  refine ⟨py a, py b, dp_of S.out.sub 60 a x h1 ra, dp_of S.out.sub 60 b y h2 rb, shp_shaped h1, shp_shaped h2, ?_⟩
  rw [eqv_py 60 a b h1 h2]
  exact q.val S h3 rfl
theorem or_ne {c : Ct} {K : PySem.W.Frag} : Op2 c K (rNeD K) neF := fun G H σ δ a b x y R Q S ra rb h q => by
  obtain ⟨h1, h2, h3⟩ := h
  refine ⟨py a, py b, dp_of S.out.sub 60 a x h1 ra, dp_of S.out.sub 60 b y h2 rb, shp_shaped h1, shp_shaped h2, ?_⟩
  rw [eqv_py 60 a b h1 h2]
  exact q.val S h3 rfl

/-! ### in -/
/-- flat data -/
def flt : D → Bool
  | .non => true
  | .bl _ => true
  | .int _ => true
  | .str _ => true
  | _ => false
def inF (neg : Bool) : F2
  | a, .lst ys, R => shp 60 a = true ∧ shp 60 (.lst ys) = true ∧ R (.bl (neg != ys.any fun y => deq y a)) false
  | a, .tup ys, R => flt a = true ∧ ys.all flt = true ∧ R (.bl (neg != ys.any fun y => deq y a)) false
  | a, .ktp ys, R => flt a = true ∧ ys.all flt = true ∧ R (.bl (neg != ys.any fun y => deq y a)) false
  | .str x, .str y, R => R (.bl (neg != !(Builtin.Str.occurrences y x 0 y.length 1).isEmpty)) false
  | _, _, _ => False
theorem mo_in (neg : Bool) : MoF2 (inF neg) := fun a b Q Q' h q => by
  cases b <;> first | exact ⟨q.1, q.2.1, h _ _ q.2.2⟩ | (cases a <;> first | exact h _ _ q | exact q)
theorem flt_flat {Ω : Om} {K : PySem.W.Frag} {G : Hp} {d : D} {x : V} (h : flt d = true) (r : Rp Ω K G d x) : flatV x = true := by
  cases d <;> first | (cases h; done) | (rw [show x = _ from r]; rfl)
theorem flt_flats {Ω : Om} {K : PySem.W.Frag} {G : Hp} : ∀ {ds : List D} {vs : List V}, ds.all flt = true → Rps Ω K G ds vs → vs.all flatV = true
  | [], _, _, r => by rw [show _ = _ from r]; rfl
  | d :: ds, _, h, ⟨v, r, e, h1, t⟩ => by
    subst e
    rw [List.all_cons, Bool.and_eq_true] at h ⊢
    exact ⟨flt_flat h.1 h1, flt_flats h.2 t⟩
theorem flt_eq {Ω : Om} {K : PySem.W.Frag} {G : Hp} {a b : D} {x y : V} (ha : flt a = true) (hb : flt b = true) (ra : Rp Ω K G a x) (rb : Rp Ω K G b y) : eqV x y = deq a b := by
  cases a <;> first | (cases ha; done) | (cases b <;> first | (cases hb; done) | (rw [show x = _ from ra, show y = _ from rb]; simp [eqV, deq]))
theorem flt_any {Ω : Om} {K : PySem.W.Frag} {G : Hp} {a : D} {x : V} (ha : flt a = true) (ra : Rp Ω K G a x) : ∀ {ds : List D} {vs : List V}, ds.all flt = true → Rps Ω K G ds vs → (vs.any fun y => eqV y x) = ds.any fun y => deq y a
  | [], _, _, r => by rw [show _ = _ from r]; rfl
  | d :: ds, _, h, ⟨v, r, e, h1, t⟩ => by
    subst e
    rw [List.all_cons, Bool.and_eq_true] at h
    rw [List.any_cons, List.any_cons, flt_eq h.1 ha h1 ra, flt_any ha ra h.2 t]
theorem any_py {a : D} (ha : shp 60 a = true) : ∀ ys : List D, (∀ y ∈ ys, shp 60 y = true) → ((pys ys).any fun z => PyData.eqv z (py a)) = ys.any fun y => deq y a
  | [], _ => rfl
  | y :: ys, h => by
    simp only [pys, List.any_cons]
    rw [eqv_py 60 y a (h y List.mem_cons_self) ha, any_py ha ys fun z hz => h z (List.mem_cons_of_mem _ hz)]
theorem shp_le : ∀ (k : Nat) (d : D), shp k d = true → shp (k + 1) d = true := by
  intro k
  induction k with
  | zero => intro d h; cases d <;> first | (simp [shp] at h; done) | (simp [shp]; done) | (simp only [shp] at h ⊢; exact h)
  | succ k ih =>
    intro d h
    cases d <;> first | (simp [shp] at h; done) | (simp [shp]; done) | (simp only [shp] at h ⊢; exact h) | (simp only [shp, List.all_eq_true] at h ⊢; exact fun x hx => ih x (h x hx))
def rInA (K : PySem.W.Frag) : R2 := fun x y H Q => rInD K x y H Q ∨ rIn K false x y H Q ∨ ∃ i j, x = .str i ∧ y = .str j ∧ Q (.bl (!(Builtin.Str.occurrences j i 0 j.length 1).isEmpty)) H
def rNotInA (K : PySem.W.Frag) : R2 := fun x y H Q => rNotInD K x y H Q ∨ rIn K true x y H Q ∨ ∃ i j, x = .str i ∧ y = .str j ∧ Q (.bl (!(!(Builtin.Str.occurrences j i 0 j.length 1).isEmpty))) H
theorem opr_in {X : Cx} (hu : X.A.units + 65 < cLine) : OpR X (compareOp .In) (rInA X.K) := (op_inD hu).or (op_in_seq.or op_in_str)
theorem opr_notIn {X : Cx} (hu : X.A.units + 65 < cLine) : OpR X (compareOp .NotIn) (rNotInA X.K) := (op_notInD hu).or (op_notIn_seq.or op_notin_str)
theorem or_in {c : Ct} {K : PySem.W.Frag} : Op2 c K (rInA K) (inF false) := fun G H σ δ a b x y R Q S ra rb h q => by
  cases b with
  | lst ys =>
    obtain ⟨h1, h2, h3⟩ := h
    have h4 : ∀ y ∈ ys, shp 60 y = true := fun y hy => shp_le 59 y (by simp only [shp, List.all_eq_true] at h2; exact h2 y hy)
    refine .inl ⟨py a, pys ys, dp_of S.out.sub 60 a x h1 ra, dp_of S.out.sub 60 (.lst ys) y h2 rb, shp_shaped h1, shp_shaped h2, ?_⟩
    rw [any_py h1 ys h4]
    simpa using q.val S h3 rfl
  | tup ys =>
    obtain ⟨h1, h2, h3⟩ := h
    obtain ⟨p, vs, rfl, g, r⟩ := rb
    refine .inr (.inl ⟨p, vs, rfl, .inr (SqT.of (S.out.sub _ _ g)), flt_flat h1 ra, flt_flats h2 r, ?_⟩)
    unfold inV
    rw [flt_any h1 ra h2 r]
    simpa using q.val S h3 rfl
  | ktp ys =>
    obtain ⟨h1, h2, h3⟩ := h
    obtain ⟨p, vs, rfl, g, r⟩ := rb
    refine .inr (.inl ⟨p, vs, rfl, .inr (.inr g), flt_flat h1 ra, flt_flats h2 r, ?_⟩)
    unfold inV
    rw [flt_any h1 ra h2 r]
    simpa using q.val S h3 rfl
  | str z =>
    cases a <;> try exact h.elim
    rename_i w
    exact .inr (.inr ⟨w, z, ra, rb, by simpa using q.val S h rfl⟩)
  | _ => cases a <;> exact h.elim
theorem or_notIn {c : Ct} {K : PySem.W.Frag} : Op2 c K (rNotInA K) (inF true) := fun G H σ δ a b x y R Q S ra rb h q => by
  cases b with
  | lst ys =>
    obtain ⟨h1, h2, h3⟩ := h
    have h4 : ∀ y ∈ ys, shp 60 y = true := fun y hy => shp_le 59 y (by simp only [shp, List.all_eq_true] at h2; exact h2 y hy)
    refine .inl ⟨py a, pys ys, dp_of S.out.sub 60 a x h1 ra, dp_of S.out.sub 60 (.lst ys) y h2 rb, shp_shaped h1, shp_shaped h2, ?_⟩
    rw [any_py h1 ys h4]
    simpa using q.val S h3 rfl
  | tup ys =>
    obtain ⟨h1, h2, h3⟩ := h
    obtain ⟨p, vs, rfl, g, r⟩ := rb
    refine .inr (.inl ⟨p, vs, rfl, .inr (SqT.of (S.out.sub _ _ g)), flt_flat h1 ra, flt_flats h2 r, ?_⟩)
    unfold inV
    rw [flt_any h1 ra h2 r]
    simpa using q.val S h3 rfl
  | ktp ys =>
    obtain ⟨h1, h2, h3⟩ := h
    obtain ⟨p, vs, rfl, g, r⟩ := rb
    refine .inr (.inl ⟨p, vs, rfl, .inr (.inr g), flt_flat h1 ra, flt_flats h2 r, ?_⟩)
    unfold inV
    rw [flt_any h1 ra h2 r]
    simpa using q.val S h3 rfl
  | str z =>
    cases a <;> try exact h.elim
    rename_i w
    exact .inr (.inr ⟨w, z, ra, rb, by simpa using q.val S h rfl⟩)
  | _ => cases a <;> exact h.elim
end PD

set_option Elab.async false
set_option linter.all false
set_option maxRecDepth 100000
set_option maxHeartbeats 2000000
/-! PD, fifth part: built-in functions by data -/
namespace PD
open PySem PySem.Spec PyProof.Rows L2

theorem or_mul {c : Ct} {K : PySem.W.Frag} : Op2 c K rMulA mulF := fun G H σ δ a b x y R Q S ra rb h q => by
  cases a <;> cases b <;> try exact h.elim
  · rename_i i j
    exact .inl ⟨i, j, ra, rb, h.1, q.val S h.2 rfl⟩
  · rename_i xs k
    obtain ⟨l, vs, rfl, g, r⟩ := ra
    obtain ⟨h1, h2, h3, h4⟩ := h
    refine .inr ⟨l, k, vs, rfl, rb, S.out.sub _ _ g, by omega, by omega, ?_, fun p hp => q.new S h4 ⟨_, rfl, rps_rep r _⟩ hp⟩
    have h5 : k.toNat ≤ 4096 := by omega
    rw [r.length, ← line16]
    calc xs.length * k.toNat ≤ 4096 * 4096 := Nat.mul_le_mul h1 h5
      _ = 16777216 := by decide

/-! ### len -/
def lenF : FN
  | [.str x], R => x.length ≤ 16777216 ∧ R (.int x.length) false
  | [.lst xs], R => R (.int xs.length) false
  | [.kls xs], R => R (.int xs.length) false
  | [.tup xs], R => R (.int xs.length) false
  | [.ktp xs], R => R (.int xs.length) false
  | _, _ => False
theorem mo_len : MoFN lenF := fun ds Q Q' h q => by
  unfold lenF at q ⊢
  split at q <;> first | exact h _ _ q | exact ⟨q.1, h _ _ q.2⟩ | exact q.elim
theorem or_len {c : Ct} {K : PySem.W.Frag} : OpN c K (fun xs H Q => ∃ x n, xs = [x] ∧ LenV K x H n ∧ Q (.int n) H) lenF := fun G H σ δ ds vs R Q S rs h q => by
  unfold lenF at h
  split at h
  · rename_i x
    obtain ⟨v, r, rfl, h1, h2⟩ := rs
    rw [show r = [] from h2]
    refine ⟨v, x.length, rfl, ?_, q.val S h.2 rfl⟩
    rw [show v = .str x from h1]
    exact ⟨by rw [← line16]; exact h.1, rfl⟩
  · rename_i xs
    obtain ⟨v, r, rfl, h1, h2⟩ := rs
    rw [show r = [] from h2]
    obtain ⟨a, us, rfl, g, rr⟩ := h1
    refine ⟨_, xs.length, rfl, .inl ⟨us, SqL.of (S.out.sub _ _ g), rr.length.symm⟩, q.val S h rfl⟩
  · rename_i xs
    obtain ⟨v, r, rfl, h1, h2⟩ := rs
    rw [show r = [] from h2]
    obtain ⟨a, us, rfl, g, rr⟩ := h1
    refine ⟨_, xs.length, rfl, .inl ⟨us, S.out.sub.sqL g, rr.length.symm⟩, q.val S h rfl⟩
  · rename_i xs
    obtain ⟨v, r, rfl, h1, h2⟩ := rs
    rw [show r = [] from h2]
    obtain ⟨a, us, rfl, g, rr⟩ := h1
    refine ⟨_, xs.length, rfl, .inr ⟨us, SqT.of (S.out.sub _ _ g), rr.length.symm⟩, q.val S h rfl⟩
  · rename_i xs
    obtain ⟨v, r, rfl, h1, h2⟩ := rs
    rw [show r = [] from h2]
    obtain ⟨a, us, rfl, g, rr⟩ := h1
    refine ⟨_, xs.length, rfl, .inr ⟨us, .inr g, rr.length.symm⟩, q.val S h rfl⟩
  · exact h.elim

/-! ### isinstance -/
inductive TyY (K : PySem.W.Frag) (H : Hp) : V → Value → Prop where
  | base {x : V} {t : Value} (h : TyX K H x t) : TyY K H x t
  | fT {a : Addr} {o : Obj} {kvs : List (List Key × V)} (e : H a = some (.frz o (.dT kvs))) : TyY K H (.ref a) (.type "dict")
  | exc {a : Addr} {C : Nat} {d : Option Addr} (k : ExK K C) (e : H a = some (ExH (.ref (cA K C)) d a)) (hd : d = none ∨ ∃ dd fs, d = some dd ∧ H dd = some (.xd fs)) : TyY K H (.ref a) (.ref (cA K C))
section
variable {X : Cx} {pins : List (Addr × Obj)} {σ : L2.St} {H : Hp} {s : Shared}
theorem kit_ofY {x : V} {u t : Value} (I : Inv X pins σ H s) (rx : RelV x u) (ty : TyY X.K H x t) : ∃ P : Heap → Prop, PySem.W.KitX X.K u t P ∧ P s.heap ∧ u ≠ .builtin "__main__.__loader__#opaque" := by
  cases ty with
  | base h => exact kit_of I rx h
  | @fT a o kvs e =>
    cases (show u = Value.ref a from rx)
    obtain ⟨_, _, _, xs, _, o, es, ep, h1, h2, _⟩ := (show ObjOk X.prog X.w H s.heap a (.frz o (.dT kvs)) from I.hok a _ e)
    exact ⟨_, PySem.W.kitx_dict, ⟨o, h1, h2.1⟩, fun z => nomatch z⟩
  | @exc a C d k e hd =>
    cases (show u = Value.ref a from rx)
    obtain ⟨⟨oe, ho, hz, vs, hv⟩, _, _⟩ := I.hok a _ e
    have nc : PySem.W.notCls oe := by unfold PySem.W.notCls; rw [hv] <;> trivial
    have hcl : (PySem.W.clsIn X.K (cA X.K C)).isSome = true := by
      obtain ⟨cd, hc, _⟩ := PySem.W.any_some k.hd
      rw [hc]; rfl
    rcases hd with rfl | ⟨dd, fs, rfl, hdd⟩
    · exact ⟨fun h => PySem.W.InstAt h a oe (cA X.K C) none, PySem.W.kitx_exc hcl k.ga k.gt k.sub k.ha k.hn k.htk k.hm, ⟨ho, hz.1, nc, by rw [hz.2]; trivial⟩, fun z => nomatch z⟩
    · obtain ⟨mA, ⟨od, es, ep, e1, _⟩, _⟩ := (show ObjOk X.prog X.w H s.heap dd (.xd fs) from I.hok dd _ hdd)
      exact ⟨fun h => PySem.W.InstAt h a oe (cA X.K C) (some od), PySem.W.kitx_exc hcl k.ga k.gt k.sub k.ha k.hn k.htk k.hm, ⟨ho, hz.1, nc, by rw [hz.2]; exact e1⟩, fun z => nomatch z⟩
end
/-- isinstance(x, c) -/
def rIsiY (K : PySem.W.Frag) : List V → Hp → VK → Prop := fun xs H Q => ∃ (x c : V) (t u : Value) (b : Bool), xs = [x, c] ∧ ClsV c u ∧ TyY K H x t ∧ PySem.W.kitOne K t u = some b ∧ Q (.bl b) H
def rIsiYT (K : PySem.W.Frag) : List V → Hp → VK → Prop := fun xs H Q => ∃ (x : V) (tp : Addr) (cs : List V) (t : Value) (us : List Value) (b : Bool), xs = [x, .ref tp] ∧ H tp = some (.tup cs) ∧ Paired ClsV cs us ∧ TyY K H x t ∧ PySem.W.kitAny K t us = some b ∧ Q (.bl b) H
section
variable {X : Cx}
theorem call_isiY : CallR X (.builtin "isinstance") (rIsiY X.K) := by
  intro pins s σ H xs us Q I r h
  obtain ⟨x, c, t, u, b, rfl, k, ty, e, q⟩ := h
  obtain ⟨u1, u2, rfl, r1, r2⟩ := vals2 r
  have e2 := k.eq r2
  subst e2
  obtain ⟨P, Z, p, hx⟩ := kit_ofY I r1 ty
  exact PySem.W.kia_one Z I.kIn p e hx fun tk => ⟨.bl b, H, I.tok tk, rfl, q⟩
theorem call_isiYT : CallR X (.builtin "isinstance") (rIsiYT X.K) := by
  intro pins s σ H xs us Q I r h
  obtain ⟨x, tp, cs, t, ws, b, rfl, hT, k, ty, e, q⟩ := h
  obtain ⟨u1, u2, rfl, r1, r2⟩ := vals2 r
  cases (show u2 = Value.ref tp from r2)
  obtain ⟨P, Z, p, hx⟩ := kit_ofY I r1 ty
  obtain ⟨_, its, rv, o, h1, h2, n, h3⟩ := (show ObjOk X.prog X.w H s.heap tp (.tup cs) from I.hok tp _ hT)
  have e3 := ClsV.all k rv
  subst e3
  obtain ⟨oc, od, dt, sl⟩ := o
  simp only at h2 h3
  subst h2 h3
  exact PySem.W.kia_tup Z I.kIn p h1 e hx fun tk => ⟨.bl b, H, I.tok tk, rfl, q⟩
end
/-- the built-in type that a datum is of, if it is of one -/
def tagD : D → Option String
  | .non => some "NoneType"
  | .bl _ => some "bool"
  | .int _ => some "int"
  | .str _ => some "str"
  | .lst _ => some "list"
  | .tup _ => some "tuple"
  | .ktp _ => some "tuple"
  | .dT _ _ => some "dict"
  | .dK _ _ => some "dict"
  | _ => none
def isTag : String → String → Bool
  | "bool", "int" => true
  | a, b => a == b
/-- isinstance of a built-in type -/
def isTy (d : D) (n : String) : Option Bool := match d with
  | .ins _ _ => some false
  | .exc _ _ => some false
  | d => (tagD d).map fun t => isTag t n
def isCl (d : D) (C : Nat) : Option Bool := match d with
  | .ins C' _ => some (decide (C' = C))
  | .exc C' _ => some (subE C' C)
  | d => (tagD d).map fun _ => false
def isiF : FN
  | [d, .ty n], R => n ∈ bTys ∧ ∃ b, isTy d n = some b ∧ R (.bl b) false
  | _, _ => False
def isiCF (C0 : Nat) : FN
  | [d, .cls C], R => C = C0 ∧ ∃ b, isCl d C = some b ∧ R (.bl b) false
  | _, _ => False
/-- isinstance(x, (list, tuple)) -/
def isiLF : FN
  | [d, .tup [.ty n, .ty m]], R => n ∈ bTys ∧ m ∈ bTys ∧ ∃ b b', isTy d n = some b ∧ isTy d m = some b' ∧ R (.bl (b || b')) false
  | _, _ => False
theorem mo_isi : MoFN isiF := fun ds Q Q' h q => by
  unfold isiF at q ⊢
  split at q
  · obtain ⟨h1, b, h2, h3⟩ := q; exact ⟨h1, b, h2, h _ _ h3⟩
  · exact q.elim
theorem mo_isiC (C : Nat) : MoFN (isiCF C) := fun ds Q Q' h q => by
  unfold isiCF at q ⊢
  split at q
  · obtain ⟨h1, b, h2, h3⟩ := q; exact ⟨h1, b, h2, h _ _ h3⟩
  · exact q.elim
theorem mo_isiL : MoFN isiLF := fun ds Q Q' h q => by
  unfold isiLF at q ⊢
  split at q
  · obtain ⟨h1, h0, b, b', h2, h3, h4⟩ := q; exact ⟨h1, h0, b, b', h2, h3, h _ _ h4⟩
  · exact q.elim
theorem tyY_of {Ω : Om} {K : PySem.W.Frag} {G H : Hp} (s : Sub G H) {d : D} {x : V} {t : String} (h : tagD d = some t) (r : Rp Ω K G d x) : TyY K H x (.type t) := by
  cases d <;> first | (cases h; done) | skip
  · cases h; rw [show x = _ from r]; exact .base (.base .non)
  · cases h; rw [show x = _ from r]; exact .base (.base (.bl _))
  · cases h; rw [show x = _ from r]; exact .base (.base (.int _))
  · cases h; rw [show x = _ from r]; exact .base (.base (.str _))
  · cases h; obtain ⟨a, vs, rfl, g, _⟩ := r; exact .base (.base (.lst (s _ _ g)))
  · cases h; obtain ⟨a, vs, rfl, g, _⟩ := r; exact .base (.base (.tup (s _ _ g)))
  · cases h; obtain ⟨a, vs, rfl, ⟨o, its, n, g1, g2, _⟩, _⟩ := r; exact .base (.kTuple g1 g2)
  · cases h; obtain ⟨a, o, vs, rfl, g, _⟩ := r; exact .fT (s _ _ g)
  · cases h; obtain ⟨a, o, vs, rfl, g, _⟩ := r; exact .base (.fDict (s _ _ g))
theorem kit_tag {K : PySem.W.Frag} {t n : String} (hn : n ∈ bTys) {d : D} (ht : tagD d = some t) : PySem.W.kitOne K (.type t) (.type n) = some (isTag t n) := by
  refine kit_ty ?_
  simp only [bTys, List.mem_cons, List.not_mem_nil, or_false] at hn
  cases d <;> first | (cases ht; done) | (cases ht; rcases hn with rfl | rfl | rfl | rfl | rfl | rfl <;> decide +kernel)
/-- what K says of built-in types beside the text's classes -/
def TyK (K : PySem.W.Frag) (C : Nat) : Prop := ∀ t ∈ (["NoneType", "bool", "int", "str", "list", "tuple", "dict"] : List String), PySem.W.kitOne K (.type t) (.ref (cA K C)) = some false
theorem tag_mem {d : D} {t : String} (h : tagD d = some t) : t ∈ (["NoneType", "bool", "int", "str", "list", "tuple", "dict"] : List String) := by
  cases d <;> first | (cases h; done) | (cases h; simp)
theorem ins_ty {Ω : Om} {K : PySem.W.Frag} {G H : Hp} (s : Sub G H) {C : Nat} {ds : List D} {x : V} (r : Rp Ω K G (.ins C ds) x) : InK K C ∧ TyY K H x (.ref (cA K C)) := by
  obtain ⟨a, dx, vs, rfl, g, _, k, _⟩ := r
  exact ⟨k, .base (.base (.ins (s _ _ g) k.cl k.ha k.hn k.htk k.hm))⟩
theorem exc_ty {Ω : Om} {K : PySem.W.Frag} {G H : Hp} (s : Sub G H) {C : Nat} {ds : List D} {x : V} (r : Rp Ω K G (.exc C ds) x) : ExK K C ∧ TyY K H x (.ref (cA K C)) := by
  obtain ⟨a, d, vs, rfl, g, _, hd, k, _⟩ := r
  refine ⟨k, ?_⟩
  rcases hd with ⟨_, rfl⟩ | ⟨dd, rfl, g2⟩
  · exact .exc k (s _ _ g) (.inl rfl)
  · exact .exc k (s _ _ g) (.inr ⟨dd, _, rfl, s _ _ g2⟩)
theorem isTy_of {Ω : Om} {K : PySem.W.Frag} {G H : Hp} (s : Sub G H) {d : D} {x : V} {n : String} {b : Bool} (hn : n ∈ bTys) (h : isTy d n = some b) (r : Rp Ω K G d x) : ∃ t, TyY K H x t ∧ PySem.W.kitOne K t (.type n) = some b ∧ ∀ (m : String) (b' : Bool), m ∈ bTys → isTy d m = some b' → PySem.W.kitOne K t (.type m) = some b' := by
  have gen : ∀ t, tagD d = some t → (∀ (m : String), isTy d m = some (isTag t m)) → ∃ t, TyY K H x t ∧ PySem.W.kitOne K t (.type n) = some b ∧ ∀ (m : String) (b' : Bool), m ∈ bTys → isTy d m = some b' → PySem.W.kitOne K t (.type m) = some b' := fun t h1 h2 =>
    ⟨_, tyY_of s h1 r, by rw [kit_tag hn h1, ← h2, h], fun m b' hm e => by rw [kit_tag hm h1, ← h2, e]⟩
  cases d with
  | ins C ds =>
    obtain ⟨k, ty⟩ := ins_ty s r
    cases h
    exact ⟨_, ty, k.kb n hn, fun m b' hm e => by cases e; exact k.kb m hm⟩
  | exc C ds =>
    obtain ⟨k, ty⟩ := exc_ty s r
    cases h
    exact ⟨_, ty, k.kb n hn, fun m b' hm e => by cases e; exact k.kb m hm⟩
  | _ => first | (cases h; done) | (exact gen _ rfl fun m => rfl)
theorem isCl_of {Ω : Om} {K : PySem.W.Frag} {G H : Hp} (s : Sub G H) {d : D} {x : V} {C : Nat} {b : Bool} (hk : KnC K C) (ht : TyK K C) (h : isCl d C = some b) (r : Rp Ω K G d x) : ∃ t, TyY K H x t ∧ PySem.W.kitOne K t (.ref (cA K C)) = some b := by
  have gen : ∀ t, tagD d = some t → false = b → ∃ t, TyY K H x t ∧ PySem.W.kitOne K t (.ref (cA K C)) = some b := fun t h1 h2 => ⟨_, tyY_of s h1 r, by rw [ht t (tag_mem h1), h2]⟩
  cases d with
  | ins C' ds =>
    obtain ⟨k, ty⟩ := ins_ty s r
    cases h
    exact ⟨_, ty, k.kc C hk⟩
  | exc C' ds =>
    obtain ⟨k, ty⟩ := exc_ty s r
    cases h
    exact ⟨_, ty, k.kc C hk⟩
  | _ => first | (cases h; done) | (exact gen _ rfl (by simpa [isCl, tagD] using h))
theorem or_isi {c : Ct} {K : PySem.W.Frag} : OpN c K (rIsiY K) isiF := fun G H σ δ ds vs R Q S rs h q => by
  unfold isiF at h
  split at h
  · rename_i d n
    obtain ⟨x, _, rfl, h1, y, _, rfl, h2, h3⟩ := rs
    rw [show _ = [] from h3]
    obtain ⟨hn, b, e, hR⟩ := h
    obtain ⟨t, ty, ek, _⟩ := isTy_of S.out.sub hn e h1
    rw [show y = .ty n from h2]
    exact ⟨x, .ty n, t, .type n, b, rfl, .ty n, ty, ek, q.val S hR rfl⟩
  · exact h.elim
theorem or_isiC {c : Ct} {K : PySem.W.Frag} {C : Nat} (hk : KnC K C) (ht : TyK K C) : OpN c K (rIsiY K) (isiCF C) := fun G H σ δ ds vs R Q S rs h q => by
  unfold isiCF at h
  split at h
  · rename_i d C2
    obtain ⟨x, _, rfl, h1, y, _, rfl, h2, h3⟩ := rs
    rw [show _ = [] from h3]
    obtain ⟨rfl, b, e, hR⟩ := h
    obtain ⟨t, ty, ek⟩ := isCl_of S.out.sub hk ht e h1
    rw [show y = .ref (cA K _) from h2]
    exact ⟨x, .ref _, t, .ref _, b, rfl, .own _, ty, ek, q.val S hR rfl⟩
  · exact h.elim
theorem or_isiL {c : Ct} {K : PySem.W.Frag} : OpN c K (rIsiYT K) isiLF := fun G H σ δ ds vs R Q S rs h q => by
  unfold isiLF at h
  split at h
  · rename_i d n m
    obtain ⟨x, _, rfl, h1, y, _, rfl, h2, h3⟩ := rs
    rw [show _ = [] from h3]
    obtain ⟨hn, hm, b, b', e, e', hR⟩ := h
    obtain ⟨tp, us, rfl, g, u1, _, rfl, h4, u2, _, rfl, h5, h6⟩ := h2
    rw [show _ = [] from h6] at g
    rw [show u1 = .ty n from h4, show u2 = .ty m from h5] at g
    obtain ⟨t, ty, ek, hall⟩ := isTy_of S.out.sub hn e h1
    have e2 := hall m b' hm e'
    have ea : PySem.W.kitAny K t [.type n, .type m] = some (b || b') := by
      cases b with
      | true => exact kitAny_cons ek (fun z => by cases z) (fun _ => rfl)
      | false =>
        cases b' with
        | true => exact kitAny_cons ek (fun _ => kitAny_cons e2 (fun z => by cases z) (fun _ => rfl)) (fun z => by cases z)
        | false => exact kitAny_cons ek (fun _ => kitAny_cons e2 (fun _ => kitAny_nil) (fun z => by cases z)) (fun z => by cases z)
    exact ⟨x, tp, _, t, [.type n, .type m], b || b', rfl, S.out.sub _ _ g, .cons (.ty n) (.cons (.ty m) .nil), ty, ea, q.val S hR rfl⟩
  · exact h.elim
end PD

set_option Elab.async false
set_option linter.all false
set_option maxRecDepth 100000
set_option maxHeartbeats 2000000
/-! PD, sixth part: statements, targets, loops -/
namespace PD
open PySem PySem.Spec PyProof.Rows L2

/-! ### slots set -/
section
variable {c : Ct} {K : PySem.W.Frag} {G H G1 H1 : Hp} {σ : L2.St} {δ δ1 : List Sl} {d : D} {v : V} {p : Addr} {i : Nat}
theorem SR.setNo (S : SR c K G H σ δ) {u : Option V} : SR c K G H (σ.set i u) (δ.set i .no) := by
  refine ⟨S.out, by rw [List.length_set, List.length_set, S.len], fun j e h => ?_, fun j e h => ?_, fun j k e f q h1 h2 h3 h4 => ?_⟩
  · by_cases z : i = j
    · subst z
      have := (List.getElem?_eq_some_iff.mp h).1
      rw [List.getElem?_set_self (by simpa using this)] at h; cases h
    · rw [List.getElem?_set_ne z] at h ⊢; exact S.fro j e h
  · by_cases z : i = j
    · subst z
      have := (List.getElem?_eq_some_iff.mp h).1
      rw [List.getElem?_set_self (by simpa using this)] at h; cases h
    · rw [List.getElem?_set_ne z] at h ⊢; exact S.own j e h
  · have ne : ∀ {j e}, (δ.set i .no)[j]? = some (.own e) → i ≠ j := fun {j e} h z => by
      subst z
      have := (List.getElem?_eq_some_iff.mp h).1
      rw [List.getElem?_set_self (by simpa using this)] at h; cases h
    have n1 := ne h1
    have n2 := ne h2
    rw [List.getElem?_set_ne n1] at h1 h3
    rw [List.getElem?_set_ne n2] at h2 h4
    exact S.sep j k e f q h1 h2 h3 h4
theorem SR.setFro (S : SR c K G H σ δ) (r : Rp c.Om K G d v) : SR c K G H (σ.set i (some v)) (δ.set i (.fro d)) := by
  refine ⟨S.out, by rw [List.length_set, List.length_set, S.len], fun j e h => ?_, fun j e h => ?_, fun j k e f q h1 h2 h3 h4 => ?_⟩
  · by_cases z : i = j
    · subst z
      have hl := (List.getElem?_eq_some_iff.mp h).1
      rw [List.getElem?_set_self (by simpa using hl)] at h; cases h
      rw [List.length_set, S.len] at hl
      exact ⟨v, List.getElem?_set_self hl, r⟩
    · rw [List.getElem?_set_ne z] at h ⊢; exact S.fro j e h
  · by_cases z : i = j
    · subst z
      have := (List.getElem?_eq_some_iff.mp h).1
      rw [List.getElem?_set_self (by simpa using this)] at h; cases h
    · rw [List.getElem?_set_ne z] at h ⊢; exact S.own j e h
  · have ne : ∀ {j e}, (δ.set i (.fro d))[j]? = some (.own e) → i ≠ j := fun {j e} h z => by
      subst z
      have := (List.getElem?_eq_some_iff.mp h).1
      rw [List.getElem?_set_self (by simpa using this)] at h; cases h
    have n1 := ne h1
    have n2 := ne h2
    rw [List.getElem?_set_ne n1] at h1 h3
    rw [List.getElem?_set_ne n2] at h2 h4
    exact S.sep j k e f q h1 h2 h3 h4
theorem SR.setOwn (S : SR c K G H σ δ) (w : Ow c.Om K G H d p) (fr : FrO c d p) (nw : ¬ OwnAt σ δ p) : SR c K G H (σ.set i (some (.ref p))) (δ.set i (.own d)) := by
  have at_ : ∀ {j e}, (δ.set i (.own d))[j]? = some (.own e) → (i = j ∧ e = d ∧ (σ.set i (some (.ref p)))[j]? = some (some (.ref p))) ∨ (i ≠ j ∧ δ[j]? = some (.own e) ∧ (σ.set i (some (.ref p)))[j]? = σ[j]?) := fun {j e} h => by
    by_cases z : i = j
    · subst z
      have hl := (List.getElem?_eq_some_iff.mp h).1
      rw [List.getElem?_set_self (by simpa using hl)] at h; cases h
      rw [List.length_set, S.len] at hl
      exact .inl ⟨rfl, rfl, List.getElem?_set_self hl⟩
    · rw [List.getElem?_set_ne z] at h
      exact .inr ⟨z, h, List.getElem?_set_ne z⟩
  refine ⟨S.out, by rw [List.length_set, List.length_set, S.len], fun j e h => ?_, fun j e h => ?_, fun j k e f q h1 h2 h3 h4 => ?_⟩
  · by_cases z : i = j
    · subst z
      have := (List.getElem?_eq_some_iff.mp h).1
      rw [List.getElem?_set_self (by simpa using this)] at h; cases h
    · rw [List.getElem?_set_ne z] at h ⊢; exact S.fro j e h
  · rcases at_ h with ⟨_, rfl, e2⟩ | ⟨_, e1, e2⟩
    · exact ⟨p, e2, w, fr⟩
    · rw [e2]; exact S.own j e e1
  · rcases at_ h1 with ⟨a1, _, a3⟩ | ⟨a1, a2, a3⟩ <;> rcases at_ h2 with ⟨b1, _, b3⟩ | ⟨b1, b2, b3⟩
    · exact a1.symm.trans b1
    · rw [a3] at h3; cases h3; rw [b3] at h4; exact absurd ⟨k, f, b2, h4⟩ nw
    · rw [b3] at h4; cases h4; rw [a3] at h3; exact absurd ⟨j, e, a2, h3⟩ nw
    · rw [a3] at h3; rw [b3] at h4; exact S.sep j k e f q a2 b2 h3 h4
/-- an own object written -/
theorem SR.write (S : SR c K G H σ δ) {e : D} {u : HO} (h : δ[i]? = some (.own d)) (hp : σ[i]? = some (some (.ref p))) (hu : OwD c.Om K G e u) (hpar : parB e = true → parB d = true := by intro h; cases h) : SR c K G (upd H p u) σ (δ.set i (.own e)) := by
  obtain ⟨q, hq, w, fr2⟩ := S.own i d h
  have fr := fr2.1
  rw [hp] at hq; cases hq
  have hl := (List.getElem?_eq_some_iff.mp h).1
  have neO : ∀ a, c.Om.own a → a ≠ p := fun a ha z => w.om (by rw [← z]; exact ha)
  have neG : ∀ {a o}, G a = some o → a ≠ p := fun e => ne_of_none e w.g
  have hnx : ∀ φ, H p ≠ some (.ext φ) := fun φ z => by
    obtain ⟨o, e1, e2⟩ := w.ob
    rw [z] at e1; cases e1; exact e2.noext
  refine ⟨⟨fun a o e => ?_, c.Om.loc H _ S.out.inv (fun a ha => upd_ne (neO a ha)) (fun a φ e => by rw [upd_ne (fun z => hnx φ (by rw [← z]; exact e))]; exact e), S.out.omG, fun a ha => by rw [upd_ne (neO a ha)]; exact S.out.omH a ha, S.out.fz, S.out.ext, fun a o e n x => ?_, S.out.tb⟩, by rw [List.length_set]; exact S.len, fun j f g => ?_, fun j f g => ?_, fun j k e1 f q h1 h2 h3 h4 => ?_⟩
  · rw [upd_ne (neG e)]; exact S.out.sub a o e
  · have ne : a ≠ p := fun z => by
      subst z
      rcases fr with fr | fr
      · rw [fr] at e; cases e
      · exact x fr
    rw [upd_ne ne]; exact S.out.kp a o e n x
  · by_cases z : i = j
    · subst z; rw [List.getElem?_set_self hl] at g; cases g
    · rw [List.getElem?_set_ne z] at g; exact S.fro j f g
  · by_cases z : i = j
    · subst z; rw [List.getElem?_set_self hl] at g; cases g
      exact ⟨p, hp, ⟨w.g, w.om, u, upd_same, hu⟩, ⟨fr, fun z => fr2.2 (hpar z)⟩⟩
    · rw [List.getElem?_set_ne z] at g
      obtain ⟨r, hr, w2, fr2⟩ := S.own j f g
      have ne : r ≠ p := fun x => z (S.sep i j d f p h g hp (by rw [hr, x]))
      obtain ⟨o, e1, e2⟩ := w2.ob
      exact ⟨r, hr, ⟨w2.g, w2.om, o, by rw [upd_ne ne]; exact e1, e2⟩, fr2⟩
  · have back : ∀ {j : Nat} {f : D}, (δ.set i (Sl.own e))[j]? = some (Sl.own f) → ∃ f' : D, δ[j]? = some (Sl.own f') := fun {j f} g => by
      by_cases z : i = j
      · subst z; exact ⟨d, h⟩
      · rw [List.getElem?_set_ne z] at g; exact ⟨f, g⟩
    obtain ⟨_, b1⟩ := back h1
    obtain ⟨_, b2⟩ := back h2
    exact S.sep j k _ _ q b1 b2 h3 h4
/-- what an own slot's writing keeps -/
theorem Kp.write (S : SR c K G H σ δ) {e : D} {u : HO} (h : δ[i]? = some (.own d)) (hp : σ[i]? = some (some (.ref p))) : Kp c G H σ δ (δ.set i (.own e)) G (upd H p u) :=
  ⟨Sub.refl _, fun a ⟨j, f, g, q⟩ => by
    by_cases z : i = j
    · subst z; exact ⟨i, d, h, q⟩
    · rw [List.getElem?_set_ne z] at g; exact ⟨j, f, g, q⟩, fun a g => upd_nu g, fun a o g n1 n2 => by
    have ne : a ≠ p := fun z => n2 ⟨i, d, h, by rw [z]; exact hp⟩
    rw [upd_ne ne]; exact ⟨g, fun x _ => x⟩⟩
end

/-! ### blocks -/
def wNx : WS := fun Z δ => Z.nx δ
def wSeq (w u : WS) : WS := fun Z δ => w ⟨u Z, Z.rt, Z.bk, Z.ct⟩ δ
theorem mo_nx : MoS wNx := fun Z Z' δ l h => l.nx _ h
theorem mo_seq {w u : WS} (mw : MoS w) (mu : MoS u) : MoS (wSeq w u) := fun Z Z' δ l h => mw ⟨u Z, Z.rt, Z.bk, Z.ct⟩ ⟨u Z', Z'.rt, Z'.bk, Z'.ct⟩ δ ⟨fun δ' x => mu Z Z' δ' l x, l.rt, l.bk, l.ct⟩ h
def wIfS (t : WT) (a b : WS) : WS := fun Z δ => t δ fun k δ1 => match k with | true => a Z δ1 | false => b Z δ1
theorem mo_ifS {t : WT} {a b : WS} (mt : MoT t) (ma : MoS a) (mb : MoS b) : MoS (wIfS t a b) := fun Z Z' δ l h => mt δ _ _ (fun k δ1 x => by
  cases k with
  | true => exact ma _ _ δ1 l x
  | false => exact mb _ _ δ1 l x) h
def slOf (d : D) (o : Bool) : Sl := match o with | true => .own d | false => .fro d
def wSet (i : Nat) (w : WE) : WS := fun Z δ => w δ fun d o δ1 => Z.nx (δ1.set i (slOf d o))
theorem mo_set {i : Nat} {w : WE} (m : MoE w) : MoS (wSet i w) := fun Z Z' δ l h => m δ _ _ (fun d o δ1 x => l.nx _ x) h
def wRet (w : WE) : WS := fun Z δ => w δ fun d o _ => Z.rt d o
theorem mo_ret {w : WE} (m : MoE w) : MoS (wRet w) := fun Z Z' δ l h => m δ _ _ (fun d o δ1 x => l.rt _ _ x) h
def wRetV (i : Nat) : WS := fun Z δ => match δ[i]? with
  | some (.fro d) => Z.rt d false
  | some (.own d) => parB d = false ∧ Z.rt d true
  | _ => False
theorem mo_retV (i : Nat) : MoS (wRetV i) := fun Z Z' δ l h => by
  unfold wRetV at h ⊢
  cases e : δ[i]? with
  | none => rw [e] at h; exact h.elim
  | some s =>
    rw [e] at h
    cases s with
    | no => exact h.elim
    | fro d => exact l.rt _ _ h
    | own d => exact ⟨h.1, l.rt _ _ h.2⟩
def wRetN : WS := fun Z _ => Z.rt .non false
def wDrop (w : WE) : WS := fun Z δ => w δ fun _ _ δ1 => Z.nx δ1
theorem mo_drop {w : WE} (m : MoE w) : MoS (wDrop w) := fun Z Z' δ l h => m δ _ _ (fun d o δ1 x => l.nx _ x) h
def wBrk : WS := fun Z δ => Z.bk δ
def wCnt : WS := fun Z δ => Z.ct δ
section
variable {X : Cx} {c : Ct} {pos : Pos} {e t : Expr} {st : Stmt} {rest a b : List Stmt} {w u : WS} {we : WE} {wt : WT} {i : Nat}
theorem qss_nil : QSs X c [] wNx := ⟨mo_nx, pss_imp pss_nil fun D σ H ⟨G, δ, S, Z, h, n, _⟩ => n σ δ G H S (Sub.refl _) h⟩
theorem lSeq {K : PySem.W.Frag} {D : Ends} {σ : L2.St} {H : Hp} (h : lS c K (wSeq w u) D σ H) : lS c K w { D with nx := lS c K u D } σ H := by
  obtain ⟨G, δ, S, Z, h, n, r, k, q⟩ := h
  exact ⟨G, δ, S, _, h, fun σ' δ' G' H' S' sb x => lS_sub S' x sb ⟨n, r, k, q⟩, r, k, q⟩
theorem qss_cons (h : QS X c st w) (hr : QSs X c rest u) : QSs X c (st :: rest) (wSeq w u) :=
  ⟨mo_seq h.mo hr.mo, pss_imp (pss_cons h.ps hr.ps) fun D σ H q => lSeq q⟩
theorem qss_one (h : QS X c st w) : QSs X c [st] w := ⟨h.mo, pss_one h.ps⟩
theorem qs_pass : QS X c (.Pass pos) wNx := ⟨mo_nx, ps_imp ps_pass fun D σ H ⟨G, δ, S, Z, h, n, _⟩ => n σ δ G H S (Sub.refl _) h⟩
theorem qs_brk : QS X c (.Break pos) wBrk := ⟨fun Z Z' δ l h => l.bk _ h, ps_imp ps_break fun D σ H ⟨G, δ, S, Z, h, _, _, k, _⟩ => k σ δ G H S (Sub.refl _) h⟩
theorem qs_cnt : QS X c (.Continue pos) wCnt := ⟨fun Z Z' δ l h => l.ct _ h, ps_imp ps_continue fun D σ H ⟨G, δ, S, Z, h, _, _, _, k⟩ => k σ δ G H S (Sub.refl _) h⟩
theorem qs_if (ht : QT X c t wt) (ha : QSs X c a w) (hb : QSs X c b u) : QS X c (.If t a b pos) (wIfS wt w u) :=
  ⟨mo_ifS ht.mo ha.mo hb.mo, ps_imp (ps_if ht.pt ha.ps hb.ps) fun D σ H ⟨G, δ, S, Z, h, n⟩ => ⟨G, δ, S, ht.mo δ _ _ (fun k δ1 x G1 H1 S1 k1 => by
    cases k with
    | true => rw [if_pos rfl]; exact lS_sub S1 x k1.ext n
    | false => rw [if_neg (by decide)]; exact lS_sub S1 x k1.ext n) h⟩⟩
theorem qs_set (hN : X.N.Nodup) {x : Str} {pos' : Pos} (he : QE X c e we) (i : Nat) (hi : X.N[i]? = some x := by rfl) (hx : Loc X.env.scope x := by first | exact .inl rfl | exact .inr rfl) (hs : swapsWith e (some (.Name x pos')) pos.line X.env = pure false := by rfl)
    (hf : X.fn x = true ∨ X.env.scope.names.lookup x = some .local := by first | exact .inl rfl | exact .inr rfl) : QS X c (.Assign [.Name x pos'] e pos) (wSet i we) :=
  ⟨mo_set he.mo, ps_imp (ps_set hN hi hx he.pe hs hf) fun D σ H ⟨G, δ, S, Z, h, n, _⟩ => ⟨G, δ, S, he.mo δ _ _ (fun d o δ1 z v G1 H1 S1 k1 r => by
    show D.nx (σ.set i (some v)) H1
    cases o with
    | false => exact n _ _ G1 H1 (S1.setFro (r.fro rfl)) k1.ext z
    | true =>
      obtain ⟨p, rfl, hn, w, np⟩ := r.own rfl
      exact n _ _ G1 H1 (S1.setOwn w ⟨S.out.h0 hn w.om, fun z => (by rw [np] at z; cases z)⟩ (fun q => S.notNew hn (k1.old p q))) k1.ext z) h⟩⟩
theorem qs_ret (he : QE X c e we) : QS X c (.Return (some e) pos) (wRet we) :=
  ⟨mo_ret he.mo, ps_imp (ps_ret he.pe) fun D σ H ⟨G, δ, S, Z, h, n, r, _⟩ => ⟨G, δ, S, he.mo δ _ _ (fun d o δ1 z v G1 H1 S1 k1 rv => r v d o G1 H1 S1.out ⟨rv.fro, fun ho => by
    obtain ⟨p, rfl, hn, w, np⟩ := rv.own ho
    exact ⟨p, rfl, S.out.h0 hn w.om, w, np⟩⟩ z) h⟩⟩
theorem qs_retN : QS X c (.Return none pos) wRetN :=
  ⟨fun Z Z' δ l h => l.rt _ _ h, ps_imp ps_retN fun D σ H ⟨G, δ, S, Z, h, n, r, _⟩ => r .non .non false G H S.out ⟨fun _ => rfl, fun h => (by cases h)⟩ h⟩
theorem qs_retV {x : Str} {p2 : Pos} (i : Nat) (hN : X.N[i]? = some x := by rfl) (hv : Vis X.env.scope x := by first | exact Or.inl rfl | exact Or.inr (Or.inl rfl) | exact Or.inr (Or.inr rfl)) (hd : (x == ("__debug__" : Str)) = false := by decide)
    (hcd : (x == ("__classdict__" : Str)) = false := by decide) : QS X c (.Return (some (.Name x p2)) pos) (wRetV i) :=
  ⟨mo_retV i, ps_imp (ps_ret (pe_var hN hv hd hcd)) fun D σ H ⟨G, δ, S, Z, h, n, r, _⟩ => by
    unfold wRetV at h
    cases e : δ[i]? with
    | none => rw [e] at h; exact h.elim
    | some s =>
      rw [e] at h
      cases s with
      | no => exact h.elim
      | fro d =>
        obtain ⟨v, h1, h2⟩ := S.fro i d e
        exact ⟨v, h1, r v d false G H S.out ⟨fun _ => h2, fun h => (by cases h)⟩ h⟩
      | own d =>
        obtain ⟨p, h1, w, fr⟩ := S.own i d e
        exact ⟨_, h1, r _ d true G H S.out ⟨fun h => (by cases h), fun _ => ⟨p, rfl, fr.1, w, h.1⟩⟩ h.2⟩⟩
theorem qs_expr (he : QE X c e we) (hs : swapsWith e none pos.line X.env = pure false := by rfl) : QS X c (.Expr e pos) (wDrop we) :=
  ⟨mo_drop he.mo, ps_imp (ps_expr he.pe hs) fun D σ H ⟨G, δ, S, Z, h, n, _⟩ => ⟨G, δ, S, he.mo δ _ _ (fun d o δ1 z v G1 H1 S1 k1 r => n σ δ1 G1 H1 S1 k1.ext z) h⟩⟩
end

/-! ### two, three names at once -/
def wPar (is : List Nat) (t : WA) : WS := fun Z δ => t δ fun ds δ1 => ds.length = is.length ∧ Z.nx ((is.zip ds).foldl (fun δ p => δ.set p.1 (.fro p.2)) δ1)
theorem mo_par {is : List Nat} {t : WA} (m : MoA t) : MoS (wPar is t) := fun Z Z' δ l h => m δ _ _ (fun ds δ1 x => ⟨x.1, l.nx _ x.2⟩) h
theorem Rps.nil_iff {Ω : Om} {K : PySem.W.Frag} {G : Hp} {vs : List V} (r : Rps Ω K G [] vs) : vs = [] := r
section
variable {X : Cx} {c : Ct} {pos px py pz pt : Pos} {a b d : Expr} {t : WA} {x y z : Str} {kt k2 : _} {pt2 : _}
theorem qs_par (hc : X.calm = true) (hN : X.N.Nodup) (i j : Nat) (ha : QA X c [a, b] t) (hi : X.N[i]? = some x := by rfl) (hj : X.N[j]? = some y := by rfl) (hij : i ≠ j := by decide) (hx : X.env.scope.names.lookup x = some .local := by rfl) (hy : X.env.scope.names.lookup y = some .local := by rfl)
    (hw : swappedStores [.Tuple [.Name x px, .Name y py] kt pt] (.Tuple [a, b] k2 pt2) X.env = pure (some [x, y]) := by rfl)
    (hs : swapsWithSole [.Tuple [.Name x px, .Name y py] kt pt] (.Tuple [a, b] k2 pt2) pos.line X.env = pure false := by rfl) : QS X c (.Assign [.Tuple [.Name x px, .Name y py] kt pt] (.Tuple [a, b] k2 pt2) pos) (wPar [i, j] t) :=
  ⟨mo_par ha.mo, ps_imp (ps_par hc hN hi hj hij hx hy ha.pa hw hs) fun D σ H ⟨G, δ, S, Z, h, n, _⟩ => ⟨G, δ, S, ha.mo δ _ _ (fun ds δ1 q vs G1 H1 S1 k1 r => by
    obtain ⟨hl, q⟩ := q
    match ds, hl, q, r with
    | [d1, d2], _, q, ⟨v1, _, e1, r1, v2, _, e2, r2, e3⟩ =>
      subst e3; subst e2; subst e1
      exact ⟨v1, v2, rfl, n _ _ G1 H1 ((S1.setFro r1).setFro r2) k1.ext q⟩) h⟩⟩
theorem qs_par3 (hc : X.calm = true) (hN : X.N.Nodup) (i j l : Nat) (ha : QA X c [a, b, d] t) (hi : X.N[i]? = some x := by rfl) (hj : X.N[j]? = some y := by rfl) (hl : X.N[l]? = some z := by rfl) (hij : i ≠ j := by decide) (hil : i ≠ l := by decide) (hjl : j ≠ l := by decide)
    (hx : X.env.scope.names.lookup x = some .local := by rfl) (hy : X.env.scope.names.lookup y = some .local := by rfl) (hz : X.env.scope.names.lookup z = some .local := by rfl)
    (hw : swappedStores [.Tuple [.Name x px, .Name y py, .Name z pz] kt pt] (.Tuple [a, b, d] k2 pt2) X.env = pure (some [x, y, z]) := by rfl)
    (hs : swapsWithSole [.Tuple [.Name x px, .Name y py, .Name z pz] kt pt] (.Tuple [a, b, d] k2 pt2) pos.line X.env = pure false := by rfl) : QS X c (.Assign [.Tuple [.Name x px, .Name y py, .Name z pz] kt pt] (.Tuple [a, b, d] k2 pt2) pos) (wPar [i, j, l] t) :=
  ⟨mo_par ha.mo, ps_imp (ps_par3 hc hN hi hj hl hij hil hjl hx hy hz ha.pa hw hs) fun D σ H ⟨G, δ, S, Z, h, n, _⟩ => ⟨G, δ, S, ha.mo δ _ _ (fun ds δ1 q vs G1 H1 S1 k1 r => by
    obtain ⟨hl, q⟩ := q
    match ds, hl, q, r with
    | [d1, d2, d3], _, q, ⟨v1, _, e1, r1, v2, _, e2, r2, v3, _, e3, r3, e4⟩ =>
      subst e4; subst e3; subst e2; subst e1
      exact ⟨v1, v2, v3, rfl, n _ _ G1 H1 (((S1.setFro r1).setFro r2).setFro r3) k1.ext q⟩) h⟩⟩
end

/-! ### targets -/
inductive Tg where
  | n (i : Nat) | t (is : List Nat)
def Tg.vs : Tg → List Nat
  | .n i => [i]
  | .t is => is
def setAll : List Sl → List Nat → List D → List Sl
  | δ, i :: is, d :: ds => setAll (δ.set i (.fro d)) is ds
  | δ, _, _ => δ
def itemsT : D → Option (List D)
  | .tup ds => some ds
  | .ktp ds => some ds
  | _ => none
def Tg.asg (d : D) (δ : List Sl) : Tg → Option (List Sl)
  | .n i => some (δ.set i (.fro d))
  | .t is => match itemsT d with
    | some ds => if ds.length = is.length then some (setAll δ is ds) else none
    | none => none
def gNames : List Nat → TGs
  | [] => gNil
  | i :: is => gCons (gName i) (gNames is)
def Tg.g (K : PySem.W.Frag) : Tg → TG
  | .n i => gName i
  | .t is => gTup K is.length (gNames is)
section
variable {c : Ct} {K : PySem.W.Frag} {G H : Hp} {σ : L2.St} {δ δ' : List Sl}
theorem sqT_of {d : D} {ds : List D} {v : V} (hd : itemsT d = some ds) (S : Sub G H) (r : Rp c.Om K G d v) : ∃ a vs, v = .ref a ∧ SqT K H a vs ∧ Rps c.Om K G ds vs := by
  cases d with
  | tup xs => cases hd; obtain ⟨a, vs, e, g, r⟩ := r; exact ⟨a, vs, e, .inl (.inl (S _ _ g)), r⟩
  | ktp xs => cases hd; obtain ⟨a, vs, e, g, r⟩ := r; exact ⟨a, vs, e, .inr g, r⟩
  | _ => cases hd
theorem g_names : ∀ (is : List Nat) (ds : List D) (vs : List V) (σ : L2.St) (δ : List Sl) (Q : L2.St → Hp → Prop), SR c K G H σ δ → Rps c.Om K G ds vs → ds.length = is.length →
    (∀ σ', SR c K G H σ' (setAll δ is ds) → σ'.length = σ.length → (∀ j, j ∉ is → σ'[j]? = σ[j]?) → Q σ' H) → gNames is vs σ H Q
  | [], [], vs, σ, δ, Q, S, r, _, h => ⟨r, h σ S rfl fun _ _ => rfl⟩
  | i :: is, d :: ds, vs, σ, δ, Q, S, r, hl, h => by
    obtain ⟨v, w, e, r1, r2⟩ := r
    refine ⟨v, w, e, ?_⟩
    refine g_names is ds w (σ.set i (some v)) (δ.set i (.fro d)) Q (S.setFro r1) r2 (by simpa using hl) fun σ' S' l' k' => h σ' S' (by rw [l', List.length_set]) fun j hj => ?_
    rw [k' j (fun z => hj (List.mem_cons_of_mem _ z)), List.getElem?_set_ne (fun z => hj (by rw [z]; exact List.mem_cons_self))]
theorem Tg.run {t : Tg} {d : D} {v : V} {Q : L2.St → Hp → Prop} (S : SR c K G H σ δ) (r : Rp c.Om K G d v) (ha : t.asg d δ = some δ')
    (h : ∀ σ', SR c K G H σ' δ' → σ'.length = σ.length → (∀ j, j ∉ t.vs → σ'[j]? = σ[j]?) → Q σ' H) : t.g K v σ H Q := by
  cases t with
  | n i =>
    cases ha
    exact h _ (S.setFro r) (by rw [List.length_set]) fun j hj => List.getElem?_set_ne (fun z => hj (by rw [z]; exact List.mem_singleton.mpr rfl))
  | t is =>
    unfold Tg.asg at ha
    cases hi : itemsT d with
    | none => rw [hi] at ha; cases ha
    | some ds =>
      rw [hi] at ha
      by_cases hl : ds.length = is.length
      · simp only [hl, if_true] at ha
        cases ha
        obtain ⟨a, vs, e, q, r'⟩ := sqT_of hi S.out.sub r
        exact ⟨a, vs, e, q, by rw [r'.length, hl], g_names is ds vs σ δ Q S r' hl fun σ' S' l' k' => h σ' S' l' k'⟩
      · simp only [hl, if_false] at ha
        cases ha
end
end PD

set_option Elab.async false
set_option linter.all false
set_option maxRecDepth 100000
set_option maxHeartbeats 2000000
/-! PD, seventh part: what a for walks, for, while, list comprehensions -/
namespace PD
open PySem PySem.Spec PyProof.Rows L2

/-! ### what is walked -/
abbrev WI := List Sl → (List D → List Sl → Prop) → Prop
def MoI (w : WI) : Prop := ∀ δ Q Q', (∀ ds δ', Q ds δ' → Q' ds δ') → w δ Q → w δ Q'
/-- a turn's value -/
def Yd (c : Ct) (K : PySem.W.Frag) (G : Hp) (items : List D) (i : Nat) (H : Hp) (x : V) (H' : Hp) : Prop :=
  ∃ d, items[i]? = some d ∧ ((H' = H ∧ Rp c.Om K G d x) ∨ ∃ T xs ds, x = .ref T ∧ d = .tup ds ∧ Rps c.Om K G ds xs ∧ ((H T = none ∧ H' = upd H T (.tup xs)) ∨ (H T = some (.tup xs) ∧ H' = H)))
def lI (c : Ct) (K : PySem.W.Frag) (w : WI) : TI := fun σ H R => ∃ G δ, SR c K G H σ δ ∧ w δ fun items δ' => ∀ J G' H', SR c K G' H' σ δ' → Kp c G H σ δ δ' G' H' →
  Walk J items.length (fun H => Sub G' H) (Yd c K G' items) → R J H'
structure QI (X : Cx) (c : Ct) (tg e : Expr) (w : WI) : Prop where
  mo : MoI w
  pi : PI X tg e (lI c X.K w)
theorem pi_imp {X : Cx} {tg e : Expr} {t t' : TI} (h : PI X tg e t) (hw : ∀ σ H R, t' σ H R → t σ H R) : PI X tg e t' := ⟨fun pins s σ H R I q => h.run pins s σ H R I (hw _ _ _ q)⟩

/-- a list, a tuple, a text, a dict's keys -/
def iAny (K : PySem.W.Frag) (te : TE) : TI := fun σ H R => te σ H fun x H1 =>
  (∃ a, x = .ref a ∧ (∃ xs, SqL K H1 a xs) ∧ R (Itl K a) H1) ∨ (∃ a, x = .ref a ∧ (∃ xs, SqT K H1 a xs) ∧ R (Itt K a) H1) ∨ (∃ z, x = .str z ∧ R (Its z) H1) ∨
    (∃ d o kvs, x = .ref d ∧ H1 d = some (.frz o (.dK kvs)) ∧ R (Itk d o kvs) H1) ∨ ∃ d o kvs, x = .ref d ∧ H1 d = some (.frz o (.dT kvs)) ∧ R (Itkt d o kvs) H1
section
variable {X : Cx} {tg e : Expr} {te : TE}
theorem pi_any (he : PE X e te) : PI X tg e (iAny X.K te) := by
  refine ⟨fun pins s σ H R I h => thn (he.run pins s σ H _ I h) fun v s1 ⟨x, H1, I1, r1, q1⟩ => ?_⟩
  rcases q1 with ⟨a, rfl, ⟨xs, hq⟩, q⟩ | ⟨a, rfl, ⟨xs, hq⟩, q⟩ | ⟨z, rfl, q⟩ | ⟨d, o, kvs, rfl, hd, q⟩ | ⟨d, o, kvs, rfl, hd, q⟩
  · cases r1
    obtain ⟨its, rv, p, hz⟩ := I1.list hq
    exact wpAny_pyIter_list p.isList (pi_one (tk := s1.toks) I1 _ (turn_list a _) ⟨_, Heap.get?_push_size _ rfl, rfl, rfl⟩ q)
  · cases r1
    obtain ⟨its, rv, p, hz⟩ := I1.tuple hq
    exact wpAny_pyIter_tuple (show s1.heap.IsTuple a its.toArray from p) (pi_one (tk := s1.toks) I1 _ (turn_tuple a _) ⟨_, Heap.get?_push_size _ rfl, rfl, rfl⟩ q)
  · obtain ⟨t, rfl⟩ := r1
    cases ha : z.cps.all (· < 128) with
    | false => exact wpAny_pyIter_wide ha (pi_one (tk := s1.toks) I1 _ (turn_str _ z t "str_iterator" (.inr rfl)) ⟨_, Heap.get?_push_size _ rfl, rfl, rfl⟩ q)
    | true => exact wpAny_pyIter_ascii ha (pi_one (tk := s1.toks) I1 _ (turn_str _ z t "str_ascii_iterator" (.inl rfl)) ⟨_, Heap.get?_push_size _ rfl, rfl, rfl⟩ q)
  · obtain rfl : v = Value.ref d := r1
    obtain ⟨hs, hgd, hx, es, ep, vs, hdt, hsz, kv, hm⟩ := I1.frzK hd
    exact iter_keys hs hgd hx hdt (pi_one (tk := s1.toks) I1 _ (turn_keys _ hdt) ⟨_, Heap.get?_push_size _ rfl, rfl, by rw [hsz] <;> rfl⟩ q)
  · obtain rfl : v = Value.ref d := r1
    obtain ⟨hs, hgd, hx, es, ep, hdt, hsz, ent⟩ := I1.frzT hd
    exact iter_keys hs hgd hx hdt (pi_one (tk := s1.toks) I1 _ (turn_keysT _ hdt) ⟨_, Heap.get?_push_size _ rfl, rfl, by rw [hsz] <;> rfl⟩ q)
end
def kyD : Key → D
  | .inl i => .int i
  | .inr z => .str z
/-- the items of a datum -/
def iterD : D → Option (List D)
  | .lst ds => some ds
  | .kls ds => some ds
  | .tup ds => some ds
  | .ktp ds => some ds
  | .str z => some (z.cps.toList.map fun c => .str ⟨#[c]⟩)
  | .dK ks _ => some (ks.map kyD)
  | .dT ks _ => some (ks.map fun k => .tup (k.map kyD))
  | _ => none
def wIter (w : WE) : WI := fun δ Q => w δ fun d _ δ1 => match iterD d with
  | some ds => Q ds δ1
  | none => False
theorem mo_iter {w : WE} (m : MoE w) : MoI (wIter w) := fun δ Q Q' h q => m δ _ _ (fun d o δ1 z => by
  cases e : iterD d with
  | none => rw [e] at z; exact z.elim
  | some ds => rw [e] at z; exact h _ _ z) q
section
variable {X : Cx} {c : Ct} {tg e : Expr} {w : WE} {pos : Pos}
theorem rp_ky {Ω : Om} {K : PySem.W.Frag} {G : Hp} (k : Key) : Rp Ω K G (kyD k) (kV k) := by cases k <;> rfl
theorem rps_ky {Ω : Om} {K : PySem.W.Frag} {G : Hp} : ∀ ks : List Key, Rps Ω K G (ks.map kyD) (ks.map kV)
  | [] => rfl
  | k :: ks => ⟨_, _, rfl, rp_ky k, rps_ky ks⟩
theorem map_at {α β : Type} {f : α → β} {xs : List α} {i : Nat} {x : α} (h : xs[i]? = some x) : (xs.map f)[i]? = some (f x) := by rw [List.getElem?_map, h]; rfl
theorem walk_seq {K : PySem.W.Frag} {G' : Hp} {ds : List D} {vs : List V} {J : It} {n : Nat} {Gd : Hp → Prop} (hn : n = vs.length) (wk : Walk J n Gd (YAt vs)) (hG : ∀ H, Sub G' H → Gd H) (r : Rps c.Om K G' ds vs) : Walk J ds.length (fun H => Sub G' H) (Yd c K G' ds) := by
  have e : n = ds.length := by rw [hn, r.length]
  rw [← e]
  refine wk.mono hG fun i H x H' hi hg y => ?_
  obtain ⟨d, h1, h2⟩ := r.get y.2
  exact ⟨d, h1, .inl ⟨y.1, h2⟩⟩
/-- keys of a tuple-keyed dict: the walk names the key's own tuple, known only by the heap; a frozen copy is asked -/
theorem link_iter (m : MoE w) {K : PySem.W.Frag} {σ : L2.St} {H : Hp} {R : It → Hp → Prop} (h : lI c K (wIter w) σ H R) : iAny K (lE c K (wF w)) σ H R := by
  obtain ⟨G, δ, S, q⟩ := h
  refine lF m S q fun d δ1 v G1 H1 z S1 k1 r1 => ?_
  cases d with
  | lst ds =>
    obtain ⟨a, vs, rfl, g, r⟩ := r1
    exact .inl ⟨a, rfl, ⟨vs, .inl (.inl (S1.out.sub _ _ g))⟩, z _ G1 H1 S1 k1 (walk_seq rfl walk_list (fun H' hs => .inl (.inl (hs _ _ g))) r)⟩
  | kls ds =>
    obtain ⟨a, vs, rfl, g, r⟩ := r1
    exact .inl ⟨a, rfl, ⟨vs, S1.out.sub.sqL g⟩, z _ G1 H1 S1 k1 (walk_seq rfl walk_list (fun H' hs => hs.sqL g) r)⟩
  | tup ds =>
    obtain ⟨a, vs, rfl, g, r⟩ := r1
    exact .inr (.inl ⟨a, rfl, ⟨vs, .inl (.inl (S1.out.sub _ _ g))⟩, z _ G1 H1 S1 k1 (walk_seq rfl walk_tup (fun H' hs => .inl (.inl (hs _ _ g))) r)⟩)
  | ktp ds =>
    obtain ⟨a, vs, rfl, g, r⟩ := r1
    exact .inr (.inl ⟨a, rfl, ⟨vs, .inr g⟩, z _ G1 H1 S1 k1 (walk_seq rfl walk_tup (fun H' hs => .inr g) r)⟩)
  | str x =>
    cases r1
    refine .inr (.inr (.inl ⟨x, rfl, z _ G1 H1 S1 k1 ?_⟩))
    have e : x.cps.size = (x.cps.toList.map fun c => D.str ⟨#[c]⟩).length := by rw [List.length_map, Array.length_toList]
    rw [← e]
    refine walk_str.mono (fun _ _ => trivial) fun i H x' H' hi hg y => ?_
    obtain ⟨e1, c', e2, e3⟩ := y
    refine ⟨.str ⟨#[c']⟩, map_at (by rw [Array.getElem?_toList]; exact e2), .inl ⟨e1, e3⟩⟩
  | dK ks ds =>
    obtain ⟨a, o, vs, rfl, g, hl, r⟩ := r1
    refine .inr (.inr (.inr (.inl ⟨a, o, _, rfl, S1.out.sub _ _ g, z _ G1 H1 S1 k1 ?_⟩)))
    have e : (ks.zip vs).length = (ks.map kyD).length := by rw [List.length_zip, List.length_map]; omega
    rw [← e]
    refine walk_keys.mono (fun H' hs => hs _ _ g) fun i H x' H' hi hg y => ?_
    obtain ⟨e1, k, u, e2, e3⟩ := y
    have : ks[i]? = some k := by
      rw [List.getElem?_zip_eq_some] at e2
      exact e2.1
    exact ⟨kyD k, map_at this, .inl ⟨e1, by rw [e3]; exact rp_ky k⟩⟩
  | dT ks ds =>
    obtain ⟨a, o, vs, rfl, g, hl, r⟩ := r1
    refine .inr (.inr (.inr (.inr ⟨a, o, _, rfl, S1.out.sub _ _ g, z _ G1 H1 S1 k1 ?_⟩)))
    have e : (ks.zip vs).length = (ks.map fun k => D.tup (k.map kyD)).length := by rw [List.length_zip, List.length_map]; omega
    rw [← e]
    refine walk_keysT.mono (fun H' hs => hs _ _ g) fun i H x' H' hi hg y => ?_
    obtain ⟨e1, k, u, q, e2, e3, e4⟩ := y
    have : ks[i]? = some k := by
      rw [List.getElem?_zip_eq_some] at e2
      exact e2.1
    exact ⟨.tup (k.map kyD), map_at this, .inr ⟨q, _, _, e3, rfl, rps_ky k, .inr ⟨e4, e1⟩⟩⟩
  | _ => exact z.elim
theorem qi_any (h : QE X c e w) : QI X c tg e (wIter w) := ⟨mo_iter h.mo, pi_imp (pi_any h.f.pe) fun σ H R q => link_iter h.mo q⟩
/-- a tuple that stands in the heap is frozen -/
theorem see_tup {K : PySem.W.Frag} {G H : Hp} {σ : L2.St} {δ : List Sl} {T : Addr} {xs : List V} (S : SR c K G H σ δ) (h : H T = some (.tup xs)) : ∃ G2, SR c K G2 H σ δ ∧ Kp c G H σ δ δ G2 H ∧ G2 T = some (.tup xs) ∧ Sub G G2 := by
  cases e : G T with
  | some o =>
    have z := S.out.sub _ _ e
    rw [h] at z
    exact ⟨G, S, .refl, by rw [e]; exact z.symm, Sub.refl _⟩
  | none =>
    have sg : Sub G (upd G T (.tup xs)) := Sub.new e
    have nO : ∀ a, c.Om.own a → a ≠ T := fun a ha z => c.Om.nt H a xs S.out.inv ha (by rw [z]; exact h)
    have kk : ∀ a o, H a = some o → G a = none → Mut (some o) → upd G T (.tup xs) a = none := fun a o e1 g m => by
      have ne : a ≠ T := fun z => by
        rw [z, h] at e1; cases e1; exact m.elim
      rw [upd_ne ne]; exact g
    refine ⟨_, ⟨⟨fun a o g => ?_, S.out.inv, fun a ha => by rw [upd_ne (nO a ha)]; exact S.out.omG a ha, S.out.omH, S.out.fz.trans sg, S.out.ext.trans sg, fun a o e1 n x => ?_, tb_upd S.out.tb (fun ps z => by cases z)⟩, S.len, fun i d g => ?_, fun i d g => ?_, S.sep⟩, ⟨sg, fun _ h => h, fun _ h => h, fun a o e1 n1 n2 => ⟨e1, fun g m => kk a o e1 g m⟩⟩, upd_same, sg⟩
    · by_cases z : a = T
      · subst z; rw [upd_same] at g; rw [h]; exact g
      · rw [upd_ne z] at g; exact S.out.sub a o g
    · obtain ⟨h1, h2⟩ := S.out.kp a o e1 n x
      exact ⟨h1, fun g m => kk a o h1 (h2 g m) m⟩
    · obtain ⟨v, h1, h2⟩ := S.fro i d g
      exact ⟨v, h1, h2.mono sg⟩
    · obtain ⟨q, h3, w, f⟩ := S.own i d g
      obtain ⟨o, e1, e2⟩ := w.ob
      have ne : q ≠ T := fun z => by
        rw [z, h] at e1; cases e1; exact e2.mut.elim
      exact ⟨q, h3, ⟨by rw [upd_ne ne]; exact w.g, w.om, o, e1, e2.mono sg⟩, f⟩
/-- a turn's value, frozen -/
theorem Yd.see {K : PySem.W.Frag} {G G0 H H' : Hp} {σ : L2.St} {δ : List Sl} {items : List D} {i : Nat} {x : V} (y : Yd c K G0 items i H x H') (sg : Sub G0 G) (S : SR c K G H σ δ) :
    ∃ d G2, items[i]? = some d ∧ SR c K G2 H' σ δ ∧ Kp c G H σ δ δ G2 H' ∧ Rp c.Om K G2 d x := by
  obtain ⟨d, h1, ⟨rfl, r⟩ | ⟨T, xs, ds, rfl, rfl, r, ⟨hn, rfl⟩ | ⟨hT, rfl⟩⟩⟩ := y
  · exact ⟨d, G, h1, S, .refl, r.mono sg⟩
  · obtain ⟨S2, k2⟩ := new_tup (vs := xs) S hn
    exact ⟨_, _, h1, S2, k2, T, xs, rfl, upd_same, (r.mono sg).mono k2.ext⟩
  · obtain ⟨G2, S2, k2, g, sg2⟩ := see_tup S hT
    exact ⟨_, G2, h1, S2, k2, T, xs, rfl, g, (r.mono sg).mono sg2⟩
end
end PD

set_option Elab.async false
set_option linter.all false
set_option maxRecDepth 100000
set_option maxHeartbeats 2000000
/-! PD, eighth part: for, while, list comprehensions -/
namespace PD
open PySem PySem.Spec PyProof.Rows L2

@[irreducible] def wFor (wi : WI) (t : Tg) (tb : WS) : WS := fun Z δ => wi δ fun items δ1 => ∃ P : Nat → List Sl → Prop, P 0 δ1 ∧
  (∀ i d δ, items[i]? = some d → P i δ → ∃ δ2, t.asg d δ = some δ2 ∧ tb ⟨P (i + 1), Z.rt, Z.nx, P (i + 1)⟩ δ2) ∧ ∀ δ, P items.length δ → Z.nx δ
theorem mo_for {wi : WI} {t : Tg} {tb : WS} (mi : MoI wi) (mb : MoS tb) : MoS (wFor wi t tb) := fun Z Z' δ l h => by
  unfold wFor at h ⊢
  exact mi δ _ _ (fun items δ1 ⟨P, p0, ps, pe⟩ =>
  ⟨P, p0, fun i d δ hi p => let ⟨δ2, a, b⟩ := ps i d δ hi p; ⟨δ2, a, mb ⟨P (i + 1), Z.rt, Z.nx, P (i + 1)⟩ ⟨P (i + 1), Z'.rt, Z'.nx, P (i + 1)⟩ _ ⟨fun _ h => h, l.rt, l.nx, fun _ h => h⟩ b⟩, fun δ p => l.nx _ (pe δ p)⟩) h
def wWhile (t : WT) (tb : WS) : WS := fun Z δ => ∃ P : Nat → List Sl → Prop, (∃ m, P m δ) ∧ ∀ m δ, P m δ → t δ fun b δ1 => match b with
  | true => tb ⟨fun δ' => ∃ m', m' < m ∧ P m' δ', Z.rt, Z.nx, fun δ' => ∃ m', m' < m ∧ P m' δ'⟩ δ1
  | false => Z.nx δ1
theorem mo_while {t : WT} {tb : WS} (mt : MoT t) (mb : MoS tb) : MoS (wWhile t tb) := fun Z Z' δ l ⟨P, p0, ps⟩ => ⟨P, p0, fun m δ p => mt δ _ _ (fun b δ1 q => by
  cases b with
  | true => exact mb ⟨fun δ' => ∃ m', m' < m ∧ P m' δ', Z.rt, Z.nx, fun δ' => ∃ m', m' < m ∧ P m' δ'⟩ ⟨fun δ' => ∃ m', m' < m ∧ P m' δ', Z'.rt, Z'.nx, fun δ' => ∃ m', m' < m ∧ P m' δ'⟩ _ ⟨fun _ h => h, l.rt, l.nx, fun _ h => h⟩ q
  | false => exact l.nx _ q) (ps m δ p)⟩
section
variable {X : Cx} {c : Ct} {pos : Pos} {tg e : Expr} {body : List Stmt} {wi : WI} {tb : WS} {t : Tg} {wt : WT}
theorem qs_for (hp : PassesOwn (model X.prog X.w) X.A X.env X.xe) (hc : X.calm = true) (t : Tg) (hi : QI X c tg e wi) (hg : PG X tg (t.g X.K)) (hb : QSs X c body tb)
    (hs : ∀ x, foldedSetIterable e X.env x = pure x := by intro _; rfl) : QS X c (.For tg e body [] pos) (wFor wi t tb) :=
  ⟨mo_for hi.mo hb.mo, ps_imp (ps_for hp hc hi.pi hg hb.ps hs) fun D σ H ⟨G, δ, S, Z, h, n, r, k, q⟩ => by
    unfold wFor at h
    exact ⟨G, δ, S, hi.mo δ _ _ (fun items δ1 ⟨P, p0, ps, pe⟩ J G1 H1 S1 k1 wk => by
    refine for_it wk (fun i σ' H' => ∃ G' δ', SR c X.K G' H' σ' δ' ∧ Sub G1 G' ∧ P i δ') ⟨G1, δ1, S1, Sub.refl _, p0⟩ (fun i σ' H' _ ⟨G', δ', S', sb, _⟩ => sb.trans S'.out.sub) ?_ ?_
    · rintro i x σ2 H2 H2' hi2 ⟨G2, δ2, S2, sb, p⟩ y
      obtain ⟨d, G3, e1, S3, k3, rd⟩ := y.see sb S2
      obtain ⟨δ3, ha, hbd⟩ := ps i d δ2 e1 p
      refine Tg.run S3 rd ha fun σ4 S4 _ _ => lS_sub S4 hbd (sb.trans k3.ext) ⟨fun σ' δ' G' H' S' s' p' => ⟨G', δ', S', s', p'⟩, r, fun σ' δ' G' H' S' s' p' => ?_, fun σ' δ' G' H' S' s' p' => ⟨G', δ', S', s', p'⟩⟩
      exact n σ' δ' G' H' S' (k1.ext.trans s') p'
    · rintro σ2 H2 ⟨G2, δ2, S2, sb, p⟩
      exact n σ2 δ2 G2 H2 S2 (k1.ext.trans sb) (pe δ2 p)) h⟩⟩
theorem qs_while (hp : PassesOwn (model X.prog X.w) X.A X.env X.xe) (ht : QT X c e wt) (hb : QSs X c body tb) : QS X c (.While e body [] pos) (wWhile wt tb) :=
  ⟨mo_while ht.mo hb.mo, ps_imp (ps_while hp ht.pt hb.ps) fun D σ H ⟨G, δ, S, Z, ⟨P, ⟨m0, p0⟩, ps⟩, n, r, k, q⟩ => by
    refine ⟨fun m σ' H' => ∃ G' δ', SR c X.K G' H' σ' δ' ∧ Sub G G' ∧ P m δ', ⟨m0, G, δ, S, Sub.refl _, p0⟩, ?_⟩
    rintro m σ1 H1 ⟨G1, δ1, S1, sb, p⟩
    refine ⟨G1, δ1, S1, ht.mo δ1 _ _ (fun b δ2 z G2 H2 S2 k2 => ?_) (ps m δ1 p)⟩
    cases b with
    | true =>
      rw [if_pos rfl]
      exact ⟨fun σ' H' => ∃ m', m' < m ∧ ∃ G' δ', SR c X.K G' H' σ' δ' ∧ Sub G G' ∧ P m' δ', fun σ' H' ⟨m', l, x⟩ => ⟨m', l, x⟩,
        lS_sub S2 z (sb.trans k2.ext) ⟨fun σ' δ' G' H' S' s' ⟨m', l, x⟩ => ⟨m', l, G', δ', S', s', x⟩, r, n, fun σ' δ' G' H' S' s' ⟨m', l, x⟩ => ⟨m', l, G', δ', S', s', x⟩⟩⟩
    | false =>
      rw [if_neg (by decide)]
      exact n σ1 δ2 G2 H2 S2 (sb.trans k2.ext) z⟩
end

/-! ### a list comprehension -/
def wipD (δ : List Sl) : List Nat → List Sl
  | [] => δ
  | v :: vs => (wipD δ vs).set v .no
/-- all slots but those stay -/
def wYes : WT := fun δ Q => Q true δ
@[irreducible] def wLc (wi : WI) (t : Tg) (tt : WT) (te : WE) (vs : List Nat) : WE := fun δ Q => wi δ fun items δ1 => ∃ P : Nat → List D → List Sl → Prop, P 0 [] (wipD δ1 vs) ∧
  (∀ i d acc δ, items[i]? = some d → P i acc δ → ∃ δ2, t.asg d δ = some δ2 ∧ tt δ2 fun b δ3 => match b with
    | true => te δ3 fun r _ δ4 => acc.length < 16777216 ∧ P (i + 1) (acc ++ [r]) (wipD δ4 vs)
    | false => P (i + 1) acc (wipD δ3 vs)) ∧ ∀ acc δ, P items.length acc δ → Q (.lst acc) true δ
theorem mo_lc {wi : WI} {t : Tg} {tt : WT} {te : WE} {vs : List Nat} (mi : MoI wi) : MoE (wLc wi t tt te vs) := fun δ Q Q' h q => by
  unfold wLc at q ⊢
  exact mi δ _ _ (fun items δ1 ⟨P, p0, ps, pe⟩ => ⟨P, p0, ps, fun acc δ p => h _ _ _ (pe acc δ p)⟩) q
section
variable {c : Ct} {K : PySem.W.Frag} {G H : Hp} {σ σ2 : L2.St} {δ δ2 : List Sl} {vs : List Nat}
theorem wipD_len : ∀ vs : List Nat, (wipD δ vs).length = δ.length
  | [] => rfl
  | v :: vs => by unfold wipD; rw [List.length_set, wipD_len vs]
theorem wipD_at {i : Nat} {s : Sl} : ∀ {vs : List Nat}, (wipD δ vs)[i]? = some s → s = .no ∨ (i ∉ vs ∧ δ[i]? = some s)
  | [], h => .inr ⟨by simp, h⟩
  | v :: vs, h => by
    unfold wipD at h
    by_cases e : v = i
    · subst e
      have hl := (List.getElem?_eq_some_iff.mp h).1
      rw [List.getElem?_set_self (by simpa using hl)] at h
      cases h; exact .inl rfl
    · rw [List.getElem?_set_ne e] at h
      rcases wipD_at h with h | ⟨h1, h2⟩
      · exact .inl h
      · exact .inr ⟨fun z => (List.mem_cons.mp z).elim (fun z => e z.symm) h1, h2⟩
/-- read at slots that agree but for those -/
theorem SR.wip (S : SR c K G H σ2 δ) (hl : σ2.length = σ.length) (h : ∀ j, j ∉ vs → σ2[j]? = σ[j]?) : SR c K G H σ (wipD δ vs) := by
  refine ⟨S.out, by rw [wipD_len, S.len, hl], fun i d e => ?_, fun i d e => ?_, fun i j d e p h1 h2 h3 h4 => ?_⟩
  · rcases wipD_at e with z | ⟨n, e⟩
    · cases z
    · rw [← h i n]; exact S.fro i d e
  · rcases wipD_at e with z | ⟨n, e⟩
    · cases z
    · rw [← h i n]; exact S.own i d e
  · rcases wipD_at h1 with z | ⟨n1, e1⟩
    · cases z
    · rcases wipD_at h2 with z | ⟨n2, e2⟩
      · cases z
      · rw [← h i n1] at h3; rw [← h j n2] at h4
        exact S.sep i j d e p e1 e2 h3 h4
theorem wipe_at {i : Nat} : ∀ {vs : List Nat}, i ∉ vs → (wipe σ vs)[i]? = σ[i]?
  | [], _ => rfl
  | v :: vs, h => by
    unfold wipe
    rw [List.getElem?_set_ne (fun z => h (by rw [z]; exact List.mem_cons_self)), wipe_at fun z => h (List.mem_cons_of_mem _ z)]
theorem wipe_in {i : Nat} : ∀ {vs : List Nat}, i ∈ vs → (wipe σ vs)[i]? = if i < σ.length then some none else none
  | v :: vs, h => by
    unfold wipe
    by_cases e : v = i
    · subst e
      by_cases hl : v < σ.length
      · rw [if_pos hl, List.getElem?_set_self (by rw [wipe_length]; exact hl)]
      · rw [if_neg hl, List.getElem?_eq_none]
        rw [List.length_set, wipe_length]; omega
    · rw [List.getElem?_set_ne e]
      exact wipe_in ((List.mem_cons.mp h).resolve_left fun z => e z.symm)
theorem wipe_eq (hl : σ2.length = σ.length) (h : ∀ j, j ∉ vs → σ2[j]? = σ[j]?) : wipe σ2 vs = wipe σ vs := by
  apply List.ext_getElem?
  intro i
  by_cases hi : i ∈ vs
  · rw [wipe_in hi, wipe_in hi, hl]
  · rw [wipe_at hi, wipe_at hi, h i hi]
/-- what is kept, read at other slots -/
theorem own_wip {a : Addr} (h : ∀ j, j ∉ vs → σ2[j]? = σ[j]?) (x : OwnAt σ (wipD δ vs) a) : OwnAt σ2 δ a := by
  obtain ⟨i, d, h1, h2⟩ := x
  rcases wipD_at h1 with z | ⟨n, e⟩
  · cases z
  · exact ⟨i, d, e, by rw [h i n]; exact h2⟩
theorem setAll_at : ∀ (is : List Nat) (ds : List D) (δ : List Sl) (i : Nat) (d : D), (setAll δ is ds)[i]? = some (.own d) → δ[i]? = some (.own d)
  | [], _, δ, i, d, h => h
  | _ :: _, [], δ, i, d, h => h
  | j :: is, e :: ds, δ, i, d, h => by
    have z := setAll_at is ds (δ.set j (.fro e)) i d h
    by_cases q : j = i
    · subst q
      have hl := (List.getElem?_eq_some_iff.mp z).1
      rw [List.getElem?_set_self (by simpa using hl)] at z; cases z
    · rw [List.getElem?_set_ne q] at z; exact z
theorem Tg.own {t : Tg} {d : D} {δ δ' : List Sl} (ha : t.asg d δ = some δ') {i : Nat} {e : D} (h : δ'[i]? = some (.own e)) : δ[i]? = some (.own e) := by
  cases t with
  | n j =>
    cases ha
    by_cases q : j = i
    · subst q
      have hl := (List.getElem?_eq_some_iff.mp h).1
      rw [List.getElem?_set_self (by simpa using hl)] at h; cases h
    · rw [List.getElem?_set_ne q] at h; exact h
  | t is =>
    unfold Tg.asg at ha
    cases hi : itemsT d with
    | none => rw [hi] at ha; cases ha
    | some ds =>
      rw [hi] at ha
      by_cases hl : ds.length = is.length
      · simp only [hl, if_true] at ha
        cases ha
        exact setAll_at is ds δ i e h
      · simp only [hl, if_false] at ha; cases ha
/-- a new object of no slot, held aside -/
theorem SR.put (S : SR c K G H σ δ) {p : Addr} {u : HO} (g : G p = none) (om : ¬ c.Om.own p) (nO : ¬ OwnAt σ δ p) (fr : c.B.H0 p = none ∨ c.B.X0 = some p) (hnx : ∀ φ, H p ≠ some (.ext φ)) : SR c K G (upd H p u) σ δ := by
  have neO : ∀ a, c.Om.own a → a ≠ p := fun a ha z => om (by rw [← z]; exact ha)
  refine ⟨⟨fun a o e => ?_, c.Om.loc H _ S.out.inv (fun a ha => upd_ne (neO a ha)) (fun a φ e => by rw [upd_ne (fun z => hnx φ (by rw [← z]; exact e))]; exact e), S.out.omG, fun a ha => by rw [upd_ne (neO a ha)]; exact S.out.omH a ha, S.out.fz, S.out.ext, fun a o e n x => ?_, S.out.tb⟩, S.len, S.fro, fun i d e => ?_, S.sep⟩
  · rw [upd_ne (ne_of_none e g)]; exact S.out.sub a o e
  · have ne : a ≠ p := fun z => by
      subst z
      rcases fr with fr | fr
      · rw [fr] at e; cases e
      · exact x fr
    rw [upd_ne ne]; exact S.out.kp a o e n x
  · obtain ⟨q, h3, w, f⟩ := S.own i d e
    have ne : q ≠ p := fun z => nO ⟨i, d, e, by rw [← z]; exact h3⟩
    obtain ⟨o, e1, e2⟩ := w.ob
    exact ⟨q, h3, ⟨w.g, w.om, o, by rw [upd_ne ne]; exact e1, e2⟩, f⟩
end

theorem wipD_out {δ : List Sl} {i : Nat} : ∀ {vs : List Nat}, i ∉ vs → (wipD δ vs)[i]? = δ[i]?
  | [], _ => rfl
  | v :: vs, h => by
    unfold wipD
    rw [List.getElem?_set_ne (fun z => h (by rw [z]; exact List.mem_cons_self)), wipD_out fun z => h (List.mem_cons_of_mem _ z)]
theorem wipD_in {δ : List Sl} {i : Nat} : ∀ {vs : List Nat}, i ∈ vs → (wipD δ vs)[i]? = if i < δ.length then some .no else none
  | v :: vs, h => by
    unfold wipD
    by_cases e : v = i
    · subst e
      by_cases hl : v < δ.length
      · rw [if_pos hl, List.getElem?_set_self (by rw [wipD_len]; exact hl)]
      · rw [if_neg hl, List.getElem?_eq_none]
        rw [List.length_set, wipD_len]; omega
    · rw [List.getElem?_set_ne e]
      exact wipD_in ((List.mem_cons.mp h).resolve_left fun z => e z.symm)
theorem wipD_idem {δ : List Sl} (vs : List Nat) : wipD (wipD δ vs) vs = wipD δ vs := by
  apply List.ext_getElem?
  intro i
  by_cases hi : i ∈ vs
  · rw [wipD_in hi, wipD_in hi, wipD_len]
  · rw [wipD_out hi]
/-- the state of a comprehension behind a turn -/
structure LcS (c : Ct) (K : PySem.W.Frag) (σw : L2.St) (vs : List Nat) (D : Addr) (G1 H1 : Hp) (δ1 : List Sl) (acc : List PD.D) (δ : List Sl) (G H : Hp) : Prop where
  sr : SR c K G H σw δ
  kp : Kp c G1 H1 σw δ1 δ G H
  wd : wipD δ vs = δ
  ob : ∃ us, H D = some (.lst us) ∧ Rps c.Om K G acc us
  gd : G D = none
section
variable {c : Ct} {K : PySem.W.Frag} {σw σ3 : L2.St} {vs : List Nat} {D : Addr} {G1 H1 G2 H2 G3 H3 G5 H5 : Hp} {δ1 δ2 δ3 δ5 : List Sl} {acc : List PD.D}
/-- the slots of a turn, read behind it -/
theorem lc_own {t : Tg} {d : PD.D} {G H : Hp} (hv : ∀ j ∈ t.vs, j ∈ vs) (hw : ∀ j ∈ vs, ∀ x, σw[j]? ≠ some (some x)) (S : SR c K G H σw δ2) (ha : t.asg d δ2 = some δ3) (hag : ∀ j, j ∉ t.vs → σ3[j]? = σw[j]?) {a : Addr} (x : OwnAt σ3 δ3 a) : OwnAt σw δ2 a := by
  obtain ⟨j, e, h1, h2⟩ := x
  have h3 := Tg.own ha h1
  obtain ⟨q, h4, _⟩ := S.own j e h3
  by_cases hj : j ∈ t.vs
  · exact absurd h4 (hw j (hv j hj) _)
  · rw [hag j hj] at h2
    exact ⟨j, e, h3, h2⟩
theorem lc_step (hD : H1 D = none) (S1 : SR c K G1 H1 σw δ1) (L : LcS c K σw vs D G1 H1 δ1 acc δ2 G2 H2) (S3 : SR c K G3 H3 σw δ2) (k3 : Kp c G2 H2 σw δ2 δ2 G3 H3) (S5 : SR c K G5 H5 σ3 δ5) (k5 : Kp c G3 H3 σ3 δ3 δ5 G5 H5)
    (hl : σ3.length = σw.length) (hag : ∀ j, j ∉ vs → σ3[j]? = σw[j]?) (ho : ∀ a, OwnAt σ3 δ3 a → OwnAt σw δ2 a) :
    LcS c K σw vs D G1 H1 δ1 acc (wipD δ5 vs) G5 H5 ∧ ∃ us, H5 D = some (.lst us) ∧ Rps c.Om K G5 acc us ∧ ∀ d v, Rp c.Om K G5 d v → LcS c K σw vs D G1 H1 δ1 (acc ++ [d]) (wipD δ5 vs) G5 (upd H5 D (.lst (us ++ [v]))) := by
  have nom := S1.out.nom hD
  have nO : ∀ {δ}, (∀ a, OwnAt σw δ a → OwnAt σw δ1 a) → ¬ OwnAt σw δ D := fun h z => S1.notNew hD (h _ z)
  have kk : Kp c G3 H3 σw δ2 (wipD δ5 vs) G5 H5 := ⟨k5.ext, fun a x => ho a (k5.old a (own_wip hag x)), k5.nu, fun a o e n1 n2 => k5.kp a o e n1 fun z => n2 (ho a z)⟩
  have kA := (L.kp.trans k3).trans kk
  obtain ⟨us, hu, ru⟩ := L.ob
  have k35 := k3.trans kk
  obtain ⟨h5, g5⟩ := k35.kp D _ hu nom (nO L.kp.old)
  have gd := g5 L.gd trivial
  have ru5 := ru.mono k35.ext
  have S5w : SR c K G5 H5 σw (wipD δ5 vs) := S5.wip hl hag
  refine ⟨⟨S5w, kA, wipD_idem vs, ⟨us, h5, ru5⟩, gd⟩, us, h5, ru5, fun d v r => ⟨S5w.put gd nom (nO kA.old) (S1.out.h0 hD nom) (fun φ z => by rw [h5] at z; cases z), ⟨kA.ext, kA.old, fun a z => kA.nu a (upd_nu z), fun a o e n1 n2 => ?_⟩, wipD_idem vs, ⟨_, upd_same, ru5.snoc r⟩, gd⟩⟩
  rw [upd_ne (ne_of_none e hD)]
  exact kA.kp a o e n1 n2
end
section
variable {X : Cx} {c : Ct} {elt tg iter : Expr} {ifs : List Expr} {scope : Scope} {own : List (Str × Nat)} {pos : Pos} {wi : WI} {t : Tg} {wt : WT} {we : WE}
structure QTs (X : Cx) (c : Ct) (ifs : List Expr) (w : WT) : Prop where
  mo : MoT w
  pt : PTs X ifs (lT c X.K w)
theorem qts_nil {X : Cx} : QTs X c [] wYes := ⟨fun δ Q Q' h q => h _ _ q, ⟨fun pins s σ H Q I ⟨G, δ, S, q⟩ => pts_nil.run pins s σ H Q I (q G H S .refl)⟩⟩
theorem qts_one {X : Cx} {e : Expr} {w : WT} (h : QT X c e w) : QTs X c [e] w := ⟨h.mo, pts_one h.pt⟩
theorem lc_link {c : Ct} {K : PySem.W.Frag} {wi : WI} {t : Tg} {wt : WT} {we : WE} {vs : List Nat} (mi : MoI wi) (moT : MoT wt) (moE : MoE we) (hv : ∀ j ∈ t.vs, j ∈ vs) {σ : L2.St} {H : Hp} {Q : VK} (h : lE c K (wLc wi t wt we vs) σ H Q) :
    tLc (lI c K wi) (t.g K) (lT c K wt) (lE c K (wF we)) vs σ H Q := by
  obtain ⟨G, δ, S, q⟩ := h
  unfold wLc at q
  refine ⟨G, δ, S, mi δ _ _ (fun items δ1 ⟨P, p0, ps, pe⟩ J G1 H1 S1 k1 wk D hD => ?_) q⟩
  have nom := S1.out.nom hD
  have S1w : SR c K G1 H1 (wipe σ vs) (wipD δ1 vs) := S1.wip (wipe_length σ vs).symm fun j hj => (wipe_at hj).symm
  have hw : ∀ j ∈ vs, ∀ x, (wipe σ vs)[j]? ≠ some (some x) := fun j hj x => by
    rw [wipe_in hj]
    split <;> simp
  refine lc_it wk (fun i H' => ∃ G' δ' acc, LcS c K (wipe σ vs) vs D G1 H1 (wipD δ1 vs) acc δ' G' H' ∧ P i acc δ') ?_ (fun i H' _ ⟨G', δ', acc, L, _⟩ => L.kp.ext.trans L.sr.out.sub) ?_ ?_
  · have nw : ¬ OwnAt (wipe σ vs) (wipD δ1 vs) D := S1w.notNew hD
    refine ⟨G1, wipD δ1 vs, [], ⟨S1w.put (S1w.out.gone hD) nom nw (S1w.out.h0 hD nom) (fun φ z => by rw [hD] at z; cases z), ⟨Sub.refl _, fun _ h => h, fun a h => upd_nu h, fun a o e n1 n2 => ?_⟩, wipD_idem vs, ⟨[], upd_same, .nil⟩, S1w.out.gone hD⟩, p0⟩
    rw [upd_ne (ne_of_none e hD)]
    exact ⟨e, fun g _ => g⟩
  · rintro i x H2 H2' hi2 ⟨G2, δ2, acc, L, p⟩ y
    obtain ⟨d, G3, e1, S3, k3, rd⟩ := y.see L.kp.ext L.sr
    obtain ⟨δ3, ha, htt⟩ := ps i d acc δ2 e1 p
    refine Tg.run S3 rd ha fun σ3 S4 hl hag => ?_
    have hag' : ∀ j, j ∉ vs → σ3[j]? = (wipe σ vs)[j]? := fun j hj => hag j fun z => hj (hv j z)
    have ho : ∀ a, OwnAt σ3 δ3 a → OwnAt (wipe σ vs) δ2 a := fun a z => lc_own hv hw S3 ha hag z
    refine ⟨wipe_eq (by rw [hl, wipe_length]) fun j hj => by rw [hag' j hj, wipe_at hj], G3, δ3, S4, moT δ3 _ _ (fun b δ4 z G5 H5 S5 k5 => ?_) htt⟩
    cases b with
    | true =>
      rw [if_pos rfl]
      refine lF moE S5 z fun d2 δ6 v G6 H6 z2 S6 k6 r6 => ?_
      obtain ⟨L2, us, hu, ru, fin⟩ := lc_step hD S1w L S3 k3 S6 (k5.trans k6) hl hag' ho
      exact ⟨us, hu, by rw [ru.length, ← line16]; exact z2.1, G6, _, _, fin d2 v r6, z2.2⟩
    | false =>
      rw [if_neg (by decide)]
      exact ⟨G5, _, _, (lc_step hD S1w L S3 k3 S5 k5 hl hag' ho).1, z⟩
  · rintro H2 ⟨G2, δ2, acc, L, p⟩
    have hag : ∀ j, j ∉ vs → (wipe σ vs)[j]? = σ[j]? := fun j hj => wipe_at hj
    have S2 : SR c K G2 H2 σ δ2 := by
      have z := L.sr.wip (σ := σ) (wipe_length σ vs) hag
      rw [L.wd] at z; exact z
    have back : ∀ a, OwnAt (wipe σ vs) (wipD δ1 vs) a → OwnAt σ δ1 a := fun a x => own_wip (σ := wipe σ vs) (σ2 := σ) (fun j hj => (hag j hj).symm) x
    have k2 : Kp c G1 H1 σ δ1 δ2 G2 H2 := ⟨L.kp.ext, fun a x => back a (L.kp.old a (own_wip (vs := vs) hag (by rw [L.wd]; exact x))), L.kp.nu, fun a o e n1 n2 => L.kp.kp a o e n1 fun z => n2 (back a z)⟩
    obtain ⟨us, hu, ru⟩ := L.ob
    exact pe acc δ2 p _ G2 H2 S2 (k1.trans k2) ⟨fun h => (by cases h), fun _ => ⟨D, rfl, k1.nu D hD, ⟨L.gd, nom, _, hu, us, rfl, ru⟩, rfl⟩⟩
theorem qe_lc (hc : X.calm = true) (hN : X.N.Nodup) (t : Tg) (own : List (Str × Nat)) (hi : QI X c tg iter wi) (ok : BlkOk X.N X.env.scope scope own) (hv : ∀ j ∈ t.vs, j ∈ own.map (·.2))
    (hg : ∀ (s : Shared) (H : Hp) (C : Addr) (cl : List (Str × Addr)) (fp : List Addr), PG (X.blk s H scope (compEnvC scope cl C X.env) fp) tg (t.g X.K))
    (ht : ∀ (s : Shared) (H : Hp) (C : Addr) (cl : List (Str × Addr)) (fp : List Addr), QTs (X.blk s H scope (compEnvC scope cl C X.env) fp) c ifs wt)
    (he : ∀ (s : Shared) (H : Hp) (C : Addr) (cl : List (Str × Addr)) (fp : List Addr), QE (X.blk s H scope (compEnvC scope cl C X.env) fp) c elt we)
    (hs : ∀ x, foldedSetIterable iter X.env x = pure x := by intro _; rfl) : QE X c (.ListComp elt [⟨tg, iter, ifs, 0⟩] scope pos) (wLc wi t wt we (own.map (·.2))) :=
  ⟨mo_lc hi.mo, pe_imp (pe_lc (te := lE c X.K (wF we)) (tt := lT c X.K wt) hc hN hi.pi ok hg (fun s H C cl fp => (ht s H C cl fp).pt) (fun s H C cl fp => (he s H C cl fp).f.pe) hs) fun σ H Q h =>
    lc_link hi.mo (ht X.s_0 (fun _ => none) 0 [] []).mo (he X.s_0 (fun _ => none) 0 [] []).mo hv h⟩
theorem qs_setLc {y : Str} {py spos : Pos} (i : Nat) (hc : X.calm = true) (hN : X.N.Nodup) (t : Tg) (own : List (Str × Nat)) (hi : QI X c tg iter wi) (ok : BlkOk X.N X.env.scope scope own) (hv : ∀ j ∈ t.vs, j ∈ own.map (·.2))
    (hg : ∀ (s : Shared) (H : Hp) (C : Addr) (cl : List (Str × Addr)) (fp : List Addr), PG (X.blk s H scope (compEnvC scope cl C X.env) fp) tg (t.g X.K))
    (ht : ∀ (s : Shared) (H : Hp) (C : Addr) (cl : List (Str × Addr)) (fp : List Addr), QTs (X.blk s H scope (compEnvC scope cl C X.env) fp) c ifs wt)
    (he : ∀ (s : Shared) (H : Hp) (C : Addr) (cl : List (Str × Addr)) (fp : List Addr), QE (X.blk s H scope (compEnvC scope cl C X.env) fp) c elt we)
    (hy : X.N[i]? = some y := by rfl) (hyl : X.env.scope.names.lookup y = some .local := by rfl) (hsw : swapsWith (.ListComp elt [⟨tg, iter, ifs, 0⟩] scope pos) (some (.Name y py)) spos.line X.env = pure true := by rfl)
    (hs : ∀ x, foldedSetIterable iter X.env x = pure x := by intro _; rfl) : QS X c (.Assign [.Name y py] (.ListComp elt [⟨tg, iter, ifs, 0⟩] scope pos) spos) (wSet i (wLc wi t wt we (own.map (·.2)))) :=
  ⟨mo_set (mo_lc hi.mo), ps_imp (ps_setLc (te := lE c X.K (wF we)) (tt := lT c X.K wt) hc hN hy hyl hsw hi.pi ok hg (fun s H C cl fp => (ht s H C cl fp).pt) (fun s H C cl fp => (he s H C cl fp).f.pe) hs) fun D σ H ⟨G, δ, S, Z, h, n, _⟩ =>
    lc_link hi.mo (ht X.s_0 (fun _ => none) 0 [] []).mo (he X.s_0 (fun _ => none) 0 [] []).mo hv ⟨G, δ, S, mo_lc hi.mo δ _ _ (fun d o δ1 z v G1 H1 S1 k1 r => by
      show D.nx (σ.set i (some v)) H1
      cases o with
      | false => exact n _ _ G1 H1 (S1.setFro (r.fro rfl)) k1.ext z
      | true =>
        obtain ⟨p, rfl, hn, w, np⟩ := r.own rfl
        exact n _ _ G1 H1 (S1.setOwn w ⟨S.out.h0 hn w.om, fun z => (by rw [np] at z; cases z)⟩ (fun q => S.notNew hn (k1.old p q))) k1.ext z) h⟩⟩
end
end PD

set_option Elab.async false
set_option linter.all false
set_option maxRecDepth 100000
set_option maxHeartbeats 2000000
/-! PD, ninth part: containers looked at where they lie; own ones written -/
namespace PD
open PySem PySem.Spec PyProof.Rows L2

/-! ### peeks -/
/-- v is the datum, as the heap stands -/
def Pk (Ω : Om) (K : PySem.W.Frag) (G H : Hp) (d : D) (v : V) : Prop :=
  Rp Ω K G d v ∨ ∃ p u, v = .ref p ∧ H p = some u ∧ OwD Ω K G d u
def slD : Sl → Option D
  | .fro d => some d
  | .own d => some d
  | .no => none
abbrev WP := List Sl → ((List Sl → Option D) → List Sl → Prop) → Prop
def MoP (w : WP) : Prop := ∀ δ Q Q', (∀ r δ', Q r δ' → Q' r δ') → w δ Q → w δ Q'
def lP (c : Ct) (K : PySem.W.Frag) (w : WP) : TE := fun σ H Q => ∃ G δ, SR c K G H σ δ ∧ w δ fun r δ' => ∀ v G' H', SR c K G' H' σ δ' → Kp c G H σ δ δ' G' H' →
  (∀ G2 H2 δ2 d, SR c K G2 H2 σ δ2 → Sub G' G2 → r δ2 = some d → Pk c.Om K G2 H2 d v) → Q v H'
structure QP (X : Cx) (c : Ct) (e : Expr) (w : WP) : Prop where
  mo : MoP w
  pe : PE X e (lP c X.K w)
def wPv (i : Nat) : WP := fun δ Q => ∃ d, δ[i]?.bind slD = some d ∧ Q (fun δ' => δ'[i]?.bind slD) δ
def wPe (w : WE) : WP := fun δ Q => w δ fun d _ δ' => Q (fun _ => some d) δ'
section
variable {Ω : Om} {K : PySem.W.Frag} {G H : Hp} {d : D} {v : V}
theorem Pk.rp (s : Sub G H) (h : Rp Ω K G d v) : Pk Ω K G H d v := .inl h
theorem Pk.ow {p : Addr} (s : Sub G H) (w : Ow Ω K G H d p) : Pk Ω K G H d (.ref p) := by
  obtain ⟨u, e, o⟩ := w.ob
  exact .inr ⟨p, u, rfl, e, o⟩
/-- lists, tuples, texts, instances: as if frozen -/
theorem Pk.seen (s : Sub G H) (h : Pk Ω K G H d v) (nk : ∀ ks xs, d ≠ .dK ks xs) (nt : ∀ ks xs, d ≠ .dT ks xs) (np : parB d = false) : ∃ G', Sub G G' ∧ Sub G' H ∧ Rp Ω K G' d v := by
  rcases h with h | ⟨p, u, rfl, e, o⟩
  · exact ⟨G, Sub.refl _, s, h⟩
  · have mk : ∀ u, H p = some u → (G p = none ∨ G p = some u) → Sub G (upd G p u) ∧ Sub (upd G p u) H := fun u e g => ⟨fun a o q => by
      by_cases z : a = p
      · subst z
        rcases g with g | g
        · rw [g] at q; cases q
        · rw [upd_same, ← q, g]
      · rw [upd_ne z]; exact q, fun a o q => by
      by_cases z : a = p
      · subst z; rw [upd_same] at q; rw [e, q]
      · rw [upd_ne z] at q; exact s a o q⟩
    have g : G p = none ∨ G p = some u := by
      cases q : G p with
      | none => exact .inl rfl
      | some w => exact .inr (by rw [← s _ _ q, e])
    obtain ⟨s1, s2⟩ := mk u e g
    cases d with
    | lst ds => obtain ⟨vs, rfl, r⟩ := o; exact ⟨_, s1, s2, p, vs, rfl, upd_same, r.mono s1⟩
    | dT ks ds => exact absurd rfl (nt ks ds)
    | dK ks ds => exact absurd rfl (nk ks ds)
    | ins C ds => obtain ⟨dx, vs, rfl, l, k, r⟩ := o; exact ⟨_, s1, s2, p, dx, vs, rfl, upd_same, l, k, r.mono s1⟩
    | par C ds => cases np
    | _ => exact o.elim
end
section
variable {X : Cx} {c : Ct} {e a b : Expr} {w : WE} {pos : Pos}
theorem qp_var (i : Nat) {x : Str} (hN : X.N[i]? = some x := by rfl) (hv : Vis X.env.scope x := by first | exact Or.inl rfl | exact Or.inr (Or.inl rfl) | exact Or.inr (Or.inr rfl)) (hd : (x == ("__debug__" : Str)) = false := by decide)
    (hcd : (x == ("__classdict__" : Str)) = false := by decide) : QP X c (.Name x pos) (wPv i) :=
  ⟨fun δ Q Q' h ⟨d, e, q⟩ => ⟨d, e, h _ _ q⟩, pe_imp (pe_var hN hv hd hcd) fun σ H Q ⟨G, δ, S, d, e, q⟩ => by
    have at_ : ∀ {G H δ d}, SR c X.K G H σ δ → δ[i]?.bind slD = some d → ∃ v, σ[i]? = some (some v) ∧ Pk c.Om X.K G H d v := fun {G H δ d} S e => by
      cases h : δ[i]? with
      | none => rw [h] at e; cases e
      | some s =>
        rw [h] at e
        cases s with
        | no => cases e
        | fro d' => cases e; obtain ⟨v, h1, h2⟩ := S.fro i d h; exact ⟨v, h1, .rp S.out.sub h2⟩
        | own d' => cases e; obtain ⟨p, h1, w, _⟩ := S.own i d h; exact ⟨_, h1, .ow S.out.sub w⟩
    obtain ⟨v, h1, h2⟩ := at_ S e
    refine ⟨v, h1, q v G H S .refl fun G2 H2 δ2 d2 S2 sb e2 => ?_⟩
    obtain ⟨v2, h3, h4⟩ := at_ S2 e2
    rw [h1] at h3; cases h3
    exact h4⟩
theorem qp_e (h : QE X c e w) : QP X c e (wPe w) :=
  ⟨fun δ Q Q' g q => h.mo δ _ _ (fun d o δ' z => g _ _ z) q, pe_imp h.f.pe fun σ H Q ⟨G, δ, S, q⟩ => lF h.mo S q fun d δ1 v G1 H1 z S1 k1 r1 => z v G1 H1 S1 k1 fun G2 H2 δ2 d2 S2 sb e => by
    cases e; exact .rp S2.out.sub (r1.mono sb)⟩
/-- the reading of a peek, with a continuation of one's own -/
theorem lPk {K : PySem.W.Frag} {wp : WP} (m : MoP wp) {σ : L2.St} {G H : Hp} {δ : List Sl} {Q : VK} {R : (List Sl → Option D) → List Sl → Prop} (S : SR c K G H σ δ) (h : wp δ R)
    (k : ∀ r δ' v G' H', R r δ' → SR c K G' H' σ δ' → Kp c G H σ δ δ' G' H' → (∀ G2 H2 δ2 d, SR c K G2 H2 σ δ2 → Sub G' G2 → r δ2 = some d → Pk c.Om K G2 H2 d v) → Q v H') : lP c K wp σ H Q :=
  ⟨G, δ, S, m δ _ _ (fun r δ' z v G' H' S' kk p => k r δ' v G' H' z S' kk p) h⟩
end
/-- an operator whose left side is looked at; .. its right side -/
def Op2P (c : Ct) (K : PySem.W.Frag) (r : R2) (f : F2) : Prop := ∀ G H σ δ a b x y R Q, SR c K G H σ δ → Pk c.Om K G H a x → Rp c.Om K G b y → f a b R → Res c K G H σ δ R Q → r x y H Q
def Op2Q (c : Ct) (K : PySem.W.Frag) (r : R2) (f : F2) : Prop := ∀ G H σ δ a b x y R Q, SR c K G H σ δ → Rp c.Om K G a x → Pk c.Om K G H b y → f a b R → Res c K G H σ δ R Q → r x y H Q
def wBinP (f : F2) (wa : WP) (wb : WE) : WE := fun δ Q => wa δ fun r δ1 => wb δ1 fun b _ δ2 => ∃ a, r δ2 = some a ∧ f a b fun d o => Q d o δ2
def wBinQ (f : F2) (wa : WE) (wb : WP) : WE := fun δ Q => wa δ fun a _ δ1 => wb δ1 fun r δ2 => ∃ b, r δ2 = some b ∧ f a b fun d o => Q d o δ2
section
variable {X : Cx} {c : Ct} {e a b : Expr} {pos : Pos} {wp : WP} {wa wb : WE} {f : F2} {r : R2}
theorem mo_binP (mf : MoF2 f) (ma : MoP wp) (mb : MoE wb) : MoE (wBinP f wp wb) := fun δ Q Q' h q => ma δ _ _ (fun r δ1 z => mb δ1 _ _ (fun b _ δ2 ⟨a, e, y⟩ => ⟨a, e, mf a b _ _ (fun d o x => h d o δ2 x) y⟩) z) q
theorem mo_binQ (mf : MoF2 f) (ma : MoE wa) (mb : MoP wp) : MoE (wBinQ f wa wp) := fun δ Q Q' h q => ma δ _ _ (fun a _ δ1 z => mb δ1 _ _ (fun r δ2 ⟨b, e, y⟩ => ⟨b, e, mf a b _ _ (fun d o x => h d o δ2 x) y⟩) z) q
theorem linkP (ma : MoP wp) (mb : MoE wb) (ho : Op2P c X.K r f) {σ : L2.St} {H : Hp} {Q : VK} (h : lE c X.K (wBinP f wp wb) σ H Q) : tOp r (lP c X.K wp) (lE c X.K (wF wb)) σ H Q := by
  obtain ⟨G, δ, S, q⟩ := h
  refine lPk ma S q fun r1 δ1 v G1 H1 z S1 k1 p1 => ?_
  refine lF mb S1 z fun d2 δ2 v2 G2 H2 z2 S2 k2 r2 => ?_
  obtain ⟨a, e, z2⟩ := z2
  exact ho G2 H2 σ δ2 a d2 v v2 _ Q S2 (p1 G2 H2 δ2 a S2 k2.ext e) r2 z2 fun d3 o v3 G3 H3 z3 S3 k3 r3 => z3 v3 G3 H3 S3 ((k1.trans k2).trans k3) (r3.back (k1.trans k2))
theorem linkQ (ma : MoE wa) (mb : MoP wp) (ho : Op2Q c X.K r f) {σ : L2.St} {H : Hp} {Q : VK} (h : lE c X.K (wBinQ f wa wp) σ H Q) : tOp r (lE c X.K (wF wa)) (lP c X.K wp) σ H Q := by
  obtain ⟨G, δ, S, q⟩ := h
  refine lF ma S q fun d δ1 v G1 H1 z S1 k1 r1 => ?_
  refine lPk mb S1 z fun r2 δ2 v2 G2 H2 z2 S2 k2 p2 => ?_
  obtain ⟨b, e, z2⟩ := z2
  exact ho G2 H2 σ δ2 d b v v2 _ Q S2 (r1.mono k2.ext) (p2 G2 H2 δ2 b S2 (Sub.refl _) e) z2 fun d3 o v3 G3 H3 z3 S3 k3 r3 => z3 v3 G3 H3 S3 ((k1.trans k2).trans k3) (r3.back (k1.trans k2))
theorem qe_cmpP {op : CmpOp} (hr : OpR X (compareOp op) r) (mf : MoF2 f) (ho : Op2P c X.K r f) (ha : QP X c a wp) (hb : QE X c b wb) (hm : behindInMarks op b = false) : QE X c (.Compare a [op] [b] pos) (wBinP f wp wb) :=
  ⟨mo_binP mf ha.mo hb.mo, pe_imp (pe_cmpR hr ha.pe hb.f.pe hm) fun σ H Q h => linkP ha.mo hb.mo ho h⟩
theorem qt_cmpP {op : CmpOp} (hr : OpR X (compareOp op) r) (mf : MoF2 f) (ho : Op2P c X.K r f) (ha : QP X c a wp) (hb : QE X c b wb) (hm : behindInMarks op b = false) : QT X c (.Compare a [op] [b] pos) (wB (wBinP f wp wb)) :=
  qt_of (pt_imp (pt_cmpR hr ha.pe hb.f.pe hm) fun σ H Q h => linkP ha.mo hb.mo ho h) (mo_binP mf ha.mo hb.mo)
theorem qe_cmpQ {op : CmpOp} (hr : OpR X (compareOp op) r) (mf : MoF2 f) (ho : Op2Q c X.K r f) (ha : QE X c a wa) (hb : QP X c b wp) (hm : behindInMarks op b = false) : QE X c (.Compare a [op] [b] pos) (wBinQ f wa wp) :=
  ⟨mo_binQ mf ha.mo hb.mo, pe_imp (pe_cmpR hr ha.f.pe hb.pe hm) fun σ H Q h => linkQ ha.mo hb.mo ho h⟩
theorem qt_cmpQ {op : CmpOp} (hr : OpR X (compareOp op) r) (mf : MoF2 f) (ho : Op2Q c X.K r f) (ha : QE X c a wa) (hb : QP X c b wp) (hm : behindInMarks op b = false) : QT X c (.Compare a [op] [b] pos) (wB (wBinQ f wa wp)) :=
  qt_of (pt_imp (pt_cmpR hr ha.f.pe hb.pe hm) fun σ H Q h => linkQ ha.mo hb.mo ho h) (mo_binQ mf ha.mo hb.mo)
theorem qe_ixP (hr : IxR X r) (mf : MoF2 f) (ho : Op2P c X.K r f) (ha : QP X c a wp) (hb : QE X c b wb) (hs : PlainIx b := by intro _ _; rfl) : QE X c (.Subscript a b pos) (wBinP f wp wb) :=
  ⟨mo_binP mf ha.mo hb.mo, pe_imp (pe_ix hr ha.pe hb.f.pe hs) fun σ H Q h => linkP ha.mo hb.mo ho h⟩
end
/-! ### the operators -/
section
variable {c : Ct} {K : PySem.W.Frag}
theorem shp_nk {k : Nat} {d : D} (h : shp k d = true) : (∀ ks xs, d ≠ .dK ks xs) ∧ (∀ ks xs, d ≠ .dT ks xs) ∧ parB d = false := by
  cases d <;> first | (simp [shp] at h; done) | exact ⟨fun _ _ => (by simp), fun _ _ => (by simp), rfl⟩
theorem or_eqP : Op2P c K (rEqD K) eqF := fun G H σ δ a b x y R Q S pa rb h q => by
  obtain ⟨h1, h2, h3⟩ := h
  obtain ⟨n1, n2, n3⟩ := shp_nk h1
  obtain ⟨G', s1, s2, ra⟩ := pa.seen S.out.sub n1 n2 n3
  refine ⟨py a, py b, dp_of s2 60 a x h1 ra, dp_of S.out.sub 60 b y h2 rb, shp_shaped h1, shp_shaped h2, ?_⟩
  rw [eqv_py 60 a b h1 h2]
  exact q.val S h3 rfl
theorem or_neP : Op2P c K (rNeD K) neF := fun G H σ δ a b x y R Q S pa rb h q => by
  obtain ⟨h1, h2, h3⟩ := h
  obtain ⟨n1, n2, n3⟩ := shp_nk h1
  obtain ⟨G', s1, s2, ra⟩ := pa.seen S.out.sub n1 n2 n3
  refine ⟨py a, py b, dp_of s2 60 a x h1 ra, dp_of S.out.sub 60 b y h2 rb, shp_shaped h1, shp_shaped h2, ?_⟩
  rw [eqv_py 60 a b h1 h2]
  exact q.val S h3 rfl
/-- in an own list -/
def inLF (neg : Bool) : F2
  | a, .lst ys, R => shp 60 a = true ∧ shp 60 (.lst ys) = true ∧ R (.bl (neg != ys.any fun y => deq y a)) false
  | _, _, _ => False
theorem mo_inL (neg : Bool) : MoF2 (inLF neg) := fun a b Q Q' h q => by
  cases b <;> first | exact ⟨q.1, q.2.1, h _ _ q.2.2⟩ | exact q
theorem or_inLQ : Op2Q c K (rInA K) (inLF false) := fun G H σ δ a b x y R Q S ra pb h q => by
  cases b with
  | lst ys =>
    obtain ⟨h1, h2, h3⟩ := h
    obtain ⟨n1, n2, n3⟩ := shp_nk h2
    obtain ⟨G', s1, s2, rb⟩ := pb.seen S.out.sub n1 n2 n3
    have h4 : ∀ y ∈ ys, shp 60 y = true := fun y hy => shp_le 59 y (by simp only [shp, List.all_eq_true] at h2; exact h2 y hy)
    refine .inl ⟨py a, pys ys, dp_of S.out.sub 60 a x h1 ra, dp_of s2 60 (.lst ys) y h2 rb, shp_shaped h1, shp_shaped h2, ?_⟩
    rw [any_py h1 ys h4]
    simpa using q.val S h3 rfl
  | _ => exact h.elim
theorem or_notInLQ : Op2Q c K (rNotInA K) (inLF true) := fun G H σ δ a b x y R Q S ra pb h q => by
  cases b with
  | lst ys =>
    obtain ⟨h1, h2, h3⟩ := h
    obtain ⟨n1, n2, n3⟩ := shp_nk h2
    obtain ⟨G', s1, s2, rb⟩ := pb.seen S.out.sub n1 n2 n3
    have h4 : ∀ y ∈ ys, shp 60 y = true := fun y hy => shp_le 59 y (by simp only [shp, List.all_eq_true] at h2; exact h2 y hy)
    refine .inl ⟨py a, pys ys, dp_of S.out.sub 60 a x h1 ra, dp_of s2 60 (.lst ys) y h2 rb, shp_shaped h1, shp_shaped h2, ?_⟩
    rw [any_py h1 ys h4]
    simpa using q.val S h3 rfl
  | _ => exact h.elim
/-! ### by a place -/
def seqD : D → Option (List D)
  | .lst ds => some ds
  | .kls ds => some ds
  | .tup ds => some ds
  | .ktp ds => some ds
  | _ => none
def ixF : F2 := fun a b R => match b with
  | .int i => match a with
    | .str z => z.length ≤ 16777216 ∧ match atI z.cps.toList i with
      | some k => R (.str ⟨#[k]⟩) false
      | none => False
    | a => match seqD a with
      | some ds => match atI ds i with
        | some d => R d false
        | none => False
      | none => False
  | _ => False
theorem mo_ix : MoF2 ixF := fun a b Q Q' h q => by
  unfold ixF at q ⊢
  split at q
  · split at q
    · refine ⟨q.1, ?_⟩
      have q := q.2
      split at q
      · exact h _ _ q
      · exact q.elim
    · split at q
      · split at q
        · exact h _ _ q
        · exact q.elim
      · exact q.elim
  · exact q.elim
theorem atI_rps {Ω : Om} {G : Hp} {ds : List D} {vs : List V} {i : Int} {d : D} (r : Rps Ω K G ds vs) (h : atI ds i = some d) : ∃ v, atI vs i = some v ∧ Rp Ω K G d v := by
  unfold atI at h ⊢
  rw [r.length]
  cases e : ixN ds.length i with
  | none => rw [e] at h; cases h
  | some j =>
    rw [e] at h
    exact r.getD h
theorem sqD_of {Ω : Om} {G' H : Hp} {d : D} {ds : List D} {v : V} (hd : seqD d = some ds) (s : Sub G' H) (r : Rp Ω K G' d v) : ∃ a vs, v = .ref a ∧ (SqL K H a vs ∨ SqT K H a vs) ∧ Rps Ω K G' ds vs := by
  cases d with
  | lst xs => cases hd; obtain ⟨a, vs, e, g, r⟩ := r; exact ⟨a, vs, e, .inl (SqL.of (s _ _ g)), r⟩
  | kls xs => cases hd; obtain ⟨a, vs, e, g, r⟩ := r; exact ⟨a, vs, e, .inl (s.sqL g), r⟩
  | tup xs => cases hd; obtain ⟨a, vs, e, g, r⟩ := r; exact ⟨a, vs, e, .inr (SqT.of (s _ _ g)), r⟩
  | ktp xs => cases hd; obtain ⟨a, vs, e, g, r⟩ := r; exact ⟨a, vs, e, .inr (.inr g), r⟩
  | _ => cases hd
/-- the items lie in G, whatever the list itself is -/
theorem sqP_of {Ω : Om} {G H : Hp} {d : D} {ds : List D} {v : V} (hd : seqD d = some ds) (s : Sub G H) (h : Pk Ω K G H d v) : ∃ a vs, v = .ref a ∧ (SqL K H a vs ∨ SqT K H a vs) ∧ Rps Ω K G ds vs := by
  rcases h with h | ⟨p, u, rfl, e, o⟩
  · exact sqD_of hd s h
  · cases d with
    | lst xs => cases hd; obtain ⟨vs, rfl, r⟩ := o; exact ⟨p, vs, rfl, .inl (SqL.of e), r⟩
    | ins C xs => cases hd
    | par C xs => cases hd
    | dT ks xs => cases hd
    | dK ks xs => cases hd
    | _ => exact o.elim
theorem or_ixP : Op2P c K (rIx K) ixF := fun G H σ δ a b x y R Q S pa rb h q => by
  unfold ixF at h
  split at h
  · rename_i i
    cases rb
    split at h
    · rename_i z
      rcases pa with pa | ⟨p, u, rfl, e, o⟩
      · obtain ⟨hl, h⟩ := h
        cases e : atI z.cps.toList i with
        | none => rw [e] at h; exact h.elim
        | some k =>
          rw [e] at h
          exact .inr (.inr ⟨z, i, k, pa, rfl, by rw [← line16]; exact hl, e, q.val S h rfl⟩)
      · exact o.elim
    · cases e : seqD a with
      | none => rw [e] at h; exact h.elim
      | some ds =>
        rw [e] at h
        dsimp only at h
        obtain ⟨p, vs, rfl, sq, r⟩ := sqP_of e S.out.sub pa
        cases e2 : atI ds i with
        | none => rw [e2] at h; exact h.elim
        | some d =>
          rw [e2] at h
          obtain ⟨v, h1, h2⟩ := atI_rps r e2
          rcases sq with sq | sq
          · exact .inl ⟨p, vs, i, v, rfl, rfl, sq, h1, q.val S h h2⟩
          · exact .inr (.inl ⟨p, vs, i, v, rfl, rfl, sq, h1, q.val S h h2⟩)
  · exact h.elim
theorem or_ix : Op2 c K (rIx K) ixF := fun G H σ δ a b x y R Q S ra rb h q => or_ixP G H σ δ a b x y R Q S (.rp S.out.sub ra) rb h q
end
/-! ### one argument looked at: len -/
abbrev OpNP (c : Ct) (K : PySem.W.Frag) (r : List V → Hp → VK → Prop) (f : F1) : Prop := ∀ G H σ δ a x R Q, SR c K G H σ δ → Pk c.Om K G H a x → f a R → Res c K G H σ δ R Q → r [x] H Q
def wUnP (f : F1) (wa : WP) : WE := fun δ Q => wa δ fun r δ1 => ∃ a, r δ1 = some a ∧ f a fun d o => Q d o δ1
def lenF1 : F1 := fun a R => match a with
  | .str z => z.length ≤ 16777216 ∧ R (.int z.length) false
  | a => match seqD a with
    | some ds => R (.int ds.length) false
    | none => False
theorem mo_len1 : MoF1 lenF1 := fun a Q Q' h q => by
  unfold lenF1 at q ⊢
  split at q
  · exact ⟨q.1, h _ _ q.2⟩
  · split at q
    · exact h _ _ q
    · exact q.elim
section
variable {X : Cx} {c : Ct} {e : Expr} {x : Str} {p pos : Pos} {wp : WP} {f : F1} {id : String} {r : List V → Hp → VK → Prop}
theorem or_lenP {K : PySem.W.Frag} : OpNP c K (fun xs H Q => ∃ x n, xs = [x] ∧ LenV K x H n ∧ Q (.int n) H) lenF1 := fun G H σ δ a x R Q S pa h q => by
  unfold lenF1 at h
  split at h
  · rename_i z
    rcases pa with pa | ⟨p, u, rfl, e, o⟩
    · rw [show x = .str z from pa]
      exact ⟨_, z.length, rfl, ⟨by rw [← line16]; exact h.1, rfl⟩, q.val S h.2 rfl⟩
    · exact o.elim
  · cases e : seqD a with
    | none => rw [e] at h; exact h.elim
    | some ds =>
      rw [e] at h
      obtain ⟨p, vs, rfl, sq, rr⟩ := sqP_of e S.out.sub pa
      refine ⟨_, ds.length, rfl, ?_, q.val S h rfl⟩
      rcases sq with sq | sq
      · exact .inl ⟨vs, sq, rr.length.symm⟩
      · exact .inr ⟨vs, sq, rr.length.symm⟩
theorem qe_callBP (hc : CallR X (.builtin id) r) (hg : Gl X x) (hm : X.mg x = none) (hv : bootBuiltins x = some (.builtin id)) (mf : MoF1 f) (ho : OpNP c X.K r f) (ha : QP X c e wp) (hn : x ≠ "__name__" := by decide) (hdb : (x == ("__debug__" : Str)) = false := by decide)
    (he : starEach (e :: []) X.env = (false, eval e X.env) :: starEach [] X.env := by rfl) (hpl : (backTo pos (starEach [] X.env)).any (·.1) = false := by rfl) : QE X c (.Call (.Name x p) [e] [] pos) (wUnP f wp) :=
  ⟨fun δ Q Q' h q => ha.mo δ _ _ (fun r δ1 ⟨a, e, z⟩ => ⟨a, e, mf a _ _ (fun d o y => h d o δ1 y) z⟩) q, pe_imp (pe_callB hc hg hm hv (pa_cons ha.pe pa_nil he) hn hdb he hpl) fun σ H Q ⟨G, δ, S, q⟩ => lPk ha.mo S q fun r1 δ1 v G1 H1 z S1 k1 p1 => by
    obtain ⟨a, e, z⟩ := z
    exact ho G1 H1 σ δ1 a v _ Q S1 (p1 G1 H1 δ1 a S1 (Sub.refl _) e) z fun d3 o v3 G3 H3 z3 S3 k3 r3 => z3 v3 G3 H3 S3 (k1.trans k3) (r3.back k1)⟩
theorem qe_callTyP (hc : CallR X (.type id) r) (hg : Gl X x) (hm : X.mg x = none) (hv : bootBuiltins x = some (.type id)) (mf : MoF1 f) (ho : OpNP c X.K r f) (ha : QP X c e wp) (hn : x ≠ "__name__" := by decide) (hdb : (x == ("__debug__" : Str)) = false := by decide)
    (he : starEach (e :: []) X.env = (false, eval e X.env) :: starEach [] X.env := by rfl) (hpl : (backTo pos (starEach [] X.env)).any (·.1) = false := by rfl) : QE X c (.Call (.Name x p) [e] [] pos) (wUnP f wp) :=
  ⟨fun δ Q Q' h q => ha.mo δ _ _ (fun r δ1 ⟨a, e, z⟩ => ⟨a, e, mf a _ _ (fun d o y => h d o δ1 y) z⟩) q, pe_imp (pe_callTy hc hg hm hv (pa_cons ha.pe pa_nil he) hn hdb he hpl) fun σ H Q ⟨G, δ, S, q⟩ => lPk ha.mo S q fun r1 δ1 v G1 H1 z S1 k1 p1 => by
    obtain ⟨a, e, z⟩ := z
    exact ho G1 H1 σ δ1 a v _ Q S1 (p1 G1 H1 δ1 a S1 (Sub.refl _) e) z fun d3 o v3 G3 H3 z3 S3 k3 r3 => z3 v3 G3 H3 S3 (k1.trans k3) (r3.back k1)⟩
end
/-! ### own lists written: append, pop, a[i] = v -/
def isOL (δ : List Sl) (i : Nat) : Prop := ∃ ds, δ[i]? = some (.own (.lst ds))
def wApp (i : Nat) (w : WE) : WS := fun Z δ => isOL δ i ∧ w δ fun d _ δ1 => ∃ ds, δ1[i]? = some (.own (.lst ds)) ∧ ds.length < 16777216 ∧ Z.nx (δ1.set i (.own (.lst (ds ++ [d]))))
def wPopAt (i : Nat) (w : WE) : WE := fun δ Q => isOL δ i ∧ w δ fun d _ δ1 => ∃ k ds j r, d = .int k ∧ δ1[i]? = some (.own (.lst ds)) ∧ ds.length ≤ 16777216 ∧ ixN ds.length k = some j ∧ ds[j]? = some r ∧ Q r false (δ1.set i (.own (.lst (ds.eraseIdx j))))
def wPop (i : Nat) : WE := fun δ Q => ∃ ds r, δ[i]? = some (.own (.lst ds)) ∧ ds[ds.length - 1]? = some r ∧ Q r false (δ.set i (.own (.lst ds.dropLast)))
def wLSet (i : Nat) (wk wv : WE) : WS := fun Z δ => wv δ fun v _ δ1 => isOL δ1 i ∧ wk δ1 fun k _ δ2 => ∃ z ds j, k = .int z ∧ δ2[i]? = some (.own (.lst ds)) ∧ ixN ds.length z = some j ∧ Z.nx (δ2.set i (.own (.lst (ds.set j v))))
section
variable {X : Cx} {c : Ct} {e a b v k : Expr} {pos apos cpos p2 p3 : Pos} {w wk wv : WE} {x : Str}
theorem dropLast_rps {Ω : Om} {K : PySem.W.Frag} {G : Hp} {ds : List D} {vs : List V} (r : Rps Ω K G ds vs) : Rps Ω K G ds.dropLast vs.dropLast := by
  rw [List.dropLast_eq_take, List.dropLast_eq_take, r.length]; exact r.take _
theorem own_lst {K : PySem.W.Frag} {G H : Hp} {σ : L2.St} {δ : List Sl} {i : Nat} {ds : List D} (S : SR c K G H σ δ) (h : δ[i]? = some (.own (.lst ds))) : ∃ p vs, σ[i]? = some (some (.ref p)) ∧ H p = some (.lst vs) ∧ Rps c.Om K G ds vs := by
  obtain ⟨p, h1, w, _⟩ := S.own i _ h
  obtain ⟨u, e, vs, rfl, r⟩ := w.ob
  exact ⟨p, vs, h1, e, r⟩
theorem qs_app (i : Nat) (he : QE X c e w) (hN : X.N[i]? = some x := by rfl) (hv : Vis X.env.scope x := by first | exact Or.inl rfl | exact Or.inr (Or.inl rfl) | exact Or.inr (Or.inr rfl)) (hd : (x == ("__debug__" : Str)) = false := by decide)
    (hcd : (x == ("__classdict__" : Str)) = false := by decide)
    (hbase : attributeBase (.Name x p2) "append" X.env (eval (.Name x p2) X.env) = eval (.Name x p2) X.env := by rfl)
    (hfew : ((backTo cpos (starEach [e] X.env)).all (fun x => !x.1) && (backToKw cpos (keywordEach [] X.env)).all (fun x => x.1.isSome) && decide (([e] : List Expr).length + ([] : List Keyword).length + (if ([] : List Keyword).isEmpty then 0 else 1) < 30)) = true := by rfl)
    (hline : (apos.endLine == cpos.line) = true := by rfl) (hst : starEach (e :: []) X.env = (false, eval e X.env) :: starEach [] X.env := by rfl) (hplain : (backTo cpos (starEach [] X.env)).any (·.1) = false := by rfl)
    (hs : swapsWith (.Call (.Attribute (.Name x p2) "append" apos) [e] [] cpos) none pos.line X.env = pure false := by rfl) :
    QS X c (.Expr (.Call (.Attribute (.Name x p2) "append" apos) [e] [] cpos) pos) (wApp i w) :=
  ⟨fun Z Z' δ l h => ⟨h.1, he.mo δ _ _ (fun d o δ1 ⟨ds, e1, e2, z⟩ => ⟨ds, e1, e2, l.nx _ z⟩) h.2⟩,
    ps_imp (ps_expr (pe_bm PySem.F.plainAttrs_list PySem.F.slot_list_append PySem.F.type_list_append mt_append (pe_var hN hv hd hcd) (pa_cons he.f.pe pa_nil hst) hbase hfew hline hst hplain) hs) fun D σ H ⟨G, δ, S, Z, ⟨⟨ds0, h0⟩, h⟩, n, _⟩ => by
    obtain ⟨p, vs0, h1, h2, _⟩ := own_lst S h0
    refine ⟨_, h1, .inl ⟨rfl, vs0, SqL.of h2⟩, lF he.mo S h fun d δ1 v G1 H1 ⟨ds, e1, e2, z⟩ S1 k1 r1 => ?_⟩
    obtain ⟨p', vs, h3, h4, r⟩ := own_lst S1 e1
    rw [h1] at h3; cases h3
    exact ⟨p, vs, v, rfl, rfl, h4, by rw [r.length, ← line16]; exact e2, n _ _ G1 _ (S1.write (e := .lst (ds ++ [d])) e1 h1 ⟨_, rfl, r.snoc r1⟩) k1.ext z⟩⟩
theorem idx_ok {n j : Nat} {k : Int} (hn : n ≤ 16777216) (h : ixN n k = some j) : -(2 ^ 63) ≤ k ∧ k < 2 ^ 63 ∧ seqIndex? k n = some j := by
  obtain ⟨h1, h2, h3, h4⟩ := ixN_seq h
  exact ⟨by omega, by omega, h1⟩
theorem qe_popAt (i : Nat) (he : QE X c e w) (hN : X.N[i]? = some x := by rfl) (hv : Vis X.env.scope x := by first | exact Or.inl rfl | exact Or.inr (Or.inl rfl) | exact Or.inr (Or.inr rfl)) (hd : (x == ("__debug__" : Str)) = false := by decide)
    (hcd : (x == ("__classdict__" : Str)) = false := by decide)
    (hbase : attributeBase (.Name x p2) "pop" X.env (eval (.Name x p2) X.env) = eval (.Name x p2) X.env := by rfl)
    (hfew : ((backTo cpos (starEach [e] X.env)).all (fun x => !x.1) && (backToKw cpos (keywordEach [] X.env)).all (fun x => x.1.isSome) && decide (([e] : List Expr).length + ([] : List Keyword).length + (if ([] : List Keyword).isEmpty then 0 else 1) < 30)) = true := by rfl)
    (hline : (apos.endLine == cpos.line) = true := by rfl) (hst : starEach (e :: []) X.env = (false, eval e X.env) :: starEach [] X.env := by rfl) (hplain : (backTo cpos (starEach [] X.env)).any (·.1) = false := by rfl) :
    QE X c (.Call (.Attribute (.Name x p2) "pop" apos) [e] [] cpos) (wPopAt i w) :=
  ⟨fun δ Q Q' g h => ⟨h.1, he.mo δ _ _ (fun d o δ1 ⟨k, ds, j, r, e0, e1, el, e2, e3, z⟩ => ⟨k, ds, j, r, e0, e1, el, e2, e3, g _ _ _ z⟩) h.2⟩,
    pe_imp (pe_bm PySem.F.plainAttrs_list PySem.F.slot_list_pop PySem.F.type_list_pop mt_popAt (pe_var hN hv hd hcd) (pa_cons he.f.pe pa_nil hst) hbase hfew hline hst hplain) fun σ H Q ⟨G, δ, S, ⟨ds0, h0⟩, h⟩ => by
    obtain ⟨p, vs0, h1, h2, _⟩ := own_lst S h0
    refine ⟨_, h1, .inl ⟨rfl, vs0, SqL.of h2⟩, lF he.mo S h fun d δ1 v G1 H1 ⟨k, ds, j, rr, e0, e1, el, e2, e3, z⟩ S1 k1 r1 => ?_⟩
    subst e0
    cases r1
    obtain ⟨p', vs, h3, h4, r⟩ := own_lst S1 e1
    rw [h1] at h3; cases h3
    obtain ⟨y, h5, h6⟩ := r.getD e3
    have hj := (List.getElem?_eq_some_iff.mp e3).1
    obtain ⟨q1, q2, q3⟩ := idx_ok el e2
    rw [← r.length] at q3
    exact ⟨p, vs, k, j, y, rfl, rfl, h4, q1, q2, q3, h5, z y G1 _ (S1.write (e := .lst (ds.eraseIdx j)) e1 h1 ⟨_, rfl, r.eraseIdx j⟩) (k1.trans (Kp.write S1 e1 h1)) ⟨fun _ => h6, fun h => (by cases h)⟩⟩⟩
theorem qe_pop (i : Nat) (hN : X.N[i]? = some x := by rfl) (hv : Vis X.env.scope x := by first | exact Or.inl rfl | exact Or.inr (Or.inl rfl) | exact Or.inr (Or.inr rfl)) (hd : (x == ("__debug__" : Str)) = false := by decide)
    (hcd : (x == ("__classdict__" : Str)) = false := by decide)
    (hbase : attributeBase (.Name x p2) "pop" X.env (eval (.Name x p2) X.env) = eval (.Name x p2) X.env := by rfl) (hline : (apos.endLine == cpos.line) = true := by rfl) :
    QE X c (.Call (.Attribute (.Name x p2) "pop" apos) [] [] cpos) (wPop i) :=
  ⟨fun δ Q Q' g ⟨ds, r, e1, e2, z⟩ => ⟨ds, r, e1, e2, g _ _ _ z⟩, pe_imp (pe_bm0 PySem.F.plainAttrs_list PySem.F.slot_list_pop PySem.F.type_list_pop mt_pop (pe_var hN hv hd hcd) hbase hline) fun σ H Q ⟨G, δ, S, ds, r, e1, e2, z⟩ => by
    obtain ⟨p, vs, h1, h2, rs⟩ := own_lst S e1
    obtain ⟨y, h5, h6⟩ := rs.getD e2
    exact ⟨_, h1, .inl ⟨rfl, vs, SqL.of h2⟩, p, vs, y, rfl, rfl, h2, by rw [rs.length]; exact h5, z y G _ (S.write (e := .lst ds.dropLast) e1 h1 ⟨_, rfl, dropLast_rps rs⟩) (Kp.write S e1 h1) ⟨fun _ => h6, fun h => (by cases h)⟩⟩⟩
theorem qs_lset (i : Nat) (hk : QE X c k wk) (hv : QE X c v wv) (hg : PG X (.Subscript (.Name x p2) k p3) (gSub (tVar i) (lE c X.K (wF wk)) rSetL)) (hs : swapsWithSole [.Subscript (.Name x p2) k p3] v pos.line X.env = pure false := by rfl) (hw : swappedStores [.Subscript (.Name x p2) k p3] v X.env = pure none := by rfl)
    (h1 : (assignEach [.Subscript (.Name x p2) k p3] X.env).map (·.2) = [assign (.Subscript (.Name x p2) k p3) X.env] := by rfl) : QS X c (.Assign [.Subscript (.Name x p2) k p3] v pos) (wLSet i wk wv) :=
  ⟨fun Z Z' δ l h => hv.mo δ _ _ (fun d o δ1 z => ⟨z.1, hk.mo δ1 _ _ (fun k o δ2 ⟨z, ds, j, e0, e1, e2, y⟩ => ⟨z, ds, j, e0, e1, e2, l.nx _ y⟩) z.2⟩) h,
    ps_imp (ps_asg hv.f.pe hg hs hw h1) fun D σ H ⟨G, δ, S, Z, h, n, _⟩ => lF hv.mo S h fun d δ1 y G1 H1 ⟨⟨ds0, z0⟩, z⟩ S1 k1 r1 => by
    obtain ⟨p, vs0, h1, h2, _⟩ := own_lst S1 z0
    refine ⟨_, h1, lF hk.mo S1 z fun kd δ2 kv G2 H2 ⟨kz, ds, j, e0, e1, e2, zz⟩ S2 k2 r2 => ?_⟩
    subst e0
    cases r2
    obtain ⟨p', vs, h3, h4, r⟩ := own_lst S2 e1
    rw [h1] at h3; cases h3
    exact ⟨p, vs, kz, j, rfl, rfl, h4, by rw [r.length]; exact e2, n _ _ G2 _ (S2.write (e := .lst (ds.set j d)) e1 h1 ⟨_, rfl, r.set j (r1.mono k2.ext)⟩) (k1.ext.trans k2.ext) zz⟩⟩
end
end PD

set_option Elab.async false
set_option linter.all false
set_option maxRecDepth 100000
set_option maxHeartbeats 2000000
/-! PD, tenth part: what a def promises, calls, exceptions' wishes -/
namespace PD
open PySem PySem.Spec PyProof.Rows L2

structure Pre (Ω : Om) (G H : Hp) : Prop where
  sub : Sub G H
  inv : Ω.inv H
  omG : ∀ a, Ω.own a → G a = none
  omH : ∀ a, Ω.own a → ∃ o, H a = some o
  fz : Sub Ω.fz G
  tb : ∀ a ps, G a ≠ some (.tbl ps)
structure Post (Ω : Om) (G H G' H' : Hp) : Prop where
  ext : Sub G G'
  pre : Pre Ω G' H'
  nu : ∀ a, H' a = none → H a = none
  kp : ∀ a o, H a = some o → ¬ Ω.own a → H' a = some o ∧ (G a = none → Mut (some o) → G' a = none)
/-- an exception of the class C, as it flies: its class, its dict -/
def ExR (Ω : Om) (K : PySem.W.Frag) (G : Hp) (C : Nat) (xs : List D) (cls : Value) (d : Option Addr) : Prop :=
  cls = .ref (cA K C) ∧ ExK K C ∧ ∃ vs, (cFields C).length = vs.length ∧ Rps Ω K G xs vs ∧ ((cFields C = [] ∧ d = none) ∨ ∃ dd, d = some dd ∧ G dd = some (.xd ((cFields C).zip vs)))
abbrev XD := List Sl → Nat → List D → Prop
def wishD (c : Ct) (K : PySem.W.Frag) (xw : XD) : WX := fun cls d σ H => ∃ G δ C xs, SR c K G H σ δ ∧ ExR c.Om K G C xs cls d ∧ xw δ C xs
abbrev TakesD (X : Cx) (c : Ct) (xw : XD) : Prop := Takes X (wishD c X.K xw)
def xw0 : XD := fun _ _ _ => False
theorem takesD0 {X : Cx} {c : Ct} : TakesD X c xw0 := takes0.imp fun _ _ _ _ ⟨_, _, _, _, _, _, h⟩ => h
/-- a def's meaning by data: the arguments, the wish of the result, the wish of exceptions -/
abbrev FD := List D → (D → Bool → Prop) → (Nat → List D → Prop) → Prop
def MoFD (F : FD) : Prop := ∀ ds R R' E, (∀ d o, R d o → R' d o) → F ds R E → F ds R' E
structure RvP (Ω : Om) (K : PySem.W.Frag) (H G' H' : Hp) (d : D) (o : Bool) (v : V) : Prop where
  fro : o = false → Rp Ω K G' d v
  own : o = true → ∃ p, v = .ref p ∧ H p = none ∧ Ow Ω K G' H' d p ∧ parB d = false
def spD (Ω : Om) (K : PySem.W.Frag) (n : Nat) (F : FD) : Sp := fun vs H Q E => ∃ G ds, Pre Ω G H ∧ Rps Ω K G ds vs ∧ ds.length = n ∧ ∃ (R : D → Bool → Prop) (ED : Nat → List D → Prop), F ds R ED ∧
  (∀ d o, R d o → ∀ v G' H', Post Ω G H G' H' → RvP Ω K H G' H' d o v → Q v H') ∧ ∀ C xs, ED C xs → ∀ cls d G' H', Post Ω G H G' H' → ExR Ω K G' C xs cls d → E cls d H'
theorem spD.len {Ω : Om} {K : PySem.W.Frag} {n : Nat} {F : FD} : ∀ vs H Q E, spD Ω K n F vs H Q E → vs.length = n := fun vs H Q E ⟨G, ds, _, r, l, _⟩ => by rw [r.length, l]
section
variable {c : Ct} {K : PySem.W.Frag} {G H G' H' : Hp} {σ : L2.St} {δ : List Sl}
theorem SR.pre (S : SR c K G H σ δ) : Pre c.Om G H := ⟨S.out.sub, S.out.inv, S.out.omG, S.out.omH, S.out.fz, S.out.tb⟩
theorem post_sr (S : SR c K G H σ δ) (p : Post c.Om G H G' H') : SR c K G' H' σ δ ∧ Kp c G H σ δ δ G' H' := by
  refine ⟨⟨⟨p.pre.sub, p.pre.inv, p.pre.omG, p.pre.omH, p.pre.fz, S.out.ext.trans p.ext, fun a o e n x => ?_, p.pre.tb⟩, S.len, fun i d e => ?_, fun i d e => ?_, S.sep⟩, ⟨p.ext, fun _ h => h, p.nu, fun a o e n1 n2 => p.kp a o e n1⟩⟩
  · obtain ⟨h1, h2⟩ := S.out.kp a o e n x
    obtain ⟨h3, h4⟩ := p.kp a o h1 n
    exact ⟨h3, fun g m => h4 (h2 g m) m⟩
  · obtain ⟨v, h1, h2⟩ := S.fro i d e
    exact ⟨v, h1, h2.mono p.ext⟩
  · obtain ⟨q, h3, w, f⟩ := S.own i d e
    obtain ⟨o, e1, e2⟩ := w.ob
    obtain ⟨h5, h6⟩ := p.kp q o e1 w.om
    exact ⟨q, h3, ⟨h6 w.g e2.mut, w.om, o, h5, e2.mono p.ext⟩, f⟩
/-- behind a def's body -/
theorem Out.post {Ω : Om} (h : Out ⟨Ω, ⟨G, H, none⟩⟩ G' H') : Post Ω G H G' H' := by
  refine ⟨h.ext, ⟨h.sub, h.inv, h.omG, h.omH, h.fz, h.tb⟩, fun a e => ?_, fun a o e n => h.kp a o e n (by simp)⟩
  cases q : H a with
  | none => rfl
  | some o =>
    by_cases ho : Ω.own a
    · obtain ⟨u, x⟩ := h.omH a ho
      rw [e] at x; cases x
    · have z := (h.kp a o q ho (by simp)).1
      rw [e] at z; cases z
/-- the start -/
theorem sr_start {Ω : Om} {N : List Str} {ds : List D} {vs : List V} (hp : Pre Ω G H) (r : Rps Ω K G ds vs) (hl : vs.length ≤ N.length) :
    SR ⟨Ω, ⟨G, H, none⟩⟩ K G H (L2.start N vs) (ds.map Sl.fro ++ List.replicate (N.length - ds.length) Sl.no) := by
  have no : ∀ (i : Nat) d, (ds.map Sl.fro ++ List.replicate (N.length - ds.length) Sl.no)[i]? = some (Sl.own d) → False := fun i d e => by
    rw [List.getElem?_append] at e
    split at e
    · rw [List.getElem?_map] at e
      cases q : ds[i]? with
      | none => rw [q] at e; cases e
      | some u => rw [q] at e; cases e
    · rw [List.getElem?_replicate] at e
      split at e <;> cases e
  refine ⟨⟨hp.sub, hp.inv, hp.omG, hp.omH, hp.fz, Sub.refl _, fun a o e n x => ⟨e, fun g m => g⟩, hp.tb⟩, ?_, fun i d e => ?_, fun i d e => (no i d e).elim, fun i j d e p h1 => (no i d h1).elim⟩
  · have := r.length
    unfold L2.start
    simp only [List.length_append, List.length_map, List.length_replicate]
    omega
  · rw [List.getElem?_append] at e
    split at e
    · rename_i hi
      rw [List.getElem?_map] at e
      cases q : ds[i]? with
      | none => rw [q] at e; cases e
      | some u =>
        rw [q] at e
        cases e
        obtain ⟨v, h1, h2⟩ := r.getD q
        refine ⟨v, ?_, h2⟩
        unfold L2.start
        rw [List.getElem?_append_left (by rw [List.length_map, r.length]; simpa using hi), List.getElem?_map, h1]
        rfl
    · rw [List.getElem?_replicate] at e
      split at e <;> cases e
end
/-- the slots at the start -/
def st0 (n : Nat) (ds : List D) : List Sl := ds.map Sl.fro ++ List.replicate (n - ds.length) Sl.no
/-- a def's promise where no repr is under way -/
structure FnG (P : Program) (w : World) (K : PySem.W.Frag) (mg : Str → Option Value) (base : Heap) (CX : CXT) (k : Nat) (f : Addr) (fd : FuncData) (ps : List Str) (sp : Sp) : Prop where
  len : ∀ vs H Q E, sp vs H Q E → vs.length = ps.length
  run : ∀ (A : Around) (outer : List Env) (s : Shared) (H : Hp) (args : Args) (us : List Value) (vs : List V) (Q : VK) (E : XK), A.guards = some [] → Room k A → Env0 P w K mg base A outer s H → BindsTo s fd args (ps.zip us) → Vals vs us → sp vs H Q E → codeAny (model P w) A (.call (.ref f) args) (CR CX outer P w H s Q E) s
/-- a def that may be called by its name, with its meaning -/
structure Cl (P : Program) (w : World) (K : PySem.W.Frag) (mg : Str → Option Value) (base : Heap) (Ω : Om) (k : Nat) (x : Str) (st : Stmt) (ps : List Str) (F : FD) : Prop where
  ex : ∃ (f : Addr) (fd : FuncData), FnG P w K mg base (L2.CX P w) k f fd ps (spD Ω K ps.length F) ∧ mg x = some (.ref f) ∧ FunD K x x (defArgs st) (defBody st) (defScope st) [] [] f fd
  mo : MoFD F
/-- the context of a def's body -/
abbrev bx (P : Program) (w : World) (K : PySem.W.Frag) (mg : Str → Option Value) (base : Heap) (N : List Str) (qual : Str) (scope : Scope) (f : Addr) (cdv : Value) (A : Around) (outer : List Env) (s : Shared) (H : Hp) (E : XK) : Cx := cxOf (L2.CX P w) P w K mg base N qual scope f cdv A outer s H E
section
variable {P : Program} {w : World} {K : PySem.W.Frag} {mg : Str → Option Value} {base : Heap} {Ω : Om}
/-- a def's meaning, from its body's transformer -/
def FW (n : Nat) (wS : (Nat → List D → Prop) → WS) : FD := fun ds R E => wS E ⟨fun _ => R .non false, R, fun _ => False, fun _ => False⟩ (st0 n ds)
/-- what is to be shown of a body -/
def BodyQ (P : Program) (w : World) (K : PySem.W.Frag) (mg : Str → Option Value) (base : Heap) (Ω : Om) (k : Nat) (N : List Str) (qual : Str) (scope : Scope) (f : Addr) (code : Value) (body : List Stmt) (wS : (Nat → List D → Prop) → WS) : Prop :=
  ∀ (cdv : Value) (A : Around) (outer : List Env) (s : Shared) (H : Hp) (EK : XK) (c : Ct) (E : Nat → List D → Prop), cdv = code → A.guards = some [] → Room k (A.deeper (envOfC qual scope s.heap.objs.size f cdv)) → c.Om = Ω → TakesD (bx P w K mg base N qual scope f cdv A outer s H EK) c (fun _ => E) →
    QSs (bx P w K mg base N qual scope f cdv A outer s H EK) c body (wS E)
theorem takes_bx {N : List Str} {qual : Str} {scope : Scope} {f : Addr} {cdv : Value} {A : Around} {outer : List Env} {s : Shared} {H : Hp} {EK : XK} : Takes (bx P w K mg base N qual scope f cdv A outer s H EK) (fun cls d _ H => EK cls d H) := takes_of rfl rfl rfl rfl
/-- an around with room -/
def aRoom : Around := { depth := 0, frames := some [], guards := some [], units := 1 }
theorem aRoom_ok {k : Nat} (hk : k ≤ 90) (env : Env) : Room k (aRoom.deeper env) := by
  have e1 : recursionLimit = 1000 := by decide
  have e2 : 2000 ≤ cLine := by decide
  refine ⟨rfl, ?_, ?_⟩
  · show 0 + 1 + 3 * k + 5 < recursionLimit
    omega
  · show 1 + 3 + 16 * k + 200 < cLine
    omega
theorem BodyQ.mo {k : Nat} {N : List Str} {qual : Str} {scope : Scope} {f : Addr} {code : Value} {body : List Stmt} {wS : (Nat → List D → Prop) → WS} (hk : k ≤ 90) (h : BodyQ P w K mg base Ω k N qual scope f code body wS) (E : Nat → List D → Prop) : MoS (wS E) :=
  (h code aRoom [] { heap := default, gens := #[], drawn := {}, toks := 0, os := {} } (fun _ => none) (fun _ _ _ => True) ⟨Ω, ⟨fun _ => none, fun _ => none, none⟩⟩ E rfl rfl (aRoom_ok hk _) rfl (takes_bx.imp fun _ _ _ _ _ => trivial)).mo
theorem FW.mo {n : Nat} {wS : (Nat → List D → Prop) → WS} (h : ∀ E, MoS (wS E)) : MoFD (FW n wS) := fun ds R R' E hr q => h E ⟨fun _ => R .non false, R, fun _ => False, fun _ => False⟩ ⟨fun _ => R' .non false, R', fun _ => False, fun _ => False⟩ _ ⟨fun _ z => hr _ _ z, hr, fun _ z => z, fun _ z => z⟩ q
/-- THE RULE for a def: its body's transformer is its meaning -/
theorem fn_pd {x qual : Str} {params : Arguments} {body : List Stmt} {scope : Scope} {f : Addr} {fd : FuncData} {dvs : List V} {N ps : List Str} {k : Nat} (Fd : FunD K x qual params body scope dvs [] f fd) (S : FnScope N ps scope) (hN : ps.length ≤ N.length)
    (wS : (Nat → List D → Prop) → WS) (hb : BodyQ P w K mg base Ω k N qual scope f fd.code body wS) : FnG P w K mg base (L2.CX P w) (k + 1) f fd ps (spD Ω K ps.length (FW N.length wS)) := by
  obtain ⟨oc, od, dV, kV, doc, pm, an, cdv, ct, osl, rfl, lk, hcd, _, _⟩ := Fd.ex
  refine ⟨spD.len, fun A outer s H args us vs Q E hg hr e0 hbt rv h => LamX.run_ofS lk hcd S hr e0 hbt rv (spD.len _ _ _ _ h) fun hr' => ?_⟩
  obtain ⟨G, ds, hp, r, hl, R, ED, hf, hR, hE⟩ := h
  have tk : TakesD (bx P w K mg base N qual scope f cdv A outer s H E) ⟨Ω, ⟨G, H, none⟩⟩ (fun _ => ED) := takes_bx.imp fun cls d σ H' ⟨G', δ, C, xs, S', e, h⟩ => hE C xs h cls d G' H' S'.out.post e
  have q := hb cdv A outer s H E ⟨Ω, ⟨G, H, none⟩⟩ ED rfl hg hr' rfl tk
  refine ⟨_, q.ps, G, _, sr_start hp r (by rw [r.length, hl]; exact hN), ⟨fun _ => R .non false, R, fun _ => False, fun _ => False⟩, hf, ?_, ?_, ?_, ?_⟩
  · intro σ' δ' G' H' S' _ z
    exact hR _ _ z .non G' H' S'.out.post ⟨fun _ => rfl, fun h => (by cases h)⟩
  · intro v d o G' H' ho rv z
    refine hR _ _ z v G' H' ho.post ⟨rv.fro, fun h => ?_⟩
    obtain ⟨p, e1, e2, e3, e4⟩ := rv.own h
    exact ⟨p, e1, e2.resolve_right (by simp), e3, e4⟩
  · intro _ _ _ _ _ _ z; exact z.elim
  · intro _ _ _ _ _ _ z; exact z.elim
/-- .. of a def of the module -/
theorem cl_pd {x : Str} {st : Stmt} {f : Addr} {fd : FuncData} {N ps : List Str} {k : Nat} (Fd : FunD K x x (defArgs st) (defBody st) (defScope st) [] [] f fd) (hm : mg x = some (.ref f)) (S : FnScope N ps (defScope st)) (hN : ps.length ≤ N.length) (hk : k ≤ 90)
    (wS : (Nat → List D → Prop) → WS) (hb : BodyQ P w K mg base Ω k N x (defScope st) f fd.code (defBody st) wS) : Cl P w K mg base Ω (k + 1) x st ps (FW N.length wS) :=
  ⟨⟨f, fd, fn_pd Fd S hN wS hb, hm, Fd⟩, FW.mo (hb.mo hk)⟩
/-- a stronger wish -/
theorem Cl.imp {k : Nat} {x : Str} {st : Stmt} {ps : List Str} {F F' : FD} (h : Cl P w K mg base Ω k x st ps F) (mo : MoFD F') (hF : ∀ ds R E, ds.length = ps.length → F' ds R E → F ds R E) : Cl P w K mg base Ω k x st ps F' := by
  obtain ⟨⟨f, fd, ok, hm, Fd⟩, _⟩ := h
  exact ⟨⟨f, fd, ⟨spD.len, fun A outer s H args us vs Q E hg hr e0 hb rv ⟨G, ds, hp, r, hl, R, ED, hf, h1, h2⟩ => ok.run A outer s H args us vs Q E hg hr e0 hb rv ⟨G, ds, hp, r, hl, R, ED, hF ds R ED hl hf, h1, h2⟩⟩, hm, Fd⟩, mo⟩
end
/-! ### calls -/
/-- pm: the arguments in the parameters' order -/
def wCall (n : Nat) (pm : List D → List D) (F : FD) (xw : XD) (t : WA) : WE := fun δ Q => t δ fun ds δ1 => (pm ds).length = n ∧ F (pm ds) (fun d o => Q d o δ1) (xw δ1)
theorem mo_call {n : Nat} {pm : List D → List D} {F : FD} {xw : XD} {t : WA} (mf : MoFD F) (mt : MoA t) : MoE (wCall n pm F xw t) := fun δ Q Q' h q => mt δ _ _ (fun ds δ1 z => ⟨z.1, mf _ _ _ _ (fun d o x => h d o δ1 x) z.2⟩) q
section
variable {X : Cx} {c : Ct} {x : Str} {st : Stmt} {ps : List Str} {F : FD} {k : Nat} {p pos : Pos} {e : Expr} {es : List Expr} {t tk : WA} {xw : XD}
/-- behind the arguments -/
theorem link_call {n : Nat} {σ : L2.St} {G H G1 H1 : Hp} {δ δ1 : List Sl} {Q : VK} {ds : List D} {vs : List V} (S1 : SR c X.K G1 H1 σ δ1) (k1 : Kp c G H σ δ δ1 G1 H1) (r1 : Rps c.Om X.K G1 ds vs) (hn : ds.length = n)
    (h : F ds (fun d o => ∀ v G' H', SR c X.K G' H' σ δ1 → Kp c G H σ δ δ1 G' H' → RV c X.K H G' H' d o v → Q v H') (xw δ1)) : spD c.Om X.K n F vs H1 Q (L2.WE (wishD c X.K xw) σ) := by
  refine ⟨G1, ds, S1.pre, r1, hn, _, _, h, fun d o z v G' H' po rv => ?_, fun C xs z cls d G' H' po er => ?_⟩
  · obtain ⟨S2, k2⟩ := post_sr S1 po
    exact z v G' H' S2 (k1.trans k2) ⟨rv.fro, fun h => let ⟨p, a, b, cc, dd⟩ := rv.own h; ⟨p, a, k1.nu p b, cc, dd⟩⟩
  · exact ⟨G', δ1, C, xs, (post_sr S1 po).1, er, z⟩
theorem run_kw {f : Addr} {fd : FuncData} {sp : Sp} {ks : List Str} {E : L2.St → XK} {pins : List (Addr × Obj)} {σ : L2.St} {H : Hp} {s : Shared} {Q : VK} {us ws zs : List Value} {vs : List V} {CX : CXT} (ok : FnG X.prog X.w X.K X.mg X.base CX k f fd ps sp) (hgd : X.A.guards = some []) (hr : Room k X.A) (hx : PassesAt CX X σ (E σ))
    (I : Inv X pins σ H s) (hb : BindsTo s fd ⟨us, ks.zip ws⟩ (ps.zip zs)) (r : Vals vs zs) (h : sp vs H Q (E σ)) : wpAny (model X.prog X.w) X.A (call (.ref f) us (ks.zip ws)) (EP X pins σ Q) X.xe s := by
  refine wpAny_call (codeAny_mono (ok.run X.A X.stack s H _ _ _ Q (E σ) hgd hr I.env0 hb r h) fun r s' hq => ?_)
  cases r with
  | error e => exact hx pins H s e s' I hq
  | ok fl =>
    cases fl with
    | ret u => exact I.after hq
    | next => exact hq.elim
    | brk => exact hq.elim
    | cont => exact hq.elim
theorem run_pos {f : Addr} {fd : FuncData} {sp : Sp} {E : L2.St → XK} {pins : List (Addr × Obj)} {σ : L2.St} {H : Hp} {s : Shared} {Q : VK} {us : List Value} {vs : List V} {CX : CXT} (ok : FnG X.prog X.w X.K X.mg X.base CX k f fd ps sp) (hgd : X.A.guards = some []) (hr : Room k X.A) (hb : Binds X.K fd ps []) (hx : PassesAt CX X σ (E σ))
    (I : Inv X pins σ H s) (r : Vals vs us) (h : sp vs H Q (E σ)) : wpAny (model X.prog X.w) X.A (call (.ref f) us) (EP X pins σ Q) X.xe s := by
  have hl : us.length = ps.length := by rw [← r.length]; exact ok.len _ _ _ _ h
  have b := hb s us I.kIn (by rw [List.append_nil]; exact hl)
  rw [List.append_nil] at b
  exact run_kw (ks := []) (ws := []) ok hgd hr hx I b r h
theorem qe_call (cl : Cl X.prog X.w X.K X.mg X.base c.Om k x st ps F) (hgd : X.A.guards = some []) (hr : Room k X.A) (hg : Gl X x) (tk : TakesD X c xw)
    (hb : ∀ (kV doc pm : Value) (an : Option Addr) (cdv ct : Value) (us : List Value), us.length = ps.length → bindArgs (PySem.W.fnOf x x (defArgs st) (defBody st) (defScope st) .none kV doc pm an cdv ct) ⟨us, []⟩ = pure (ps.zip us)) (ha : QA X c (e :: es) t)
    (hdb : (x == ("__debug__" : Str)) = false := by decide) (he : starEach (e :: es) X.env = (false, eval e X.env) :: starEach es X.env := by rfl) (hpl : (backTo pos (starEach es X.env)).any (·.1) = false := by rfl) :
    QE X c (.Call (.Name x p) (e :: es) [] pos) (wCall ps.length (fun ds => ds) F xw t) := by
  obtain ⟨f, fd, ok, hm, Fd⟩ := cl.ex
  refine ⟨mo_call cl.mo ha.mo, ⟨fun pins s σ H Q I ⟨G, δ, S, q⟩ => ?_⟩⟩
  refine wpAny_Call_Name_kw (ld_glob I hg hm ?_ hdb)
  refine PySem.W.callWith_K (h₀ := X.base) I.ok.mod.kin Fd.kp (thn (ha.pa.run pos pins s σ H (fun vs H1 => spD c.Om X.K ps.length F vs H1 Q (L2.WE (wishD c X.K xw) σ)) I ⟨G, δ, S, ha.mo δ _ _ (fun ds δ1 z vs G1 H1 S1 k1 r1 => link_call S1 k1 r1 z.1 z.2) q⟩) fun us s1 ⟨vs, H1, I1, r, q⟩ => ⟨I1.kIn, ?_⟩) he hpl
  exact run_pos (E := L2.WE (wishD c X.K xw)) ok hgd hr (Fd.bindsN hb) (passAt tk σ) I1 r q
theorem qe_call0 (cl : Cl X.prog X.w X.K X.mg X.base c.Om k x st [] F) (hgd : X.A.guards = some []) (hr : Room k X.A) (hg : Gl X x) (tk : TakesD X c xw)
    (hb : ∀ (kV doc pm : Value) (an : Option Addr) (cdv ct : Value) (us : List Value), us.length = ([] : List Str).length → bindArgs (PySem.W.fnOf x x (defArgs st) (defBody st) (defScope st) .none kV doc pm an cdv ct) ⟨us, []⟩ = pure (([] : List Str).zip us))
    (hdb : (x == ("__debug__" : Str)) = false := by decide) : QE X c (.Call (.Name x p) [] [] pos) (wCall 0 (fun ds => ds) F xw wNil) := by
  obtain ⟨f, fd, ok, hm, Fd⟩ := cl.ex
  refine ⟨mo_call cl.mo mo_nil, ⟨fun pins s σ H Q I ⟨G, δ, S, q⟩ => ?_⟩⟩
  refine wpAny_Call_Name_kw (ld_glob I hg hm ?_ hdb)
  exact PySem.W.callWith_K0 I.kIn Fd.kp (run_pos (E := L2.WE (wishD c X.K xw)) (vs := []) ok hgd hr (Fd.bindsN hb) (passAt tk σ) I .nil (link_call (ds := []) S .refl .nil rfl q.2))
/-! keywords -/
structure QK (X : Cx) (c : Ct) (kws : List Keyword) (t : WA) : Prop where
  mo : MoA t
  pk : PK X kws (lA c X.K t)
theorem pk_imp {kws : List Keyword} {t t' : TA} (h : PK X kws t) (hw : ∀ σ H Q, t' σ H Q → t σ H Q) : PK X kws t' := ⟨fun pos pins s σ H Q I q => h.run pos pins s σ H Q I (hw _ _ _ q)⟩
theorem qk_nil : QK X c [] wNil := ⟨mo_nil, pk_imp pk_nil fun σ H Q ⟨G, δ, S, q⟩ => q [] G H S .refl .nil⟩
theorem qk_cons {w : WE} {nm : Option Str} {kpos : Pos} {kws : List Keyword} (h : QE X c e w) (ht : QK X c kws t) : QK X c (⟨nm, e, kpos⟩ :: kws) (wCons w t) :=
  ⟨mo_cons h.mo ht.mo, pk_imp (pk_cons h.f.pe ht.pk) fun σ H Q ⟨G, δ, S, q⟩ => lF h.mo S q fun d δ1 v G1 H1 z S1 k1 r1 =>
    ⟨G1, δ1, S1, ht.mo δ1 _ _ (fun ds δ2 z2 vs G2 H2 S2 k2 r2 => z2 _ G2 H2 S2 (k1.trans k2) (.cons (r1.mono k2.ext) r2)) z⟩⟩
def wApd (t u : WA) : WA := fun δ Q => t δ fun ds δ1 => u δ1 fun es δ2 => Q (ds ++ es) δ2
theorem mo_apd {t u : WA} (mt : MoA t) (mu : MoA u) : MoA (wApd t u) := fun δ Q Q' h q => mt δ _ _ (fun ds δ1 z => mu δ1 _ _ (fun es δ2 y => h _ _ y) z) q
/-- a reordering of lists -/
structure Rord (n : Nat) (pm : {α : Type} → List α → List α) : Prop where
  rel : ∀ {Ω : Om} {K : PySem.W.Frag} {G : Hp} {ds : List D} {vs : List V}, ds.length = n → Rps Ω K G ds vs → Rps Ω K G (pm ds) (pm vs)
  val : ∀ {vs : List V} {us : List Value}, vs.length = n → Vals vs us → Vals (pm vs) (pm us)
  len : ∀ {α : Type} {l : List α}, l.length = n → (pm l).length = n
def wCallK (n m : Nat) (pm : List D → List D) (F : FD) (xw : XD) (t tk : WA) : WE := fun δ Q => t δ fun ds δ1 => tk δ1 fun es δ2 => ds.length = n ∧ es.length = m ∧ F (pm (ds ++ es)) (fun d o => Q d o δ2) (xw δ2)
theorem mo_callK {n m : Nat} {pm : List D → List D} {F : FD} {xw : XD} {t tk : WA} (mf : MoFD F) (mt : MoA t) (mk : MoA tk) : MoE (wCallK n m pm F xw t tk) := fun δ Q Q' h q =>
  mt δ _ _ (fun ds δ1 z => mk δ1 _ _ (fun es δ2 y => ⟨y.1, y.2.1, mf _ _ _ _ (fun d o x => h d o δ2 x) y.2.2⟩) z) q
theorem vals_len {vs : List V} {us : List Value} (r : Vals vs us) : us.length = vs.length := r.length.symm
theorem rps_app {Ω : Om} {K : PySem.W.Frag} {G G2 : Hp} {ds es : List D} {vs zs : List V} (r : Rps Ω K G ds vs) (s : Sub G G2) (r2 : Rps Ω K G2 es zs) : Rps Ω K G2 (ds ++ es) (vs ++ zs) := (r.mono s).append r2
section
variable {kws : List Keyword} {n : Nat} {ks : List Str} {f : Addr} {fd : FuncData} {us ws : List Value} {vs zs : List V} {s : Shared} {σ : L2.St} {δ δ1 δ2 : List Sl} {G H G1 H1 G2 H2 : Hp} {Q : VK} {ds es2 : List D} {pins : List (Addr × Obj)}
theorem kw_end (pm : {α : Type} → List α → List α) (hpm : Rord ps.length pm) (ok : FnG X.prog X.w X.K X.mg X.base (L2.CX X.prog X.w) k f fd ps (spD c.Om X.K ps.length F)) (hgd : X.A.guards = some []) (hr : Room k X.A) (tk' : TakesD X c xw) (hn : n + ks.length = ps.length)
    (hb : ∀ us ws : List Value, us.length = n → ws.length = ks.length → BindsTo s fd ⟨us, ks.zip ws⟩ (ps.zip (pm (us ++ ws)))) (I : Inv X pins σ H2 s) (ru : Vals vs us) (rw' : Vals zs ws) (S2 : SR c X.K G2 H2 σ δ2) (k1 : Kp c G H σ δ δ2 G2 H2)
    (r1 : Rps c.Om X.K G2 ds vs) (r2 : Rps c.Om X.K G2 es2 zs) (l1 : ds.length = n) (l2 : es2.length = ks.length)
    (z : F (pm (ds ++ es2)) (fun d o => ∀ v G' H', SR c X.K G' H' σ δ2 → Kp c G H σ δ δ2 G' H' → RV c X.K H G' H' d o v → Q v H') (xw δ2)) : wpAny (model X.prog X.w) X.A (call (.ref f) us (ks.zip ws)) (EP X pins σ Q) X.xe s := by
  have e1 : us.length = n := by rw [vals_len ru, r1.length, l1]
  have e2 : ws.length = ks.length := by rw [vals_len rw', r2.length, l2]
  have e3 : (ds ++ es2).length = ps.length := by rw [List.length_append, l1, l2, hn]
  have e4 : (vs ++ zs).length = ps.length := by rw [List.length_append, r1.length, r2.length, l1, l2, hn]
  exact run_kw (E := L2.WE (wishD c X.K xw)) ok hgd hr (passAt tk' σ) I (hb us ws e1 e2) (hpm.val e4 (ru.append rw')) (link_call S2 k1 (hpm.rel e3 (r1.append r2)) (hpm.len e3) z)
end
theorem qe_callK {kws : List Keyword} {n : Nat} {ks : List Str} (pm : {α : Type} → List α → List α) (hpm : Rord ps.length pm) (cl : Cl X.prog X.w X.K X.mg X.base c.Om k x st ps F) (hgd : X.A.guards = some []) (hr : Room k X.A) (hg : Gl X x) (tk' : TakesD X c xw) (hn : n + ks.length = ps.length)
    (hb : ∀ (kV doc pm2 : Value) (an : Option Addr) (cdv ct : Value) (us ws : List Value), us.length = n → ws.length = ks.length → bindArgs (PySem.W.fnOf x x (defArgs st) (defBody st) (defScope st) .none kV doc pm2 an cdv ct) ⟨us, ks.zip ws⟩ = pure (ps.zip (pm (us ++ ws))))
    (ha : QA X c (e :: es) t) (hk : QK X c kws tk) (hall : (backToKw pos (keywordEach kws X.env)).all (·.1.isSome) = true := by rfl) (hks : (backToKw pos (keywordEach kws X.env)).filterMap (·.1) = ks := by rfl)
    (hdb : (x == ("__debug__" : Str)) = false := by decide) (he : starEach (e :: es) X.env = (false, eval e X.env) :: starEach es X.env := by rfl)
    (hpl : ((backTo pos (starEach (e :: es) X.env)).any (·.1) || (backToKw pos (keywordEach kws X.env)).any (·.1.isNone)) = false := by rfl) :
    QE X c (.Call (.Name x p) (e :: es) kws pos) (wCallK n ks.length pm F xw t tk) := by
  obtain ⟨f, fd, ok, hm, Fd⟩ := cl.ex
  refine ⟨mo_callK cl.mo ha.mo hk.mo, ⟨fun pins s σ H Q I ⟨G, δ, S, q⟩ => ?_⟩⟩
  refine wpAny_Call_Name_kw (ld_glob I hg hm ?_ hdb)
  refine PySem.W.callWith_KW (h₀ := X.base) I.ok.mod.kin Fd.kp hall (thn (ha.pa.run pos pins s σ H (fun vs H1 => ∃ ds δ1 G1, (tk δ1 fun es δ2 => ds.length = n ∧ es.length = ks.length ∧ F (pm (ds ++ es)) (fun d o => ∀ v G' H', SR c X.K G' H' σ δ2 → Kp c G H σ δ δ2 G' H' → RV c X.K H G' H' d o v → Q v H') (xw δ2)) ∧ SR c X.K G1 H1 σ δ1 ∧ Kp c G H σ δ δ1 G1 H1 ∧ Rps c.Om X.K G1 ds vs) I ⟨G, δ, S, ha.mo δ _ _ (fun ds δ1 z vs G1 H1 S1 k1 r1 => ⟨ds, δ1, G1, z, S1, k1, r1⟩) q⟩) fun us s1 ⟨vs, H1, I1, r, ds, δ1, G1, z, S1, k1, r1⟩ => ?_) hpl he
  refine thn (hk.pk.run pos pins s1 σ H1 (fun zs H2 => ∃ es δ2 G2, (ds.length = n ∧ es.length = ks.length ∧ F (pm (ds ++ es)) (fun d o => ∀ v G' H', SR c X.K G' H' σ δ2 → Kp c G H σ δ δ2 G' H' → RV c X.K H G' H' d o v → Q v H') (xw δ2)) ∧ SR c X.K G2 H2 σ δ2 ∧ Kp c G1 H1 σ δ1 δ2 G2 H2 ∧ Rps c.Om X.K G2 es zs) I1 ⟨G1, δ1, S1, hk.mo δ1 _ _ (fun es δ2 z vs G2 H2 S2 k2 r2 => ⟨es, δ2, G2, z, S2, k2, r2⟩) z⟩) fun ws s2 ⟨zs, H2, I2, rz, es, δ2, G2, zz, S2, k2, r2⟩ => ⟨I2.kIn, ?_⟩
  rw [hks]
  obtain ⟨oc, od, dV, kV, doc, pm2, an, cdv, ct, osl, rfl, lk, hcd, ⟨_, rfl⟩ | ⟨e0, _⟩, _⟩ := Fd.ex
  · exact kw_end pm hpm ok hgd hr tk' hn (fun us ws a b => .of_eq (hb kV doc pm2 an cdv ct us ws a b)) I2 r rz S2 (k1.trans k2) (r1.mono k2.ext) r2 zz.1 zz.2.1 zz.2.2
  · exact absurd rfl e0
theorem qe_callK0 {kws : List Keyword} {ks : List Str} (pm : {α : Type} → List α → List α) (hpm : Rord ps.length pm) (cl : Cl X.prog X.w X.K X.mg X.base c.Om k x st ps F) (hgd : X.A.guards = some []) (hr : Room k X.A) (hg : Gl X x) (tk' : TakesD X c xw) (hn : ks.length = ps.length)
    (hb : ∀ (kV doc pm2 : Value) (an : Option Addr) (cdv ct : Value) (us ws : List Value), us.length = 0 → ws.length = ks.length → bindArgs (PySem.W.fnOf x x (defArgs st) (defBody st) (defScope st) .none kV doc pm2 an cdv ct) ⟨us, ks.zip ws⟩ = pure (ps.zip (pm (us ++ ws))))
    (hk : QK X c kws tk) (hall : (backToKw pos (keywordEach kws X.env)).all (·.1.isSome) = true := by rfl) (hks : (backToKw pos (keywordEach kws X.env)).filterMap (·.1) = ks := by rfl)
    (hdb : (x == ("__debug__" : Str)) = false := by decide)
    (hpl : ((backTo pos (starEach [] X.env)).any (·.1) || (backToKw pos (keywordEach kws X.env)).any (·.1.isNone)) = false := by rfl) :
    QE X c (.Call (.Name x p) [] kws pos) (wCallK 0 ks.length pm F xw wNil tk) := by
  obtain ⟨f, fd, ok, hm, Fd⟩ := cl.ex
  refine ⟨mo_callK cl.mo mo_nil hk.mo, ⟨fun pins s σ H Q I ⟨G, δ, S, q⟩ => ?_⟩⟩
  refine wpAny_Call_Name_kw (ld_glob I hg hm ?_ hdb)
  refine PySem.W.callWith_KW0 (h₀ := X.base) I.ok.mod.kin Fd.kp hall ?_ hpl
  refine thn (hk.pk.run pos pins s σ H (fun zs H2 => ∃ es δ2 G2, (([] : List D).length = 0 ∧ es.length = ks.length ∧ F (pm ([] ++ es)) (fun d o => ∀ v G' H', SR c X.K G' H' σ δ2 → Kp c G H σ δ δ2 G' H' → RV c X.K H G' H' d o v → Q v H') (xw δ2)) ∧ SR c X.K G2 H2 σ δ2 ∧ Kp c G H σ δ δ2 G2 H2 ∧ Rps c.Om X.K G2 es zs) I ⟨G, δ, S, hk.mo δ _ _ (fun es δ2 z vs G2 H2 S2 k2 r2 => ⟨es, δ2, G2, z, S2, k2, r2⟩) q⟩) fun ws s2 ⟨zs, H2, I2, rz, es, δ2, G2, zz, S2, k2, r2⟩ => ⟨I2.kIn, ?_⟩
  rw [hks]
  obtain ⟨oc, od, dV, kV, doc, pm2, an, cdv, ct, osl, rfl, lk, hcd, ⟨_, rfl⟩ | ⟨e0, _⟩, _⟩ := Fd.ex
  · exact kw_end pm hpm ok hgd hr tk' (n := 0) (by omega) (fun us ws a b => .of_eq (hb kV doc pm2 an cdv ct us ws a b)) I2 (us := []) (vs := []) .nil rz S2 k2 .nil r2 rfl zz.2.1 zz.2.2
  · exact absurd rfl e0
end
end PD

set_option Elab.async false
set_option linter.all false
set_option maxRecDepth 100000
set_option maxHeartbeats 2000000
/-! own errors below an own base over ValueError, whose __init__ is «super().__init__('..'); self.f = f» (turned from the skeleton of own errors with a field) -/
namespace PySem
namespace SwX
open PySem.W PySem.Calls PyProof.Rows PySem.HandSPX
def iA (f : Str) (p1 p2 : Pos) : Arguments := { posonlyargs := [], args := [{ arg := "self", annotation := none, pos := p1 }, { arg := f, annotation := none, pos := p2 }], vararg := none, kwonlyargs := [], kw_defaults := [], kwarg := none, defaults := [] }
def iB (f m : Str) (j : Nat) (a1 a2 a3 a4 a5 a6 q1 q2 q3 q4 : Pos) : List Stmt :=
  [.Expr (.Call (.Attribute (.Call (.Name "super" a1) [] [] a2) "__init__" a3) [.Constant (.str m) j a4] [] a5) a6, .Assign [.Attribute (.Name "self" q1) f q2] (.Name f q3) q4]
def iS (f : Str) : Scope := { kind := .function, names := [(PySem.Str.ofString "self", .local), (f, .local), (PySem.Str.ofString "__class__", .free), (PySem.Str.ofString "super", .globalImplicit)], isGenerator := false, isCoroutine := false, more := [] }
/-- what the written part says of such a class, at C, and of its __init__, at fI -/
structure SwTxt (prog : Program) (K : Frag) (f : Str) (C fI : Addr) : Prop where
  cls : ∃ nm q N bs bm sn sub ab col dd k0 k1 k2 k3 k5, K.lookup C = some (excClassObj nm q C N bs bm true sn sub ab col dd k0 k1 k2 k3 k5 "ValueError.__new__") ∧ refsVE bm = true ∧ alongIn K "__init__" bm = some (some (.builtin "ValueError.__init__"))
  sa : findIn K (.ref C) "__setattr__" = some (some (.builtin "object.__setattr__"))
  noN : findIn K (.ref C) f = some none
  iC : findIn K (.ref C) "__init__" = some (some (.ref fI))
  tC : typeIn K (.ref fI) = some (.type "function")
  kC : keepIn K (.ref C) = true
  exC : subIn K (.ref C) (.type "BaseException") = some true
  tyC : typeIn K (.ref C) = some (.type "type")
  hdC : hasDictIn K C = true
  sV : subIn K (.ref C) (.type "ValueError") = some true
  ic : mroIn K C (.ref C) = some true
  op : nsIn K cStatics "thirdparty.any" = some none
  su : nsIn K mainGlobals "super" = some none
  top : (prog.main.scope.names.lookup ("super" : Str)).isSome = false
  fn : ∃ (oc ccl cl : Value) (od cdd cld : Option Addr) (doc pm ct : Value) (an : Option Addr) (osl ccs csl : Array (Option Value)) (cc cda : Addr) (vs : Array Value) (file : Str) (tf : Tok) (qual m : Str) (j : Nat) (p1 p2 a1 a2 a3 a4 a5 a6 q1 q2 q3 q4 : Pos),
    K.lookup fI = some ⟨oc, od, .func (ksFn "__init__" qual (iA f p1 p2) (iB f m j a1 a2 a3 a4 a5 a6 q1 q2 q3 q4) (iS f) .none .none doc pm an (.ref cda) ct cc), osl⟩ ∧ codeIn K (.ref cda) qual = true ∧
      K.lookup cda = some ⟨ccl, cdd, .fields vs, ccs⟩ ∧ vs[2]? = some (.str file tf) ∧ ((prog.main.file : Str) == file) = true ∧ K.lookup cc = some ⟨cl, cld, .cell (some (.ref C)), csl⟩ ∧ (a3.endLine == a5.line) = true
/-- the field's name -/
def fOk (f : Str) : Bool := f == "part" || f == "most" || f == "name" || f == "at"
theorem one_size (v : Value) : [v].length ≤ sizeLine := by
  rw [sizeLine_eq]
  exact (by decide : 1 ≤ 16777216)
/-- what __init__ leaves of a fresh exception at x -/
structure InitEnd (f : Str) (h h' : Heap) (x C dx t1 : Addr) (v : Value) : Prop where
  keep : ∀ b o, b ≠ x → h.get? b = some o → h'.get? b = some o
  obj : h'.get? x = some { cls := .ref C, dict := some dx, data := .fields #[.ref t1, .none, .none, .none, .bool false, .none] }
  dbig : h.objs.size ≤ dx
  dne : dx ≠ x
  ns : h'.Ns1 dx (fun y => if y = f then some v else none)
/-- a made one -/
structure OwnMade (f : Str) (h h' : Heap) (e C d : Addr) (v : Value) : Prop where
  keep : ∀ b o, h.get? b = some o → h'.get? b = some o
  new : h.objs.size ≤ e
  obj : ∃ oe vs, h'.get? e = some oe ∧ oe.cls = .ref C ∧ oe.dict = some d ∧ oe.data = .fields vs ∧ vs[1]? = some .none
  dbig : h.objs.size ≤ d
  dne : d ≠ e
  ns : h'.Ns1 d (fun y => if y = f then some v else none)
theorem ldC {M : Model} {s : Shared} {env : Env} {m : Str → Option Value} {x : Str} {pos : Pos} {v : Value} {Q : Value → Shared → Prop} {A : Around} {E : Value → Shared → Prop} (hn : s.heap.Ns env.locals m) (hv : m x = some v) (hk : env.scope.kind = .function) (hl : env.kindOf x = some .local) (hd : (x == ("__debug__" : Str)) = false) (h : Q v s) :
    wpAny M A (eval (.Name x pos) env) Q E s := wpAny_Name (wpAny_loadName_local hk hl hn hv h) hd
section
variable {prog : Program} {w : World} {A : Around} {E : Value → Shared → Prop} {h : Heap} {g : Array GenState} {d : Drawn} {t : Nat} {os : OsState}
/-- the bound __init__ called -/
theorem call_mw {B i newId : String} {bmB : List Value} {C N u x t0 : Addr} {nm q : Str} {bs bm : List Value} {hdct : Bool} {sn : List Str} {sub : List Value} {ab : Bool} {col : Option Bool} {dd : Option Addr} {k0 k1 k2 k3 k5 : Option Value} {rest : List Value} {Q : Value → Shared → Prop} (FB : ExcBaseFacts B newId i bmB)
    (hC : h.get? C = some (excClassObj nm q C N bs bm hdct sn sub ab col dd k0 k1 k2 k3 k5 newId)) (hu : h.get? u = some (kxs_mw i x)) (hx : h.get? x = some (HandSPX.excO C t0)) (hz : rest.length ≤ sizeLine)
    (hq : ∀ h', (∀ b o, b ≠ x → h.get? b = some o → h'.get? b = some o) → h'.get? x = some (HandSPX.excO C h.objs.size) → Q .none ⟨h', g, d, t, os⟩) :
    wpAny (model prog w) A (call (.ref u) rest) Q E ⟨h, g, d, t, os⟩ := by
  refine wpAny_call (codeAny_of_tree ?_)
  show wpAny _ A.in1 (callAny (.ref u) ⟨rest, []⟩) _ _ _
  simp only [callAny]
  refine wpAny_bind (wpAny_load hu ?_)
  simp only [kxs_mw, show (Value.type "method-wrapper" == Value.type "method" || Value.type "method-wrapper" == Value.type "builtin_function_or_method" || Value.type "method-wrapper" == Value.type "method-wrapper") = true by decide, if_true]
  refine KFB.if_so (by decide) ?_
  refine wpAny_bind (check_bound_init FB.toExcCallFacts hC hx rfl ?_)
  refine wpAny_bind (wpAny_pure (wpAny_pure ?_))
  refine ⟨plainId_quiet FB.init.plain _, codeAny_builtin FB.initEntry ?_⟩
  exact exc_init_tree (cls := .ref C) (t0 := t0) (dv := none) (c2 := .none) (c3 := .none) (b4 := .bool false) hx hz (fun h' k e' _ => hq h' k e')
end
section
variable {prog : Program} {w : World} {A : Around} {E : Value → Shared → Prop} {R : Result → Shared → Prop} {K : Frag} {C fI : Addr} {f : Str}
/-- what is asked of the names around -/
structure Nms (h : Heap) : Prop where
  g : ∃ mg, h.Ns mainGlobals mg ∧ mg "super" = none
  b : ∃ mb, h.Ns builtinsNs mb ∧ mb "super" = some (.type "super")
theorem Nms.keeps {h h' : Heap} (n : Nms h) (k : ∀ b o, h.get? b = some o → h'.get? b = some o) : Nms h' := by
  obtain ⟨⟨mg, a1, a2⟩, mb, b1, b2⟩ := n
  exact ⟨⟨mg, a1.keeps k, a2⟩, mb, b1.keeps k, b2⟩
theorem fOk_cases {f : Str} (h : fOk f = true) : f = "part" ∨ f = "most" ∨ f = "name" ∨ f = "at" := by
  unfold fOk at h
  simpa [Bool.or_eq_true, or_assoc] using h
theorem dl {l : List Value} {C : Addr} (h : Value.ref C :: l = Value.ref C :: l) : ((Value.ref C :: l).dropWhile (· != .ref C)).drop 1 = l := by
  rw [List.dropWhile_cons_of_neg (by simp)]; rfl
theorem sw_initA (T : SwTxt prog K f C fI) (hf : fOk f = true) {args : Args} {h : Heap} {g : Array GenState} {d : Drawn} {t : Nat} {os : OsState} {x t0 : Addr} {v : Value} (X : K.In h) (nms : Nms h) (hlim : h.NoLimit) (hx : h.get? x = some (excO C t0)) (hnx : K.lookup x = none) (hroom : A.depth < recursionLimit)
    (hbt : ∀ qual m j p1 p2 a1 a2 a3 a4 a5 a6 q1 q2 q3 q4 doc pm ct an cda cc, BindsTo (⟨h, g, d, t, os⟩ : Shared) (ksFn "__init__" qual (iA f p1 p2) (iB f m j a1 a2 a3 a4 a5 a6 q1 q2 q3 q4) (iS f) .none .none doc pm an (.ref cda) ct cc) args [("self", .ref x), (f, v)])
    (hq : ∀ h' tk dx t1, InitEnd f h h' x C dx t1 v → R (.ok (.ret .none)) ⟨h', g, d, tk, os⟩) :
    codeAny (model prog w) A (.call (.ref fI) args) R ⟨h, g, d, t, os⟩ := by
  obtain ⟨oc, ccl, cl, od, cdd, cld, doc, pm, ct, an, osl, ccs, csl, cc, cda, vs, file, tf, qual, m, j, p1, p2, a1, a2, a3, a4, a5, a6, q1, q2, q3, q4, ho, hcd, hcode, hvs, hfile, hcell, hline⟩ := T.fn
  obtain ⟨nm, q, N, bs, bm, sn, sub, ab, col, dd, k0, k1, k2, k3, k5, hC, hbm, hal⟩ := T.cls
  have hcl : clsIn K C = some { name := nm, bases := bs, mro := .ref C :: bm, ns := N, qualname := q, hasDict := true, slotNames := sn, subclasses := sub, abstract := ab, collection := col, hasDel := false } := by unfold clsIn; rw [hC] <;> rfl
  have hb := hbt qual m j p1 p2 a1 a2 a3 a4 a5 a6 q1 q2 q3 q4 doc pm ct an cda cc
  have hfs : (f == ("self" : Str)) = false := by rcases fOk_cases hf with rfl | rfl | rfl | rfl <;> decide
  have lkf : (iS f).names.lookup f = some .local := by rcases fOk_cases hf with rfl | rfl | rfl | rfl <;> rfl
  have ms : ([((PySem.Str.ofString "self"), Value.ref x), (f, v)] : List (Str × Value)).reverse.lookup ("self" : PySem.Str) = some (.ref x) := by
    rcases fOk_cases hf with rfl | rfl | rfl | rfl <;> rfl
  have mf : ([((PySem.Str.ofString "self"), Value.ref x), (f, v)] : List (Str × Value)).reverse.lookup f = some v := by
    rcases fOk_cases hf with rfl | rfl | rfl | rfl <;> rfl
  refine ks_codeAny_call_defAt hroom (X _ _ ho) rfl hlim (codeRec_of X hcd) rfl hb ?_ ?_ (fun h₁ hns k₁ => ?_)
  · intro y hy
    rcases List.mem_cons.mp hy with e | hy
    · rw [e]; intro z; cases z
    rcases List.mem_cons.mp hy with e | hy
    · rw [e]; intro z; cases z
    rcases List.mem_cons.mp hy with e | hy
    · rw [e]; intro z; cases z
    rcases List.mem_cons.mp hy with e | hy
    · rw [e]; intro z; cases z
    · cases hy
  · intro y hy
    rcases List.mem_cons.mp hy with e | hy
    · rw [e]; exact (rfl : (iS f).names.lookup ("self" : PySem.Str) = some .local)
    · rcases List.mem_cons.mp hy with e | hy
      · rw [e]; exact lkf
      · cases hy
  have X₁ := X.keeps k₁
  have nms₁ := nms.keeps k₁
  have hx₁ := k₁ _ _ hx
  obtain ⟨oD, hD1, hD2⟩ : ∃ oD, h₁.get? C = some oD ∧ oD.data = .cls { name := nm, bases := bs, mro := .ref C :: bm, ns := N, qualname := q, hasDict := true, slotNames := sn, subclasses := sub, abstract := ab, collection := col, hasDel := false } := ⟨_, X₁ _ _ hC, rfl⟩
  have hxC : x ≠ C := fun e => by rw [e, hC] at hnx; cases hnx
  have lx : (iS f).names.lookup ("self" : PySem.Str) = some .local := rfl
  have keepB : ∀ {h' : Heap}, (∀ b o, b ≠ x → h₁.get? b = some o → h'.get? b = some o) → K.In h' := fun k a o e => k a o (fun z => by rw [z, hnx] at e; cases e) (X₁ a o e)
  obtain ⟨⟨mg, hg1, hg2⟩, mb, hb1, hb2⟩ := nms₁
  refine ks_wpAt_execs_cons (ks_wpAt_Expr_any (ks_wpAt_MethodCall (pl := L2.plainOf (.Call (.Name "super" a1) [] [] a2) (ksEnv qual (iS f) h.objs.size fI (.ref cda) cc)) ?_ ?_) rfl ?_)
  · refine ks_wpAt_super_base (env := ksEnv qual (iS f) h.objs.size fI (.ref cda) cc) ?_ ?_ rfl rfl (X₁ _ _ ho) rfl rfl rfl (X₁ _ _ hcode) rfl hvs hfile T.top ?_
    · rcases fOk_cases hf with rfl | rfl | rfl | rfl <;> rfl
    · rcases fOk_cases hf with rfl | rfl | rfl | rfl <;> rfl
    refine ks_loadName_global rfl (by rcases fOk_cases hf with rfl | rfl | rfl | rfl <;> rfl) (loadGlobal_builtin (env := ksEnv qual (iS f) h.objs.size fI (.ref cda) cc) hg1 hg2 hb1 hb2 ⟨rfl, ?_⟩)
    refine wpAny_loadName_free rfl (by rcases fOk_cases hf with rfl | rfl | rfl | rfl <;> rfl) rfl ⟨_, X₁ _ _ hcell, rfl⟩ ?_
    refine wpAny_loadName_local rfl lx hns ms ?_
    refine ks_wpAny_isType_cls hD1 hD2 ⟨rfl, ?_⟩
    refine ks_wpAny_call_super hD1 hD2 hx₁ rfl (fun c e => by cases e) (looks_mroIn X₁ T.ic) (fun h₂ e₂ k₂ => ?_)
    have X₂ := X₁.keeps k₂
    have hx₂ := k₂ _ _ hx₁
    have J₂ : InstAt h₂ x (excO C t0) C none := ⟨hx₂, rfl, rfl, trivial⟩
    refine kxs_getMethod kxs_ValueError e₂ (looks_opaque X₂ T.op) (l₀ := .ref C :: bm) (fun A Q E s k q => wpAny_bind ((looks_clsIn X₂ hcl) A _ E s k (wpAny_pure q))) (dl rfl) X₂ hal (J₂.type.andThen (looks_subIn X₂ T.sV)) hxC rfl ?_
    refine kxs_callWith (i := "ValueError.__init__") (u := h₂.objs.size) (x := x) (by rfl) ?_
    show wpAny _ _ (evalArgs _ true ((false, eval (.Constant (.str m) j a4) _) :: []) []) _ _ _
    refine evalArgs_plain (spliced_cons (Constant_str (spliced_nil ?_)))
    refine ⟨Heap.get?_push_size _ rfl, ?_⟩
    have kp : ∀ b o, h₂.get? b = some o → (h₂.push (kxs_mw "ValueError.__init__" x)).get? b = some o := fun b o e => Heap.get?_push_of_some _ e
    refine call_mw PySem.F.excBase_ValueError (kp _ _ (X₂ _ _ hC)) (Heap.get?_push_size _ rfl) (kp _ _ hx₂) (one_size _) (fun h₄ k₄ hx₄ => ?_)
    have k14 : ∀ b o, b ≠ x → h₁.get? b = some o → h₄.get? b = some o := fun b o nb e => k₄ b o nb (kp b o (k₂ b o e))
    have X₄ := keepB k14
    have nLx : h.objs.size ≠ x := Nat.ne_of_gt (Heap.lt_size hx)
    have hns₄ : h₄.Ns h.objs.size (fun y => ([((PySem.Str.ofString "self"), Value.ref x), (f, v)] : List (Str × Value)).reverse.lookup y) := hns.at fun o e => k14 _ o nLx e
    have dbg : (f == ("__debug__" : PySem.Str)) = false := by rcases fOk_cases hf with rfl | rfl | rfl | rfl <;> decide
    refine ks_wpAt_execs_cons (ks_wpAt_Assign_Attr (wpAt_of_wpAny (ldC (v := v) hns₄ mf rfl lkf dbg (ldC (v := .ref x) hns₄ ms rfl lx rfl ?_))) ?_)
    · refine set_plain X₄ (ox := excO C _) (od := none) ⟨hx₄, rfl, rfl, trivial⟩ T.sa ?_
      refine exc_osa X₄ hx₄ hcl (show refsVE (.ref C :: bm) = true from hbm) rfl T.noN (fun h₅ tk₅ dx k₅ dn dne hx₅ hn₅ => ?_)
      refine wpAt_of_wpAny (wpAny_execs_nil ?_)
      exact hq h₅ _ dx _ ⟨fun b o hb e => k₅ b o hb (k14 b o hb (k₁ b o e)), hx₅, Nat.le_of_lt (Nat.lt_of_lt_of_le hns₄.lt dn), dne, hn₅⟩
    · rfl
  · rw [arm_eval_Call]
    refine bind_congr fun ov => bind_congr fun _ => ?_
    exact L2.mcall_line rfl hline
  · rfl
theorem sw_init (T : SwTxt prog K f C fI) (hf : fOk f = true) {h : Heap} {g : Array GenState} {d : Drawn} {t : Nat} {os : OsState} {x t0 : Addr} {v : Value} (X : K.In h) (nms : Nms h) (hlim : h.NoLimit) (hx : h.get? x = some (excO C t0)) (hnx : K.lookup x = none) (hroom : A.depth < recursionLimit)
    (hq : ∀ h' tk dx t1, InitEnd f h h' x C dx t1 v → R (.ok (.ret .none)) ⟨h', g, d, tk, os⟩) :
    codeAny (model prog w) A (.call (.ref fI) ⟨[.ref x, v], []⟩) R ⟨h, g, d, t, os⟩ := sw_initA T hf X nms hlim hx hnx hroom (by
      intro qual m j p1 p2 a1 a2 a3 a4 a5 a6 q1 q2 q3 q4 doc pm ct an cda cc
      rcases fOk_cases hf with rfl | rfl | rfl | rfl <;> exact BindsTo.of_eq (by first | rfl | with_unfolding_all rfl)) hq
/-- a made one, by the class -/
theorem sw_made (T : SwTxt prog K f C fI) (hf : fOk f = true) {h : Heap} {g : Array GenState} {d : Drawn} {t : Nat} {os : OsState} {v : Value} (X : K.In h) (nms : Nms h) (hlim : h.NoLimit) (hroom : A.depth + 1 < recursionLimit)
    (hq : ∀ h' tk e dx, OwnMade f h h' e C dx v → R (.ok (.ret (.ref e))) ⟨h', g, d, tk, os⟩) : codeAny (model prog w) A (.call (.ref C) ⟨[v], []⟩) R ⟨h, g, d, t, os⟩ := by
  obtain ⟨nm, q, N, bs, bm, sn, sub, ab, col, dd, k0, k1, k2, k3, k5, hC, hbm, hal⟩ := T.cls
  have kp : ∀ b o, h.get? b = some o → ((h.push (kdv_tup [v])).push (excO C h.objs.size)).get? b = some o := fun b o e => Heap.get?_push_of_some _ (Heap.get?_push_of_some _ e)
  have hx : ((h.push (kdv_tup [v])).push (excO C h.objs.size)).get? (h.objs.size + 1) = some (excO C h.objs.size) := by heap_get
  have hnx : K.lookup (h.objs.size + 1) = none := by
    cases e : K.lookup (h.objs.size + 1) with
    | none => rfl
    | some o =>
      have z : h.get? (h.objs.size + 1) = some o := X _ _ e
      exact absurd (Nat.lt_of_succ_lt (Heap.lt_size z)) (Nat.lt_irrefl _)
  refine call_own PySem.F.excBase_ValueError (fun X => refsVE_contains X bm hbm) (X _ _ hC) (looks_findIn X T.iC) (fun self => bind_fn X self T.tC) (one_size v) ?_
  refine sw_init T hf (X.keeps kp) (nms.keeps kp) (hlim.keeps kp) hx hnx ?_ fun h' tk' dx t1 ⟨k', hx', dn, dne, hns⟩ => ?_
  · exact hroom
  · have z : h.objs.size + 1 + 1 ≤ dx := by
      have q := dn
      rw [Heap.size_push, Heap.size_push] at q
      exact q
    exact ⟨rfl, hq h' tk' (h.objs.size + 1) dx ⟨fun b o e => k' b o (Nat.ne_of_lt (Nat.lt_succ_of_lt (Heap.lt_size e))) (kp b o e), Nat.le_succ _, ⟨_, _, hx', rfl, rfl, rfl, rfl⟩, by omega, dne, hns⟩⟩
end
end SwX
end PySem

set_option Elab.async false
set_option linter.all false
set_option maxRecDepth 100000
set_option maxHeartbeats 2000000
/-! PD, eleventh part: errors: made, raised, read -/
namespace PD
open PySem PySem.Spec PyProof.Rows L2

/-- a new object, frozen at once -/
theorem new_any {c : Ct} {K : PySem.W.Frag} {G H : Hp} {σ : L2.St} {δ : List Sl} (S : SR c K G H σ δ) {p : Addr} {u : HO} (hp : H p = none) (hu : ∀ ps, u ≠ .tbl ps := by intro _ h; first | (cases h; done) | (unfold ExH at h; cases h)) : SR c K (upd G p u) (upd H p u) σ δ ∧ Kp c G H σ δ δ (upd G p u) (upd H p u) := by
  have nom := S.out.nom hp
  have gp := S.out.gone hp
  have ne : ∀ {a o}, H a = some o → a ≠ p := fun e => ne_of_none e hp
  have neO : ∀ a, c.Om.own a → a ≠ p := fun a ha z => nom (by rw [← z]; exact ha)
  have sg : Sub G (upd G p u) := Sub.new gp
  refine ⟨⟨⟨fun a o e => ?_, ?_, fun a ha => ?_, fun a ha => ?_, S.out.fz.trans sg, S.out.ext.trans sg, fun a o e n x => ?_, tb_upd S.out.tb hu⟩, S.len, fun i d e => ?_, fun i d e => ?_, S.sep⟩, ⟨sg, fun _ h => h, fun a h => upd_nu h, fun a o e n1 n2 => ?_⟩⟩
  · by_cases h : a = p
    · subst h; rw [upd_same] at e ⊢; exact e
    · rw [upd_ne h] at e ⊢; exact S.out.sub a o e
  · exact c.Om.loc H _ S.out.inv (fun a ha => by rw [upd_ne (neO a ha)]) fun a φ e => by rw [upd_ne (ne e)]; exact e
  · rw [upd_ne (neO a ha)]; exact S.out.omG a ha
  · rw [upd_ne (neO a ha)]; exact S.out.omH a ha
  · obtain ⟨h1, h2⟩ := S.out.kp a o e n x
    rw [upd_ne (ne h1), upd_ne (ne h1)]
    exact ⟨h1, h2⟩
  · obtain ⟨v, h1, h2⟩ := S.fro i d e
    exact ⟨v, h1, h2.mono sg⟩
  · obtain ⟨q, h3, w, f⟩ := S.own i d e
    obtain ⟨o, e1, e2⟩ := w.ob
    exact ⟨q, h3, ⟨by rw [upd_ne (ne e1)]; exact w.g, w.om, o, by rw [upd_ne (ne e1)]; exact e1, e2.mono sg⟩, f⟩
  · rw [upd_ne (ne e), upd_ne (ne e)]
    exact ⟨e, fun g _ => g⟩

/-! ### the hand layer: error objects as values -/
abbrev veB : List Value := [.type "ValueError", .type "Exception", .type "BaseException", .type "object"]
theorem exH_ok {P : Program} {w : World} {H : Hp} {h : Heap} {a : Addr} {cls : Value} {d : Option Addr} {oe : Obj} {vs : Array Value} (e : h.get? a = some oe) (z : Zc cls d oe) (hd : oe.data = .fields vs) : ObjOk P w H h a (ExH cls d a) :=
  ⟨⟨oe, e, z, vs, hd⟩, ⟨oe, e⟩, fun h1 h2 ⟨o, a, b, c⟩ st => ⟨o, st o a, b, c⟩⟩
/-- a class of errors without own __init__ -/
structure ExPl (X : Cx) (C : Nat) : Prop where
  gC : X.mg (cName C) = some (.ref (cA X.K C))
  q : PySem.W.excIn X.K (cA X.K C) veB "ValueError.__new__" = true
  kC : PySem.W.keepIn X.K (.ref (cA X.K C)) = true
  r : Raises X (.ref (cA X.K C))
  ex : ExK X.K C
  f : cFields C = []
/-- .. with one -/
structure ExFl (X : Cx) (C : Nat) (f : Str) : Prop where
  gC : X.mg (cName C) = some (.ref (cA X.K C))
  t : ∃ fI, PySem.SwX.SwTxt X.prog X.K f (cA X.K C) fI
  ok : PySem.SwX.fOk f = true
  ex : ExK X.K C
  f : cFields C = [f]
  su : X.mg "super" = none
theorem nms_of {X : Cx} {pins : List (Addr × Obj)} {σ : L2.St} {H : Hp} {s : Shared} (I : Inv X pins σ H s) (hs : X.mg "super" = none) : PySem.SwX.Nms s.heap := by
  obtain ⟨mb, h1, h2⟩ := I.mod.blt
  exact ⟨⟨X.mg, I.mod.glob.keeps I.bk, hs⟩, mb, h1.keeps I.bk, (h2 "super" (by decide)).trans (by first | rfl | kernel_rfl)⟩
section
variable {X : Cx} {e : Expr} {ta : TE} {p pos : Pos} {C : Nat} {f x : Str}
theorem pe_exH (T : ExPl X C) (hx : x = cName C) (hg : Gl X x) (he : PE X e ta) (hs : starEach [e] X.env = (false, eval e X.env) :: starEach [] X.env := by rfl) (hdb : (x == ("__debug__" : Str)) = false := by decide) :
    PE X (.Call (.Name x p) [e] [] pos) (fun σ H Q => ta σ H fun _ H1 => ∀ a, H1 a = none → Q (.ref a) (upd H1 a (ExH (.ref (cA X.K C)) none a))) := by
  refine ⟨fun pins s σ H Q I h => wpAny_Call_Name_kw (ld_glob I hg (by rw [hx]; exact T.gC) ?_ hdb)⟩
  refine PySem.W.callWith_K (h₀ := X.base) I.ok.mod.kin T.kC ?_ hs (by rfl)
  rw [hs]
  refine Calls.spliced_cons (thn (he.run pins s σ H _ I h) fun u s1 ⟨v, H1, I1, r1, q1⟩ => Calls.spliced_nil ⟨I1.kIn, ?_⟩)
  obtain ⟨bm, N, nm, qn, bs, hdct, sn, sub, ab, col, dd, k0, k1, k2, k3, k5, mN, hC, hN, hni, O⟩ := exc_obj I1.kIn T.q
  refine wpAny_call_exc_subT PySem.F.excBase_ValueError O hC hN hni (fun h' a hm => ?_) (PySem.SwX.one_size u)
  have hn : H1 a = none := I1.hok.gone hm.new
  obtain ⟨t, ht, _, _⟩ := hm.there
  exact ⟨.ref a, upd H1 a (ExH (.ref (cA X.K C)) none a), I1.laidN hm.keeps hm.new hn (exH_ok ht ⟨rfl, rfl⟩ rfl), rfl, q1 a hn⟩
theorem relO_one {v : V} {v' : Value} (r : RelV v v') (g : Str) : RelO (List.lookup g [(f, v)]) (if g = f then some v' else none) := by
  by_cases hw : g = f
  · subst hw
    rw [if_pos rfl, show List.lookup g [(g, v)] = some v by simp [List.lookup]]
    exact r
  · rw [if_neg hw, show List.lookup g [(f, v)] = none by simp [List.lookup, show (g == f) = false by simpa using hw]]
    trivial
/-- both laid: the dict, then the object -/
theorem laid_two {pins : List (Addr × Obj)} {σ : L2.St} {H1 : Hp} {hp h' : Heap} {g : Array GenState} {d : Drawn} {t tk : Nat} {os : OsState} {c e dx : Addr} {v : V} {v' : Value} (I1 : Inv X pins σ H1 ⟨hp, g, d, t, os⟩) (rv : RelV v v') (M : PySem.SwX.OwnMade f hp h' e c dx v') :
    Inv X pins σ (upd (upd H1 dx (.xd [(f, v)])) e (ExH (.ref c) (some dx) e)) ⟨h', g, d, tk, os⟩ ∧ H1 dx = none ∧ H1 e = none ∧ dx ≠ e := by
  obtain ⟨oe, fv, hoe, hc, hd, hdat, h1⟩ := M.obj
  have nd : H1 dx = none := I1.hok.fresh M.dbig
  have ne : H1 e = none := I1.hok.fresh M.new
  obtain ⟨G', g1, g2⟩ := restrict h' fun b => decide (b ≠ e)
  have gk : ∀ b, b ≠ e → G'.get? b = h'.get? b := fun b hb => g1 b (decide_eq_true hb)
  have ge : G'.get? e = none := g2 e (by simp)
  have old : ∀ b o, hp.get? b = some o → G'.get? b = some o := fun b o q => (gk b (Nat.ne_of_lt (Nat.lt_of_lt_of_le (Heap.lt_size q) M.new))).trans (M.keep b o q)
  have J : Inv X pins σ (upd H1 dx (.xd [(f, v)])) ⟨G', g, d, tk, os⟩ := I1.laid (t' := tk) old M.dbig ⟨_, M.ns.at (fun o q => (gk dx M.dne).trans q), fun g => relO_one rv g⟩
  have n2 : upd H1 dx (.xd [(f, v)]) e = none := by rw [upd_ne (Ne.symm M.dne)]; exact ne
  refine ⟨J.laidN (h' := h') (t' := tk) (fun b o q => ?_) ge n2 (exH_ok hoe ⟨hc, hd⟩ hdat), nd, ne, M.dne⟩
  by_cases hb : b = e
  · have q' : G'.get? b = some o := q
    rw [hb, ge] at q'; cases q'
  · exact (gk b hb).symm.trans q
theorem pe_exHF {k : Nat} (T : ExFl X C f) (hr : Room k X.A) (hx : x = cName C) (hg : Gl X x) (he : PE X e ta) (hs : starEach [e] X.env = (false, eval e X.env) :: starEach [] X.env := by rfl) (hdb : (x == ("__debug__" : Str)) = false := by decide) :
    PE X (.Call (.Name x p) [e] [] pos) (fun σ H Q => ta σ H fun v H1 => ∀ dx a, H1 dx = none → H1 a = none → dx ≠ a → Q (.ref a) (upd (upd H1 dx (.xd [(f, v)])) a (ExH (.ref (cA X.K C)) (some dx) a))) := by
  obtain ⟨fI, t⟩ := T.t
  refine ⟨fun pins s σ H Q I h => wpAny_Call_Name_kw (ld_glob I hg (by rw [hx]; exact T.gC) ?_ hdb)⟩
  refine PySem.W.callWith_K (h₀ := X.base) I.ok.mod.kin t.kC ?_ hs (by rfl)
  rw [hs]
  refine Calls.spliced_cons (thn (he.run pins s σ H _ I h) fun u s1 ⟨v, H1, I1, r1, q1⟩ => Calls.spliced_nil ⟨I1.kIn, ?_⟩)
  have nm := nms_of I1 T.su
  have hlim := I1.nolimit
  obtain ⟨hp, g, dr, tk, os⟩ := s1
  refine wpAny_call (PySem.SwX.sw_made t T.ok I1.kIn nm hlim (by have := hr.dp; omega) fun h' tk' e' dx M => ?_)
  obtain ⟨J, n1, n2, n3⟩ := laid_two (tk := tk') I1 r1 M
  exact ⟨.ref e', _, J, rfl, q1 dx e' n1 n2 n3⟩
/-- raise X(e) -/
theorem pmk_F {k : Nat} (T : ExFl X C f) (hr : Room k X.A) (hx : x = cName C) (hg : Gl X x) (he : PE X e ta) (hs : starEach [e] X.env = (false, eval e X.env) :: starEach [] X.env := by rfl) (hdb : (x == ("__debug__" : Str)) = false := by decide) :
    PMk X (.Call (.Name x p) [e] [] pos) (fun σ H Q => ta σ H fun v H1 => ∀ dx, H1 dx = none → Q (.ref (cA X.K C)) (some dx) (upd H1 dx (.xd [(f, v)]))) := by
  obtain ⟨fI, t⟩ := T.t
  intro pins s σ H Q I h
  refine wpAny_Call_Name_kw (ld_glob I hg (by rw [hx]; exact T.gC) ?_ hdb)
  refine PySem.W.callWith_K (h₀ := X.base) I.ok.mod.kin t.kC ?_ hs (by rfl)
  rw [hs]
  refine Calls.spliced_cons (thn (he.run pins s σ H _ I h) fun u s1 ⟨v, H1, I1, r1, q1⟩ => Calls.spliced_nil ⟨I1.kIn, ?_⟩)
  have nm := nms_of I1 T.su
  have hlim := I1.nolimit
  obtain ⟨hp, g, dr, tk, os⟩ := s1
  refine wpAny_call (PySem.SwX.sw_made t T.ok I1.kIn nm hlim (by have := hr.dp; omega) fun h' tk' e' dx M => ?_)
  obtain ⟨oe, fv, hoe, hc, hd, hdat, h1⟩ := M.obj
  obtain ⟨G', g1, g2⟩ := restrict h' fun b => decide (b ≠ e')
  have gk : ∀ b, b ≠ e' → G'.get? b = h'.get? b := fun b hb => g1 b (decide_eq_true hb)
  have ge : G'.get? e' = none := g2 e' (by simp)
  have old : ∀ b o, hp.get? b = some o → G'.get? b = some o := fun b o q => (gk b (Nat.ne_of_lt (Nat.lt_of_lt_of_le (Heap.lt_size q) M.new))).trans (M.keep b o q)
  have J : Inv X pins σ (upd H1 dx (.xd [(f, v)])) ⟨G', g, dr, tk', os⟩ := I1.laid (t' := tk') old M.dbig ⟨_, M.ns.at (fun o q => (gk dx M.dne).trans q), fun g => relO_one r1 g⟩
  refine ⟨e', oe, fv, ⟨G', g, dr, tk', os⟩, _, .ref (cA X.K C), some dx, rfl, J, fun b o q => ?_, ge, hoe, ⟨hc, hd⟩, hdat, h1, ?_, rfl, I1.bare, raises_own t.exC t.tyC, q1 dx (I1.hok.fresh M.dbig)⟩
  · by_cases hb : b = e'
    · have q' : G'.get? b = some o := q
      rw [hb, ge] at q'; cases q'
    · exact (gk b hb).symm.trans q
  · rw [upd_ne (Ne.symm M.dne)]
    exact I1.hok.fresh M.new
/-- e.f of an error object -/
theorem pe_xat (he : PE X e ta) (hb : attributeBase e f X.env (eval e X.env) = eval e X.env := by rfl) :
    PE X (.Attribute e f pos) (fun σ H Q => ta σ H fun x H1 => ∃ a C dd fs v, x = .ref a ∧ ExK X.K C ∧ f ∈ cFields C ∧ H1 a = some (ExH (.ref (cA X.K C)) (some dd) a) ∧ H1 dd = some (.xd fs) ∧ fs.lookup f = some v ∧ Q v H1) := by
  refine ⟨fun pins s σ H Q I h => attr_of hb (thn (he.run pins s σ H _ I h) fun u s1 hh => ?_)⟩
  obtain ⟨x, H1, I1, rx, a, C, dd, fs, v, rfl, T, hf, ha, hd, hl, q⟩ := hh
  obtain rfl : u = Value.ref a := rx
  obtain ⟨⟨oe, ho, hz, vs, hv⟩, _, _⟩ := I1.hok a _ ha
  have hx : ObjOk X.prog X.w H1 s1.heap dd (.xd fs) := I1.hok dd _ hd
  obtain ⟨mA, hns, hr⟩ := hx
  obtain ⟨od, hod, hlk⟩ := lookIn_ns hns
  obtain ⟨u, hu, ru⟩ := RelO.some_of (v := v) (o := mA f) (by rw [← hl]; exact hr f)
  have J : PySem.W.InstAt s1.heap a oe (cA X.K C) (some od) := ⟨ho, hz.1, by unfold PySem.W.notCls; rw [hv] <;> rfl, by rw [hz.2]; exact hod⟩
  exact HandSPX.exc_get I1.kIn J T.ga T.gt T.sub (PySem.W.findObj_own T.hd (T.no f hf) rfl (by rw [hlk, hu])) (handed_of ru) ⟨v, H1, I1.tok _, ru, q⟩
end
/-! ### by data -/
/-- a new error object -/
def wExc (C : Nat) (w : WE) : WE := fun δ Q => w δ fun _ _ δ1 => Q (.exc C []) false δ1
def wExcF (C : Nat) (w : WE) : WE := fun δ Q => w δ fun d _ δ1 => Q (.exc C [d]) false δ1
/-- raise -/
def wRaise (xw : XD) (C : Nat) (w : WE) : WS := fun _ δ => w δ fun _ _ δ1 => xw δ1 C []
def wRaiseF (xw : XD) (C : Nat) (w : WE) : WS := fun _ δ => w δ fun d _ δ1 => xw δ1 C [d]
/-- x.f of an error -/
def fldAt : List Str → List D → Str → Option D
  | g :: gs, d :: ds, f => if g = f then some d else fldAt gs ds f
  | _, _, _ => none
def wXat (f : Str) (w : WE) : WE := fun δ Q => w δ fun d _ δ1 => match d with
  | .exc C ds => match fldAt (cFields C) ds f with
    | some r => Q r false δ1
    | none => False
  | _ => False
theorem fld_rps {Ω : Om} {K : PySem.W.Frag} {G : Hp} {f : Str} {d : D} : ∀ {gs : List Str} {ds : List D} {vs : List V}, Rps Ω K G ds vs → fldAt gs ds f = some d → ∃ v, (gs.zip vs).lookup f = some v ∧ Rp Ω K G d v ∧ f ∈ gs
  | [], _, _, _, h => by cases h
  | _ :: _, [], _, _, h => by cases h
  | g :: gs, d0 :: ds, _, ⟨v, r, e, r1, r2⟩, h => by
    subst e
    unfold fldAt at h
    by_cases hg : g = f
    · subst hg
      rw [if_pos rfl] at h
      cases h
      exact ⟨v, by simp [List.lookup], r1, List.mem_cons_self⟩
    · rw [if_neg hg] at h
      obtain ⟨u, h1, h2, h3⟩ := fld_rps r2 h
      exact ⟨u, by rw [List.zip_cons_cons, List.lookup_cons, show (f == g) = false by simpa using fun z => hg z.symm]; exact h1, h2, List.mem_cons_of_mem _ h3⟩
section
variable {X : Cx} {c : Ct} {e : Expr} {w : WE} {p pos pos2 : Pos} {C : Nat} {f x : Str} {xw : XD}
theorem qe_exc (C : Nat) (T : ExPl X C) (hg : Gl X x) (he : QE X c e w) (hx : x = cName C := by rfl) (hs : starEach [e] X.env = (false, eval e X.env) :: starEach [] X.env := by rfl) (hdb : (x == ("__debug__" : Str)) = false := by decide) : QE X c (.Call (.Name x p) [e] [] pos) (wExc C w) :=
  ⟨fun δ Q Q' h q => he.mo δ _ _ (fun d o δ1 z => h _ _ _ z) q, pe_imp (pe_exH T hx hg he.f.pe hs hdb) fun σ H Q ⟨G, δ, S, q⟩ => lF he.mo S q fun d δ1 v G1 H1 z S1 k1 r1 a ha => by
    obtain ⟨S2, k2⟩ := new_any (u := ExH (.ref (cA X.K C)) none a) S1 ha
    exact z _ _ _ S2 (k1.trans k2) ⟨fun _ => ⟨a, none, [], rfl, upd_same, by rw [T.f]; rfl, .inl ⟨T.f, rfl⟩, T.ex, .nil⟩, fun h => (by cases h)⟩⟩
theorem qe_excF {k : Nat} (C : Nat) (T : ExFl X C f) (hr : Room k X.A) (hg : Gl X x) (he : QE X c e w) (hx : x = cName C := by rfl) (hs : starEach [e] X.env = (false, eval e X.env) :: starEach [] X.env := by rfl) (hdb : (x == ("__debug__" : Str)) = false := by decide) : QE X c (.Call (.Name x p) [e] [] pos) (wExcF C w) :=
  ⟨fun δ Q Q' h q => he.mo δ _ _ (fun d o δ1 z => h _ _ _ z) q, pe_imp (pe_exHF T hr hx hg he.f.pe hs hdb) fun σ H Q ⟨G, δ, S, q⟩ => lF he.mo S q fun d δ1 v G1 H1 z S1 k1 r1 dx a hd ha ne => by
    obtain ⟨S2, k2⟩ := new_any (u := .xd [(f, v)]) S1 hd
    have ha2 : upd H1 dx (.xd [(f, v)]) a = none := by rw [upd_ne (Ne.symm ne)]; exact ha
    obtain ⟨S3, k3⟩ := new_any (u := ExH (.ref (cA X.K C)) (some dx) a) S2 ha2
    refine z _ _ _ S3 ((k1.trans k2).trans k3) ⟨fun _ => ⟨a, some dx, [v], rfl, upd_same, by rw [T.f]; rfl, .inr ⟨dx, rfl, ?_⟩, T.ex, .cons ((r1.mono k2.ext).mono k3.ext) .nil⟩, fun h => (by cases h)⟩
    rw [upd_ne ne, upd_same, T.f]; rfl⟩
theorem qs_raise (C : Nat) (hc : X.calm = true) (T : ExPl X C) (tk : TakesD X c xw) (hg : Gl X x) (he : QE X c e w) (hx : x = cName C := by rfl) (hs : starEach [e] X.env = (false, eval e X.env) :: starEach [] X.env := by rfl) (hdb : (x == ("__debug__" : Str)) = false := by decide) :
    QS X c (.Raise (some (.Call (.Name x p) [e] [] pos)) none pos2) (wRaise xw C w) :=
  ⟨fun Z Z' δ l h => h, ps_imp (ps_raise hc tk (SkE.pmk_own1 PySem.F.excBase_ValueError T.q (by rw [hx]; exact T.gC) T.kC T.r hg he.f.pe hs hdb)) fun D σ H ⟨G, δ, S, Z, h, _⟩ => lF he.mo S h fun d δ1 v G1 H1 z S1 k1 r1 =>
    ⟨G1, δ1, C, [], S1, ⟨rfl, T.ex, [], by rw [T.f]; rfl, .nil, .inl ⟨T.f, rfl⟩⟩, z⟩⟩
theorem qs_raiseF {k : Nat} (C : Nat) (hc : X.calm = true) (T : ExFl X C f) (hr : Room k X.A) (tk : TakesD X c xw) (hg : Gl X x) (he : QE X c e w) (hx : x = cName C := by rfl) (hs : starEach [e] X.env = (false, eval e X.env) :: starEach [] X.env := by rfl) (hdb : (x == ("__debug__" : Str)) = false := by decide) :
    QS X c (.Raise (some (.Call (.Name x p) [e] [] pos)) none pos2) (wRaiseF xw C w) :=
  ⟨fun Z Z' δ l h => h, ps_imp (ps_raise hc tk (pmk_F T hr hx hg he.f.pe hs hdb)) fun D σ H ⟨G, δ, S, Z, h, _⟩ => lF he.mo S h fun d δ1 v G1 H1 z S1 k1 r1 dx hd => by
    obtain ⟨S2, k2⟩ := new_any (u := .xd [(f, v)]) S1 hd
    exact ⟨_, δ1, C, [d], S2, ⟨rfl, T.ex, [v], by rw [T.f]; rfl, .cons (r1.mono k2.ext) .nil, .inr ⟨dx, rfl, by rw [upd_same, T.f]; rfl⟩⟩, z⟩⟩
theorem qe_xat (he : QE X c e w) (hb : attributeBase e f X.env (eval e X.env) = eval e X.env := by rfl) : QE X c (.Attribute e f pos) (wXat f w) :=
  ⟨fun δ Q Q' h q => he.mo δ _ _ (fun d o δ1 z => by
    cases d with
    | exc C ds =>
      dsimp only at z ⊢
      cases hq : fldAt (cFields C) ds f with
      | none => rw [hq] at z; exact z.elim
      | some r => rw [hq] at z; exact h _ _ _ z
    | _ => exact z.elim) q, pe_imp (pe_xat he.f.pe hb) fun σ H Q ⟨G, δ, S, q⟩ => lF he.mo S q fun d δ1 v G1 H1 z S1 k1 r1 => by
    cases d with
    | exc C ds =>
      dsimp only at z
      cases hq : fldAt (cFields C) ds f with
      | none => rw [hq] at z; exact z.elim
      | some r =>
        rw [hq] at z
        obtain ⟨a, dd, vs, rfl, g, hl, ⟨e0, _⟩ | ⟨d2, rfl, g2⟩, T, rs⟩ := r1
        · rw [e0] at hq; cases hq
        · obtain ⟨u, h1, h2, h3⟩ := fld_rps rs hq
          exact ⟨a, C, d2, _, u, rfl, T, h3, S1.out.sub _ _ g, S1.out.sub _ _ g2, h1, z u G1 H1 S1 k1 ⟨fun _ => h2, fun h => (by cases h)⟩⟩
    | _ => exact z.elim⟩
end
end PD

set_option Elab.async false
set_option linter.all false
set_option maxRecDepth 100000
set_option maxHeartbeats 2000000
/-! PD, twelfth part: the draw: a dict that all share -/
namespace PD
open PySem PySem.Spec PyProof.Rows L2

def dkv (l m : Addr) (r t : Int) : List (Key × V) := [(.inr "large", .ref l), (.inr "rest", .int r), (.inr "cells", .ref m), (.inr "turn", .int t)]
/-- the draw lies at p, its great numbers at l, its cells at m -/
def DrawIn (p l m : Addr) (H : Hp) : Prop := ∃ (r t : Int) (large : List Int), 0 ≤ r ∧ 0 ≤ t ∧ (∀ z ∈ large, 0 ≤ z) ∧ large.length ≤ 1000 ∧ H p = some (.dK (dkv l m r t)) ∧ H l = some (.lst (large.map V.int))
/-- what the loader keeps, as it was -/
def sysH (so : Obj) : HO := .ext fun h => h.get? sysModules = some so
def drawOm (p l m : Addr) (cells : List Int) (T : List (Addr × Str)) (so : Obj) (hT : ∀ H, LamX.Tabs T H → ∀ q ∈ T, ∃ ps, H q.1 = some (.tbl ps)) : Om where
  own a := a = p ∨ a = l ∨ ∃ q ∈ T, q.1 = a
  inv H := DrawIn p l m H ∧ LamX.Tabs T H
  loc H H' h ho hx := by
    obtain ⟨⟨r, t, large, h1, h2, h3, h4, h5, h6⟩, ht⟩ := h
    refine ⟨⟨r, t, large, h1, h2, h3, h4, by rw [ho p (.inl rfl)]; exact h5, by rw [ho l (.inr (.inl rfl))]; exact h6⟩, fun q hq => ?_⟩
    obtain ⟨ps, a1, a2, a3⟩ := ht q hq
    refine ⟨ps, by rw [ho q.1 (.inr (.inr ⟨q, hq, rfl⟩))]; exact a1, a2, fun pos cv hc => ?_⟩
    obtain ⟨c, e1, e2⟩ := a3 pos cv hc
    exact ⟨c, e1, hx c _ e2⟩
  nt H a xs h ho e := by
    obtain ⟨⟨r, t, large, h1, h2, h3, h4, h5, h6⟩, ht⟩ := h
    rcases ho with rfl | rfl | ⟨q, hq, rfl⟩
    · rw [h5] at e; cases e
    · rw [h6] at e; cases e
    · obtain ⟨ps, z⟩ := hT H ht q hq
      rw [z] at e; cases e
  drw := .ref p
  fz := fun a => if a = m then some (.lst (cells.map V.int)) else if a = sysModules then some (sysH so) else none
theorem tabs_tbl {T : List (Addr × Str)} : ∀ H, LamX.Tabs T H → ∀ q ∈ T, ∃ ps, H q.1 = some (.tbl ps) := fun H h q hq => by
  obtain ⟨ps, a, _⟩ := h q hq
  exact ⟨ps, a⟩
/-- the world of a draw -/
structure DrawW (Ω : Om) (p l m : Addr) (cells : List Int) (T : List (Addr × Str)) (so : Obj) : Prop where
  eq : Ω = drawOm p l m cells T so tabs_tbl
  pl : p ≠ l
  nT : ∀ q ∈ T, q.1 ≠ p ∧ q.1 ≠ l
  pos : ∀ z ∈ cells, 0 ≤ z
  few : cells.length ≤ 1000
def DrawO (Ω : Om) : Prop := ∃ p l m cells T so, DrawW Ω p l m cells T so
theorem kne {a b : Str} (h : a ≠ b) : ¬ (Sum.inr a : Key) = Sum.inr b := fun e => h (by injection e)
theorem dk_large {l m : Addr} {r t : Int} : valV (dkv l m r t) (Sum.inr ("large" : Str) : Key) = some (.ref l) := valV_pos rfl
theorem dk_rest {l m : Addr} {r t : Int} : valV (dkv l m r t) (Sum.inr ("rest" : Str) : Key) = some (.int r) := by
  unfold dkv
  rw [valV_neg (kne (by decide)), valV_pos rfl]
theorem dk_cells {l m : Addr} {r t : Int} : valV (dkv l m r t) (Sum.inr ("cells" : Str) : Key) = some (.ref m) := by
  unfold dkv
  rw [valV_neg (kne (by decide)), valV_neg (kne (by decide)), valV_pos rfl]
theorem dk_turn {l m : Addr} {r t : Int} : valV (dkv l m r t) (Sum.inr ("turn" : Str) : Key) = some (.int t) := by
  unfold dkv
  rw [valV_neg (kne (by decide)), valV_neg (kne (by decide)), valV_neg (kne (by decide)), valV_pos rfl]
theorem put_rest {l m : Addr} {r t z : Int} : putK (dkv l m r t) (Sum.inr ("rest" : Str) : Key) (.int z) = dkv l m z t := by
  unfold putK
  rw [if_pos (by rw [valV_any, dk_rest]; rfl)]
  simp only [dkv, List.map_cons, List.map_nil]
  rw [if_neg (kne (by decide)), if_pos True.intro, if_neg (kne (by decide)), if_neg (kne (by decide))]
theorem put_turn {l m : Addr} {r t z : Int} : putK (dkv l m r t) (Sum.inr ("turn" : Str) : Key) (.int z) = dkv l m r z := by
  unfold putK
  rw [if_pos (by rw [valV_any, dk_turn]; rfl)]
  simp only [dkv, List.map_cons, List.map_nil]
  rw [if_neg (kne (by decide)), if_neg (kne (by decide)), if_neg (kne (by decide)), if_pos True.intro]
/-! ### the shared world written -/
section
variable {c : Ct} {K : PySem.W.Frag} {G H : Hp} {σ : L2.St} {δ : List Sl}
theorem SR.world (S : SR c K G H σ δ) {a : Addr} {u : HO} (ha : c.Om.own a) (hi : c.Om.inv (upd H a u)) : SR c K G (upd H a u) σ δ ∧ Kp c G H σ δ δ G (upd H a u) := by
  have gn := S.out.omG a ha
  refine ⟨⟨⟨fun b o e => by rw [upd_ne (ne_of_none e gn)]; exact S.out.sub b o e, hi, S.out.omG, fun b hb => ?_, S.out.fz, S.out.ext, fun b o e n x => ?_, S.out.tb⟩, S.len, S.fro, fun i d e => ?_, S.sep⟩, ⟨Sub.refl _, fun _ h => h, fun b h => upd_nu h, fun b o e n1 n2 => ?_⟩⟩
  · by_cases z : b = a
    · exact ⟨u, by rw [z, upd_same]⟩
    · rw [upd_ne z]; exact S.out.omH b hb
  · rw [upd_ne (fun z => n (by rw [z]; exact ha))]; exact S.out.kp b o e n x
  · obtain ⟨q, h3, w, f⟩ := S.own i d e
    obtain ⟨o, e1, e2⟩ := w.ob
    exact ⟨q, h3, ⟨w.g, w.om, o, by rw [upd_ne (fun z => w.om (by rw [z]; exact ha))]; exact e1, e2⟩, f⟩
  · rw [upd_ne (fun z => n1 (by rw [z]; exact ha))]
    exact ⟨e, fun g _ => g⟩
end
section
variable {p l m : Addr} {cells : List Int} {T : List (Addr × Str)} {H : Hp}
theorem draw_inv_p {so : Obj} {hT} (hne : p ≠ l) (nT : ∀ q ∈ T, q.1 ≠ p ∧ q.1 ≠ l) (h : (drawOm p l m cells T so hT).inv H) {r t : Int} (hr : 0 ≤ r) (ht : 0 ≤ t) : (drawOm p l m cells T so hT).inv (upd H p (.dK (dkv l m r t))) := by
  obtain ⟨⟨r0, t0, large, h1, h2, h3, h4, h5, h6⟩, tb⟩ := h
  refine ⟨⟨r, t, large, hr, ht, h3, h4, upd_same, by rw [upd_ne (Ne.symm hne)]; exact h6⟩, fun q hq => ?_⟩
  obtain ⟨ps, a1, a2, a3⟩ := tb q hq
  refine ⟨ps, by rw [upd_ne (nT q hq).1]; exact a1, a2, fun pos cv hc => ?_⟩
  obtain ⟨c, e1, e2⟩ := a3 pos cv hc
  exact ⟨c, e1, by rw [upd_ne (fun z => by rw [z, h5] at e2; cases e2)]; exact e2⟩
theorem draw_inv_l {so : Obj} {hT} (hne : p ≠ l) (nT : ∀ q ∈ T, q.1 ≠ p ∧ q.1 ≠ l) (h : (drawOm p l m cells T so hT).inv H) {large : List Int} (hl : ∀ z ∈ large, 0 ≤ z) (hn : large.length ≤ 1000) : (drawOm p l m cells T so hT).inv (upd H l (.lst (large.map V.int))) := by
  obtain ⟨⟨r0, t0, large0, h1, h2, h3, h4, h5, h6⟩, tb⟩ := h
  refine ⟨⟨r0, t0, large, h1, h2, hl, hn, by rw [upd_ne hne]; exact h5, upd_same⟩, fun q hq => ?_⟩
  obtain ⟨ps, a1, a2, a3⟩ := tb q hq
  refine ⟨ps, by rw [upd_ne (nT q hq).2]; exact a1, a2, fun pos cv hc => ?_⟩
  obtain ⟨c, e1, e2⟩ := a3 pos cv hc
  exact ⟨c, e1, by rw [upd_ne (fun z => by rw [z, h6] at e2; cases e2)]; exact e2⟩
end
/-! ### rules -/
def isDrw (δ : List Sl) (i : Nat) : Prop := δ[i]? = some (.fro .drw)
/-- draw["rest"], draw["turn"] -/
def wDg (i : Nat) : WE := fun δ Q => isDrw δ i ∧ ∀ z : Int, 0 ≤ z → Q (.int z) false δ
/-- draw["cells"] -/
def wDc (i : Nat) : WE := fun δ Q => isDrw δ i ∧ ∀ ns : List Int, ns.length ≤ 1000 → (∀ z ∈ ns, 0 ≤ z) → Q (.lst (ns.map D.int)) false δ
/-- draw["rest"] = e -/
def wDs (i : Nat) (w : WE) : WS := fun Z δ => w δ fun d _ δ1 => ∃ z : Int, d = .int z ∧ 0 ≤ z ∧ isDrw δ1 i ∧ Z.nx δ1
/-- draw["large"].pop(0) if there are any, else mixed(draw) -/
def wRefill (i : Nat) (wm : WE) : WE := fun δ Q => isDrw δ i ∧ (∀ z : Int, 0 ≤ z → Q (.int z) false δ) ∧ wm δ Q
section
variable {X : Cx} {c : Ct} {x : Str} {p1 p2 p3 p4 p5 p6 p7 p8 p9 p10 p11 ap pos : Pos} {j j1 j2 j3 : Nat}
theorem drw_at {K : PySem.W.Frag} {G H : Hp} {σ : L2.St} {δ : List Sl} {i : Nat} {p l m : Addr} {cells : List Int} {T : List (Addr × Str)} {so : Obj} (S : SR c K G H σ δ) (W : DrawW c.Om p l m cells T so) (h : isDrw δ i) :
    σ[i]? = some (some (.ref p)) ∧ DrawIn p l m H ∧ G m = some (.lst (cells.map V.int)) := by
  obtain ⟨v, h1, h2⟩ := S.fro i _ h
  have hi := S.out.inv
  have h3 := S.out.fz
  rw [W.eq] at h2 h3 hi
  have e : v = .ref p := h2
  rw [e] at h1
  exact ⟨h1, hi.1, h3 m _ (if_pos rfl)⟩
theorem mo_dg (i : Nat) : MoE (wDg i) := fun δ Q Q' h q => ⟨q.1, fun z hz => h _ _ _ (q.2 z hz)⟩
theorem qe_dg {k : Str} (hk : k = "rest" ∨ k = "turn") (W : DrawO c.Om) (i : Nat) (hu : X.A.units + 1 < cLine) (hN : X.N[i]? = some x := by rfl) (hv : Vis X.env.scope x := by first | exact Or.inl rfl | exact Or.inr (Or.inl rfl) | exact Or.inr (Or.inr rfl)) (hd : (x == ("__debug__" : Str)) = false := by decide)
    (hcd : (x == ("__classdict__" : Str)) = false := by decide) (hs : NoSl (.Constant (.str k) j p2) := by intro _ _; rfl) : QE X c (.Subscript (.Name x p1) (.Constant (.str k) j p2) p3) (wDg i) := by
  obtain ⟨p, l, m, cells, T, so, W⟩ := W
  refine ⟨mo_dg i, pe_imp (pe_dget hu (pe_var hN hv hd hcd) pe_str hs) fun σ H Q ⟨G, δ, S, q1, q2⟩ => ?_⟩
  obtain ⟨h1, ⟨r, t, large, a1, a2, a3, a4, a5, a6⟩, _⟩ := drw_at S W q1
  rcases hk with rfl | rfl
  · exact ⟨_, h1, p, .int r, rfl, .inl ⟨_, .inr "rest", .inl a5, rfl, dk_rest.symm⟩, q2 r a1 _ G H S .refl ⟨fun _ => rfl, fun h => (by cases h)⟩⟩
  · exact ⟨_, h1, p, .int t, rfl, .inl ⟨_, .inr "turn", .inl a5, rfl, dk_turn.symm⟩, q2 t a2 _ G H S .refl ⟨fun _ => rfl, fun h => (by cases h)⟩⟩
theorem qe_dc (W : DrawO c.Om) (i : Nat) (hu : X.A.units + 1 < cLine) (hN : X.N[i]? = some x := by rfl) (hv : Vis X.env.scope x := by first | exact Or.inl rfl | exact Or.inr (Or.inl rfl) | exact Or.inr (Or.inr rfl)) (hd : (x == ("__debug__" : Str)) = false := by decide)
    (hcd : (x == ("__classdict__" : Str)) = false := by decide) (hs : NoSl (.Constant (.str "cells") j p2) := by intro _ _; rfl) : QE X c (.Subscript (.Name x p1) (.Constant (.str "cells") j p2) p3) (wDc i) := by
  obtain ⟨p, l, m, cells, T, so, W⟩ := W
  refine ⟨fun δ Q Q' h q => ⟨q.1, fun ns a b => h _ _ _ (q.2 ns a b)⟩, pe_imp (pe_dget hu (pe_var hN hv hd hcd) pe_str hs) fun σ H Q ⟨G, δ, S, q1, q2⟩ => ?_⟩
  obtain ⟨h1, ⟨r, t, large, a1, a2, a3, a4, a5, a6⟩, gm⟩ := drw_at S W q1
  exact ⟨_, h1, p, .ref m, rfl, .inl ⟨_, .inr "cells", .inl a5, rfl, dk_cells.symm⟩, q2 cells W.few W.pos _ G H S .refl ⟨fun _ => ⟨m, _, rfl, gm, rps_ints cells⟩, fun h => (by cases h)⟩⟩
theorem qs_ds {k : Str} {e : Expr} {w : WE} (hk : k = "rest" ∨ k = "turn") (W : DrawO c.Om) (i : Nat) (hu : X.A.units + 1 < cLine) (he : QE X c e w) (hN : X.N[i]? = some x := by rfl) (hv : Vis X.env.scope x := by first | exact Or.inl rfl | exact Or.inr (Or.inl rfl) | exact Or.inr (Or.inr rfl)) (hd : (x == ("__debug__" : Str)) = false := by decide)
    (hcd : (x == ("__classdict__" : Str)) = false := by decide) (hs : swapsWith e (some (.Subscript (.Name x p1) (.Constant (.str k) j p2) p3)) pos.line X.env = pure false := by rfl) : QS X c (.Assign [.Subscript (.Name x p1) (.Constant (.str k) j p2) p3] e pos) (wDs i w) := by
  obtain ⟨p, l, m, cells, T, so, W⟩ := W
  refine ⟨fun Z Z' δ le h => he.mo δ _ _ (fun d o δ1 ⟨z, a, b, cc, h⟩ => ⟨z, a, b, cc, le.nx _ h⟩) h, ps_imp (ps_dput hu (pe_var hN hv hd hcd) pe_str he.f.pe hs) fun D σ H ⟨G, δ, S, Z, h, n, _⟩ => lF he.mo S h fun d δ1 v G1 H1 ⟨z, e1, hz, hi, zz⟩ S1 k1 r1 => ?_⟩
  subst e1
  cases r1
  obtain ⟨h1, ⟨r, t, large, a1, a2, a3, a4, a5, a6⟩, gm⟩ := drw_at S1 W hi
  have ho : c.Om.own p := by rw [W.eq]; exact .inl rfl
  have hinv := S1.out.inv
  rcases hk with rfl | rfl
  · obtain ⟨S2, k2⟩ := S1.world ho (u := .dK (dkv l m z t)) (by rw [W.eq] at hinv ⊢; exact draw_inv_p W.pl W.nT hinv hz a2)
    refine ⟨_, h1, p, _, rfl, .inl ⟨_, .inr "rest", a5, rfl, by rw [← line16]; show (4 : Nat) < _; omega, rfl⟩, ?_⟩
    rw [put_rest]
    exact n σ δ1 G1 _ S2 k1.ext zz
  · obtain ⟨S2, k2⟩ := S1.world ho (u := .dK (dkv l m r z)) (by rw [W.eq] at hinv ⊢; exact draw_inv_p W.pl W.nT hinv a1 hz)
    refine ⟨_, h1, p, _, rfl, .inl ⟨_, .inr "turn", a5, rfl, by rw [← line16]; show (4 : Nat) < _; omega, rfl⟩, ?_⟩
    rw [put_turn]
    exact n σ δ1 G1 _ S2 k1.ext zz
theorem ints_shp (k : Nat) (ns : List Int) : shp (k + 1) (.lst (ns.map D.int)) = true := by
  simp only [shp, List.all_eq_true, List.mem_map]
  rintro _ ⟨n, _, rfl⟩
  cases k <;> rfl
theorem qe_refill {em : Expr} {wm : WE} (W : DrawO c.Om) (i : Nat) (hu : X.A.units + 64 < cLine) (hm : QE X c em wm) (hN : X.N[i]? = some x := by rfl) (hv : Vis X.env.scope x := by first | exact Or.inl rfl | exact Or.inr (Or.inl rfl) | exact Or.inr (Or.inr rfl)) (hd : (x == ("__debug__" : Str)) = false := by decide)
    (hcd : (x == ("__classdict__" : Str)) = false := by decide) (hs : NoSl (.Constant (.str "large") j1 p2) := by intro _ _; rfl) (hs2 : NoSl (.Constant (.str "large") j2 p7) := by intro _ _; rfl) (hbm : behindInMarks .NotEq (.List [] p4) = false := by rfl)
    (hpe : PE X (.Call (.Attribute (.Subscript (.Name x p6) (.Constant (.str "large") j2 p7) p8) "pop" ap) [.Constant (.int 0) j3 p9] [] p10) (tBM X.K "list" rPopAt (tDGet (tVar i) (tC (.str "large"))) (tCons (tC (.int 0)) tNil))) :
    QE X c (.IfExp (.Compare (.Subscript (.Name x p1) (.Constant (.str "large") j1 p2) p3) [.NotEq] [.List [] p4] p5) (.Call (.Attribute (.Subscript (.Name x p6) (.Constant (.str "large") j2 p7) p8) "pop" ap) [.Constant (.int 0) j3 p9] [] p10) em p11) (wRefill i wm) := by
  obtain ⟨p, l, m, cells, T, so, W⟩ := W
  refine ⟨fun δ Q Q' h q => ⟨q.1, fun z hz => h _ _ _ (q.2.1 z hz), hm.mo δ _ _ h q.2.2⟩, pe_imp (pe_ifExp (pt_cmpR (op_neD hu) (pe_dget (by omega) (pe_var hN hv hd hcd) pe_str hs) (pe_lst pa_nil) hbm) hpe hm.pe) fun σ H Q ⟨G, δ, S, q1, q2, q3⟩ => ?_⟩
  obtain ⟨h1, ⟨r, t, large, a1, a2, a3, a4, a5, a6⟩, gm⟩ := drw_at S W q1
  refine ⟨_, h1, p, .ref l, rfl, .inl ⟨_, .inr "large", .inl a5, rfl, dk_large.symm⟩, by rw [← line16]; show (0 : Nat) ≤ _; omega, fun q hq => ?_⟩
  have nql : l ≠ q := ne_of_none a6 hq
  have nqp : p ≠ q := ne_of_none a5 hq
  obtain ⟨S1, k1⟩ := new_any (u := .lst []) S hq
  refine ⟨py (.lst (large.map D.int)), py (.lst []), ?_, ?_, shp_shaped (ints_shp 59 large), shp_shaped (ints_shp 59 []), ?_⟩
  · exact .lst (SqL.of (by rw [upd_ne nql]; exact a6)) (dps_of (Ω := c.Om) (Sub.refl _) 59 _ _ (by simp [shp]) (rps_ints large))
  · exact .lst (SqL.of upd_same) .nil
  have eqv0 : PyData.eqv (py (.lst (large.map D.int))) (py (.lst [])) = deq (.lst (large.map D.int)) (.lst []) := eqv_py 60 _ _ (ints_shp 59 large) (ints_shp 59 [])
  rw [eqv0]
  cases large with
  | nil =>
    refine ⟨false, rfl, ?_⟩
    dsimp only
    rw [if_neg (by decide)]
    exact ⟨_, δ, S1, hm.mo δ _ _ (fun d o δ' z v G' H' S' k r => z v G' H' S' (k1.trans k) (r.back k1)) q3⟩
  | cons z rest =>
    refine ⟨true, rfl, ?_⟩
    dsimp only
    rw [if_pos rfl]
    refine ⟨_, h1, p, .ref l, rfl, .inl ⟨_, .inr "large", .inl (by rw [upd_ne nqp]; exact a5), rfl, dk_large.symm⟩, .inl ⟨rfl, _, SqL.of (by rw [upd_ne nql]; exact a6)⟩, ?_⟩
    have e0 : ixN ((z :: rest).map V.int).length 0 = some 0 := by
      unfold ixN
      simp only [List.length_map, List.length_cons]
      rw [if_pos (by omega), if_pos (by omega)]; rfl
    refine ⟨l, (z :: rest).map V.int, 0, 0, .int z, rfl, rfl, by rw [upd_ne nql]; exact a6, by decide, by decide, (ixN_seq e0).1, rfl, ?_⟩
    have ho : c.Om.own l := by rw [W.eq]; exact .inr (.inl rfl)
    have hinv := S1.out.inv
    obtain ⟨S2, k2⟩ := S1.world ho (u := .lst (rest.map V.int)) (by rw [W.eq] at hinv ⊢; exact draw_inv_l W.pl W.nT hinv (fun y hy => a3 y (List.mem_cons_of_mem _ hy)) (by simp only [List.length_cons] at a4; omega))
    exact q2 z (a3 z List.mem_cons_self) _ _ _ S2 (k1.trans k2) ⟨fun _ => rfl, fun h => (by cases h)⟩
end
/-! ### what the draw's defs mean -/
/-- _law_mixed -/
def mixedF : FD := fun ds R _ => ds = [.drw] ∧ ∀ z : Int, 0 ≤ z → R (.int z) false
theorem mo_mixed : MoFD mixedF := fun ds R R' E h ⟨a, b⟩ => ⟨a, fun z hz => h _ _ (b z hz)⟩
/-- _law_take -/
def takeF : FD := fun ds R _ => ∃ n : Int, ds = [.drw, .int n] ∧ 0 < n ∧ n < 1073741824 ∧ ∀ z : Int, 0 ≤ z → z < n → R (.int z) false
theorem mo_take : MoFD takeF := fun ds R R' E h ⟨n, a, b, c, d⟩ => ⟨n, a, b, c, fun z h1 h2 => h _ _ (d z h1 h2)⟩
/-- _law_pick -/
def pickF : FD := fun ds R _ => match ds with
  | [.drw, .str z] => 0 < z.length ∧ z.length ≤ 1000 ∧ ∀ k, k ∈ z.cps.toList → R (.str ⟨#[k]⟩) false
  | [.drw, d] => match seqD d with
    | some xs => 0 < xs.length ∧ xs.length ≤ 1000000 ∧ ∀ x, x ∈ xs → R x false
    | none => False
  | _ => False
theorem mo_pick : MoFD pickF := fun ds R R' E h q => by
  unfold pickF at q ⊢
  split at q
  · exact ⟨q.1, q.2.1, fun k hk => h _ _ (q.2.2 k hk)⟩
  · split at q
    · exact ⟨q.1, q.2.1, fun x hx => h _ _ (q.2.2 x hx)⟩
    · exact q.elim
  · exact q.elim
end PD

set_option Elab.async false
set_option linter.all false
set_option maxRecDepth 100000
set_option maxHeartbeats 2000000
/-! PD, thirteenth part: repr -/
namespace PD
open PySem PySem.Spec PyProof.Rows L2

def kyP : Key → PyData
  | .inl i => .int i
  | .inr z => .str z
mutual
def pyR : D → PyData
  | .non => .none
  | .bl b => .bool b
  | .int i => .int i
  | .str x => .str x
  | .lst xs => .list (pyRs xs)
  | .tup xs => .tuple (pyRs xs)
  | .ktp xs => .tuple (pyRs xs)
  | .dK ks xs => .dict ((ks.map kyP).zip (pyRs xs))
  | .dT ks xs => .dict ((ks.map fun k => PyData.tuple (k.map kyP)).zip (pyRs xs))
  | _ => .none
def pyRs : List D → List PyData
  | [] => []
  | x :: xs => pyR x :: pyRs xs
end
/-- nested at most so deep, of data that repr tells -/
def shR : Nat → D → Bool
  | _, .non => true
  | _, .bl _ => true
  | _, .int _ => true
  | _, .str _ => true
  | k + 1, .lst xs => xs.all (shR k)
  | k + 1, .tup xs => xs.all (shR k)
  | k + 1, .ktp xs => xs.all (shR k)
  | k + 1, .dK _ xs => xs.all (shR k)
  | k + 1, .dT _ xs => xs.all (shR k)
  | _, _ => false
theorem pyRs_len : ∀ ds : List D, (pyRs ds).length = ds.length
  | [] => rfl
  | d :: ds => by simp only [pyRs, List.length_cons, pyRs_len ds]
section
variable {X : Cx} {pins : List (Addr × Obj)} {σ : L2.St} {H G : Hp} {s : Shared} {Ω : Om}
def NoX (H : Hp) (as : List Addr) : Prop := ∀ a ∈ as, ∃ o, H a = some o ∧ ∀ φ, o ≠ .ext φ
theorem noX_nil : NoX H [] := fun _ h => by cases h
theorem noX_app {as bs : List Addr} (h1 : NoX H as) (h2 : NoX H bs) : NoX H (as ++ bs) := fun a h => (List.mem_append.mp h).elim (h1 a) (h2 a)
theorem noX_cons {a : Addr} {as : List Addr} {o : HO} (e : H a = some o) (n : ∀ φ, o ≠ .ext φ) (h : NoX H as) : NoX H (a :: as) := fun b hb => by
  rcases List.mem_cons.mp hb with rfl | hb
  · exact ⟨o, e, n⟩
  · exact h b hb
theorem keys_reads {h : Heap} : ∀ {ks : List Key} {us : List Value}, Vals (ks.map kV) us → ReadsAll h us (ks.map kyP) []
  | [], _, r => by cases r; exact .nil
  | k :: ks, _, r => by
    cases r with
    | cons r1 r2 =>
      have h2 := keys_reads (h := h) r2
      cases k with
      | inl i => obtain ⟨t, rfl⟩ := r1; exact ReadsAll.cons (.int i t) h2
      | inr z => obtain ⟨t, rfl⟩ := r1; exact ReadsAll.cons (.str z t) h2
theorem pairs_keys {P : Program} {w : World} {es : List DictEntry} {kvs : List (Key × Value)} (h : Pairs (mixKind P w) es kvs) : Vals ((kvs.map (·.1)).map kV) (es.map (·.key)) ∧ es.map (·.val) = kvs.map (·.2) := by
  induction h with
  | nil => exact ⟨.nil, rfl⟩
  | cons h1 h2 _ ih => exact ⟨.cons (relV_key h1) ih.1, by rw [List.map_cons, List.map_cons, h2, ih.2]⟩
theorem kv_split {κ : Type} {kvs : List (κ × V)} {vs : List (κ × Value)} (h : KV kvs vs) : vs.map (·.1) = kvs.map (·.1) ∧ Vals (kvs.map (·.2)) (vs.map (·.2)) := by
  unfold KV at h
  induction h with
  | nil => exact ⟨rfl, .nil⟩
  | cons h1 _ ih => exact ⟨by rw [List.map_cons, List.map_cons, h1.1, ih.1], .cons h1.2 ih.2⟩
theorem zip_fst {α β : Type} : ∀ {l : List α} {m : List β}, l.length = m.length → (l.zip m).map (·.1) = l
  | [], [], _ => rfl
  | a :: l, b :: m, h => by rw [List.zip_cons_cons, List.map_cons, zip_fst (by simpa using h)]
theorem zip_snd {α β : Type} : ∀ {l : List α} {m : List β}, l.length = m.length → (l.zip m).map (·.2) = m
  | [], [], _ => rfl
  | a :: l, b :: m, h => by rw [List.zip_cons_cons, List.map_cons, zip_snd (by simpa using h)]
theorem zip_map_fst {α β γ : Type} (f : α → γ) : ∀ {l : List α} {m : List β}, l.length = m.length → ((l.zip m).map fun p => f p.1) = l.map f
  | [], [], _ => rfl
  | a :: l, b :: m, h => by rw [List.zip_cons_cons, List.map_cons, List.map_cons, zip_map_fst f (by simpa using h)]
abbrev tkP (k : List Key) : PyData := .tuple (k.map kyP)
theorem tkeys_reads (I : Inv X pins σ H s) : ∀ {kvs : List (List Key × V)} {xs : List (List Key × Addr × Value)}, Paired (fun (p : List Key × V) (q : List Key × Addr × Value) => p.1 = q.1 ∧ H q.2.1 = some (.tup (p.1.map kV)) ∧ RelV p.2 q.2.2) kvs xs →
    ReadsAll s.heap ((xs.map (entryOfKey (tupleKind (mixKind X.prog X.w)))).map (·.key)) (kvs.map fun p => .tuple (p.1.map kyP)) [] ∧ Vals (kvs.map (·.2)) ((xs.map (entryOfKey (tupleKind (mixKind X.prog X.w)))).map (·.val))
  | [], _, h => by cases h; exact ⟨.nil, .nil⟩
  | p :: kvs, _, h => by
    cases h with
    | cons h1 h2 =>
      rename_i q xs
      obtain ⟨i1, i2⟩ := tkeys_reads I h2
      obtain ⟨e1, e2, e3⟩ := h1
      obtain ⟨its, rv, ⟨o, ho, hc, n, hd⟩, _⟩ := I.tuple (SqT.of e2)
      refine ⟨?_, .cons e3 i2⟩
      have r1 : Reads s.heap (.ref q.2.1) (.tuple (p.1.map kyP)) [] := Reads.tuple ho hc hd (keys_reads rv)
      exact ReadsAll.cons r1 i1
mutual
theorem rp_reads (I : Inv X pins σ H s) (sb : Sub G H) : ∀ (k : Nat) (d : D) (v : V) (u : Value), shR k d = true → Rp Ω X.K G d v → RelV v u → ∃ as, Reads s.heap u (pyR d) as ∧ NoX H as
  | _, .non, _, _, _, r, rv => by cases r; cases rv; exact ⟨_, .none, noX_nil⟩
  | _, .bl b, _, _, _, r, rv => by cases r; cases rv; exact ⟨_, .bool b, noX_nil⟩
  | _, .int i, _, _, _, r, rv => by cases r; obtain ⟨t, rfl⟩ := rv; exact ⟨_, .int i t, noX_nil⟩
  | _, .str x, _, _, _, r, rv => by cases r; obtain ⟨t, rfl⟩ := rv; exact ⟨_, .str x t, noX_nil⟩
  | k + 1, .lst ds, _, _, hs, r, rv => by
    obtain ⟨a, vs, rfl, g, q⟩ := r
    cases rv
    obtain ⟨its, rv, ⟨o, n, ho, hc, _, hd⟩, _⟩ := I.list (SqL.of (sb _ _ g))
    obtain ⟨as, hr, nx⟩ := rps_reads I sb k ds vs its (by simpa only [shR] using hs) q rv
    exact ⟨_, Reads.list ho hc hd hr, noX_cons (sb _ _ g) (fun φ z => by cases z) nx⟩
  | k + 1, .tup ds, _, _, hs, r, rv => by
    obtain ⟨a, vs, rfl, g, q⟩ := r
    cases rv
    obtain ⟨its, rv, ⟨o, ho, hc, n, hd⟩, _⟩ := I.tuple (SqT.of (sb _ _ g))
    obtain ⟨as, hr, nx⟩ := rps_reads I sb k ds vs its (by simpa only [shR] using hs) q rv
    exact ⟨_, Reads.tuple ho hc hd hr, nx⟩
  | k + 1, .ktp ds, _, _, hs, r, rv => by
    obtain ⟨a, vs, rfl, g, q⟩ := r
    cases rv
    obtain ⟨its, rv, ⟨o, ho, hc, n, hd⟩, _⟩ := I.tuple (H := H) (.inr g)
    obtain ⟨as, hr, nx⟩ := rps_reads I sb k ds vs its (by simpa only [shR] using hs) q rv
    exact ⟨_, Reads.tuple ho hc hd hr, nx⟩
  | k + 1, .dK ks ds, _, _, hs, r, rv => by
    obtain ⟨a, o, vs, rfl, g, hl, q⟩ := r
    cases rv
    have h := sb _ _ g
    obtain ⟨hd, z, hsys, us, kv, o', es, ep, ho, hx, hdt, hko, hp, hnd⟩ := I.hok a _ h
    obtain ⟨e1, e2⟩ := kv_split kv
    rw [zip_fst hl] at e1
    rw [zip_snd hl] at e2
    obtain ⟨p1, p2⟩ := pairs_keys hp
    rw [e1] at p1
    obtain ⟨as, hr, nx⟩ := rps_reads I sb k ds vs _ (by simpa only [shR] using hs) q e2
    have l2 : (ks.map kyP).length = (pyRs ds).length := by rw [List.length_map, pyRs_len, hl, q.length]
    refine ⟨_, Reads.dict (kvs := (ks.map kyP).zip (pyRs ds)) ho hx.1 hdt ?_ ?_, noX_app (noX_cons h (fun φ z => by cases z) noX_nil) nx⟩
    · rw [zip_fst l2]; exact keys_reads p1
    · rw [zip_snd l2, p2]; exact hr
  | k + 1, .dT ks ds, _, _, hs, r, rv => by
    obtain ⟨a, o, vs, rfl, g, hl, q⟩ := r
    cases rv
    have h := sb _ _ g
    obtain ⟨hd, z, hsys, xs, pr, o', es, ep, ho, hx, hdt, he, _⟩ := I.hok a _ h
    obtain ⟨i1, i2⟩ := tkeys_reads I pr
    rw [← he] at i1 i2
    rw [zip_snd hl] at i2
    obtain ⟨as, hr, nx⟩ := rps_reads I sb k ds vs _ (by simpa only [shR] using hs) q i2
    have l2 : (ks.map tkP).length = (pyRs ds).length := by rw [List.length_map, pyRs_len, hl, q.length]
    have e3 : ((ks.zip vs).map fun p => PyData.tuple (p.1.map kyP)) = ks.map tkP := zip_map_fst tkP hl
    rw [e3] at i1
    have rr : Reads s.heap (.ref a) (.dict ((ks.map tkP).zip (pyRs ds))) _ := Reads.dict ho hx.1 hdt (by rw [zip_fst l2]; exact i1) (by rw [zip_snd l2]; exact hr)
    exact ⟨_, rr, noX_app (noX_cons h (fun φ z => by cases z) noX_nil) nx⟩
  | 0, .lst _, _, _, hs, _, _ => by simp [shR] at hs
  | 0, .tup _, _, _, hs, _, _ => by simp [shR] at hs
  | 0, .ktp _, _, _, hs, _, _ => by simp [shR] at hs
  | 0, .dK _ _, _, _, hs, _, _ => by simp [shR] at hs
  | 0, .dT _ _, _, _, hs, _, _ => by simp [shR] at hs
  | _, .kls _, _, _, hs, _, _ => by simp [shR] at hs
  | _, .ins _ _, _, _, hs, _, _ => by simp [shR] at hs
  | _, .par _ _, _, _, hs, _, _ => by simp [shR] at hs
  | _, .exc _ _, _, _, hs, _, _ => by simp [shR] at hs
  | _, .cls _, _, _, hs, _, _ => by simp [shR] at hs
  | _, .ty _, _, _, hs, _, _ => by simp [shR] at hs
  | _, .drw, _, _, hs, _, _ => by simp [shR] at hs
theorem rps_reads (I : Inv X pins σ H s) (sb : Sub G H) : ∀ (k : Nat) (ds : List D) (vs : List V) (us : List Value), ds.all (shR k) = true → Rps Ω X.K G ds vs → Vals vs us → ∃ as, ReadsAll s.heap us (pyRs ds) as ∧ NoX H as
  | _, [], _, _, _, r, rv => by cases r; cases rv; exact ⟨_, .nil, noX_nil⟩
  | k, d :: ds, _, _, hs, ⟨v, r, e, h1, t⟩, rv => by
    subst e
    rw [List.all_cons, Bool.and_eq_true] at hs
    cases rv with
    | cons r1 r2 =>
      obtain ⟨as, q1, n1⟩ := rp_reads I sb k d v _ hs.1 h1 r1
      obtain ⟨bs, q2, n2⟩ := rps_reads I sb k ds r _ hs.2 t r2
      exact ⟨_, ReadsAll.cons q1 q2, noX_app n1 n2⟩
end
end
/-- repr of data, told by a PyData -/
def rReprP (X : Cx) : List V → Hp → VK → Prop := fun xs H Q => ∃ (x : V) (d : PyData), xs = [x] ∧ d.showable = true ∧ d.shown.length ≤ sizeLine ∧ X.A.units + (d.depth + 1) < cLine ∧
  (∀ (pins : List (Addr × Obj)) (σ : L2.St) (s : Shared) (u : Value), Inv X pins σ H s → RelV x u → ∃ as, Reads s.heap u d as ∧ (d.hasDict = true → sysModules ∉ as)) ∧ Q (.str d.shown) H
theorem call_reprP {X : Cx} (hg : X.A.guards = some []) : CallR X (.builtin "repr") (rReprP X) := by
  intro pins s σ H xs us Q I r h
  obtain ⟨x, d, rfl, hs, hz, hu, hR, q⟩ := h
  obtain ⟨u, rfl, ru⟩ := vals1 r
  obtain ⟨as, R, hn⟩ := hR pins σ s u I ru
  cases R with
  | none => exact PySem.P.repr_of_none ⟨.str _, H, I.tok _, ⟨_, rfl⟩, by simpa only [PyData.shown] using q⟩
  | bool b => exact PySem.P.repr_of_bool ⟨.str _, H, I.tok _, ⟨_, rfl⟩, by simpa only [PyData.shown] using q⟩
  | int i t => exact PySem.P.repr_of_int (by simpa [PyData.showable] using hs) ⟨.str _, H, I.tok _, ⟨_, rfl⟩, by simpa only [PyData.shown] using q⟩
  | str x t => exact PySem.P.repr_of_str ⟨.str _, H, I.tok _, ⟨_, rfl⟩, by simpa only [PyData.shown] using q⟩ (by simpa only [PyData.shown] using hz)
  | list h1 h2 h3 h4 => exact PySem.repr_of_reads' (Reads.list h1 h2 h3 h4) hs hn hg hu (fun _ _ e => e) (fun h' u tk k => ⟨.str _, H, I.kept (t' := tk) k, ⟨u, rfl⟩, q⟩) hz
  | tuple h1 h2 h3 h4 => exact PySem.repr_of_reads' (Reads.tuple h1 h2 h3 h4) hs hn hg hu (fun _ _ e => e) (fun h' u tk k => ⟨.str _, H, I.kept (t' := tk) k, ⟨u, rfl⟩, q⟩) hz
  | dict h1 h2 h3 h4 h5 => exact PySem.repr_of_reads' (Reads.dict h1 h2 h3 h4 h5) hs hn hg hu (fun _ _ e => e) (fun h' u tk k => ⟨.str _, H, I.kept (t' := tk) k, ⟨u, rfl⟩, q⟩) hz
/-- repr by data -/
def rprD (d : D) : Str := (pyR d).shown
def reprF : FN := fun ds R => match ds with
  | [d] => shR 40 d = true ∧ (pyR d).showable = true ∧ (pyR d).depth ≤ 60 ∧ (rprD d).length ≤ 16777216 ∧ R (.str (rprD d)) false
  | _ => False
theorem mo_repr : MoFN reprF := fun ds Q Q' h q => by
  unfold reprF at q ⊢
  split at q
  · exact ⟨q.1, q.2.1, q.2.2.1, q.2.2.2.1, h _ _ q.2.2.2.2⟩
  · exact q.elim
/-- the interpreter's own table is known, and no list -/
def SysO (Ω : Om) : Prop := ∃ φ, Ω.fz sysModules = some (.ext φ)
theorem or_repr {X : Cx} {c : Ct} (hu : X.A.units + 64 < cLine) (hS : SysO c.Om) : OpN c X.K (rReprP X) reprF := fun G H σ δ ds vs R Q S rs h q => by
  unfold reprF at h
  split at h
  · rename_i d
    obtain ⟨v, r, rfl, h1, h2⟩ := rs
    rw [show r = [] from h2]
    obtain ⟨a1, a2, a3, a4, a5⟩ := h
    refine ⟨v, pyR d, rfl, a2, by rw [← line16]; exact a4, by omega, fun pins σ' s u I ru => ?_, q.val S a5 rfl⟩
    obtain ⟨as, R1, nx⟩ := rp_reads I S.out.sub 40 d v u a1 h1 ru
    refine ⟨as, R1, fun _ hm => ?_⟩
    obtain ⟨φ, e⟩ := hS
    obtain ⟨o, e1, e2⟩ := nx _ hm
    rw [S.out.sub _ _ (S.out.fz _ _ e)] at e1
    cases e1
    exact e2 φ rfl
  · exact h.elim
end PD

set_option Elab.async false
set_option linter.all false
set_option maxRecDepth 100000
set_option maxHeartbeats 2000000
/-! PD, fourteenth part: names of classes and types, small built-ins, more that is walked -/
namespace PD
open PySem PySem.Spec PyProof.Rows L2

section
variable {X : Cx} {c : Ct} {x : Str} {p pos : Pos} {e e2 : Expr} {w w2 : WE}
theorem qe_ty {n : String} (hg : Gl X x) (hm : X.mg x = none) (hv : bootBuiltins x = some (.type n)) (hn : x ≠ "__name__" := by decide) (hd : (x == ("__debug__" : Str)) = false := by decide) : QE X c (.Name x pos) (wC (.ty n)) :=
  qe_c (v := .ty n) (pe_bltn hg hm hv rfl hn hd) fun _ => rfl
theorem qe_cls (C : Nat) (hg : Gl X x) (hm : X.mg (cName C) = some (.ref (cA X.K C))) (hx : x = cName C := by rfl) (hd : (x == ("__debug__" : Str)) = false := by decide) : QE X c (.Name x pos) (wC (.cls C)) :=
  qe_c (v := .ref (cA X.K C)) (pe_glob hg (by rw [hx]; exact hm) rfl hd) fun _ => rfl
/-- isinstance(e, ValueError) of an error -/
def isVF : FN := fun ds R => match ds with
  | [.exc _ _, .ty "ValueError"] => R (.bl true) false
  | _ => False
theorem mo_isV : MoFN isVF := fun ds Q Q' h q => by
  unfold isVF at q ⊢
  split at q
  · exact h _ _ q
  · exact q.elim
/-- every error's class is below ValueError -/
def VeK (K : PySem.W.Frag) : Prop := ∀ C, ExK K C → PySem.W.kitOne K (.ref (cA K C)) (.type "ValueError") = some true
theorem or_isV {K : PySem.W.Frag} (hv : VeK K) : OpN c K (rIsiY K) isVF := fun G H σ δ ds vs R Q S rs h q => by
  unfold isVF at h
  split at h
  · rename_i C xs
    obtain ⟨v, r, rfl, h1, v2, r2, e2, h2, h3⟩ := rs
    subst e2
    rw [show r2 = [] from h3, show v2 = .ty "ValueError" from h2]
    obtain ⟨k, t⟩ := exc_ty S.out.sub h1
    exact ⟨v, _, _, _, true, rfl, .ty _, t, hv C k, q.val S h rfl⟩
  · exact h.elim
/-! abs, int -/
def absF : FN := fun ds R => match ds with
  | [.int i] => R (.int (if i < 0 then -i else i)) false
  | _ => False
theorem mo_abs : MoFN absF := fun ds Q Q' h q => by
  unfold absF at q ⊢
  split at q
  · exact h _ _ q
  · exact q.elim
theorem or_abs {K : PySem.W.Frag} : OpN c K (fun xs H Q => ∃ i, xs = [.int i] ∧ Q (.int (if i < 0 then -i else i)) H) absF := fun G H σ δ ds vs R Q S rs h q => by
  unfold absF at h
  split at h
  · obtain ⟨v, r, rfl, h1, h2⟩ := rs
    rw [show r = [] from h2, show v = _ from h1]
    exact ⟨_, rfl, q.val S h rfl⟩
  · exact h.elim
def intF : FN := fun ds R => match ds with
  | [.int i] => R (.int i) false
  | [.bl b] => R (.int (if b then 1 else 0)) false
  | _ => False
theorem mo_int : MoFN intF := fun ds Q Q' h q => by
  unfold intF at q ⊢
  split at q
  · exact h _ _ q
  · exact h _ _ q
  · exact q.elim
theorem or_int {K : PySem.W.Frag} : OpN c K (fun xs H Q => (∃ i, xs = [.int i] ∧ Q (.int i) H) ∨ ∃ k, xs = [.bl k] ∧ Q (.int (if k then 1 else 0)) H) intF := fun G H σ δ ds vs R Q S rs h q => by
  unfold intF at h
  split at h
  · obtain ⟨v, r, rfl, h1, h2⟩ := rs
    rw [show r = [] from h2, show v = _ from h1]
    exact .inl ⟨_, rfl, q.val S h rfl⟩
  · obtain ⟨v, r, rfl, h1, h2⟩ := rs
    rw [show r = [] from h2, show v = _ from h1]
    exact .inr ⟨_, rfl, q.val S h rfl⟩
  · exact h.elim
/-! range, enumerate, zip -/
def rngD (lo : Int) (n : Nat) : List D := (List.range n).map fun i => .int (lo + (i : Nat))
def wRng1 (w : WE) : WI := fun δ Q => w δ fun d _ δ1 => ∃ j : Int, d = .int j ∧ -(2 ^ 62) ≤ j ∧ j < 2 ^ 62 ∧ Q (rngD 0 j.toNat) δ1
def wRng2 (w w2 : WE) : WI := fun δ Q => w δ fun d _ δ1 => w2 δ1 fun d2 _ δ2 => ∃ i j : Int, d = .int i ∧ d2 = .int j ∧ (-(2 ^ 62) ≤ i ∧ i < 2 ^ 62 ∧ -(2 ^ 62) ≤ j ∧ j < 2 ^ 62) ∧ Q (rngD i (j - i).toNat) δ2
theorem rngD_len (lo : Int) (n : Nat) : (rngD lo n).length = n := by unfold rngD; rw [List.length_map, List.length_range]
theorem rngD_at {lo : Int} {n i : Nat} (h : i < n) : (rngD lo n)[i]? = some (.int (lo + (i : Nat))) := by
  unfold rngD
  rw [List.getElem?_map, List.getElem?_range h]; rfl
theorem walk_rng {K : PySem.W.Frag} {G : Hp} {lo : Int} {n : Nat} : Walk (Itr lo n) (rngD lo n).length (fun H => Sub G H) (Yd c K G (rngD lo n)) := by
  rw [rngD_len]
  exact walk_range.mono (fun _ _ => trivial) fun i H x H' hi _ y => ⟨_, rngD_at hi, .inl ⟨y.1, by rw [y.2]; rfl⟩⟩
theorem qi_range1 (hm : X.mg "range" = none) (ha : QE X c e w) {tg : Expr} (hg : Gl X "range" := by rfl) (hs : starEach [e] X.env = [(false, eval e X.env)] := by rfl) (hs1 : starEach (e :: []) X.env = (false, eval e X.env) :: starEach [] X.env := by rfl) : QI X c tg (.Call (.Name "range" p) [e] [] pos) (wRng1 w) :=
  ⟨fun δ Q Q' h q => ha.mo δ _ _ (fun d o δ1 ⟨j, a, b, cc, z⟩ => ⟨j, a, b, cc, h _ _ z⟩) q, pi_imp (pi_range1 hg hm (pa_cons ha.f.pe pa_nil hs1) hs) fun σ H R ⟨G, δ, S, q⟩ => lF ha.mo S q fun d δ1 v G1 H1 ⟨j, e1, b, cc, z⟩ S1 k1 r1 => by
    subst e1
    cases r1
    exact ⟨j, rfl, b, cc, z _ G1 H1 S1 k1 walk_rng⟩⟩
theorem qi_range2 (hm : X.mg "range" = none) (ha : QE X c e w) (hb : QE X c e2 w2) {tg : Expr} (hg : Gl X "range" := by rfl) (hs : starEach [e, e2] X.env = [(false, eval e X.env), (false, eval e2 X.env)] := by rfl) (hs2 : starEach [e2] X.env = [(false, eval e2 X.env)] := by rfl) (hs1 : starEach (e :: [e2]) X.env = (false, eval e X.env) :: starEach [e2] X.env := by rfl) (hs3 : starEach (e2 :: []) X.env = (false, eval e2 X.env) :: starEach [] X.env := by rfl) :
    QI X c tg (.Call (.Name "range" p) [e, e2] [] pos) (wRng2 w w2) :=
  ⟨fun δ Q Q' h q => ha.mo δ _ _ (fun d o δ1 z => hb.mo δ1 _ _ (fun d2 o2 δ2 ⟨i, j, a, a2, b, z⟩ => ⟨i, j, a, a2, b, h _ _ z⟩) z) q, pi_imp (pi_range2 hg hm (pa_cons ha.f.pe (pa_cons hb.f.pe pa_nil hs3) hs1) hs hs2) fun σ H R ⟨G, δ, S, q⟩ => lF ha.mo S q fun d δ1 v G1 H1 z S1 k1 r1 => lF hb.mo S1 z fun d2 δ2 v2 G2 H2 ⟨i, j, e1, e3, b, zz⟩ S2 k2 r2 => by
    subst e1; subst e3
    cases r1; cases r2
    exact ⟨i, j, rfl, b, zz _ G2 H2 S2 (k1.trans k2) walk_rng⟩⟩
def lstD : D → Option (List D)
  | .lst ds => some ds
  | .kls ds => some ds
  | _ => none
def enumD (ds : List D) : List D := ds.zipIdx.map fun p => .tup [.int (p.2 : Nat), p.1]
def wEnum (w : WE) : WI := fun δ Q => w δ fun d _ δ1 => match lstD d with
  | some ds => Q (enumD ds) δ1
  | none => False
theorem sqL_of {Ω : Om} {K : PySem.W.Frag} {G : Hp} {d : D} {ds : List D} {v : V} (hd : lstD d = some ds) (r : Rp Ω K G d v) : ∃ a vs, v = .ref a ∧ (∀ H, Sub G H → SqL K H a vs) ∧ Rps Ω K G ds vs := by
  cases d with
  | lst xs => cases hd; obtain ⟨a, vs, e, g, r⟩ := r; exact ⟨a, vs, e, fun H s => SqL.of (s _ _ g), r⟩
  | kls xs => cases hd; obtain ⟨a, vs, e, g, r⟩ := r; exact ⟨a, vs, e, fun H s => s.sqL g, r⟩
  | _ => cases hd
theorem qi_enum (hm : X.mg "enumerate" = none) (ha : QE X c e w) {elts : List Expr} {kk : Nat} {tpos : Pos} (hg : Gl X "enumerate" := by rfl) (hs : starEach [e] X.env = [(false, eval e X.env)] := by rfl) (hs1 : starEach (e :: []) X.env = (false, eval e X.env) :: starEach [] X.env := by rfl) :
    QI X c (.Tuple elts kk tpos) (.Call (.Name "enumerate" p) [e] [] pos) (wEnum w) :=
  ⟨fun δ Q Q' h q => ha.mo δ _ _ (fun d o δ1 z => by
    cases e : lstD d with
    | none => rw [e] at z; exact z.elim
    | some ds => rw [e] at z; exact h _ _ z) q, pi_imp (pi_enum hg hm (pa_cons ha.f.pe pa_nil hs1) hs) fun σ H R ⟨G, δ, S, q⟩ => lF ha.mo S q fun d δ1 v G1 H1 z S1 k1 r1 => by
    cases e : lstD d with
    | none => rw [e] at z; exact z.elim
    | some ds =>
      rw [e] at z
      obtain ⟨a, vs, rfl, sq, r⟩ := sqL_of e r1
      refine ⟨a, vs, rfl, sq H1 S1.out.sub, z _ G1 H1 S1 k1 ?_⟩
      have el : vs.length = (enumD ds).length := by unfold enumD; rw [List.length_map, List.length_zipIdx, r.length]
      rw [← el]
      refine walk_enum.mono (fun H s => sq H s) fun i H x H' hi hs y => ?_
      obtain ⟨T, x1, x2, rfl, hn, rfl, h1, h2⟩ := y
      cases h1
      obtain ⟨d2, h3, h4⟩ := r.get h2
      refine ⟨.tup [.int (i : Nat), d2], ?_, .inr ⟨T, _, _, rfl, rfl, .cons rfl (.cons h4 .nil), .inl ⟨hn, rfl⟩⟩⟩
      unfold enumD
      rw [List.getElem?_map, List.getElem?_zipIdx, h3]
      simp⟩
/-- target = e, any target -/
def wAsg (t : Tg) (w : WE) : WS := fun Z δ => w δ fun d _ δ1 => ∃ δ2, t.asg d δ1 = some δ2 ∧ Z.nx δ2
theorem qs_asg {tg : Expr} (t : Tg) (he : QE X c e w) (hg : PG X tg (t.g X.K)) (hs : swapsWithSole [tg] e pos.line X.env = pure false := by rfl) (hw : swappedStores [tg] e X.env = pure none := by rfl)
    (h1 : (assignEach [tg] X.env).map (·.2) = [assign tg X.env] := by rfl) : QS X c (.Assign [tg] e pos) (wAsg t w) :=
  ⟨fun Z Z' δ l h => he.mo δ _ _ (fun d o δ1 ⟨δ2, a, z⟩ => ⟨δ2, a, l.nx _ z⟩) h, ps_imp (ps_asg he.f.pe hg hs hw h1) fun D σ H ⟨G, δ, S, Z, h, n, _⟩ => lF he.mo S h fun d δ1 v G1 H1 ⟨δ2, a, z⟩ S1 k1 r1 =>
    Tg.run S1 r1 a fun σ' S' _ _ => n _ _ _ _ S' k1.ext z⟩
end
end PD

set_option Elab.async false
set_option linter.all false
set_option maxRecDepth 100000
set_option maxHeartbeats 2000000
/-! own errors made by a keyword -/
namespace PySem
namespace SwX
open PySem.W PySem.Calls PyProof.Rows PySem.HandSPX
section
variable {M : Model} {A : Around} {E : Value → Shared → Prop} {h : Heap} {g : Array GenState} {d : Drawn} {t : Nat} {os : OsState} {kw : List (Str × Value)}
variable {nm q : Str} {C N : Addr} {bs bm bmB : List Value} {hdct : Bool} {sn : List Str} {sub : List Value} {ab : Bool} {col : Option Bool} {dd : Option Addr} {k0 k1 k2 k3 k5 : Option Value} {B newId initId : String}
theorem check_newK (F : ExcBaseFacts B newId initId bmB) (hT : ∀ X : String, bm.contains (.type X) = bmB.contains (.type X)) {Q : Unit → Shared → Prop}
    (hC : h.get? C = some (excClassObj nm q C N bs bm hdct sn sub ab col dd k0 k1 k2 k3 k5 newId)) (hq : Q () ⟨h, g, d, t, os⟩) : wpAny M A (checkBuiltinCall newId ⟨[.ref C], kw⟩) Q E ⟨h, g, d, t, os⟩ := by
  have c1 : (Value.ref C :: bm).contains (.type B) = true := by rw [List.contains_cons, hT, F.hasB, Bool.or_true]
  have c2 := F.noStar
  simp only [checkBuiltinCall, F.newKind, F.newSplit, F.newRow]
  repeat (first | refine wpAny_loadPart_at hC ?_ | (refine wpAny_isSubtype_exc hC ?_; rw [c1]) | refine wpAny_staticBase_exc hC ?_ | refine wpAny_madeBy_exc hC ?_ | simp only [bne_self_eq_false, Bool.false_eq_true, if_false] | wp_step)
  exact hq
end
section
variable {prog : Program} {w : World} {A : Around} {E : Value → Shared → Prop} {R : Result → Shared → Prop} {h : Heap} {g : Array GenState} {d : Drawn} {t : Nat} {os : OsState} {kw : List (Str × Value)}
variable {nm q : Str} {C N : Addr} {bs bm bmB : List Value} {hdct : Bool} {sn : List Str} {sub : List Value} {ab : Bool} {col : Option Bool} {dd : Option Addr} {k0 k1 k2 k3 k5 : Option Value} {B newId initId : String}
theorem newK (F : ExcBaseFacts B newId initId bmB) (hT : ∀ X : String, bm.contains (.type X) = bmB.contains (.type X)) {f : Str} {v : Value} (hkw : kw = [(f, v)]) (hB : B = "ValueError")
    (hC : h.get? C = some (excClassObj nm q C N bs bm hdct sn sub ab col dd k0 k1 k2 k3 k5 newId))
    (hq : R (.ok (.ret (.ref (h.objs.size + 1)))) ⟨(h.push (kdv_tup [])).push (excO C h.objs.size), g, d, t, os⟩) :
    codeAny (model prog w) A (.builtin newId ⟨[.ref C], kw⟩) R ⟨h, g, d, t, os⟩ := by
  have hends := F.ends
  have c1 : (Value.ref C :: bm).contains (.type B) = true := by rw [List.contains_cons, hT, F.hasB, Bool.or_true]
  have c2 : (Value.ref C :: bm).contains (.type "AttributeError") = false := by rw [List.contains_cons, hT, F.noAttr]; rfl
  have c3 : (Value.ref C :: bm).contains (.type "NameError") = false := by rw [List.contains_cons, hT, F.noName]; rfl
  have hrest : ([] : List Value).length ≤ sizeLine := Nat.zero_le _
  subst hkw
  refine codeAny_builtinAt F.entry ?_
  unfold Builtin.«BaseException.__new__»
  refine wpAt_bind ?_
  show wpAt _ _ _ (stack >>= _) _ _ _
  refine wpAt_bind (wpAt_stack fun p below => wpAt_of_wpAny ?_)
  wp_walk
  refine wpAt_of_wpAny ?_
  rw [F.owner]
  repeat (first | with_reducible refine wpAny_madeHere_exc F.canon hC ?_ | with_reducible refine wpAny_loadPart_at hC ?_ | (with_reducible refine wpAny_isSubtype_exc hC ?_; first | rw [c1] | rw [c2] | rw [c3]) | wp_step)
  show R _ _
  rw [Heap.size_push]
  exact hq
theorem type_callK (F : ExcBaseFacts B newId initId bmB) (hT : ∀ X : String, bm.contains (.type X) = bmB.contains (.type X)) {f : Str} {v : Value} {fI : Addr} {Q : Fin → Shared → Prop} (hkw : kw = [(f, v)]) (hB : B = "ValueError")
    (hC : h.get? C = some (excClassObj nm q C N bs bm hdct sn sub ab col dd k0 k1 k2 k3 k5 newId))
    (hi : Looks (model prog w) h (typeLookup (.ref C) "__init__") (some (.ref fI))) (hb : ∀ self, Looks (model prog w) h (bindSpecial (.ref fI) self) (.ref fI, [self]))
    (hq : codeAny (model prog w) A (.call (.ref fI) ⟨[.ref (h.objs.size + 1)], kw⟩)
      (fun r s' => match r with | .ok (.ret u) => u = .none ∧ Q (.done (.ret (.ref (h.objs.size + 1)))) s' | .ok _ => False | .error e => E e s') ⟨(h.push (kdv_tup [])).push (excO C h.objs.size), g, d, t, os⟩) :
    wpAny (model prog w) A (Builtin.«type.__call__» ⟨[.ref C], kw⟩) Q E ⟨h, g, d, t, os⟩ := by
  repeat (first | with_reducible refine wpAny_loadPart_at hC ?_ | with_reducible refine wpAny_madeBy_exc hC ?_ | wp_step)
  refine codeAny_call_builtin_code (Code.quiet_builtin _ F.quiet) (check_newK F hT hC ?_)
  refine newK F hT hkw hB hC ?_
  show wpAny _ _ _ _ _ _
  have kk : ∀ b o, h.get? b = some o → ((h.push (kdv_tup [])).push (excO C h.objs.size)).get? b = some o := fun b o e => Heap.get?_push_of_some _ (Heap.get?_push_of_some _ e)
  have c1 := kk _ _ hC
  have hx : ((h.push (kdv_tup [])).push (excO C h.objs.size)).get? (h.objs.size + 1) = some (excO C h.objs.size) := by heap_get
  have c2 : (Value.ref C :: bm).contains (.ref C) = true := by simp
  have i1 := hi.keeps kk
  have b1 := (hb (.ref (h.objs.size + 1))).keeps kk
  unfold isInstance
  repeat (first | with_reducible refine wpAny_loadPart_at hx ?_ | (with_reducible refine wpAny_isSubtype_exc c1 ?_; rw [c2]) | wp_step)
  show wpAny _ _ (typeLookup (.ref C) _) _ _ _
  refine i1.at (wpAny_holding (wpAny_bind (b1.at ?_)))
  refine wpAny_bind (wpAny_call (codeAny_mono hq fun r s' z => ?_))
  cases r with
  | error e => exact z
  | ok fl =>
    cases fl with
    | ret u =>
      obtain ⟨e0, z⟩ := z
      subst e0
      first
        | exact wpAny_pure (wpAny_pure z)
        | (wp_walk; exact z)
    | next => exact False.elim z
    | brk => exact False.elim z
    | cont => exact False.elim z
theorem call_ownK (F : ExcBaseFacts B newId initId bmB) (hT : ∀ X : String, bm.contains (.type X) = bmB.contains (.type X)) {f : Str} {v : Value} {fI : Addr} (hkw : kw = [(f, v)]) (hB : B = "ValueError")
    (hC : h.get? C = some (excClassObj nm q C N bs bm hdct sn sub ab col dd k0 k1 k2 k3 k5 newId))
    (hi : Looks (model prog w) h (typeLookup (.ref C) "__init__") (some (.ref fI))) (hb : ∀ self, Looks (model prog w) h (bindSpecial (.ref fI) self) (.ref fI, [self]))
    (hq : codeAny (model prog w) (A.under (.builtin "type.__call__" ⟨[.ref C], kw⟩)) (.call (.ref fI) ⟨[.ref (h.objs.size + 1)], kw⟩) (InitBack (h.objs.size + 1) R) ⟨(h.push (kdv_tup [])).push (excO C h.objs.size), g, d, t, os⟩) :
    codeAny (model prog w) A (.call (.ref C) ⟨[], kw⟩) R ⟨h, g, d, t, os⟩ := by
  have f1 := tc_lookup
  have f2 := tc_bind (.ref C)
  have ty : (⟨h, g, d, t, os⟩ : Shared).TypeIs (.ref C) "type" := ⟨_, hC, rfl⟩
  refine codeAny_of_tree ?_
  show wpAny _ _ (callAny (.ref C) _) _ _ _
  repeat (any_goals (first | assumption | with_reducible refine wpAny_loadPart_at hC ?_ | wp_step))
  refine ⟨rfl, codeAny_call_builtin_at (Code.quiet_builtin _ (by decide +kernel)) entry_typeCall (wpAny_check_type_call_sub hC (type_callK F hT hkw hB hC hi hb (codeAny_mono hq fun r s' z => ?_)))⟩
  rcases r with e | (u | _ | _ | _) <;> exact z
end
section
variable {prog : Program} {w : World} {A : Around} {R : Result → Shared → Prop} {K : Frag} {C fI : Addr} {f : Str}
/-- its __init__ by a keyword: as by position -/
theorem sw_initK (T : SwTxt prog K f C fI) (hf : fOk f = true) {h : Heap} {g : Array GenState} {d : Drawn} {t : Nat} {os : OsState} {x t0 : Addr} {v : Value} (X : K.In h) (nms : Nms h) (hlim : h.NoLimit) (hx : h.get? x = some (excO C t0)) (hnx : K.lookup x = none) (hroom : A.depth < recursionLimit)
    (hq : ∀ h' tk dx t1, InitEnd f h h' x C dx t1 v → R (.ok (.ret .none)) ⟨h', g, d, tk, os⟩) :
    codeAny (model prog w) A (.call (.ref fI) ⟨[.ref x], [(f, v)]⟩) R ⟨h, g, d, t, os⟩ := sw_initA T hf X nms hlim hx hnx hroom (by
      intro qual m j p1 p2 a1 a2 a3 a4 a5 a6 q1 q2 q3 q4 doc pm ct an cda cc
      rcases fOk_cases hf with rfl | rfl | rfl | rfl <;> exact BindsTo.of_eq (by first | rfl | with_unfolding_all rfl)) hq
theorem sw_madeK (T : SwTxt prog K f C fI) (hf : fOk f = true) {h : Heap} {g : Array GenState} {d : Drawn} {t : Nat} {os : OsState} {v : Value} (X : K.In h) (nms : Nms h) (hlim : h.NoLimit) (hroom : A.depth + 1 < recursionLimit)
    (hq : ∀ h' tk e dx, OwnMade f h h' e C dx v → R (.ok (.ret (.ref e))) ⟨h', g, d, tk, os⟩) : codeAny (model prog w) A (.call (.ref C) ⟨[], [(f, v)]⟩) R ⟨h, g, d, t, os⟩ := by
  obtain ⟨nm, q, N, bs, bm, sn, sub, ab, col, dd, k0, k1, k2, k3, k5, hC, hbm, hal⟩ := T.cls
  have kp : ∀ b o, h.get? b = some o → ((h.push (kdv_tup [])).push (excO C h.objs.size)).get? b = some o := fun b o e => Heap.get?_push_of_some _ (Heap.get?_push_of_some _ e)
  have hx : ((h.push (kdv_tup [])).push (excO C h.objs.size)).get? (h.objs.size + 1) = some (excO C h.objs.size) := by heap_get
  have hnx : K.lookup (h.objs.size + 1) = none := by
    cases e : K.lookup (h.objs.size + 1) with
    | none => rfl
    | some o =>
      have z : h.get? (h.objs.size + 1) = some o := X _ _ e
      exact absurd (Nat.lt_of_succ_lt (Heap.lt_size z)) (Nat.lt_irrefl _)
  refine call_ownK PySem.F.excBase_ValueError (fun X => refsVE_contains X bm hbm) rfl rfl (X _ _ hC) (looks_findIn X T.iC) (fun self => bind_fn X self T.tC) ?_
  refine sw_initK T hf (X.keeps kp) (nms.keeps kp) (hlim.keeps kp) hx hnx ?_ fun h' tk' dx t1 ⟨k', hx', dn, dne, hns⟩ => ?_
  · exact hroom
  · have z : h.objs.size + 1 + 1 ≤ dx := by
      have q := dn
      rw [Heap.size_push, Heap.size_push] at q
      exact q
    exact ⟨rfl, hq h' tk' (h.objs.size + 1) dx ⟨fun b o e => k' b o (Nat.ne_of_lt (Nat.lt_succ_of_lt (Heap.lt_size e))) (kp b o e), Nat.le_succ _, ⟨_, _, hx', rfl, rfl, rfl, rfl⟩, by omega, dne, hns⟩⟩
end
end SwX
end PySem

set_option Elab.async false
set_option linter.all false
set_option maxRecDepth 100000
set_option maxHeartbeats 2000000
/-! PD, fifteenth part: what the head says; errors by a keyword; dicts written out; the draw begun; a law -/
namespace PD
open PySem PySem.Spec PyProof.Rows L2

theorem boot_VE : bootBuiltins "ValueError" = some (.type "ValueError") := by decide +kernel
theorem boot_len : bootBuiltins "len" = some (.builtin "len") := by decide +kernel
theorem u65 {k : Nat} {A : Around} (r : Room k A) : A.units + 65 < cLine := by have := r.un; omega
theorem u1 {k : Nat} {A : Around} (r : Room k A) : A.units + 1 < cLine := by have := r.un; omega
section
variable {X : Cx} {x : Str} {pos : Pos}
theorem pgN (hN : X.N.Nodup) (i : Nat) (hi : X.N[i]? = some x := by rfl) (hx : Loc X.env.scope x := by first | exact .inl rfl | exact .inr rfl) (hf : X.fn x = true ∨ X.env.scope.names.lookup x = some .local := by first | exact .inr rfl | exact .inl rfl) : PG X (.Name x pos) (gName i) := pg_name hN hi hx hf
theorem pe_varS (i : Nat) (hN : X.N[i]? = some x := by rfl) (hv : Vis X.env.scope x := by first | exact Or.inl rfl | exact Or.inr (Or.inl rfl) | exact Or.inr (Or.inr rfl)) (hd : (x == ("__debug__" : Str)) = false := by decide)
    (hcd : (x == ("__classdict__" : Str)) = false := by decide) : PE X (.Name x pos) (tVar i) := pe_var hN hv hd hcd
end
/-- what the head says: the free names, the classes, the plain errors, those with a field -/
structure Hd (P : Program) (K : PySem.W.Frag) (mg : Str → Option Value) (fl : List Str) (cs : List Nat) (pl : List Nat) (ff : List Nat) : Prop where
  fr : ∀ x, x ∈ fl → mg x = none
  cls : ∀ C, C ∈ cs → mg (cName C) = some (.ref (cA K C))
  kn : ∀ C, C ∈ cs → KnC K C
  tk : ∀ C, C ∈ cs → TyK K C
  ve : VeK K
  epq : ∀ C, C ∈ pl → C ∈ cs ∧ PySem.W.excIn K (cA K C) veB "ValueError.__new__" = true ∧ PySem.W.keepIn K (.ref (cA K C)) = true ∧ PySem.W.typeIn K (.ref (cA K C)) = some (.type "type") ∧ ExK K C ∧ cFields C = []
  efq : ∀ C, C ∈ ff → C ∈ cs ∧ ∃ f fI, PySem.SwX.SwTxt P K f (cA K C) fI ∧ PySem.SwX.fOk f = true ∧ ExK K C ∧ cFields C = [f]
  su : mg "super" = none
section
variable {P : Program} {K : PySem.W.Frag} {mg : Str → Option Value} {fl : List Str} {cs pl ff : List Nat}
theorem Hd.ep (h : Hd P K mg fl cs pl ff) (C : Nat) (hc : C ∈ pl) {X : Cx} (e1 : X.K = K := by rfl) (e2 : X.mg = mg := by rfl) : ExPl X C := by
  obtain ⟨h1, h2, h3, h4, h5, h6⟩ := h.epq C hc
  subst e1; subst e2
  exact ⟨h.cls C h1, h2, h3, raises_own h5.sub h4, h5, h6⟩
theorem Hd.ef (h : Hd P K mg fl cs pl ff) (C : Nat) (hc : C ∈ ff) {X : Cx} {f : Str} (e1 : X.K = K := by rfl) (e2 : X.mg = mg := by rfl) (e3 : X.prog = P := by rfl) (e4 : cFields C = [f] := by rfl) : ExFl X C f := by
  obtain ⟨h1, f', fI, h2, h3, h4, h5⟩ := h.efq C hc
  rw [e4] at h5
  injection h5 with h5 _
  subst e1; subst e2; subst e3; subst h5
  exact ⟨h.cls C h1, ⟨fI, h2⟩, h3, h4, e4, h.su⟩
end
/-! ### errors by a keyword -/
section
variable {X : Cx} {c : Ct} {e : Expr} {w : WE} {ta : TE} {p pos kp : Pos} {C : Nat} {f x : Str}
def kwQ (X : Cx) (C : Nat) (f : Str) (Q : VK) (vs : List V) (H1 : Hp) : Prop := match vs with
  | [v] => ∀ dx a, H1 dx = none → H1 a = none → dx ≠ a → Q (.ref a) (upd (upd H1 dx (.xd [(f, v)])) a (ExH (.ref (cA X.K C)) (some dx) a))
  | _ => False
theorem kwQ_of {Q : VK} {vs : List V} {H1 : Hp} (h : kwQ X C f Q vs H1) : ∃ v, vs = [v] ∧ ∀ dx a, H1 dx = none → H1 a = none → dx ≠ a → Q (.ref a) (upd (upd H1 dx (.xd [(f, v)])) a (ExH (.ref (cA X.K C)) (some dx) a)) := by
  match vs, h with
  | [v], h => exact ⟨v, rfl, h⟩
theorem pe_exHK {k : Nat} (T : ExFl X C f) (hr : Room k X.A) (hx : x = cName C) (hg : Gl X x) (he : PE X e ta) (hdb : (x == ("__debug__" : Str)) = false := by decide)
    (hall : (backToKw pos (keywordEach [⟨some f, e, kp⟩] X.env)).all (·.1.isSome) = true := by rfl) (hks : (backToKw pos (keywordEach [⟨some f, e, kp⟩] X.env)).filterMap (·.1) = [f] := by rfl)
    (hpl : ((backTo pos (starEach [] X.env)).any (·.1) || (backToKw pos (keywordEach [⟨some f, e, kp⟩] X.env)).any (·.1.isNone)) = false := by rfl) :
    PE X (.Call (.Name x p) [] [⟨some f, e, kp⟩] pos) (fun σ H Q => ta σ H fun v H1 => ∀ dx a, H1 dx = none → H1 a = none → dx ≠ a → Q (.ref a) (upd (upd H1 dx (.xd [(f, v)])) a (ExH (.ref (cA X.K C)) (some dx) a))) := by
  obtain ⟨fI, t⟩ := T.t
  refine ⟨fun pins s σ H Q I h => wpAny_Call_Name_kw (ld_glob I hg (by rw [hx]; exact T.gC) ?_ hdb)⟩
  refine PySem.W.callWith_KW0 (h₀ := X.base) I.ok.mod.kin t.kC hall ?_ hpl
  refine thn ((pk_cons (nm := some f) (kpos := kp) he pk_nil).run pos pins s σ H (kwQ X C f Q) I h) fun us s1 ⟨vs, H1, I1, r1, q1⟩ => ⟨I1.kIn, ?_⟩
  rw [hks]
  obtain ⟨v, ev, q1⟩ := kwQ_of q1
  subst ev
  obtain ⟨u, eu, ru⟩ := vals1 r1
  subst eu
  have nm := nms_of I1 T.su
  have hlim := I1.nolimit
  obtain ⟨hp, g, dr, tk, os⟩ := s1
  refine wpAny_call (PySem.SwX.sw_madeK t T.ok I1.kIn nm hlim (by have := hr.dp; omega) fun h' tk' e' dx M => ?_)
  obtain ⟨J, n1, n2, n3⟩ := laid_two (tk := tk') I1 ru M
  exact ⟨.ref e', _, J, rfl, q1 dx e' n1 n2 n3⟩
theorem qe_excK {k : Nat} (C : Nat) (T : ExFl X C f) (hr : Room k X.A) (hg : Gl X x) (he : QE X c e w) (hx : x = cName C := by rfl) (hdb : (x == ("__debug__" : Str)) = false := by decide)
    (hall : (backToKw pos (keywordEach [⟨some f, e, kp⟩] X.env)).all (·.1.isSome) = true := by rfl) (hks : (backToKw pos (keywordEach [⟨some f, e, kp⟩] X.env)).filterMap (·.1) = [f] := by rfl)
    (hpl : ((backTo pos (starEach [] X.env)).any (·.1) || (backToKw pos (keywordEach [⟨some f, e, kp⟩] X.env)).any (·.1.isNone)) = false := by rfl) : QE X c (.Call (.Name x p) [] [⟨some f, e, kp⟩] pos) (wExcF C w) :=
  ⟨fun δ Q Q' h q => he.mo δ _ _ (fun d o δ1 z => h _ _ _ z) q, pe_imp (pe_exHK T hr hx hg he.f.pe hdb hall hks hpl) fun σ H Q ⟨G, δ, S, q⟩ => lF he.mo S q fun d δ1 v G1 H1 z S1 k1 r1 dx a hd ha ne => by
    obtain ⟨S2, k2⟩ := new_any (u := .xd [(f, v)]) S1 hd
    have ha2 : upd H1 dx (.xd [(f, v)]) a = none := by rw [upd_ne (Ne.symm ne)]; exact ha
    obtain ⟨S3, k3⟩ := new_any (u := ExH (.ref (cA X.K C)) (some dx) a) S2 ha2
    refine z _ _ _ S3 ((k1.trans k2).trans k3) ⟨fun _ => ⟨a, some dx, [v], rfl, upd_same, by rw [T.f]; rfl, .inr ⟨dx, rfl, ?_⟩, T.ex, .cons ((r1.mono k2.ext).mono k3.ext) .nil⟩, fun h => (by cases h)⟩
    rw [upd_ne ne, upd_same, T.f]; rfl⟩
end
/-! ### dicts written out -/
abbrev WPr := List Sl → (List (D × D) → List Sl → Prop) → Prop
def wPairs : List (WE × WE) → WPr
  | [] => fun δ Q => Q [] δ
  | (a, b) :: l => fun δ Q => a δ fun k _ δ1 => b δ1 fun v _ δ2 => wPairs l δ2 fun ps δ3 => Q ((k, v) :: ps) δ3
def wPNil : List (WE × WE) := []
def wPCons (a b : WE) (l : List (WE × WE)) : List (WE × WE) := (a, b) :: l
def wDisp (l : List (WE × WE)) : WE := fun δ Q => wPairs l δ fun ps δ1 => ∃ ks : List Key, ps.map (·.1) = ks.map kyD ∧ ks.Nodup ∧ ks.length ≤ 15 ∧ Q (.dK ks (ps.map (·.2))) true δ1
def wDNewK : WE := fun δ Q => Q (.dK [] []) true δ
def wDNewT : WE := fun δ Q => Q (.dT [] []) true δ
def MoL (l : List (WE × WE)) : Prop := ∀ p ∈ l, MoE p.1 ∧ MoE p.2
theorem mo_pairs : ∀ {l : List (WE × WE)}, MoL l → ∀ δ Q Q', (∀ ps δ', Q ps δ' → Q' ps δ') → wPairs l δ Q → wPairs l δ Q'
  | [], _, δ, Q, Q', h, q => h _ _ q
  | (a, b) :: l, m, δ, Q, Q', h, q => (m _ List.mem_cons_self).1 δ _ _ (fun k _ δ1 z => (m _ List.mem_cons_self).2 δ1 _ _ (fun v _ δ2 y => mo_pairs (fun p hp => m p (List.mem_cons_of_mem _ hp)) δ2 _ _ (fun ps δ3 x => h _ _ x) y) z) q
structure QPs (X : Cx) (c : Ct) (pos : Pos) (keys : List (Option Expr)) (values : List Expr) (l : List (WE × WE)) : Prop where
  mo : MoL l
  pp : PPs X pos keys values (l.map fun p => (lE c X.K (wF p.1), lE c X.K (wF p.2)))
section
variable {X : Cx} {c : Ct} {pos : Pos} {keys : List (Option Expr)} {values : List Expr} {l : List (WE × WE)} {k v : Expr} {wk wv : WE}
theorem qpp_nil : QPs X c pos [] [] wPNil := ⟨fun _ h => (by cases h), pps_nil⟩
theorem qpp_cons (hk : QE X c k wk) (hv : QE X c v wv) (h : QPs X c pos keys values l) : QPs X c pos (some k :: keys) (v :: values) (wPCons wk wv l) :=
  ⟨fun p hp => by
    rcases List.mem_cons.mp hp with rfl | hp
    · exact ⟨hk.mo, hv.mo⟩
    · exact h.mo p hp, pps_cons hk.f.pe hv.f.pe h.pp⟩
theorem link_pairs {K : PySem.W.Frag} {σ : L2.St} {p : Addr} {G0 H0 : Hp} {δ0 : List Sl} (hp : c.Om.own p → False) : ∀ {l : List (WE × WE)}, MoL l → ∀ {G H : Hp} {δ : List Sl} {Q : List (V × V) → Hp → Prop} {R : List (D × D) → List Sl → Prop}, SR c K G H σ δ → H p = some (.dK []) → G p = none → ¬ OwnAt σ δ p → Kp c G0 H0 σ δ0 δ G H → wPairs l δ R →
    (∀ ps δ' vs G' H', R ps δ' → SR c K G' H' σ δ' → Kp c G0 H0 σ δ0 δ' G' H' → H' p = some (.dK []) → G' p = none → ¬ OwnAt σ δ' p → Sub G G' → Rps c.Om K G' (ps.map (·.1)) (vs.map (·.1)) → Rps c.Om K G' (ps.map (·.2)) (vs.map (·.2)) → Q vs H') →
    tPairs (l.map fun q => (lE c K (wF q.1), lE c K (wF q.2))) σ H Q
  | [], _, G, H, δ, Q, R, S, e, g, n, k0, h, fin => fin [] δ [] G H h S k0 e g n (Sub.refl _) .nil .nil
  | (a, b) :: l, m, G, H, δ, Q, R, S, e, g, n, k0, h, fin => by
    refine lF (m _ List.mem_cons_self).1 S h fun d1 δ1 v1 G1 H1 z1 S1 k1 r1 => lF (m _ List.mem_cons_self).2 S1 z1 fun d2 δ2 v2 G2 H2 z2 S2 k2 r2 => ?_
    have k12 := k1.trans k2
    obtain ⟨e2, g2⟩ := k12.kp p _ e hp n
    refine link_pairs hp (fun q hq => m q (List.mem_cons_of_mem _ hq)) S2 e2 (g2 g trivial) (fun z => n (k12.old p z)) (k0.trans k12) z2 fun ps δ' vs G' H' x S' kk e' g' n' sb ra rb => ?_
    exact fin _ δ' ((v1, v2) :: vs) G' H' x S' kk e' g' n' (k12.ext.trans sb) (.cons ((r1.mono k2.ext).mono sb) ra) (.cons (r2.mono sb) rb)
theorem merge_new : ∀ (more acc : List (Key × V)), (acc.map (·.1) ++ more.map (·.1)).Nodup → mergeK acc more = acc ++ more
  | [], acc, _ => by rw [List.append_nil]; rfl
  | p :: r, acc, h => by
    show mergeK (putK acc p.1 p.2) r = _
    have hn : (acc.any fun kv => decide (kv.1 = p.1)) = false := by
      rw [List.any_eq_false]
      intro kv hkv hd
      have e : kv.1 = p.1 := by simpa using hd
      rw [List.map_cons, List.nodup_append] at h
      exact h.2.2 _ (List.mem_map.mpr ⟨kv, hkv, rfl⟩) _ List.mem_cons_self e
    have e : putK acc p.1 p.2 = acc ++ [p] := by
      unfold putK
      rw [if_neg (by rw [hn]; decide)]
    rw [e, merge_new r (acc ++ [p]) (by rw [List.map_append, List.map_cons, List.map_nil, List.append_assoc]; simpa using h), List.append_assoc]
    rfl
theorem zip_back {ks : List Key} {vs : List (V × V)} (h : vs.map (·.1) = ks.map kV) : vs = (ks.zip (vs.map (·.2))).map fun kv => (kV kv.1, kv.2) := by
  induction vs generalizing ks with
  | nil => cases ks <;> first | rfl | (simp at h)
  | cons p r ih =>
    cases ks with
    | nil => simp at h
    | cons k ks =>
      simp only [List.map_cons, List.cons.injEq] at h
      simp only [List.map_cons, List.zip_cons_cons]
      rw [← ih h.2, ← h.1]
theorem rps_kV {Ω : Om} {K : PySem.W.Frag} {G : Hp} : ∀ {ks : List Key} {vs : List V}, Rps Ω K G (ks.map kyD) vs → vs = ks.map kV
  | [], _, h => h
  | k :: ks, _, ⟨v, r, e, h1, h2⟩ => by
    rw [e, rps_kV h2, List.map_cons]
    cases k <;> (rw [show v = _ from h1]; rfl)
theorem qe_disp (h : QPs X c pos keys values l) (hall : keys.all (·.isSome) = true := by rfl) (hl : keys.length = values.length := by rfl) (h0 : keys ≠ [] := by simp) (h15 : keys.length ≤ 15 := by decide) : QE X c (.Dict keys values pos) (wDisp l) := by
  refine ⟨fun δ Q Q' g q => mo_pairs h.mo δ _ _ (fun ps δ1 ⟨ks, a, b, cc, z⟩ => ⟨ks, a, b, cc, g _ _ _ z⟩) q, pe_imp (pe_disp h.pp hall hl h0 h15) fun σ H Q ⟨G, δ, S, q⟩ p hp => ?_⟩
  have nom := S.out.nom hp
  have nw := S.notNew hp
  have gp := S.out.gone hp
  have S1 : SR c X.K G (upd H p (.dK [])) σ δ := S.put gp nom nw (S.out.h0 hp nom) fun φ z => by rw [hp] at z; cases z
  have k1 : Kp c G H σ δ δ G (upd H p (.dK [])) := ⟨Sub.refl _, fun _ h => h, fun a h => upd_nu h, fun a o e n1 n2 => by rw [upd_ne (ne_of_none e hp)]; exact ⟨e, fun g _ => g⟩⟩
  refine link_pairs nom h.mo S1 upd_same gp nw k1 q fun ps δ' vs G' H' ⟨ks, e1, e2, e3, z⟩ S' k' hH hG n' sb ra rb => ⟨hH, ks.zip (vs.map (·.2)), ?_, ?_, ?_⟩
  · rw [e1] at ra
    exact zip_back (rps_kV ra)
  · rw [List.length_zip]; omega
  · have lk : ks.length = vs.length := by
      have := congrArg List.length (rps_kV (by rw [← e1]; exact ra))
      simpa using this.symm
    have hm : mergeK [] (ks.zip (vs.map (·.2))) = ks.zip (vs.map (·.2)) := by
      rw [merge_new _ _ (by rw [List.map_nil, List.nil_append, zip_fst (by rw [List.length_map, lk])]; exact e2), List.nil_append]
    rw [hm]
    have hnx : ∀ φ, H' p ≠ some (.ext φ) := fun φ y => by rw [hH] at y; cases y
    have S2 := S'.put (u := .dK (ks.zip (vs.map (·.2)))) hG nom n' (S.out.h0 hp nom) hnx
    refine z _ G' _ S2 ⟨k'.ext, k'.old, fun a y => k'.nu a (upd_nu y), fun a o e n1 n2 => ?_⟩ ⟨fun y => (by cases y), fun _ => ⟨p, rfl, hp, ⟨hG, nom, _, upd_same, vs.map (·.2), rfl, by rw [List.length_map, lk], rb⟩, rfl⟩⟩
    rw [upd_ne (ne_of_none e hp)]
    exact k'.kp a o e n1 n2
theorem qe_dnewK : QE X c (.Dict [] [] pos) wDNewK := ⟨fun δ Q Q' h q => h _ _ _ q, pe_imp pe_dnewK fun σ H Q ⟨G, δ, S, q⟩ p hp => Res.new (R := fun d o => d = .dK [] [] ∧ o = true) S (fun d o v G2 H2 e S2 k2 r2 => by
      obtain ⟨rfl, rfl⟩ := e
      exact q v G2 H2 S2 k2 r2) ⟨rfl, rfl⟩ ⟨[], rfl, rfl, .nil⟩ hp⟩
theorem qe_dnewT : QE X c (.Dict [] [] pos) wDNewT := ⟨fun δ Q Q' h q => h _ _ _ q, pe_imp pe_dnewT fun σ H Q ⟨G, δ, S, q⟩ p hp => Res.new (R := fun d o => d = .dT [] [] ∧ o = true) S (fun d o v G2 H2 e S2 k2 r2 => by
      obtain ⟨rfl, rfl⟩ := e
      exact q v G2 H2 S2 k2 r2) ⟨rfl, rfl⟩ ⟨[], rfl, rfl, .nil⟩ hp⟩
end
end PD

set_option Elab.async false
set_option linter.all false
set_option maxRecDepth 100000
set_option maxHeartbeats 2000000
/-! PD, sixteenth part: the top: a law's def called with its script -/
namespace PD
open PySem PySem.Spec PyProof.Rows L2

/-- what the law's end asks: the answer True, what the loader keeps kept -/
def okV (so : Obj) : VK := fun v H => v = .bl true ∧ H sysModules = some (sysH so)
/-- the heap at the law's call: the script, unless the written part has it; what the loader keeps -/
def topH (K : PySem.W.Frag) (a : Addr) (vs : List Value) (ns : List Int) (so : Obj) : Hp := fun b =>
  if b = sysModules then some (sysH so) else if b = a ∧ K.lookup a = none then some (.frz { cls := .type "list", data := .seq vs.toArray } (.lst (ns.map V.int))) else none
theorem cx_false {P : Program} {w : World} {outer : List Env} {H : Hp} {s : Shared} {e : Value} {s' : Shared} (h : L2.CX P w outer H s (fun _ _ _ => False) e s') : False := by
  obtain ⟨_, _, _, _, _, _, _, _, _, _, _, _, z⟩ := h
  exact z
theorem law_topG {P : Program} {w : World} {K : PySem.W.Frag} {mg mb : Str → Option Value} {k : Nat} {fa a : Addr} {fd : FuncData} {x : Str} {sp : Sp} {s₁ : Shared} {vs : List Value} {ns : List Int} {so : Obj}
    (KX : K.In s₁.heap) (hns : s₁.heap.Ns mainGlobals mg) (hb : s₁.heap.Ns builtinsNs mb) (hbb : ∀ x : Str, x ≠ "__name__" → mb x = bootBuiltins x) (hlim : s₁.heap.NoLimit) (hg : s₁.gens = #[])
    (hK : K.lookup sysModules = none) (hso : s₁.heap.get? sysModules = some so) (hsd : ∀ vs n, so.data ≠ .seq vs n)
    (ha : s₁.heap.get? a = some { cls := .type "list", data := .seq vs.toArray }) (hi : IntsAre vs ns) (hl : ns.length ≤ sizeLine) (hr : Room k callerA)
    (F : ∀ base : Heap, K.In base → base.Ns mainGlobals mg → FnG P w K mg base (L2.CX P w) k fa fd [x] sp) (hbind : ∀ (s : Shared) (u : Value), BindsTo s fd ⟨[u], []⟩ [(x, u)])
    (hsp : ∀ H : Hp, H sysModules = some (sysH so) → SqL K H a (ns.map V.int) → sp [.ref a] H (okV so) fun _ _ _ => False) :
    codeAny (model P w) callerA (.call (.ref fa) ⟨[.ref a], []⟩) (fun r s' => r = .ok (.ret (.bool true)) ∧ OldK s₁.heap s'.heap ∧ s'.os = s₁.os ∧ AllBare s'.gens) s₁ := by
  have rv := vals_ints hi
  have lenV := hi.length
  have aS : a ≠ sysModules := fun z => by
    rw [z, hso] at ha
    exact hsd _ _ (congrArg Obj.data (Option.some.inj ha))
  obtain ⟨H, eH⟩ : ∃ H, H = topH K a vs ns so := ⟨_, rfl⟩
  have hS : H sysModules = some (sysH so) := by rw [eH]; exact if_pos rfl
  have cases_ : ∀ b u, H b = some u → (b = sysModules ∧ u = sysH so) ∨ (b = a ∧ K.lookup a = none ∧ u = .frz { cls := .type "list", data := .seq vs.toArray } (.lst (ns.map V.int))) := fun b u e => by
    rw [eH] at e
    unfold topH at e
    split at e
    · rename_i hb; cases e; exact .inl ⟨hb, rfl⟩
    · split at e
      · rename_i h1 h2; cases e; exact .inr ⟨h2.1, h2.2, rfl⟩
      · cases e
  have noH : ∀ {b : Addr} {o : Obj}, s₁.heap.get? b = some o → b ≠ sysModules → (∀ vs n, o.data ≠ .seq vs n) → H b = none := fun {b o} e n1 n2 => by
    cases q : H b with
    | none => rfl
    | some u =>
      rcases cases_ b u q with ⟨z, _⟩ | ⟨z, _, _⟩
      · exact (n1 z).elim
      · rw [z, ha] at e; cases e; exact (n2 _ _ rfl).elim
  have hok : HOk P w H s₁.heap := fun b u e => by
    rcases cases_ b u e with ⟨rfl, rfl⟩ | ⟨rfl, _, rfl⟩
    · exact ⟨hso, ⟨so, hso⟩, fun h1 h2 p k => k _ p⟩
    · exact ⟨ha, by rw [List.length_map]; exact hl, vs, _, rv, ha⟩
  have hSq : SqL K H a (ns.map V.int) := by
    cases q : K.lookup a with
    | some o =>
      have e := KX a o q
      rw [ha] at e
      cases e
      exact .inr ⟨_, vs.toArray, _, q, rfl, rfl, rfl, by rw [List.size_toArray, lenV]; exact hl, by simpa using rv⟩
    | none =>
      exact .inl (.inr ⟨{ cls := .type "list", data := .seq vs.toArray }, by rw [eH]; exact (if_neg aS).trans (if_pos ⟨rfl, q⟩)⟩)
  have nsK : ∀ {b : Addr} {m : Str → Option Value}, s₁.heap.Ns b m → b ≠ sysModules → (hidT s₁.heap H).Ns b m := fun {b m} ⟨o, es, ep, e, d, r⟩ n => ⟨o, es, ep, hidT_get e (noH e n fun vs n z => by rw [d] at z; cases z), d, r⟩
  have hKb : K.In (hidT s₁.heap H) := fun b o e => hidT_get (KX b o e) (by
    cases q : H b with
    | none => rfl
    | some u =>
      rcases cases_ b u q with ⟨z, _⟩ | ⟨z, n, _⟩
      · rw [z, hK] at e; cases e
      · rw [z, n] at e; cases e)
  have hM : L2.Mod K mg (hidT s₁.heap H) := ⟨hKb, nsK hns (by decide), ⟨mb, nsK hb (by decide), hbb⟩, let ⟨mc, h1, h2⟩ := hlim; ⟨mc, nsK h1 (by decide), h2⟩⟩
  have e0 : Env0 P w K mg (hidT s₁.heap H) callerA [] s₁ H := ⟨rfl, hM, fun b o e => of_hidT e, Nat.le_of_eq (hidT_size _ _), trivial, fun b hb => absurd (show b ∈ ([] : List Addr) from hb) (by simp), hok, .of_eq hg⟩
  refine codeAny_mono ((F _ hKb (nsK hns (by decide))).run callerA [] s₁ H ⟨[.ref a], []⟩ [.ref a] [.ref a] _ _ rfl hr e0 (hbind s₁ (.ref a)) (.cons rfl .nil) (hsp H hS hSq)) fun r s' h => ?_
  cases r with
  | error e => exact (cx_false h).elim
  | ok fl =>
    cases fl with
    | next => exact False.elim h
    | brk => exact False.elim h
    | cont => exact False.elim h
    | ret u =>
      obtain ⟨v, H', os, bare, un, hok', r', q⟩ := h
      obtain ⟨q1, q2⟩ := q
      subst q1
      obtain rfl : u = Value.bool true := r'
      have key : ∀ b o, s₁.heap.get? b = some o → s'.heap.get? b = some o := fun b o e => by
        cases q : H b with
        | none => exact un.keep b o e q (by intro z; exact absurd (show b ∈ ([] : List Addr) from z) (by simp)) (by simp)
        | some u =>
          rcases cases_ b u q with ⟨z, _⟩ | ⟨z, n, zu⟩
          · subst z
            rw [hso] at e; cases e
            exact (hok' _ _ q2).1
          · rw [zu] at q
            have z2 := un.frzs b _ _ q
            obtain ⟨e2, _⟩ := hok' b _ z2
            rw [z, ha] at e; cases e
            exact e2
      exact ⟨rfl, .of_keep key, os, bare⟩
/-- what is known of the law's promise at the head's heap h -/
def LawG (l : PySem.W.OpenLaw) (w : World) (K : PySem.W.Frag) (k n : Nat) (x : Str) (mg : Str → Option Value) (fa : Addr) (h : Heap) : Prop :=
  ∃ (fd : FuncData) (so : Obj) (sp : Sp), K.lookup sysModules = none ∧ h.get? sysModules = some so ∧ (∀ vs n, so.data ≠ .seq vs n) ∧ (∀ (s : Shared) (u : Value), BindsTo s fd ⟨[u], []⟩ [(x, u)]) ∧
    (∀ (H : Hp) (a : Addr) (ns : List Int), ns.length ≤ n → H sysModules = some (sysH so) → SqL K H a (ns.map V.int) → sp [.ref a] H (okV so) fun _ _ _ => False) ∧
    ∀ base : Heap, K.In base → base.Ns mainGlobals mg → FnG l.prog w K mg base (L2.CX l.prog w) k fa fd [x] sp
theorem walk_G {l : PySem.W.OpenLaw} {n k : Nat} {q : Program} {loose : List Str} {XP : (Str → Option Value) → Heap → Prop} {YP : World → Heap → Prop} {d : DefRec} {x : Str}
    (hn : l.most = some n) (hn2 : n ≤ sizeLine) (hdf : d.params.defaults = []) (hr : Room k callerA)
    (F : ∀ (w : World) (mg : Str → Option Value) (fa : Addr) (h : Heap), YP w h → h.Ns mainGlobals mg → mg d.name = some (.ref fa) → ∃ K : PySem.W.Frag, K.In h ∧ LawG l w K k n x mg fa h) :
    PySem.W.WalkO q loose XP YP l.row.toRowW d [] (fun f vs => PySem.call f vs) := by
  refine Att.attach_callB hn hdf fun w s₀ s₁ mg mb fa o pm cd doc a vs ns G Y ho hd hcd hmg hobj hints hlen hbits hg => ?_
  obtain ⟨K, KX, fd, so, sp, hK, hso, hsd, hb, hsp, hF⟩ := F w mg fa _ Y G.T.g hmg
  exact law_topG KX G.T.g G.T.b G.T.builtins G.T.nolimit hg hK hso hsd hobj hints (Nat.le_trans hlen hn2) hr hF hb fun H h1 h2 => hsp H a ns hlen h1 h2
/-! ### the Hook: facts, defs, one more Bool over the part; what the loader keeps left out -/
/-- what the names reach, the statics beside -/
def asP (g : Addr → Option Obj) (n : Nat) : List Addr := (He.asD g n ++ [cStatics]).filter fun a => !(a == sysModules)
def sysB (g : Addr → Option Obj) : Bool := match g sysModules with
  | some o => (match o.data with
    | .seq _ _ => false
    | _ => true)
  | none => false
/-! methods that name their class: super() -/
abbrev FnC : Type := Option (Str × Str × Arguments × FuncBody × Scope × Addr × List Str × Addr × Bool)
def noV : Value → Bool
  | .none => true
  | _ => false
theorem noV_eq {v : Value} (h : noV v = true) : v = .none := by cases v <;> first | rfl | cases h
def fnC (K : PySem.W.Frag) (a : Addr) : FnC := match K.lookup a with
  | some ⟨_, _, .func fd, _⟩ => some (fd.name, fd.qualname, fd.params, fd.body, fd.scope, fd.globals, fd.closure.map (·.1), fd.builtins, noV fd.defaults && noV fd.kwdefaults)
  | _ => none
abbrev mA (K : PySem.W.Frag) (C m : Str) : Addr := He.ma K (He.ga K C) m
/-- one such method: its class, its name, its qualified name, parameters, body, scope -/
structure MeD where
  cls : Str
  name : Str
  qual : Str
  params : Arguments
  body : List Stmt
  scope : Scope
  ad : PySem.W.Frag → Addr := fun K => mA K cls name
  clo : List Str := ["__class__"]
def MeD.val (d : MeD) : FnC := some (d.name, d.qual, d.params, .stmts d.body, d.scope, mainGlobals, d.clo, builtinsNs, true)
abbrev AlP : Type := He.AlD × (List FnC × Bool)
def obsP (n : Nat) (fa : List He.Fa) (fn : List He.DefD) (me : List MeD) (ex : PySem.W.Frag → Bool) (g : Addr → Option Obj) : AlP := (He.obsD fa fn (He.frG g (asP g n)), me.map fun d => fnC (He.frG g (asP g n)) (d.ad (He.frG g (asP g n))), ex (He.frG g (asP g n)) && sysB g)
def valP (fn : List He.DefD) (me : List MeD) : AlP := (He.valD fn, me.map MeD.val, true)
structure SaysP (fa : List He.Fa) (fn : List He.DefD) (me : List MeD) (ex : PySem.W.Frag → Bool) (h : Heap) (K : PySem.W.Frag) : Prop where
  d : He.SaysD fa fn K
  me : (me.map fun d => fnC K (d.ad K)) = me.map MeD.val
  more : ex K = true
  no : K.lookup sysModules = none
  sys : ∃ so, h.get? sysModules = some so ∧ ∀ vs n, so.data ≠ .seq vs n
theorem SaysP.meth {fa : List He.Fa} {fn : List He.DefD} {me : List MeD} {ex : PySem.W.Frag → Bool} {h : Heap} {K : PySem.W.Frag} (c : SaysP fa fn me ex h K) {d : MeD} (hd : d ∈ me) : fnC K (d.ad K) = d.val := by
  obtain ⟨i, hi, e⟩ := List.mem_iff_getElem.mp hd
  have e2 : (me.map fun d => fnC K (d.ad K))[i]? = (me.map MeD.val)[i]? := by rw [c.me]
  rw [List.getElem?_map, List.getElem?_map, List.getElem?_eq_getElem hi, e] at e2
  exact Option.some.inj e2
theorem frG_key {g : Addr → Option Obj} {as : List Addr} {a : Addr} {o : Obj} (h : (He.frG g as).lookup a = some o) : a ∈ as := by
  have h2 := He.lookup_mem h
  unfold He.frG at h2
  obtain ⟨b, hb, e⟩ := List.mem_filterMap.mp h2
  cases q : g b with
  | none => rw [q] at e; cases e
  | some u => rw [q] at e; cases e; exact hb
theorem asP_no {g : Addr → Option Obj} {n : Nat} : (He.frG g (asP g n)).lookup sysModules = none := by
  cases q : (He.frG g (asP g n)).lookup sysModules with
  | none => rfl
  | some o =>
    have h := frG_key q
    unfold asP at h
    have h2 := (List.mem_filter.mp h).2
    simp at h2
theorem saysP_of {n : Nat} {fa : List He.Fa} {fn : List He.DefD} {me : List MeD} {ex : PySem.W.Frag → Bool} {h : Heap} (e : obsP n fa fn me ex h.get? = valP fn me) : SaysP fa fn me ex h (He.frG h.get? (asP h.get? n)) := by
  have e1 : He.obsD fa fn (He.frG h.get? (asP h.get? n)) = He.valD fn := congrArg (fun z : AlP => z.1) e
  have e2 : (ex (He.frG h.get? (asP h.get? n)) && sysB h.get?) = true := congrArg (fun z : AlP => z.2.2) e
  have e3 : (me.map fun d => fnC (He.frG h.get? (asP h.get? n)) (d.ad (He.frG h.get? (asP h.get? n)))) = me.map MeD.val := congrArg (fun z : AlP => z.2.1) e
  obtain ⟨h1, h2⟩ := He.ba e2
  refine ⟨e1, e3, h1, asP_no, ?_⟩
  unfold sysB at h2
  cases q : h.get? sysModules with
  | none => rw [q] at h2; cases h2
  | some o =>
    rw [q] at h2
    refine ⟨o, rfl, fun vs n z => ?_⟩
    have h3 : (match o.data with
      | .seq _ _ => false
      | _ => true) = true := h2
    rw [z] at h3
    cases h3
def hookP (n : Nat) (fa : List He.Fa) (fn : List He.DefD) (me : List MeD) (ex : PySem.W.Frag → Bool) : PySem.W.Hook where
  α := AlP
  obs := fun s => obsP n fa fn me ex s.heap.get?
  val := fun _ => valP fn me
  says := fun _ h => ∃ K : PySem.W.Frag, K.In h ∧ SaysP fa fn me ex h K
  of := fun _ _ e => ⟨_, He.frG_in, saysP_of e⟩
  keeps := fun _ _ _ ⟨K, hK, c⟩ k => ⟨K, PySem.W.Frag.In.keeps hK k, ⟨c.d, c.me, c.more, c.no, c.sys.imp fun so z => ⟨k _ _ z.1, z.2⟩⟩⟩
theorem obsP_eq {n : Nat} {fa : List He.Fa} {fn : List He.DefD} {me : List MeD} {ex : PySem.W.Frag → Bool} {g : Addr → Option Obj} {s : Shared} (h : ∀ a, g a = s.heap.get? a) : obsP n fa fn me ex g = (hookP n fa fn me ex).obs s := by
  have e : g = s.heap.get? := funext h
  rw [e] <;> rfl
end PD

set_option Elab.async false
set_option linter.all false
set_option maxRecDepth 100000
set_option maxHeartbeats 2000000
/-! PD, seventeenth part: the draw begun; the law's own def -/
namespace PD
open PySem PySem.Spec PyProof.Rows L2

/-- no shared things -/
def Om0 : Om where
  own _ := False
  inv _ := True
  loc _ _ _ _ _ := trivial
  nt _ _ _ _ h := h.elim
  drw := .non
  fz _ := none
/-- the tables left out -/
def ntH (H : Hp) : Hp := fun a => match H a with
  | some (.tbl _) => none
  | o => o
theorem ntH_sub {H : Hp} : Sub (ntH H) H := fun a o e => by
  unfold ntH at e
  split at e
  · cases e
  · exact e
theorem ntH_of {H : Hp} {a : Addr} {o : HO} (e : H a = some o) (h : ∀ ps, o ≠ .tbl ps) : ntH H a = some o := by
  unfold ntH
  split
  · rename_i ps q; rw [e] at q; exact absurd (Option.some.inj q) (h ps)
  · exact e
theorem ntH_tb {H : Hp} : ∀ a ps, ntH H a ≠ some (.tbl ps) := fun a ps e => by
  unfold ntH at e
  split at e
  · cases e
  · rename_i q; exact q ps e
theorem ntH_sqL {K : PySem.W.Frag} {H : Hp} {a : Addr} {vs : List V} (h : SqL K H a vs) : SqL K (ntH H) a vs := by
  rcases h with (h | ⟨o, h⟩) | h
  · exact .inl (.inl (ntH_of h fun _ z => by cases z))
  · exact .inl (.inr ⟨o, ntH_of h fun _ z => by cases z⟩)
  · exact .inr h
theorem pre0 (H : Hp) : Pre Om0 (ntH H) H := ⟨ntH_sub, trivial, fun _ h => h.elim, fun _ h => h.elim, fun _ _ e => (by cases e), ntH_tb⟩
/-- a draw begun: three fresh objects -/
structure Begun (H : Hp) (p l m : Addr) (large cells : List Int) (H' : Hp) : Prop where
  hp : H p = none
  hl : H l = none
  hm : H m = none
  pl : p ≠ l
  pm : p ≠ m
  lm : l ≠ m
  dp : H' p = some (.dK (dkv l m 0 0))
  dl : H' l = some (.lst (large.map V.int))
  dm : H' m = some (.lst (cells.map V.int))
  keep : ∀ b o, H b = some o → H' b = some o
  posL : ∀ z ∈ large, 0 ≤ z
  fewL : large.length ≤ 1000
  posC : ∀ z ∈ cells, 0 ≤ z
  fewC : cells.length ≤ 1000
def spBegun (K : PySem.W.Frag) : Sp := fun vs H Q _ => ∃ (a : Addr) (ns : List Int), vs = [.ref a] ∧ SqL K H a (ns.map V.int) ∧ ns.length ≤ 1000 ∧ ∀ p l m large cells H', Begun H p l m large cells H' → Q (.ref p) H'
abbrev c0 (H : Hp) : Ct := ⟨Om0, ⟨ntH H, H, none⟩⟩
def trB (H : Hp) (K : PySem.W.Frag) (w2 : WE) : List (TE × TE) := [(tC (.str "large"), tVar 1), (tC (.str "rest"), tC (.int 0)), (tC (.str "cells"), lE (c0 H) K w2), (tC (.str "turn"), tC (.int 0))]
abbrev dB (ns : List Int) : List Sl := [.fro (.kls (ns.map D.int)), .no, .no]
abbrev dB1 (ns large : List Int) : List Sl := [.fro (.kls (ns.map D.int)), .own (.lst (large.map D.int)), .no]
theorem ints_of {Ω : Om} {K : PySem.W.Frag} {G : Hp} : ∀ {zs : List Int} {vs : List V}, Rps Ω K G (zs.map D.int) vs → vs = zs.map V.int
  | [], _, h => h
  | z :: zs, _, ⟨v, r, e, h1, h2⟩ => by
    have h3 : v = .int z := h1
    rw [e, h3, ints_of h2]; rfl
theorem putK_new {k : Key} {v : V} : ∀ {kvs : List (Key × V)}, (∀ q ∈ kvs, q.1 ≠ k) → putK kvs k v = kvs ++ [(k, v)] := fun {kvs} h => by
  unfold putK
  rw [if_neg]
  intro z
  obtain ⟨q, h1, h2⟩ := List.any_eq_true.mp z
  exact h q h1 (by simpa using h2)
theorem merge_dkv {l m : Addr} : mergeK [] (dkv l m 0 0) = dkv l m 0 0 := by
  show putK (putK (putK (putK [] (Sum.inr "large" : Key) (.ref l)) (Sum.inr "rest" : Key) (.int 0)) (Sum.inr "cells" : Key) (.ref m)) (Sum.inr "turn" : Key) (.int 0) = _
  rw [putK_new (kvs := []) (by simp), putK_new (kvs := [] ++ _), putK_new (kvs := ([] ++ _) ++ _), putK_new]
  · rfl
  all_goals
    intro q hq
    simp only [List.nil_append, List.cons_append, List.mem_cons, List.not_mem_nil, or_false] at hq
  · rcases hq with rfl | rfl | rfl <;> exact kne (by decide)
  · rcases hq with rfl | rfl <;> exact kne (by decide)
  · rw [hq]; exact kne (by decide)
theorem begun_pure {K : PySem.W.Frag} {N : List Str} {H : Hp} {a : Addr} {ns : List Int} {w1 : WS} {w2 : WE} {Z0 : Ends} (hN : N.length = 3) (hS : SqL K H a (ns.map V.int)) (hn : ns.length ≤ 1000)
    (h1 : ∀ Z : DE, (∀ large : List Int, (∀ z ∈ large, 0 ≤ z) → large.length ≤ ns.length → Z.nx (dB1 ns large)) → w1 Z (dB ns))
    (h2 : ∀ (large : List Int) (Q : D → Bool → List Sl → Prop), (∀ cells : List Int, (∀ z ∈ cells, 0 ≤ z) → cells.length ≤ ns.length → Q (.lst (cells.map D.int)) true (dB1 ns large)) → w2 (dB1 ns large) Q)
    (hQ : ∀ p l m large cells H', Begun H p l m large cells H' → Z0.rt (.ref p) H') :
    tSeq (lS (c0 H) K w1) (tRet (tDisp (trB H K w2))) Z0 (L2.start N [.ref a]) H := by
  have S0 := sr_start (N := N) (K := K) (ds := [.kls (ns.map D.int)]) (vs := [.ref a]) (pre0 H) ⟨_, [], rfl, ⟨a, _, rfl, ntH_sqL hS, rps_ints ns⟩, rfl⟩ (by rw [hN]; exact (by decide : 1 ≤ 3))
  have eN : ([D.kls (ns.map D.int)].map Sl.fro ++ List.replicate (N.length - [D.kls (ns.map D.int)].length) Sl.no) = dB ns := by rw [hN]; rfl
  rw [eN] at S0
  refine ⟨ntH H, _, S0, ⟨fun δ => ∃ large : List Int, (∀ z ∈ large, 0 ≤ z) ∧ large.length ≤ ns.length ∧ δ = dB1 ns large, fun _ _ => False, fun _ => False, fun _ => False⟩, h1 _ fun large a b => ⟨large, a, b, rfl⟩, ?_, fun _ _ _ _ _ _ _ z => z.elim, fun _ _ _ _ _ _ z => z.elim, fun _ _ _ _ _ _ z => z.elim⟩
  intro σ1 δ1 G1 H1 S1 _ ⟨large, pL, fL, e1⟩
  subst e1
  obtain ⟨l, l1, l2, l3⟩ := S1.own 1 _ rfl
  have lf : H l = none := l3.1.resolve_right (fun z => by cases z)
  have kp1 : ∀ b o, H b = some o → H1 b = some o := fun b o e => (S1.out.kp b o e (fun z => z) (fun z => by cases z)).1
  obtain ⟨ol, hl1, vsl, hl2, hl3⟩ := l2.ob
  have hl2' := ints_of hl3
  subst hl2'
  subst hl2
  intro p hp
  have pf : H p = none := by
    cases q : H p with
    | none => rfl
    | some o => rw [kp1 p o q] at hp; cases hp
  have pl : p ≠ l := fun z => by rw [z, hl1] at hp; cases hp
  have nOwn : ¬ OwnAt σ1 (dB1 ns large) p := fun ⟨i, d, z1, z2⟩ => by
    match i, z1 with
    | 0, z1 => cases z1
    | 1, z1 => rw [l1] at z2; cases z2; exact pl rfl
    | 2, z1 => cases z1
    | (j + 3), z1 => cases z1
  have S2 : SR (c0 H) K G1 (upd H1 p (.dK [])) σ1 (dB1 ns large) := S1.put (S1.out.gone hp) (fun z => z) nOwn (.inl pf) (fun φ z => by rw [hp] at z; cases z)
  refine ⟨_, l1, G1, _, S2, h2 large _ fun cells pC fC v G3 H3 S3 k3 r3 => ?_⟩
  obtain ⟨m, em, mf, ow, _⟩ := r3.own rfl
  subst em
  obtain ⟨om, hm1, vsm, hm2, hm3⟩ := ow.ob
  have hm2' := ints_of hm3
  subst hm2'
  subst hm2
  have mp : p ≠ m := fun z => by rw [← z, upd_same] at mf; cases mf
  have mf1 : H1 m = none := by rw [upd_ne (Ne.symm mp)] at mf; exact mf
  have lm : l ≠ m := fun z => by rw [← z, hl1] at mf1; cases mf1
  have mf0 : H m = none := by
    cases q : H m with
    | none => rfl
    | some o => rw [kp1 m o q] at mf1; cases mf1
  have hp3 : H3 p = some (.dK []) := (k3.kp p _ upd_same (fun z => z) nOwn).1
  obtain ⟨l', l1', l2', l3'⟩ := S3.own 1 _ rfl
  have el : l' = l := by rw [l1] at l1'; cases l1'; rfl
  subst el
  obtain ⟨ol', hl1', vsl', hl2', hl3'⟩ := l2'.ob
  have hl4 := ints_of hl3'
  subst hl4
  subst hl2'
  refine ⟨hp3, dkv l' m 0 0, rfl, (by decide : 4 ≤ 15), ?_⟩
  have em := merge_dkv (l := l') (m := m)
  rw [em]
  exact hQ p l' m large cells _ ⟨pf, lf, mf0, pl, mp, lm, upd_same, by rw [upd_ne (Ne.symm pl)]; exact hl1', by rw [upd_ne (Ne.symm mp)]; exact hm1,
    fun b o e => by
      have nb : b ≠ p := fun z => by rw [z, pf] at e; cases e
      rw [upd_ne nb]
      exact (S3.out.kp b o e (fun z => z) (fun z => by cases z)).1, pL, by omega, pC, by omega⟩
end PD

set_option Elab.async false
set_option linter.all false
set_option maxRecDepth 100000
set_option maxHeartbeats 2000000
/-! PD, eighteenth part: the law's own def -/
namespace PD
open PySem PySem.Spec PyProof.Rows L2

section
variable {P : Program} {w : World} {K : PySem.W.Frag} {mg : Str → Option Value} {base : Heap} {k : Nat}
/-- a def's promise, by its body's walk -/
theorem fn_ps {x qual : Str} {params : Arguments} {body : List Stmt} {scope : Scope} {f : Addr} {fd : FuncData} {dvs : List V} {N ps : List Str} {sp : Sp} (Fd : FunD K x qual params body scope dvs [] f fd) (S : FnScope N ps scope) (len : ∀ vs H Q E, sp vs H Q E → vs.length = ps.length)
    (hb : ∀ (A : Around) (outer : List Env) (s : Shared) (H : Hp) (vs : List V) (Q : VK) (E : XK), A.guards = some [] → Room k (A.deeper (envOfC qual scope s.heap.objs.size f fd.code)) → sp vs H Q E →
      ∃ t, PSs (bx P w K mg base N qual scope f fd.code A outer s H E) body t ∧ t { nx := fun _ H' => Q .non H', rt := Q } (L2.start N vs) H) : FnG P w K mg base (L2.CX P w) (k + 1) f fd ps sp := by
  obtain ⟨oc, od, dV, kV, doc, pm, an, cdv, ct, osl, rfl, lk, hcd, _, _⟩ := Fd.ex
  exact ⟨len, fun A outer s H args us vs Q E hg hr e0 hbt rv h => LamX.run_ofS lk hcd S hr e0 hbt rv (len _ _ _ _ h) fun hr' => hb A outer s H vs Q E hg hr' h⟩
end
section
variable {X : Cx} {c : Ct} {k : Nat} {x : Str} {e : Expr} {es : List Expr} {p pos : Pos} {ps : List Str} {f : Addr} {fd : FuncData} {sp : Sp} {t : TA}
theorem pe_callG (ok : FnG X.prog X.w X.K X.mg X.base (L2.CX X.prog X.w) k f fd ps sp) (hgd : X.A.guards = some []) (hr : Room k X.A) (hg : Gl X x) (hm : X.mg x = some (.ref f)) (hk : PySem.W.keepIn X.K (.ref f) = true) (hb : Binds X.K fd ps []) (c : Ct)
    (ha : PA X (e :: es) t) (hdb : (x == ("__debug__" : Str)) = false := by decide) (he : starEach (e :: es) X.env = (false, eval e X.env) :: starEach es X.env := by rfl) (hpl : (backTo pos (starEach es X.env)).any (·.1) = false := by rfl) :
    PE X (.Call (.Name x p) (e :: es) [] pos) (fun σ H Q => t σ H fun vs H1 => sp vs H1 Q (L2.WE (wishD c X.K xw0) σ)) := by
  refine ⟨fun pins s σ H Q I h => ?_⟩
  refine wpAny_Call_Name_kw (ld_glob I hg hm ?_ hdb)
  refine PySem.W.callWith_K (h₀ := X.base) I.ok.mod.kin hk (thn (ha.run pos pins s σ H (fun vs H1 => sp vs H1 Q (L2.WE (wishD c X.K xw0) σ)) I h) fun us s1 ⟨vs, H1, I1, r, q⟩ => ⟨I1.kIn, ?_⟩) he hpl
  exact run_pos (E := L2.WE (wishD c X.K xw0)) ok hgd hr hb (passAt takesD0 σ) I1 r q
end
theorem qe_pe {X : Cx} {c : Ct} {e : Expr} {w : WE} (h : QE X c e w) : PE X e (lE c X.K w) := h.pe
theorem qs_ps {X : Cx} {c : Ct} {st : Stmt} {w : WS} (h : QS X c st w) : PS X st (lS c X.K w) := h.ps
abbrev TbL : Type := List (Addr × Str)
/-- the world of a draw with these tables -/
def DrawT (T : TbL) (Ω : Om) : Prop := ∃ p l m cells so, DrawW Ω p l m cells T so
theorem DrawT.o {T : TbL} {Ω : Om} (h : DrawT T Ω) : DrawO Ω := let ⟨p, l, m, cells, so, h⟩ := h; ⟨p, l, m, cells, T, so, h⟩
def spLaw (T : TbL) (K : PySem.W.Frag) (so : Obj) : Sp := fun vs H Q _ => ∃ (a : Addr) (ns : List Int), vs = [.ref a] ∧ ns.length ≤ 1000 ∧ SqL K H a (ns.map V.int) ∧ H sysModules = some (sysH so) ∧ (∀ q ∈ T, H q.1 = some (.tbl #[])) ∧ ∀ H', H' sysModules = some (sysH so) → Q (.bl true) H'
theorem spLaw.len {T : TbL} {K : PySem.W.Frag} {so : Obj} : ∀ vs H Q E, spLaw T K so vs H Q E → vs.length = 1 := fun vs H Q E ⟨a, ns, e, _⟩ => by rw [e]; rfl
theorem spBegun.len {K : PySem.W.Frag} : ∀ vs H Q E, spBegun K vs H Q E → vs.length = 1 := fun vs H Q E ⟨a, ns, e, _⟩ => by rw [e]; rfl
/-- the slots behind the first line -/
def dL (n : Nat) (ns : List Int) : List Sl := .fro (.kls (ns.map D.int)) :: .fro .drw :: List.replicate (n - 2) .no
/-- what the law is to end with -/
def endL : DE := ⟨fun _ => False, fun d _ => d = .bl true, fun _ => False, fun _ => False⟩
def tRest (T : TbL) (K : PySem.W.Frag) (w : WS) : TS := fun D σ H => ∃ c : Ct, DrawT T c.Om ∧ SysO c.Om ∧ lS c K w D σ H
theorem pss_rest {T : TbL} {X : Cx} {rest : List Stmt} {w : WS} (h : ∀ c : Ct, DrawT T c.Om → SysO c.Om → QSs X c rest w) : PSs X rest (tRest T X.K w) :=
  ⟨fun pins s σ H D I ⟨c, h1, h2, h3⟩ => (h c h1 h2).ps.run pins s σ H D I h3⟩
open Classical in
/-- what is frozen when the draw is begun: all but the draw's own -/
noncomputable def gL (p l : Addr) (H : Hp) : Hp := fun b => if b = p ∨ b = l ∨ ∃ ps, H b = some (.tbl ps) then none else H b
theorem rest_pure {T : TbL} {K : PySem.W.Frag} {so : Obj} {n : Nat} {w : WS} {H H' : Hp} {a p l m : Addr} {ns large cells : List Int} {σ : L2.St} {Q : VK} (B : Begun H p l m large cells H') (hn : 2 ≤ n) (hS : SqL K H a (ns.map V.int)) (hs : H sysModules = some (sysH so)) (hT : ∀ q ∈ T, H q.1 = some (.tbl #[])) (hw : w endL (dL n ns))
    (e0 : σ[0]? = some (some (.ref a))) (e1 : σ[1]? = some (some (.ref p))) (el : σ.length = n) (hQ : ∀ H', H' sysModules = some (sysH so) → Q (.bl true) H') {nx : L2.St → Hp → Prop} : tRest T K w { nx := nx, rt := Q } σ H' := by
  have ne : ∀ {b o}, H b = some o → b ≠ p ∧ b ≠ l ∧ b ≠ m := fun {b o} e => ⟨fun z => (by rw [z, B.hp] at e; cases e), fun z => (by rw [z, B.hl] at e; cases e), fun z => (by rw [z, B.hm] at e; cases e)⟩
  have g1 : ∀ {b o}, H b = some o → (∀ ps, o ≠ .tbl ps) → gL p l H' b = some o := fun {b o} e nt => by
    unfold gL
    have k := B.keep b o e
    rw [if_neg (fun z => z.elim (ne e).1 fun z => z.elim (ne e).2.1 fun ⟨ps, z⟩ => nt ps (by rw [k] at z; exact Option.some.inj z))]
    exact k
  have g2 : gL p l H' m = some (.lst (cells.map V.int)) := by
    unfold gL
    rw [if_neg (fun z => z.elim (fun z => B.pm z.symm) (fun z => z.elim (fun z => B.lm z.symm) fun ⟨ps, z⟩ => by rw [B.dm] at z; cases z))]
    exact B.dm
  have g3 : Sub (gL p l H') H' := fun b o e => by
    unfold gL at e
    split at e
    · cases e
    · exact e
  have sm : sysModules ≠ m := (ne hs).2.2
  refine ⟨⟨drawOm p l m cells T so tabs_tbl, ⟨gL p l H', fun _ => none, none⟩⟩, ⟨p, l, m, cells, so, ⟨rfl, B.pl, fun q hq => ⟨(ne (hT q hq)).1, (ne (hT q hq)).2.1⟩, B.posC, B.fewC⟩⟩, ⟨_, (if_neg sm).trans (if_pos rfl)⟩, gL p l H', dL n ns, ?_, endL, hw, fun _ _ _ _ _ _ z => z.elim, fun v d o G2 H2 ho hr z => ?_, fun _ _ _ _ _ _ z => z.elim, fun _ _ _ _ _ _ z => z.elim⟩
  · have dl : ∀ i s, (dL n ns)[i]? = some s → i = 0 ∧ s = .fro (.kls (ns.map D.int)) ∨ i = 1 ∧ s = .fro .drw ∨ s = .no := fun i s e => by
      match i, e with
      | 0, e => cases e; exact .inl ⟨rfl, rfl⟩
      | 1, e => cases e; exact .inr (.inl ⟨rfl, rfl⟩)
      | j + 2, e =>
        have e' : (List.replicate (n - 2) Sl.no)[j]? = some s := e
        rw [List.getElem?_replicate] at e'
        split at e' <;> cases e'
        exact .inr (.inr rfl)
    refine ⟨⟨g3, ⟨⟨0, 0, large, by decide, by decide, B.posL, B.fewL, B.dp, B.dl⟩, fun q hq => LamX.TabS.nil (B.keep _ _ (hT q hq))⟩, fun b hb => ?_, fun b hb => ?_, fun b o e => ?_, Sub.refl _, fun b o e => (by cases e), fun b ps e => ?_⟩, ?_, fun i d e => ?_, fun i d e => ?_, fun i j d e q h1 => ?_⟩
    · rcases hb with hb | hb | ⟨q, hq, eq⟩
      · exact if_pos (.inl hb)
      · exact if_pos (.inr (.inl hb))
      · exact if_pos (.inr (.inr ⟨_, by rw [← eq]; exact B.keep _ _ (hT q hq)⟩))
    · rcases hb with hb | hb | ⟨q, hq, eq⟩
      · exact ⟨_, by rw [hb]; exact B.dp⟩
      · exact ⟨_, by rw [hb]; exact B.dl⟩
      · exact ⟨_, by rw [← eq]; exact B.keep _ _ (hT q hq)⟩
    · have e' : (if b = m then some (HO.lst (cells.map V.int)) else if b = sysModules then some (sysH so) else none) = some o := e
      split at e'
      · rename_i hb; cases e'; rw [hb]; exact g2
      · split at e'
        · rename_i hb; cases e'; rw [hb]; exact g1 hs (fun _ z => by cases z)
        · cases e'
    · unfold gL at e
      split at e
      · cases e
      · rename_i q; exact q (.inr (.inr ⟨ps, e⟩))
    · rw [el]; unfold dL; simp only [List.length_cons, List.length_replicate]; omega
    · rcases dl i _ e with ⟨rfl, z⟩ | ⟨rfl, z⟩ | z
      · cases z
        refine ⟨.ref a, e0, a, ns.map V.int, rfl, ?_, rps_ints ns⟩
        rcases hS with (h | ⟨o, h⟩) | h
        · exact .inl (.inl (g1 h fun _ z => by cases z))
        · exact .inl (.inr ⟨o, g1 h fun _ z => by cases z⟩)
        · exact .inr h
      · cases z; exact ⟨.ref p, e1, rfl⟩
      · cases z
    · rcases dl i _ e with ⟨_, z⟩ | ⟨_, z⟩ | z <;> cases z
    · rcases dl i _ h1 with ⟨_, z⟩ | ⟨_, z⟩ | z <;> cases z
  · have zd : d = .bl true := z
    subst zd
    have ev : v = .bl true := by
      cases o with
      | false => exact hr.fro rfl
      | true =>
        obtain ⟨q, _, _, ow, _⟩ := hr.own rfl
        obtain ⟨o, _, z⟩ := ow.ob
        exact z.elim
    rw [ev]
    exact hQ _ (ho.sub _ _ (ho.fz _ _ ((if_neg sm).trans (if_pos rfl))))
section
variable {P : Program} {w : World} {K : PySem.W.Frag} {mg : Str → Option Value} {base : Heap} {k kb : Nat}
/-- THE RULE for the draw's beginning -/
theorem fn_begun {st : Stmt} {f : Addr} {fd : FuncData} {N ps : List Str} {x : Str} {w1 : WS} {w2 : WE} (Fd : FunD K x x (defArgs st) (defBody st) (defScope st) [] [] f fd) (S : FnScope N ps (defScope st)) (hN : N.length = 3) (hp : ps.length = 1)
    (h1 : ∀ (ns : List Int), ns.length ≤ 1000 → ∀ (Z : DE), (∀ large : List Int, (∀ z ∈ large, 0 ≤ z) → large.length ≤ ns.length → Z.nx (dB1 ns large)) → w1 Z (dB ns))
    (h2 : ∀ (ns : List Int), ns.length ≤ 1000 → ∀ (large : List Int) (Q : D → Bool → List Sl → Prop), (∀ cells : List Int, (∀ z ∈ cells, 0 ≤ z) → cells.length ≤ ns.length → Q (.lst (cells.map D.int)) true (dB1 ns large)) → w2 (dB1 ns large) Q)
    (hb : ∀ (A : Around) (outer : List Env) (s : Shared) (H : Hp) (E : XK), A.guards = some [] → Room k (A.deeper (envOfC x (defScope st) s.heap.objs.size f fd.code)) → PSs (bx P w K mg base N x (defScope st) f fd.code A outer s H E) (defBody st) (tSeq (lS (c0 H) K w1) (tRet (tDisp (trB H K w2))))) :
    FnG P w K mg base (L2.CX P w) (k + 1) f fd ps (spBegun K) :=
  fn_ps Fd S (fun vs H Q E h => by rw [hp]; exact spBegun.len vs H Q E h) fun A outer s H vs Q E hg hr ⟨a, ns, e, hS, hn, hQ⟩ => by
    subst e
    exact ⟨_, hb A outer s H E hg hr, begun_pure hN hS hn (h1 ns hn) (h2 ns hn) hQ⟩
/-- THE RULE for the law's def -/
theorem fn_law {T : TbL} {st s0 : Stmt} {rest : List Stmt} {f fB : Addr} {fd fdB : FuncData} {N ps : List Str} {x : Str} {so : Obj} {W : WS} {tb : TE} (Fd : FunD K x x (defArgs st) (defBody st) (defScope st) [] [] f fd) (S : FnScope N ps (defScope st)) (hN : 2 ≤ N.length) (hp : ps.length = 1) (hb : defBody st = s0 :: rest)
    (h0 : ∀ (A : Around) (outer : List Env) (s : Shared) (H : Hp) (E : XK), A.guards = some [] → Room k (A.deeper (envOfC x (defScope st) s.heap.objs.size f fd.code)) →
      PS (bx P w K mg base N x (defScope st) f fd.code A outer s H E) s0 (tAsg (fun σ H' Q => tCons (tVar 0) tNil σ H' fun vs H1 => spBegun K vs H1 Q (L2.WE (wishD (c0 H) K xw0) σ)) (gName 1)))
    (h1 : ∀ (A : Around) (outer : List Env) (s : Shared) (H : Hp) (E : XK) (c : Ct), DrawT T c.Om → SysO c.Om → A.guards = some [] → Room k (A.deeper (envOfC x (defScope st) s.heap.objs.size f fd.code)) → QSs (bx P w K mg base N x (defScope st) f fd.code A outer s H E) c rest W)
    (hW : ∀ ns : List Int, ns.length ≤ 1000 → W endL (dL N.length ns)) : FnG P w K mg base (L2.CX P w) (k + 1) f fd ps (spLaw T K so) :=
  fn_ps Fd S (fun vs H Q E h => by rw [hp]; exact spLaw.len vs H Q E h) fun A outer s H vs Q E hg hr ⟨a, ns, e, hn, hS, hs, hT, hQ⟩ => by
    subst e
    refine ⟨_, by rw [hb]; exact pss_cons (h0 A outer s H E hg hr) (pss_rest fun c hd hs => h1 A outer s H E c hd hs hg hr), ?_⟩
    have el : (L2.start N [V.ref a]).length = N.length := by
      unfold L2.start
      simp only [List.length_append, List.length_map, List.length_replicate, List.length_cons, List.length_nil]
      omega
    refine ⟨.ref a, rfl, a, ns, rfl, hS, hn, fun p l m large cells H' B => ?_⟩
    refine rest_pure B hN hS hs hT (hW ns hn) ?_ ?_ (by rw [List.length_set]; exact el) hQ
    · rw [List.getElem?_set_ne (by decide)]; rfl
    · rw [List.getElem?_set_self (by rw [el]; omega)]
end
end PD

set_option Elab.async false
set_option linter.all false
set_option maxRecDepth 100000
set_option maxHeartbeats 2000000
/-! PD, nineteenth part: the errors' classes, by a look at the head -/
namespace PySem
namespace SwX
open PySem.W PySem.Calls PyProof.Rows PySem.HandSPX
/-- the class at C, as SwTxt says, but for its method -/
def swC (K : Frag) (f : Str) (C fI : Addr) : Bool := (match K.lookup C with
  | some ⟨.type "type", _, .cls cd, sl⟩ => (match cd.mro, sl.toList with
    | .ref C' :: bm, [_, _, _, _, some (.builtin n), _] => decide (C' = C) && (decide (n = "ValueError.__new__") && (!cd.hasDel && (cd.hasDict && (refsVE bm && He.eqO (alongIn K "__init__" bm) (some (some (.builtin "ValueError.__init__")))))))
    | _, _ => false)
  | _ => false)
def swB (K : Frag) (f : Str) (C fI : Addr) : Bool := swC K f C fI && (He.eqO (findIn K (.ref C) "__setattr__") (some (some (.builtin "object.__setattr__"))) && (He.eqO (findIn K (.ref C) f) (some none) && (He.eqO (findIn K (.ref C) "__init__") (some (some (.ref fI))) &&
  (decide (typeIn K (.ref fI) = some (.type "function")) && (keepIn K (.ref C) && (decide (subIn K (.ref C) (.type "BaseException") = some true) && (decide (typeIn K (.ref C) = some (.type "type")) && (hasDictIn K C && (decide (subIn K (.ref C) (.type "ValueError") = some true) &&
  (decide (mroIn K C (.ref C) = some true) && (He.eqO (nsIn K cStatics "thirdparty.any") (some none) && He.eqO (nsIn K mainGlobals "super") (some none))))))))))))
def swM2 (K : Frag) (file qual : Str) (C : Addr) (code : Value) (clo : List (Str × Addr)) : Bool := match code, clo with
  | .ref cda, [(_, cc)] => codeIn K (.ref cda) qual && ((match K.lookup cda with
    | some ⟨_, _, .fields vs, _⟩ => (match vs[2]? with
      | some (Value.str x _) => decide (x = file)
      | _ => false)
    | _ => false) && (match K.lookup cc with
    | some ⟨_, _, .cell (some (.ref C')), _⟩ => decide (C' = C)
    | _ => false))
  | _, _ => false
def swM (K : Frag) (file qual : Str) (C fI : Addr) : Bool := match K.lookup fI with
  | some ⟨_, _, .func fd, _⟩ => swM2 K file qual C fd.code fd.closure
  | _ => false
theorem swM2_ok {K : Frag} {file qual : Str} {C : Addr} {code : Value} {clo : List (Str × Addr)} (h : swM2 K file qual C code clo = true) : ∃ cda y cc ccl cdd vs ccs tf cl cld csl, code = .ref cda ∧ clo = [(y, cc)] ∧ codeIn K (.ref cda) qual = true ∧
    K.lookup cda = some ⟨ccl, cdd, .fields vs, ccs⟩ ∧ vs[2]? = some (.str file tf) ∧ K.lookup cc = some ⟨cl, cld, .cell (some (.ref C)), csl⟩ := by
  unfold swM2 at h
  split at h
  · rename_i cda y cc
    obtain ⟨c1, c2⟩ := Bool.and_eq_true_iff.mp h
    obtain ⟨c3, c4⟩ := Bool.and_eq_true_iff.mp c2
    split at c3
    · rename_i ccl cdd vs ccs lk
      split at c3
      · rename_i x tf lv
        split at c4
        · rename_i cl cld C' csl lc
          have e4 : C' = C := of_decide_eq_true c4
          have e5 : x = file := of_decide_eq_true c3
          subst e4; subst e5
          exact ⟨cda, y, cc, ccl, cdd, vs, ccs, tf, cl, cld, csl, rfl, rfl, c1, lk, lv, lc⟩
        · cases c4
      · cases c3
    · cases c3
  · cases h
/-- what is seen of the method's text -/
def MeTxt (f : Str) (d : PD.MeD) : Prop := ∃ (m : Str) (j : Nat) (p1 p2 a1 a2 a3 a4 a5 a6 q1 q2 q3 q4 : Pos), d.name = "__init__" ∧ d.params = iA f p1 p2 ∧ d.body = iB f m j a1 a2 a3 a4 a5 a6 q1 q2 q3 q4 ∧ d.scope = iS f ∧ (a3.endLine == a5.line) = true
theorem MeTxt.name {f : Str} {d : PD.MeD} (h : MeTxt f d) : d.name = "__init__" := by
  obtain ⟨_, _, _, _, _, _, _, _, _, _, _, _, _, _, h, _⟩ := h
  exact h
theorem ba {a b : Bool} (h : (a && b) = true) : a = true ∧ b = true := Bool.and_eq_true_iff.mp h
theorem swC_ok {K : Frag} {f : Str} {C fI : Addr} (h : swC K f C fI = true) :
    ∃ nm q N bs bm sn sub ab col dd k0 k1 k2 k3 k5, K.lookup C = some (excClassObj nm q C N bs bm true sn sub ab col dd k0 k1 k2 k3 k5 "ValueError.__new__") ∧ refsVE bm = true ∧ alongIn K "__init__" bm = some (some (.builtin "ValueError.__init__")) := by
  unfold swC at h
  split at h
  · rename_i dd cd sl ho
    split at h
    · rename_i C' bm k0 k1 k2 k3 n k5 hm hs
      obtain ⟨h1, h⟩ := ba h
      obtain ⟨h2, h⟩ := ba h
      obtain ⟨h3, h⟩ := ba h
      obtain ⟨h4, h⟩ := ba h
      obtain ⟨h5, h6⟩ := ba h
      have e1 : C' = C := of_decide_eq_true h1
      have e2 : n = "ValueError.__new__" := of_decide_eq_true h2
      subst e1; subst e2
      obtain ⟨nm, bs, mro, ns, qn, hd, sn, sub, ab, col, del⟩ := cd
      dsimp only at hm h3 h4
      have e3 : del = false := by cases del <;> first | rfl | cases h3
      subst hm; subst e3; subst h4
      have hsl : sl = #[k0, k1, k2, k3, some (.builtin "ValueError.__new__"), k5] := by
        obtain ⟨l⟩ := sl
        have e : l = _ := hs
        rw [e]
      subst hsl
      exact ⟨nm, qn, ns, bs, bm, sn, sub, ab, col, dd, k0, k1, k2, k3, k5, ho, h5, He.eqO_ok h6⟩
    · cases h
  · cases h
theorem swTxt_of {P : Program} {K : Frag} {f : Str} {C fI : Addr} {d : PD.MeD} (hb : swB K f C fI = true) (hm : swM K P.main.file d.qual C fI = true) (ht : (P.main.scope.names.lookup ("super" : Str)).isSome = false) (he : PD.fnC K fI = d.val) (hclo : d.clo = (["__class__"] : List Str)) (hx : MeTxt f d) : SwTxt P K f C fI := by
  unfold swB at hb
  obtain ⟨b1, hb⟩ := ba hb
  obtain ⟨b2, hb⟩ := ba hb
  obtain ⟨b3, hb⟩ := ba hb
  obtain ⟨b4, hb⟩ := ba hb
  obtain ⟨b5, hb⟩ := ba hb
  obtain ⟨b6, hb⟩ := ba hb
  obtain ⟨b7, hb⟩ := ba hb
  obtain ⟨b8, hb⟩ := ba hb
  obtain ⟨b9, hb⟩ := ba hb
  obtain ⟨b10, hb⟩ := ba hb
  obtain ⟨b11, hb⟩ := ba hb
  obtain ⟨b12, b13⟩ := ba hb
  refine ⟨swC_ok b1, He.eqO_ok b2, He.eqO_ok b3, He.eqO_ok b4, of_decide_eq_true b5, b6, of_decide_eq_true b7, of_decide_eq_true b8, b9, of_decide_eq_true b10, of_decide_eq_true b11, He.eqO_ok b12, He.eqO_ok b13, ht, ?_⟩
  obtain ⟨m, j, p1, p2, a1, a2, a3, a4, a5, a6, q1, q2, q3, q4, x0, x1, x2, x3, x4⟩ := hx
  unfold swM at hm
  unfold PD.fnC at he
  cases q : K.lookup fI with
  | none => rw [q] at hm; cases hm
  | some o =>
    obtain ⟨oc, od, dt, osl⟩ := o
    rw [q] at hm he
    cases dt with
    | func fd =>
      obtain ⟨n1, n2, n3, n4, n5, n6, n7, n8, n9, n10, n11, n12, n13, n14, n15⟩ := fd
      have he2 : (some (n1, n2, n3, n4, n5, n6, n7.map (·.1), n15, PD.noV n8 && PD.noV n9) : PD.FnC) = d.val := he
      unfold PD.MeD.val at he2
      rw [hclo] at he2
      simp only [Option.some.injEq, Prod.mk.injEq] at he2
      obtain ⟨y1, y2, y3, y4, y5, y6, y7, y8, y9⟩ := he2
      obtain ⟨z8, z9⟩ := ba y9
      have z8 := PD.noV_eq z8
      have z9 := PD.noV_eq z9
      subst y1 y2 y3 y4 y5 y6 y8 z8 z9
      obtain ⟨cda, y, cc, ccl, cdd, vs, ccs, tf, cl, cld, csl, rfl, rfl, c1, lk, lv, lc⟩ := swM2_ok hm
      have ey : y = ("__class__" : Str) := List.head_eq_of_cons_eq y7
      subst ey
      exact ⟨oc, ccl, cl, od, cdd, cld, n10, n11, n14, n12, osl, ccs, csl, cc, cda, vs, _, tf, d.qual, m, j, p1, p2, a1, a2, a3, a4, a5, a6, q1, q2, q3, q4, by rw [x0, x1, x2, x3] <;> rfl, c1, lk, lv, beq_self_eq_true _, lc, x4⟩
    | _ => cases hm
end SwX
end PySem
namespace PD
open PySem PySem.Spec PyProof.Rows L2
/-! ### an error's class -/
def knB (K : PySem.W.Frag) (C : Nat) : Bool := decide (C < nCls) && (match PySem.W.nsIn K mainGlobals (cName C) with
  | some (some (.ref _)) => true
  | _ => false)
theorem knB_ok {K : PySem.W.Frag} {C : Nat} (h : knB K C = true) : KnC K C := let ⟨a, b⟩ := He.ba h; ⟨of_decide_eq_true a, b⟩
theorem knB_of {K : PySem.W.Frag} {C : Nat} (h : KnC K C) : knB K C = true := Bool.and_eq_true_iff.mpr ⟨decide_eq_true h.1, h.2⟩
def tysB : List String := ["NoneType", "bool", "int", "str", "list", "tuple", "dict"]
def tykB (K : PySem.W.Frag) (C : Nat) : Bool := tysB.all fun t => decide (PySem.W.kitOne K (.type t) (.ref (cA K C)) = some false)
theorem tykB_ok {K : PySem.W.Frag} {C : Nat} (h : tykB K C = true) : TyK K C := fun t ht => of_decide_eq_true (List.all_eq_true.mp h t ht)
def exkB (K : PySem.W.Frag) (C : Nat) : Bool := He.eqO (PySem.W.findIn K (.ref (cA K C)) "__getattribute__") (some (some (.builtin "BaseException.__getattribute__"))) && (He.eqO (PySem.W.findIn K (.ref (cA K C)) "__getattr__") (some none) &&
  (decide (PySem.W.subIn K (.ref (cA K C)) (.type "BaseException") = some true) && (PySem.W.hasDictIn K (cA K C) && (He.eqO (PySem.W.findIn K (.ref (cA K C)) "__class__") (some (some (.builtin "object.__class__"))) &&
  (He.eqO (PySem.W.specialIn K (.builtin "object.__class__") "__get__") (some (some (.builtin "getset_descriptor.__get__"))) && (decide (PySem.W.takesIn K (.builtin "object.__class__") = some true) && (decide (PySem.W.mroIn K (cA K C) (.type "object") = some true) &&
  ((cFields C).all (fun f => He.eqO (PySem.W.findIn K (.ref (cA K C)) f) (some none)) && (bTys.all (fun n => decide (PySem.W.kitOne K (.ref (cA K C)) (.type n) = some false)) &&
  (List.range nCls).all fun C2 => !knB K C2 || decide (PySem.W.kitOne K (.ref (cA K C)) (.ref (cA K C2)) = some (subE C C2)))))))))))
theorem exkB_ok {K : PySem.W.Frag} {C : Nat} (h : exkB K C = true) : ExK K C := by
  obtain ⟨b1, h⟩ := He.ba h
  obtain ⟨b2, h⟩ := He.ba h
  obtain ⟨b3, h⟩ := He.ba h
  obtain ⟨b4, h⟩ := He.ba h
  obtain ⟨b5, h⟩ := He.ba h
  obtain ⟨b6, h⟩ := He.ba h
  obtain ⟨b7, h⟩ := He.ba h
  obtain ⟨b8, h⟩ := He.ba h
  obtain ⟨b9, h⟩ := He.ba h
  obtain ⟨b10, b11⟩ := He.ba h
  refine ⟨He.eqO_ok b1, He.eqO_ok b2, of_decide_eq_true b3, b4, He.eqO_ok b5, He.eqO_ok b6, of_decide_eq_true b7, of_decide_eq_true b8, fun f hf => He.eqO_ok (List.all_eq_true.mp b9 f hf), fun n hn => of_decide_eq_true (List.all_eq_true.mp b10 n hn), fun C2 hC => ?_⟩
  have z := List.all_eq_true.mp b11 C2 (List.mem_range.mpr hC.1)
  have z2 : (!knB K C2 || decide (PySem.W.kitOne K (.ref (cA K C)) (.ref (cA K C2)) = some (subE C C2))) = true := z
  rw [knB_of hC] at z2
  exact of_decide_eq_true z2
def veKB (K : PySem.W.Frag) : Bool := (List.range 48).all fun C => !He.eqO (PySem.W.findIn K (.ref (cA K C)) "__getattribute__") (some (some (.builtin "BaseException.__getattribute__"))) || decide (PySem.W.kitOne K (.ref (cA K C)) (.type "ValueError") = some true)
theorem cName_big {C : Nat} (h : 47 ≤ C) : cName C = cName 47 := by
  show cName C = ""
  unfold cName
  split <;> first | rfl | omega
theorem veKB_ok {K : PySem.W.Frag} (h : veKB K = true) : VeK K := fun C hC => by
  have key : ∀ D, D < 48 → cName D = cName C → PySem.W.kitOne K (.ref (cA K C)) (.type "ValueError") = some true := fun D hD e => by
    have z := List.all_eq_true.mp h D (List.mem_range.mpr hD)
    have ec : cA K D = cA K C := by unfold cA; rw [e]
    have z2 : (!He.eqO (PySem.W.findIn K (.ref (cA K D)) "__getattribute__") (some (some (.builtin "BaseException.__getattribute__"))) || decide (PySem.W.kitOne K (.ref (cA K D)) (.type "ValueError") = some true)) = true := z
    rw [ec, hC.ga] at z2
    have z3 : He.eqO (some (some (.builtin "BaseException.__getattribute__"))) (some (some (.builtin "BaseException.__getattribute__"))) = true := decide_eq_true rfl
    rw [z3] at z2
    exact of_decide_eq_true z2
  by_cases hc : C < 47
  · exact key C (by omega) rfl
  · exact key 47 (by decide) (cName_big (by omega)).symm
/-- the errors: all, those that may be made plainly, those with a field -/
def errB (K : PySem.W.Frag) (file : Str) (cs pl ff : List Nat) : Bool := cs.all (fun C => He.eqO (PySem.W.nsIn K mainGlobals (cName C)) (some (some (.ref (cA K C)))) && (knB K C && (tykB K C && (!decide (C < 40) || (exkB K C && decide (PySem.W.kitOne K (.ref (cA K C)) (.type "ValueError") = some true)))))) &&
  (pl.all (fun C => cs.contains C && (PySem.W.excIn K (cA K C) veB "ValueError.__new__" && (PySem.W.keepIn K (.ref (cA K C)) && (decide (PySem.W.typeIn K (.ref (cA K C)) = some (.type "type")) && (decide (C < 40) && (cFields C).isEmpty))))) &&
  ff.all fun C => cs.contains C && (decide (C < 40) && (match cFields C with
    | [f] => PySem.SwX.swB K f (cA K C) (mA K (cName C) "__init__") && (PySem.SwX.swM K file (cName C ++ ".__init__") (cA K C) (mA K (cName C) "__init__") && PySem.SwX.fOk f)
    | _ => false)))
section
variable {P : Program} {K : PySem.W.Frag} {h : Heap} {mg : Str → Option Value} {fl : List Str} {cs pl ff : List Nat} {fa : List He.Fa} {fn : List He.DefD} {me : List MeD} {ex : PySem.W.Frag → Bool}
/-- THE RULE for what the head says -/
theorem hd_of (X : K.In h) (G : h.Ns mainGlobals mg) (c : SaysP fa fn me ex h K) (hx : ∀ K, ex K = true → errB K P.main.file cs pl ff = true ∧ veKB K = true) (hs : (P.main.scope.names.lookup ("super" : Str)).isSome = false)
    (hfl : ∀ x, x ∈ fl → He.Fa.free x ∈ fa) (hsu : He.Fa.free "super" ∈ fa)
    (hff : ∀ C, C ∈ ff → ∃ f d, cFields C = [f] ∧ d ∈ me ∧ d.cls = cName C ∧ d.qual = cName C ++ ".__init__" ∧ d.clo = (["__class__"] : List Str) ∧ (∀ K, d.ad K = mA K (cName C) "__init__") ∧ PySem.SwX.MeTxt f d) : Hd P K mg fl cs pl ff := by
  obtain ⟨e1, e2⟩ := hx K c.more
  obtain ⟨e5, e3⟩ := He.ba e1
  obtain ⟨e6, e4⟩ := He.ba e3
  have each : ∀ C, C ∈ cs → PySem.W.nsIn K mainGlobals (cName C) = some (some (.ref (cA K C))) ∧ knB K C = true ∧ tykB K C = true ∧ (C < 40 → exkB K C = true) := fun C hC => by
    obtain ⟨z1, z⟩ := He.ba (List.all_eq_true.mp e5 C hC)
    obtain ⟨z2, z⟩ := He.ba z
    obtain ⟨z3, z4⟩ := He.ba z
    refine ⟨He.eqO_ok z1, z2, z3, fun hc => ?_⟩
    rw [decide_eq_true hc] at z4
    exact (He.ba z4).1
  refine ⟨fun x hx => He.free_ok X G (c.d.facts (hfl x hx)), fun C hC => PySem.W.mg_of X G (each C hC).1, fun C hC => knB_ok (each C hC).2.1, fun C hC => tykB_ok (each C hC).2.2.1, veKB_ok e2, fun C hC => ?_, fun C hC => ?_, He.free_ok X G (c.d.facts hsu)⟩
  · obtain ⟨z1, z⟩ := He.ba (List.all_eq_true.mp e6 C hC)
    obtain ⟨z2, z⟩ := He.ba z
    obtain ⟨z3, z⟩ := He.ba z
    obtain ⟨z4, z⟩ := He.ba z
    obtain ⟨z5, z6⟩ := He.ba z
    have hC : C ∈ cs := by simpa using z1
    exact ⟨hC, z2, z3, of_decide_eq_true z4, exkB_ok ((each C hC).2.2.2 (of_decide_eq_true z5)), List.isEmpty_iff.mp z6⟩
  · obtain ⟨z1, z⟩ := He.ba (List.all_eq_true.mp e4 C hC)
    obtain ⟨z2, z⟩ := He.ba z
    obtain ⟨f, d, hf, hd, hc, hq, hcl, had, ht⟩ := hff C hC
    rw [hf] at z
    obtain ⟨z3, z⟩ := He.ba z
    obtain ⟨z4, z5⟩ := He.ba z
    have hC : C ∈ cs := by simpa using z1
    have he := c.meth hd
    rw [had] at he
    rw [← hq] at z4
    exact ⟨hC, f, _, PySem.SwX.swTxt_of z3 z4 hs he hcl ht, z5, exkB_ok ((each C hC).2.2.2 (of_decide_eq_true z2)), hf⟩
end
end PD

set_option Elab.async false
set_option linter.all false
set_option maxRecDepth 100000
set_option maxHeartbeats 2000000
/-! PD, twentieth part: the top's constants; methods of texts -/
namespace PD
open PySem PySem.Spec PyProof.Rows L2
section
variable {X : Cx} {c : Ct} {x : Str} {pos : Pos}
theorem qe_gint {i : Int} (hg : Gl X x) (hm : ∃ t, X.mg x = some (.int i t)) (hd : (x == ("__debug__" : Str)) = false := by decide) : QE X c (.Name x pos) (wC (.int i)) := by
  obtain ⟨t, hm⟩ := hm
  exact qe_c (v := .int i) (pe_glob hg hm ⟨t, rfl⟩ hd) fun _ => rfl
theorem qe_gstr {z : Str} (hg : Gl X x) (hm : ∃ t, X.mg x = some (.str z t)) (hd : (x == ("__debug__" : Str)) = false := by decide) : QE X c (.Name x pos) (wC (.str z)) := by
  obtain ⟨t, hm⟩ := hm
  exact qe_c (v := .str z) (pe_glob hg hm ⟨t, rfl⟩ hd) fun _ => rfl
theorem qe_gtup {a : Addr} {ns : List Int} (hg : Gl X x) (hm : X.mg x = some (.ref a)) (hk : Kt X.K a (ns.map V.int)) (hd : (x == ("__debug__" : Str)) = false := by decide) : QE X c (.Name x pos) (wC (.ktp (ns.map D.int))) :=
  qe_c (v := .ref a) (pe_glob hg hm rfl hd) fun G => ⟨a, _, rfl, hk, rps_ints ns⟩
end
def wBM (f : FN) (w : WE) (t : WA) : WE := fun δ Q => w δ fun d _ δ1 => (∃ z, d = .str z) ∧ t δ1 fun ds δ2 => f (d :: ds) fun r o => Q r o δ2
def rM (r : V → List V → Hp → VK → Prop) : List V → Hp → VK → Prop := fun vs H Q => match vs with
  | x :: xs => r x xs H Q
  | [] => False
section
variable {X : Cx} {c : Ct} {o e : Expr} {es : List Expr} {name : Str} {id : String} {w : WE} {t : WA} {apos cpos : Pos} {r : V → List V → Hp → VK → Prop} {f : FN}
theorem qe_sm (slot : Slot "str" name id) (hty : typeOf (.builtin id) = pure (.type "method_descriptor")) (hm : MtR X id r) (mf : MoFN f) (op : OpN c X.K (rM r) f) (ho : QE X c o w) (ha : QA X c (e :: es) t)
    (hbase : attributeBase o name X.env (eval o X.env) = eval o X.env := by rfl)
    (hfew : ((backTo cpos (starEach (e :: es) X.env)).all (fun x => !x.1) && (backToKw cpos (keywordEach [] X.env)).all (fun x => x.1.isSome)
      && decide ((e :: es).length + ([] : List Keyword).length + (if ([] : List Keyword).isEmpty then 0 else 1) < 30)) = true := by rfl)
    (hline : (apos.endLine == cpos.line) = true := by rfl) (hs : starEach (e :: es) X.env = (false, eval e X.env) :: starEach es X.env := by rfl) (hplain : (backTo cpos (starEach es X.env)).any (·.1) = false := by rfl) :
    QE X c (.Call (.Attribute o name apos) (e :: es) [] cpos) (wBM f w t) := by
  refine ⟨fun δ Q Q' h q => ho.mo δ _ _ (fun d _ δ1 z => ⟨z.1, ha.mo δ1 _ _ (fun ds δ2 y => mf _ _ _ (fun r o x => h r o δ2 x) y) z.2⟩) q, pe_imp (pe_bm PySem.F.plainAttrs_str slot hty hm ho.f.pe ha.pa hbase hfew hline hs hplain) fun σ H Q ⟨G, δ, S, q⟩ => lF ho.mo S q fun d δ1 v G1 H1 z S1 k1 r1 => ?_⟩
  obtain ⟨⟨zz, ez⟩, q1⟩ := z
  subst ez
  have ev : v = .str zz := r1
  subst ev
  exact ⟨rfl, G1, δ1, S1, ha.mo δ1 _ _ (fun ds δ2 y vs G2 H2 S2 k2 r2 => op G2 H2 σ δ2 (.str zz :: ds) (.str zz :: vs) _ Q S2 ⟨_, _, rfl, rfl, r2⟩ y fun d3 o v3 G3 H3 z3 S3 k3 r3 => z3 v3 G3 H3 S3 (k1.trans (k2.trans k3)) (r3.back (k1.trans k2))) q1⟩
end
theorem strs_of {Ω : Om} {K : PySem.W.Frag} {G : Hp} : ∀ {zs : List Str} {vs : List V}, Rps Ω K G (zs.map D.str) vs → vs = zs.map V.str
  | [], _, h => h
  | z :: zs, _, ⟨v, r, e, h1, h2⟩ => by
    have h3 : v = .str z := h1
    rw [e, h3, strs_of h2]; rfl
/-- s.split(t) -/
def splitF : FN := fun ds R => match ds with
  | [.str a, .str b] => (b.length == 0) = false ∧ a.length + 2 ≤ 16777216 ∧ R (.lst ((Txt.split a b).map D.str)) true
  | _ => False
theorem mo_split : MoFN splitF := fun ds Q Q' h q => by
  unfold splitF at q ⊢
  split at q
  · exact ⟨q.1, q.2.1, h _ _ q.2.2⟩
  · exact q.elim
/-- s.partition(t) -/
def partF : FN := fun ds R => match ds with
  | [.str a, .str b] => (b.length == 0) = false ∧ a.length ≤ 16777216 ∧ R (.tup [.str (Txt.partition a b).1, .str (Txt.partition a b).2.1, .str (Txt.partition a b).2.2]) false
  | _ => False
theorem mo_part : MoFN partF := fun ds Q Q' h q => by
  unfold partF at q ⊢
  split at q
  · exact ⟨q.1, q.2.1, h _ _ q.2.2⟩
  · exact q.elim
def strsD : List D → Option (List Str)
  | [] => some []
  | .str x :: ds => (strsD ds).map (x :: ·)
  | _ => none
theorem strsD_map (xs : List Str) : strsD (xs.map D.str) = some xs := by
  induction xs with
  | nil => rfl
  | cons x xs ih => show (strsD (xs.map D.str)).map (x :: ·) = _; rw [ih]; rfl
theorem strsD_eq : ∀ {ds : List D} {xs : List Str}, strsD ds = some xs → ds = xs.map D.str
  | [], _, h => by cases h; rfl
  | d :: ds, xs, h => by
    cases d with
    | str x =>
      have h2 : (strsD ds).map (x :: ·) = some xs := h
      cases e : strsD ds with
      | none => rw [e] at h2; cases h2
      | some ys => rw [e] at h2; cases h2; rw [strsD_eq e]; rfl
    | _ => cases h
/-- s.join(a list, a tuple) -/
def joinF : FN := fun ds R => match ds with
  | [.str a, d] => match seqD d with
    | some es => ∃ ys, strsD es = some ys ∧ (ys.map (·.length)).sum + ys.length * a.length ≤ 16777216 ∧ R (.str (Txt.join a ys)) false
    | none => False
  | _ => False
theorem mo_join : MoFN joinF := fun ds Q Q' h q => by
  unfold joinF at q ⊢
  split at q
  · split at q
    · obtain ⟨ys, a, b, z⟩ := q; exact ⟨ys, a, b, h _ _ z⟩
    · exact q.elim
  · exact q.elim
section
variable {X : Cx} {c : Ct} {K : PySem.W.Frag}
theorem or_split : OpN c K (rM fun x xs H Q => ∃ a b, x = .str a ∧ xs = [.str b] ∧ (b.length == 0) = false ∧ a.length + 2 ≤ sizeLine ∧ rNewStrs (Txt.split a b) H Q) splitF := fun G H σ δ ds vs R Q S rs h q => by
  unfold splitF at h
  split at h
  · rename_i a b
    obtain ⟨v, r, rfl, h1, v2, r2, e2, h2, h3⟩ := rs
    subst e2
    rw [show r2 = [] from h3, show v2 = .str b from h2, show v = .str a from h1]
    exact ⟨a, b, rfl, rfl, h.1, by rw [← line16]; exact h.2.1, fun p hp => q.new S h.2.2 ⟨_, rfl, rps_strs _⟩ hp⟩
  · exact h.elim
theorem or_part : OpN c K (rM fun x xs H Q => ∃ a b, x = .str a ∧ xs = [.str b] ∧ (b.length == 0) = false ∧ a.length ≤ sizeLine ∧
    ∀ p, H p = none → Q (.ref p) (upd H p (.tup [.str (Txt.partition a b).1, .str (Txt.partition a b).2.1, .str (Txt.partition a b).2.2]))) partF := fun G H σ δ ds vs R Q S rs h q => by
  unfold partF at h
  split at h
  · rename_i a b
    obtain ⟨v, r, rfl, h1, v2, r2, e2, h2, h3⟩ := rs
    subst e2
    rw [show r2 = [] from h3, show v2 = .str b from h2, show v = .str a from h1]
    exact ⟨a, b, rfl, rfl, h.1, by rw [← line16]; exact h.2.1, fun p hp => q.tup S h.2.2 ⟨_, _, rfl, rfl, _, _, rfl, rfl, _, _, rfl, rfl, rfl⟩ hp⟩
  · exact h.elim
theorem or_join : OpN c K (rM fun x xs H Q => ∃ a p, ∃ ys : List Str, x = .str a ∧ xs = [.ref p] ∧ (SqL K H p (ys.map V.str) ∨ SqT K H p (ys.map V.str)) ∧
    (ys.map (·.length)).sum + ys.length * a.length ≤ 16777216 ∧ Q (.str (Txt.join a ys)) H) joinF := fun G H σ δ ds vs R Q S rs h q => by
  unfold joinF at h
  split at h
  · rename_i a d
    obtain ⟨v, r, rfl, h1, v2, r2, e2, h2, h3⟩ := rs
    subst e2
    rw [show r2 = [] from h3, show v = .str a from h1]
    split at h
    · rename_i es hes
      obtain ⟨ys, ey, hz, hR⟩ := h
      have ed := strsD_eq ey
      subst ed
      cases d with
      | lst xs =>
        cases hes
        obtain ⟨p, us, rfl, g, ru⟩ := h2
        rw [strs_of ru] at g
        exact ⟨a, p, ys, rfl, rfl, .inl (SqL.of (S.out.sub _ _ g)), hz, q.val S hR rfl⟩
      | tup xs =>
        cases hes
        obtain ⟨p, us, rfl, g, ru⟩ := h2
        rw [strs_of ru] at g
        exact ⟨a, p, ys, rfl, rfl, (.inr (.inl (.inl (S.out.sub _ _ g)))), hz, q.val S hR rfl⟩
      | kls xs =>
        cases hes
        obtain ⟨p, us, rfl, g, ru⟩ := h2
        rw [strs_of ru] at g
        exact ⟨a, p, ys, rfl, rfl, .inl (S.out.sub.sqL g), hz, q.val S hR rfl⟩
      | ktp xs =>
        cases hes
        obtain ⟨p, us, rfl, ⟨ob, its, n, k1, k2, k3, k4, k5⟩, ru⟩ := h2
        rw [strs_of ru] at k5
        exact ⟨a, p, ys, rfl, rfl, .inr (.inr ⟨_, _, _, k1, k2, k3, k4, k5⟩), hz, q.val S hR rfl⟩
      | _ => cases hes
    · exact h.elim
  · exact h.elim
end
end PD

set_option Elab.async false
set_option linter.all false
set_option maxRecDepth 100000
set_option maxHeartbeats 2000000
/-! PD, twenty-first part: list, tuple, min, max, str, int of texts -/
namespace PD
open PySem PySem.Spec PyProof.Rows L2
/-- list(a list, a tuple) -/
def listF : FN := fun ds R => match ds with
  | [d] => match seqD d with
    | some xs => R (.lst xs) true
    | none => False
  | _ => False
theorem mo_list : MoFN listF := fun ds Q Q' h q => by
  unfold listF at q ⊢
  split at q
  · split at q
    · exact h _ _ q
    · exact q.elim
  · exact q.elim
/-- tuple(a list, a tuple) -/
def tupleF : FN := fun ds R => match ds with
  | [.lst xs] => R (.tup xs) false
  | [.kls xs] => R (.tup xs) false
  | [.tup xs] => R (.tup xs) false
  | [.ktp xs] => R (.ktp xs) false
  | _ => False
theorem mo_tuple : MoFN tupleF := fun ds Q Q' h q => by
  unfold tupleF at q ⊢
  split at q <;> first | exact h _ _ q | exact q.elim
def min2F : FN := fun ds R => match ds with
  | [.int i, .int j] => R (.int (if j < i then j else i)) false
  | _ => False
theorem mo_min2 : MoFN min2F := fun ds Q Q' h q => by
  unfold min2F at q ⊢
  split at q <;> first | exact h _ _ q | exact q.elim
def max2F : FN := fun ds R => match ds with
  | [.int i, .int j] => R (.int (if j > i then j else i)) false
  | _ => False
theorem mo_max2 : MoFN max2F := fun ds Q Q' h q => by
  unfold max2F at q ⊢
  split at q <;> first | exact h _ _ q | exact q.elim
def strF : FN := fun ds R => match ds with
  | [.int i] => i.natAbs.log2 < 1920 ∧ R (.str (toString i)) false
  | _ => False
theorem mo_strF : MoFN strF := fun ds Q Q' h q => by
  unfold strF at q ⊢
  split at q <;> first | exact ⟨q.1, h _ _ q.2⟩ | exact q.elim
def intSF : FN := fun ds R => match ds with
  | [.str a] => ∃ n, PySem.intText? a = some n ∧ a.length ≤ 640 ∧ R (.int n) false
  | _ => False
theorem mo_intS : MoFN intSF := fun ds Q Q' h q => by
  unfold intSF at q ⊢
  split at q
  · obtain ⟨n, a, b, z⟩ := q; exact ⟨n, a, b, h _ _ z⟩
  · exact q.elim
section
variable {X : Cx} {c : Ct} {K : PySem.W.Frag}
theorem seq_of {Ω : Om} {G H : Hp} (s : Sub G H) {d : D} {xs : List D} {v : V} (hd : seqD d = some xs) (r : Rp Ω K G d v) : ∃ p vs, v = .ref p ∧ (SqL K H p vs ∨ SqT K H p vs) ∧ Rps Ω K G xs vs := by
  cases d with
  | lst ys => cases hd; obtain ⟨p, us, e, g, ru⟩ := r; exact ⟨p, us, e, .inl (SqL.of (s _ _ g)), ru⟩
  | kls ys => cases hd; obtain ⟨p, us, e, g, ru⟩ := r; exact ⟨p, us, e, .inl (s.sqL g), ru⟩
  | tup ys => cases hd; obtain ⟨p, us, e, g, ru⟩ := r; exact ⟨p, us, e, .inr (.inl (.inl (s _ _ g))), ru⟩
  | ktp ys => cases hd; obtain ⟨p, us, e, g, ru⟩ := r; exact ⟨p, us, e, .inr (.inr g), ru⟩
  | _ => cases hd
theorem or_list : OpN c K (fun xs H Q => ∃ p ys, xs = [.ref p] ∧ (SqL K H p ys ∨ SqT K H p ys) ∧ ∀ l, H l = none → Q (.ref l) (upd H l (.lst ys))) listF := fun G H σ δ ds vs R Q S rs h q => by
  unfold listF at h
  split at h
  · rename_i d
    obtain ⟨v, r, rfl, h1, h2⟩ := rs
    rw [show r = [] from h2]
    split at h
    · rename_i xs hx
      obtain ⟨p, us, rfl, hs, ru⟩ := seq_of S.out.sub hx h1
      exact ⟨p, us, rfl, hs, fun l hl => q.new S h ⟨_, rfl, ru⟩ hl⟩
    · exact h.elim
  · exact h.elim
theorem or_tuple : OpN c K (fun xs H Q => ∃ p ys, xs = [.ref p] ∧ ((SqL K H p ys ∧ ∀ l, H l = none → Q (.ref l) (upd H l (.tup ys))) ∨ (SqT K H p ys ∧ Q (.ref p) H))) tupleF := fun G H σ δ ds vs R Q S rs h q => by
  unfold tupleF at h
  split at h
  · obtain ⟨v, r, rfl, h1, h2⟩ := rs
    rw [show r = [] from h2]
    obtain ⟨p, us, rfl, g, ru⟩ := h1
    exact ⟨p, us, rfl, .inl ⟨SqL.of (S.out.sub _ _ g), fun l hl => q.tup S h ru hl⟩⟩
  · obtain ⟨v, r, rfl, h1, h2⟩ := rs
    rw [show r = [] from h2]
    obtain ⟨p, us, rfl, g, ru⟩ := h1
    exact ⟨p, us, rfl, .inl ⟨S.out.sub.sqL g, fun l hl => q.tup S h ru hl⟩⟩
  · obtain ⟨v, r, rfl, h1, h2⟩ := rs
    rw [show r = [] from h2]
    obtain ⟨p, us, rfl, g, ru⟩ := h1
    exact ⟨p, us, rfl, .inr ⟨.inl (.inl (S.out.sub _ _ g)), q.val S h ⟨p, us, rfl, g, ru⟩⟩⟩
  · obtain ⟨v, r, rfl, h1, h2⟩ := rs
    rw [show r = [] from h2]
    obtain ⟨p, us, rfl, g, ru⟩ := h1
    exact ⟨p, us, rfl, .inr ⟨.inr g, q.val S h ⟨p, us, rfl, g, ru⟩⟩⟩
  · exact h.elim
theorem or_min2 : OpN c K (fun xs H Q => ∃ i j, xs = [.int i, .int j] ∧ Q (.int (if j < i then j else i)) H) min2F := fun G H σ δ ds vs R Q S rs h q => by
  unfold min2F at h
  split at h
  · obtain ⟨v, r, rfl, h1, v2, r2, e2, h2, h3⟩ := rs
    subst e2
    rw [show r2 = [] from h3, show v = _ from h1, show v2 = _ from h2]
    exact ⟨_, _, rfl, q.val S h rfl⟩
  · exact h.elim
theorem or_max2 : OpN c K (fun xs H Q => ∃ i j, xs = [.int i, .int j] ∧ Q (.int (if j > i then j else i)) H) max2F := fun G H σ δ ds vs R Q S rs h q => by
  unfold max2F at h
  split at h
  · obtain ⟨v, r, rfl, h1, v2, r2, e2, h2, h3⟩ := rs
    subst e2
    rw [show r2 = [] from h3, show v = _ from h1, show v2 = _ from h2]
    exact ⟨_, _, rfl, q.val S h rfl⟩
  · exact h.elim
theorem or_strI : OpN c K (fun xs H Q => ∃ i, xs = [.int i] ∧ i.natAbs.log2 < 1920 ∧ Q (.str (toString i)) H) strF := fun G H σ δ ds vs R Q S rs h q => by
  unfold strF at h
  split at h
  · obtain ⟨v, r, rfl, h1, h2⟩ := rs
    rw [show r = [] from h2, show v = _ from h1]
    exact ⟨_, rfl, h.1, q.val S h.2 rfl⟩
  · exact h.elim
theorem or_intS : OpN c K (fun xs H Q => ∃ a n, xs = [.str a] ∧ PySem.intText? a = some n ∧ a.length ≤ 640 ∧ Q (.int n) H) intSF := fun G H σ δ ds vs R Q S rs h q => by
  unfold intSF at h
  split at h
  · obtain ⟨v, r, rfl, h1, h2⟩ := rs
    rw [show r = [] from h2, show v = _ from h1]
    obtain ⟨n, a, b, z⟩ := h
    exact ⟨_, n, rfl, a, b, q.val S z rfl⟩
  · exact h.elim
end
end PD

set_option Elab.async false
set_option linter.all false
set_option maxRecDepth 100000
set_option maxHeartbeats 2000000
/-! PD, twenty-second part: all, any of a list of truths -/
namespace PD
open PySem PySem.Spec PyProof.Rows L2
theorem bools_at : ∀ {bs : List Bool} {us : List Value}, Vals (bs.map V.bl) us → us.length = bs.length ∧ ∀ (i : Nat) (v : Value), us[i]? = some v → ∃ b, bs[i]? = some b ∧ v = .bool b
  | [], _, h => by cases h; exact ⟨rfl, fun i v e => by simp at e⟩
  | b :: bs, _, h => by
    cases h with
    | @cons _ u _ us h1 t =>
      obtain ⟨l, f⟩ := bools_at t
      refine ⟨by rw [List.length_cons, List.length_cons, l], fun i v e => ?_⟩
      cases i with
      | zero => cases e; exact ⟨b, rfl, h1⟩
      | succ i => exact f i v (by simpa using e)
section
variable {X : Cx} {c : Ct} {K : PySem.W.Frag}
theorem call_all (hc : X.calm = true) : CallR X (.builtin "all") (fun xs H Q => ∃ p, ∃ bs : List Bool, xs = [.ref p] ∧ SqL X.K H p (bs.map V.bl) ∧ Q (.bl (bs.all id)) H) := by
  intro pins s σ H xs us Q I r h
  obtain ⟨p, bs, rfl, hq, q⟩ := h
  obtain ⟨u, rfl, rx⟩ := vals1 r
  cases rx
  obtain ⟨its, r', pl, hz⟩ := I.list hq
  have hl := pl.isList
  obtain ⟨len, at_⟩ := bools_at r'
  have hlt : p < s.heap.objs.size := by obtain ⟨_, e, _⟩ := hl; exact Heap.lt_size e
  refine call_all_walk (wpAny_pyIter_list hl ?_)
  refine ⟨s.heap.objs.size, [s.heap.objs.size, p], [s.heap.objs.size], its.toArray.size, _, _, fun i => (bs[i]?).getD true, rfl, Walks.list (A := X.A.in1) (I.ok.hd hc) _ p (Nat.ne_of_lt hlt) its.toArray,
    ⟨⟨_, Heap.get?_push_size _ rfl, rfl, rfl⟩, hl.push _⟩, fun i v s' Q' E' hP hQ => ?_, fun h' tk hk => ?_⟩
  · obtain ⟨b, e, rfl⟩ := at_ i v (by simpa using hP)
    simp only [e, Option.getD_some] at hQ
    exact wpAny_truthy_bool hQ
  · have e : ((List.range its.toArray.size).all fun i => (bs[i]?).getD true) = bs.all id := by
      rw [List.size_toArray, len]; exact LSm.range_all bs
    rw [e]
    exact ⟨.bl _, H, I.kept (t' := tk) (LSm.kept_iter hk), rfl, q⟩
theorem call_any (hc : X.calm = true) : CallR X (.builtin "any") (fun xs H Q => ∃ p, ∃ bs : List Bool, xs = [.ref p] ∧ SqL X.K H p (bs.map V.bl) ∧ Q (.bl (bs.any id)) H) := by
  intro pins s σ H xs us Q I r h
  obtain ⟨p, bs, rfl, hq, q⟩ := h
  obtain ⟨u, rfl, rx⟩ := vals1 r
  cases rx
  obtain ⟨its, r', pl, hz⟩ := I.list hq
  have hl := pl.isList
  obtain ⟨len, at_⟩ := bools_at r'
  have hlt : p < s.heap.objs.size := by obtain ⟨_, e, _⟩ := hl; exact Heap.lt_size e
  refine call_any_walk (wpAny_pyIter_list hl ?_)
  refine ⟨s.heap.objs.size, [s.heap.objs.size, p], [s.heap.objs.size], its.toArray.size, _, _, fun i => (bs[i]?).getD false, rfl, Walks.list (A := X.A.in1) (I.ok.hd hc) _ p (Nat.ne_of_lt hlt) its.toArray,
    ⟨⟨_, Heap.get?_push_size _ rfl, rfl, rfl⟩, hl.push _⟩, fun i v s' Q' E' hP hQ => ?_, fun h' tk hk => ?_⟩
  · obtain ⟨b, e, rfl⟩ := at_ i v (by simpa using hP)
    simp only [e, Option.getD_some] at hQ
    exact wpAny_truthy_bool hQ
  · have e : ((List.range its.toArray.size).any fun i => (bs[i]?).getD false) = bs.any id := by
      rw [List.size_toArray, len]; exact LSm.range_any bs
    rw [e]
    exact ⟨.bl _, H, I.kept (t' := tk) (LSm.kept_iter hk), rfl, q⟩
end
def boolsD : List D → Option (List Bool)
  | [] => some []
  | .bl x :: ds => (boolsD ds).map (x :: ·)
  | _ => none
theorem boolsD_map (xs : List Bool) : boolsD (xs.map D.bl) = some xs := by
  induction xs with
  | nil => rfl
  | cons x xs ih => show (boolsD (xs.map D.bl)).map (x :: ·) = _; rw [ih]; rfl
theorem boolsD_eq : ∀ {ds : List D} {xs : List Bool}, boolsD ds = some xs → ds = xs.map D.bl
  | [], _, h => by cases h; rfl
  | d :: ds, xs, h => by
    cases d with
    | bl x =>
      have h2 : (boolsD ds).map (x :: ·) = some xs := h
      cases e : boolsD ds with
      | none => rw [e] at h2; cases h2
      | some ys => rw [e] at h2; cases h2; rw [boolsD_eq e]; rfl
    | _ => cases h
theorem bools_of {Ω : Om} {K : PySem.W.Frag} {G : Hp} : ∀ {zs : List Bool} {vs : List V}, Rps Ω K G (zs.map D.bl) vs → vs = zs.map V.bl
  | [], _, h => h
  | z :: zs, _, ⟨v, r, e, h1, h2⟩ => by
    have h3 : v = .bl z := h1
    rw [e, h3, bools_of h2]; rfl
/-- all(a list of truths), any(..) -/
def aaF (f : List Bool → Bool) : FN := fun ds R => match ds with
  | [d] => match lstD d with
    | some xs => ∃ bs, boolsD xs = some bs ∧ R (.bl (f bs)) false
    | none => False
  | _ => False
theorem mo_aa (f : List Bool → Bool) : MoFN (aaF f) := fun ds Q Q' h q => by
  unfold aaF at q ⊢
  split at q
  · split at q
    · obtain ⟨bs, a, z⟩ := q; exact ⟨bs, a, h _ _ z⟩
    · exact q.elim
  · exact q.elim
theorem or_aa {c : Ct} {K : PySem.W.Frag} (f : List Bool → Bool) : OpN c K (fun xs H Q => ∃ p, ∃ bs : List Bool, xs = [.ref p] ∧ SqL K H p (bs.map V.bl) ∧ Q (.bl (f bs)) H) (aaF f) := fun G H σ δ ds vs R Q S rs h q => by
  unfold aaF at h
  split at h
  · rename_i d
    obtain ⟨v, r, rfl, h1, h2⟩ := rs
    rw [show r = [] from h2]
    split at h
    · rename_i xs hx
      obtain ⟨bs, eb, hR⟩ := h
      obtain ⟨a, us, rfl, hs, ru⟩ := sqL_of hx h1
      rw [boolsD_eq eb] at ru
      have hq := hs H S.out.sub
      rw [bools_of ru] at hq
      exact ⟨a, bs, rfl, hq, q.val S hR rfl⟩
    · exact h.elim
  · exact h.elim
end PD

set_option Elab.async false
set_option linter.all false
set_option maxRecDepth 100000
set_option maxHeartbeats 2000000
/-! PD, twenty-third part: instances of own classes: fields, properties -/
namespace PD
open PySem PySem.Spec PyProof.Rows L2
/-- e.f, a field of an instance of the class C -/
def wFld (C : Nat) (f : Str) (w : WE) : WE := fun δ Q => w δ fun d _ δ1 => ∃ ds r, d = .ins C ds ∧ fldAt (cFields C) ds f = some r ∧ Q r false δ1
theorem mo_fld {C : Nat} {f : Str} {w : WE} (m : MoE w) : MoE (wFld C f w) := fun δ Q Q' h q => m δ _ _ (fun d o δ1 ⟨ds, r, a, b, z⟩ => ⟨ds, r, a, b, h _ _ _ z⟩) q
/-- the class C has the property f that tells the field o -/
def GetD (K : PySem.W.Frag) (C : Nat) (f o : Str) : Prop := Cls K (cA K C) ∧ ∃ (p g : Addr) (fd : FuncData), PropOf K (cA K C) f p g ∧ (∀ (P : Program) (w : World) (mg : Str → Option Value) (base : Heap), FnOk P w K mg base CX0 1 g fd ["self"] (getSp (cA K C) o)) ∧ Binds K fd ["self"] []
section
variable {X : Cx} {c : Ct} {e : Expr} {w : WE} {f o : Str} {pos : Pos}
theorem qe_fld (C : Nat) (n : NoAttr X.K (cA X.K C) f) (he : QE X c e w) (hb : attributeBase e f X.env (eval e X.env) = eval e X.env := by rfl) : QE X c (.Attribute e f pos) (wFld C f w) :=
  ⟨mo_fld he.mo, pe_imp (pe_fld he.f.pe hb) fun σ H Q ⟨G, δ, S, q⟩ => lF he.mo S q fun d δ1 v G1 H1 ⟨ds, r, ed, ef, z⟩ S1 k1 r1 => by
    subst ed
    obtain ⟨a, dx, vs, rfl, g, hl, ik, rv⟩ := r1
    obtain ⟨u, lk, ru, _⟩ := fld_rps rv ef
    exact ⟨a, _, dx, _, u, rfl, S1.out.sub _ _ g, ik.cl, n, lk, z u G1 H1 S1 k1 ⟨fun _ => ru, fun h => (by cases h)⟩⟩⟩
theorem qe_prop {k : Nat} (C : Nat) (gd : GetD X.K C f o) (hr : Room (k + 2) X.A) (he : QE X c e w) (hb : attributeBase e f X.env (eval e X.env) = eval e X.env := by rfl) : QE X c (.Attribute e f pos) (wFld C o w) := by
  obtain ⟨cl, p, g, fd, hp, F, hB⟩ := gd
  exact ⟨mo_fld he.mo, pe_imp (pe_prop (E := fun _ _ _ => False) he.f.pe cl hp (F _ _ _ _) (hr.mono (by omega)) hB .nil pass0 hb) fun σ H Q ⟨G, δ, S, q⟩ => lF he.mo S q fun d δ1 v G1 H1 ⟨ds, r, ed, ef, z⟩ S1 k1 r1 => by
    subst ed
    obtain ⟨a, dx, vs, rfl, g', hl, ik, rv⟩ := r1
    obtain ⟨u, lk, ru, _⟩ := fld_rps rv ef
    exact ⟨a, dx, _, rfl, S1.out.sub _ _ g', a, dx, _, u, rfl, S1.out.sub _ _ g', lk, z u G1 H1 S1 k1 ⟨fun _ => ru, fun h => (by cases h)⟩⟩⟩
end
end PD

set_option Elab.async false
set_option linter.all false
set_option maxRecDepth 100000
set_option maxHeartbeats 2000000
/-! PD, twenty-fourth part: instances made -/
namespace PD
open PySem PySem.Spec PyProof.Rows L2
/-- self.f = e, in the class's own __init__ -/
def wFldSet (i C : Nat) (f : Str) (w : WE) : WS := fun Z δ => w δ fun d _ δ1 => ∃ ds, δ1[i]? = some (.own (.par C ds)) ∧ (cFields C)[ds.length]? = some f ∧ Z.nx (δ1.set i (.own (.par C (ds ++ [d]))))
theorem mo_fldset {i C : Nat} {f : Str} {w : WE} (m : MoE w) : MoS (wFldSet i C f w) := fun Z Z' δ l h => m δ _ _ (fun d o δ1 ⟨ds, a, b, z⟩ => ⟨ds, a, b, l.nx _ z⟩) h
theorem putF_new {f : Str} {v : V} : ∀ {fs : List (Str × V)}, (∀ q ∈ fs, q.1 ≠ f) → putF f v fs = fs ++ [(f, v)]
  | [], _ => rfl
  | (g, x) :: r, h => by
    unfold putF
    rw [if_neg (h _ List.mem_cons_self), putF_new (fun q hq => h q (List.mem_cons_of_mem _ hq))]
    rfl
theorem zip_snoc {f : Str} {v : V} : ∀ {fs : List Str} {vs : List V}, fs.Nodup → fs[vs.length]? = some f → putF f v (fs.zip vs) = fs.zip (vs ++ [v])
  | [], vs, _, h => by simp at h
  | g :: fs, [], _, h => by
    have e : g = f := by simpa using h
    subst e
    cases fs <;> rfl
  | g :: fs, u :: us, nd, h => by
    have nd' := List.nodup_cons.mp nd
    have h' : fs[us.length]? = some f := by simpa using h
    have ne : g ≠ f := fun z => nd'.1 (by rw [z]; exact List.mem_of_getElem? h')
    show putF f v ((g, u) :: fs.zip us) = (g, u) :: fs.zip (us ++ [v])
    unfold putF
    rw [if_neg ne, zip_snoc nd'.2 h']
section
variable {X : Cx} {c : Ct} {e : Expr} {w : WE} {f x : Str} {p1 p2 pos : Pos}
theorem qs_fldset (i C : Nat) (nd : (cFields C).Nodup) (na : NoAttr X.K (cA X.K C) f) (he : QE X c e w) (hN : X.N[i]? = some x := by rfl) (hv : Vis X.env.scope x := by first | exact Or.inl rfl | exact Or.inr (Or.inl rfl) | exact Or.inr (Or.inr rfl)) (hd : (x == ("__debug__" : Str)) = false := by decide)
    (hcd : (x == ("__classdict__" : Str)) = false := by decide) (hl : (cFields C).length < 1000 := by decide) (hs : swapsWith e (some (.Attribute (.Name x p1) f p2)) pos.line X.env = pure false := by rfl) :
    QS X c (.Assign [.Attribute (.Name x p1) f p2] e pos) (wFldSet i C f w) :=
  ⟨mo_fldset he.mo, ps_imp (ps_fld (pe_var hN hv hd hcd) he.f.pe hs) fun D σ H ⟨G, δ, S, Z, h, n, _⟩ => lF he.mo S h fun d δ1 v G1 H1 ⟨ds, e1, e2, z⟩ S1 k1 r1 => by
    obtain ⟨p, h1, w1, fr⟩ := S1.own i _ e1
    obtain ⟨o, h2, dx, vs, rfl, h4, ik, rv⟩ := w1.ob
    have el : ds.length = vs.length := rv.length.symm
    rw [el] at e2
    refine ⟨.ref p, h1, p, _, dx, _, rfl, h2, ik.cl, na, ?_, ?_⟩
    · rw [List.length_zip]; exact Nat.lt_of_le_of_lt (Nat.min_le_left _ _) hl
    · rw [zip_snoc nd e2]
      refine n _ _ G1 _ (S1.write (e := .par C (ds ++ [d])) e1 h1 ⟨dx, vs ++ [v], rfl, ?_, ik, rv.snoc r1⟩ (fun _ => rfl)) k1.ext z
      rw [List.length_append]
      have := (List.getElem?_eq_some_iff.mp e2).1
      show vs.length + 1 ≤ _
      omega⟩
end
/-! ### __init__ as a def that gets an object half made -/
/-- the meaning of a class's making, from its __init__'s transformer -/
def FI (C nN : Nat) (wS : (Nat → List D → Prop) → WS) : FD := fun ds R E => wS E ⟨fun δ => ∃ ds', δ[0]? = some (.own (.par C ds')) ∧ ds'.length = (cFields C).length ∧ R (.ins C ds') true, fun _ _ => False, fun _ => False, fun _ => False⟩
  (.own (.par C []) :: (ds.map Sl.fro ++ List.replicate (nN - 1 - ds.length) Sl.no))
def made (K : PySem.W.Frag) (C : Nat) (H : Hp) (x dx : Addr) : Hp := upd (upd H dx (.own x)) x (.ins (cA K C) dx [])
def spI (Ω : Om) (K : PySem.W.Frag) (C n : Nat) (F : FD) : Sp := fun vs H2 Q2 E => ∃ us H x dx Q, vs = .ref x :: us ∧ H x = none ∧ H dx = none ∧ dx ≠ x ∧ H2 = made K C H x dx ∧ spD Ω K n F us H Q E ∧ ∀ H', Q (.ref x) H' → Q2 .non H'
theorem spI.len {Ω : Om} {K : PySem.W.Frag} {C n : Nat} {F : FD} : ∀ vs H Q E, spI Ω K C n F vs H Q E → vs.length = n + 1 := fun vs H Q E ⟨us, _, _, _, _, e, _, _, _, _, h, _⟩ => by rw [e, List.length_cons, spD.len _ _ _ _ h]
section
variable {Ω : Om} {K : PySem.W.Frag} {C : Nat} {G H : Hp} {x dx : Addr}
theorem made_at (hx : H x = none) (hd : H dx = none) {a : Addr} {o : HO} (e : H a = some o) : made K C H x dx a = some o := by
  unfold made
  rw [upd_ne (ne_of_none e hx), upd_ne (ne_of_none e hd)]; exact e
theorem post_init {G' H' : Hp} (hx : H x = none) (hd : H dx = none) (h : Out ⟨Ω, ⟨G, made K C H x dx, some x⟩⟩ G' H') : Post Ω G H G' H' := by
  have key : ∀ a o, H a = some o → ¬ Ω.own a → H' a = some o ∧ (G a = none → Mut (some o) → G' a = none) := fun a o e n =>
    h.kp a o (made_at hx hd e) n (fun z => by injection z with z; rw [← z, hx] at e; cases e)
  refine ⟨h.ext, ⟨h.sub, h.inv, h.omG, h.omH, h.fz, h.tb⟩, fun a e => ?_, key⟩
  cases q : H a with
  | none => rfl
  | some o =>
    by_cases ho : Ω.own a
    · obtain ⟨u, z⟩ := h.omH a ho
      rw [e] at z; cases z
    · have z := (key a o q ho).1
      rw [e] at z; cases z
theorem sr_init {N : List Str} {ds : List D} {vs : List V} (hp : Pre Ω G H) (ik : InK K C) (r : Rps Ω K G ds vs) (hl : vs.length + 1 ≤ N.length) (hx : H x = none) (hd : H dx = none) (ne : dx ≠ x) :
    SR ⟨Ω, ⟨G, made K C H x dx, some x⟩⟩ K G (made K C H x dx) (L2.start N (.ref x :: vs)) (.own (.par C []) :: (ds.map Sl.fro ++ List.replicate (N.length - 1 - ds.length) Sl.no)) := by
  have S0 := sr_start (N := N.drop 1) hp r (by rw [List.length_drop]; omega)
  have eN : (N.drop 1).length = N.length - 1 := List.length_drop
  rw [eN] at S0
  have es : L2.start N (.ref x :: vs) = some (.ref x) :: L2.start (N.drop 1) vs := by
    unfold L2.start
    rw [List.length_drop, List.length_cons, List.map_cons, List.cons_append, Nat.sub_sub, Nat.add_comm 1]
  rw [es]
  have nX : ¬ Ω.own x := fun z => by obtain ⟨o, e⟩ := hp.omH x z; rw [hx] at e; cases e
  have nD : ¬ Ω.own dx := fun z => by obtain ⟨o, e⟩ := hp.omH dx z; rw [hd] at e; cases e
  have gX : G x = none := by
    cases q : G x with
    | none => rfl
    | some o => have := hp.sub _ _ q; rw [hx] at this; cases this
  refine ⟨⟨fun a o e => made_at hx hd (hp.sub a o e), Ω.loc H _ hp.inv (fun a ha => ?_) (fun a φ e => made_at hx hd e), hp.omG, fun a ha => ?_, hp.fz, Sub.refl _, fun a o e n z => ⟨e, fun g _ => g⟩, hp.tb⟩, ?_, fun i d e => ?_, fun i d e => ?_, fun i j d e q h1 h2 => ?_⟩
  · obtain ⟨o, e⟩ := hp.omH a ha
    rw [e]; exact made_at hx hd e
  · obtain ⟨o, e⟩ := hp.omH a ha
    exact ⟨o, made_at hx hd e⟩
  · rw [List.length_cons, List.length_cons]
    exact congrArg (· + 1) S0.len
  · cases i with
    | zero => cases e
    | succ i => exact S0.fro i d (by simpa using e)
  · cases i with
    | zero =>
      cases e
      exact ⟨x, rfl, ⟨gX, nX, _, upd_same, dx, [], by rw [List.zip_nil_right], Nat.zero_le _, ik, rfl⟩, .inr rfl, fun _ => rfl⟩
    | succ i =>
      obtain ⟨p, h1, h2, h3⟩ := S0.own i d (by simpa using e)
      rcases h3.1 with z | z
      · obtain ⟨o, z2, _⟩ := h2.ob
        have z : H p = none := z
        rw [z] at z2; cases z2
      · cases z
  · have no : ∀ i d, (Sl.own (.par C []) :: (ds.map Sl.fro ++ List.replicate (N.length - 1 - ds.length) Sl.no))[i]? = some (.own d) → i = 0 := fun i d e => by
      cases i with
      | zero => rfl
      | succ i =>
        obtain ⟨p, _, h2, h3⟩ := S0.own i d (by simpa using e)
        rcases h3.1 with z | z
        · obtain ⟨o, z2, _⟩ := h2.ob
          have z : H p = none := z
          rw [z] at z2; cases z2
        · cases z
    intro _ _
    rw [no i _ h1, no j _ h2]
variable {P : Program} {w : World} {mg : Str → Option Value} {base : Heap} {k : Nat}
/-- THE RULE for an __init__ -/
theorem fn_init {nm qual : Str} {params : Arguments} {body : List Stmt} {scope : Scope} {f : Addr} {fd : FuncData} {dvs : List V} {N ps : List Str} {y : Str} (Fd : FunD K nm qual params body scope dvs [] f fd) (S : FnScope N (y :: ps) scope) (hN : ps.length + 1 ≤ N.length) (ik : InK K C)
    (wS : (Nat → List D → Prop) → WS) (hb : BodyQ P w K mg base Ω k N qual scope f fd.code body wS) : FnG P w K mg base (L2.CX P w) (k + 1) f fd (y :: ps) (spI Ω K C ps.length (FI C N.length wS)) := by
  obtain ⟨oc, od, dV, kV, doc, pm, an, cdv, ct, osl, rfl, lk, hcd, _, _⟩ := Fd.ex
  refine ⟨spI.len, fun A outer s H2 args us2 vs Q2 E hg hr e0 hbt rv h => LamX.run_ofS lk hcd S hr e0 hbt rv (spI.len _ _ _ _ h) fun hr' => ?_⟩
  obtain ⟨us, H, x, dx, Q, rfl, hx, hd, ne, rfl, ⟨G, ds, hp, r, hl, R, ED, hf, hR, hE⟩, hQ⟩ := h
  have tk : TakesD (bx P w K mg base N qual scope f cdv A outer s (made K C H x dx) E) ⟨Ω, ⟨G, made K C H x dx, some x⟩⟩ (fun _ => ED) := takes_bx.imp fun cls d σ H' ⟨G', δ, C', xs, S', e, h⟩ => hE C' xs h cls d G' H' (post_init hx hd S'.out) e
  have q := hb cdv A outer s (made K C H x dx) E ⟨Ω, ⟨G, made K C H x dx, some x⟩⟩ ED rfl hg hr' rfl tk
  refine ⟨_, q.ps, G, _, sr_init hp ik r (by rw [r.length, hl]; exact hN) hx hd ne, _, hf, ?_, ?_, ?_, ?_⟩
  · intro σ' δ' G' H' S' _ ⟨ds', e1, e2, z⟩
    obtain ⟨p, h1, ow, fr⟩ := S'.own 0 _ e1
    have ep : x = p := by
      have z := fr.2 rfl
      injection z
    subst ep
    obtain ⟨o, h2, dx', vs', rfl, h4, ik', rv'⟩ := ow.ob
    exact hQ H' (hR _ _ z (.ref x) G' H' (post_init hx hd S'.out) ⟨fun h => (by cases h), fun _ => ⟨x, rfl, hx, ⟨ow.g, ow.om, _, h2, dx', vs', rfl, by rw [← e2, rv'.length], ik', rv'⟩, rfl⟩⟩)
  · intro _ _ _ _ _ _ _ z; exact z.elim
  · intro _ _ _ _ _ _ z; exact z.elim
  · intro _ _ _ _ _ _ z; exact z.elim
end
end PD

set_option Elab.async false
set_option linter.all false
set_option maxRecDepth 100000
set_option maxHeartbeats 2000000
/-! PD, twenty-fifth part: C(..) -/
namespace PD
open PySem PySem.Spec PyProof.Rows L2
/-- a class that may be called by its name, with its making's meaning -/
structure ClM (P : Program) (w : World) (K : PySem.W.Frag) (mg : Str → Option Value) (base : Heap) (Ω : Om) (k C : Nat) (ps : List Str) (F : FD) : Prop where
  ex : ∃ (f : Addr) (fd : FuncData), FnG P w K mg base (L2.CX P w) k f fd ("self" :: ps) (spI Ω K C ps.length F) ∧ Mk K (cA K C) f ∧ Binds K fd ("self" :: ps) []
  gl : mg (cName C) = some (.ref (cA K C))
  mo : MoFD F
section
variable {X : Cx} {c : Ct} {k C : Nat} {ps : List Str} {F : FD} {xw : XD} {t : WA} {e : Expr} {es : List Expr} {x : Str} {p pos : Pos}
theorem run_makeG {CX : CXT} {E : L2.St → XK} {pins : List (Addr × Obj)} {σ : L2.St} {H : Hp} {s : Shared} {Q : VK} {us : List Value} {vs : List V} {ca f : Addr} {fd : FuncData} {sp : Sp} {qs : List Str} (M : Mk X.K ca f) (ok : FnG X.prog X.w X.K X.mg X.base CX k f fd qs sp) (hgd : X.A.guards = some []) (hr : Room (k + 1) X.A)
    (hb : Binds X.K fd qs []) (hx : PassesAt CX X σ (E σ)) (I : Inv X pins σ H s) (r : Vals vs us)
    (h : ∀ x dx, H x = none → H dx = none → dx ≠ x → sp (.ref x :: vs) (upd (upd H dx (.own x)) x (.ins ca dx [])) (fun v H2 => v = .non ∧ Q (.ref x) H2) (E σ)) :
    wpAny (model X.prog X.w) X.A (call (.ref ca) us) (EP X pins σ Q) X.xe s := by
  have hq := h (s.heap.objs.size + 1) s.heap.objs.size (I.hok.fresh (Nat.le_succ _)) (I.hok.fresh (Nat.le_refl _)) (Nat.ne_of_lt (Nat.lt_succ_self _))
  have I2 := Inv.made (C := ca) I
  have r2 : Vals (V.ref (s.heap.objs.size + 1) :: vs) (Value.ref (s.heap.objs.size + 1) :: us) := .cons rfl r
  have hl : ((Value.ref (s.heap.objs.size + 1) :: us) ++ ([] : List Value)).length = qs.length := by
    rw [List.append_nil, ← r2.length]; exact ok.len _ _ _ _ hq
  have b := hb _ (Value.ref (s.heap.objs.size + 1) :: us) I2.kIn hl
  rw [List.append_nil] at b
  refine wpAny_call (make_map (f := f) I.kIn M.makes M.init (beq_iff_eq.mp M.fn) (codeAny_mono (ok.run _ X.stack _ _ ⟨Value.ref (s.heap.objs.size + 1) :: us, []⟩ (Value.ref (s.heap.objs.size + 1) :: us) _ _ (E σ) hgd (hr.make ca us [])
    (I2.env0.make ca us []) b r2 hq) fun r s' hq' => ?_))
  cases r with
  | error e => exact hx pins _ _ e s' I2 hq'
  | ok fl =>
    cases fl with
    | ret u =>
      obtain ⟨v, H', I3, rv, ev, q3⟩ := I2.after hq'
      subst ev
      exact ⟨rv, ⟨V.ref (s.heap.objs.size + 1), H', I3, rfl, q3⟩⟩
    | next => exact False.elim hq'
    | brk => exact False.elim hq'
    | cont => exact False.elim hq'
theorem qe_make (cl : ClM X.prog X.w X.K X.mg X.base c.Om k C ps F) (hgd : X.A.guards = some []) (hr : Room (k + 1) X.A) (hg : Gl X x) (tk : TakesD X c xw) (ha : QA X c (e :: es) t) (hx : x = cName C := by rfl)
    (hdb : (x == ("__debug__" : Str)) = false := by decide) (he : starEach (e :: es) X.env = (false, eval e X.env) :: starEach es X.env := by rfl) (hpl : (backTo pos (starEach es X.env)).any (·.1) = false := by rfl) :
    QE X c (.Call (.Name x p) (e :: es) [] pos) (wCall ps.length (fun ds => ds) F xw t) := by
  obtain ⟨f, fd, ok, M, hB⟩ := cl.ex
  refine ⟨mo_call cl.mo ha.mo, ⟨fun pins s σ H Q I ⟨G, δ, S, q⟩ => ?_⟩⟩
  refine wpAny_Call_Name_kw (ld_glob I hg (by rw [hx]; exact cl.gl) ?_ hdb)
  refine PySem.W.callWith_K (h₀ := X.base) I.ok.mod.kin M.kp (thn (ha.pa.run pos pins s σ H (fun vs H1 => spD c.Om X.K ps.length F vs H1 Q (L2.WE (wishD c X.K xw) σ)) I ⟨G, δ, S, ha.mo δ _ _ (fun ds δ1 z vs G1 H1 S1 k1 r1 => link_call S1 k1 r1 z.1 z.2) q⟩) fun us s1 ⟨vs, H1, I1, r, q⟩ => ⟨I1.kIn, ?_⟩) he hpl
  exact run_makeG (E := L2.WE (wishD c X.K xw)) M ok hgd hr hB (passAt tk σ) I1 r fun y dx hy hdx ne => ⟨vs, H1, y, dx, Q, rfl, hy, hdx, ne, rfl, q, fun H' z => ⟨rfl, z⟩⟩
end
end PD

set_option Elab.async false
set_option linter.all false
set_option maxRecDepth 100000
set_option maxHeartbeats 2000000
/-! PD, twenty-sixth part: a caught error is kept as a value -/
namespace PD
open PySem PySem.Spec PyProof.Rows L2
section
variable {X : Cx} {pins : List (Addr × Obj)} {σ : L2.St} {H : Hp} {s : Shared} {a : Addr} {o : HO} {oe : Obj} {es : Array Value}
/-- an object that lies there, new since the entry, is told of from now on -/
theorem inv_track (I : Inv X pins σ H s) (he : s.heap.get? a = some oe) (hd : oe.data = .fields es) (n : H a = none) (n0 : X.s_0.heap.get? a = none) (nl : a ≠ X.env.locals) (np : ∀ p ∈ X.pn ++ pins, p.1 ≠ a) (new : ObjOk X.prog X.w (upd H a o) s.heap a o) : Inv X pins σ (upd H a o) s := by
  have ne : ∀ {b u}, H b = some u → b ≠ a := fun q => ne_of_none q n
  refine ⟨I.ok, I.os, I.bare, ⟨I.base.keep, I.base.slot, fun b u q m x => ?_, I.base.there, fun b xs q => ?_, fun b u v q => ?_, fun b ps q => ?_⟩, I.loc, I.cell, ?_, fun y c q => ?_, fun p hp => ?_, I.hok.laidN (fun _ _ q => q) n new, I.len⟩
  · rw [upd_ne (fun z => by rw [z, n0] at q; cases q)]; exact I.base.free b u q m x
  · have z := I.base.tups b xs q; rw [upd_ne (ne z)]; exact z
  · have z := I.base.frzs b u v q; rw [upd_ne (ne z)]; exact z
  · obtain ⟨m, z⟩ := I.base.tbls b ps q; exact ⟨m, by rw [upd_ne (ne z)]; exact z⟩
  · rw [upd_ne (Ne.symm nl)]; exact I.free
  · have : c ≠ a := fun z => by
      obtain ⟨v, o1, h1, h2⟩ := I.cell y c q
      rw [z, he] at h1; cases h1; rw [hd] at h2; cases h2
    rw [upd_ne this]; exact I.freeC y c q
  · obtain ⟨h1, h2, h3, h4, h5⟩ := I.pin p hp
    exact ⟨h1, by rw [upd_ne (np p hp)]; exact h2, h3, h4, h5⟩
end
/-- what 'except x as n' wishes of the body's errors; behind the suite the error is an object that is told of -/
def wKept (K : PySem.W.Frag) (cv : Value) (i l : Nat) (ts : Addr → Value → Option Addr → TS) (Wo : WX) (D : Ends) : WX := fun cls d σ H => σ.length = l →
  (PySem.W.exmOne K cls cv = some true ∧ ∀ a, H a = none → ts a cls d ⟨fun σ' H' => H' a = none → D.nx (σ'.set i none) (upd H' a (ExH cls d a)), fun _ _ => False, fun _ _ => False, fun _ _ => False⟩ (σ.set i (some (.ref a))) H) ∨ (PySem.W.exmOne K cls cv = some false ∧ Wo cls d σ H)
section
variable {X : Cx} {x n : Str} {cv : Value} {i : Nat} {bd su : List Stmt} {b1 : Stmt} {np pos pos' : Pos} {tb : WX → TS} {ts : Addr → Value → Option Addr → TS} {Wo : WX}
theorem ps_try_kept (hs : X.stack = X.env :: X.outer) (hf : X.env.frame = some X.env.locals) (hex : X.ex = []) (hN : X.N.Nodup) (hi : X.N[i]? = some n) (hln : X.env.kindOf n = some .local) (hc : Names X x cv) (no : Wo = fun _ _ _ _ => False)
    (hb : ∀ (W : WX) (pn : List (Addr × Obj)) (xe : Value → Shared → Prop), Takes (X.tr pn xe) W → PassesOwn (model X.prog X.w) X.A X.env xe → PSs (X.tr pn xe) bd (tb W))
    (hsu : ∀ (a : Addr) (oe : Obj) (cls : Value) (d : Option Addr) (pn : List (Addr × Obj)), Zc cls d oe → (∃ vs, oe.data = .fields vs) → PSs (X.suite a ((a, oe) :: pn)) (b1 :: su) (ts a cls d)) :
    PS X (.Try bd [.ExceptHandler (some (.Name x np)) (some n) (b1 :: su) pos'] [] [] pos) (fun D σ H => tb (wKept X.K cv i X.N.length ts Wo D) D σ H) := by
  refine ⟨fun pins s σ H D I h => wpAny_Try_except ?_⟩
  have hfr : X.A.frames = some (X.env :: X.outer) := I.ok.frames.trans (congrArg some hs)
  have air : Takes (X.tr (X.pn ++ pins) (fun e s₁ => wpAny (model X.prog X.w) X.A (noteFrame e X.env) (fun _ s₂ => wpAny (model X.prog X.w) X.A (setFlight e none) (fun _ s₃ => wpAny (model X.prog X.w) X.A (handleBy e X.env [.ExceptHandler (some (.Name x np)) (some n) (b1 :: su) pos']) (SP X pins D) X.xe s₃) X.xe s₂) X.xe s₁)) (wKept X.K cv i X.N.length ts Wo D) := by
    rintro u s' ⟨a, B, s0, pins', σ', H', cls, d, rfl, J0, nb, up, sky, na, os, ag, w⟩
    have J : Inv X pins σ' H' s0 := J0.ofTry I.ok
    rcases w J.len with ⟨hm, hy⟩ | ⟨_, w⟩
    rotate_left
    · rw [no] at w; exact w.elim
    refine Sky.land (M := model X.prog X.w) Zc.steady hfr hf (show Sky B (X.env :: X.outer) a (Zc cls d) X.env.locals s'.heap from hs ▸ sky) fun h3 f3 u3 => ?_
    have I3 : Inv X pins σ' H' { s' with heap := h3 } := J.landed nb f3.1 (up.trans u3) os ag
    obtain ⟨o3, v3, e3, z3, d3⟩ := f3.there
    have nfr : a ∉ frs (X.env :: X.outer) := fun hm => by
      obtain ⟨_, o', e', hnf⟩ := f3.2.2.1.mem hm
      rw [e3] at e'; cases e'; exact hnf _ d3
    have nl : a ≠ X.env.locals := fun z => nfr (List.mem_filterMap.mpr ⟨X.env, List.mem_cons_self, hf.trans (congrArg some z.symm)⟩)
    have nfs : a ∉ X.fs := fun hm => let ⟨e, he, q⟩ := List.mem_filterMap.mp hm; nfr (List.mem_filterMap.mpr ⟨e, List.mem_cons_of_mem _ he, q⟩)
    have new0 : s0.heap.get? a = none := by
      cases q : s0.heap.get? a with
      | none => rfl
      | some u => have z := nb a u q (hs ▸ nfr); rw [f3.2.1] at z; cases z
    have newE : X.s_0.heap.get? a = none := by
      cases q : X.s_0.heap.get? a with
      | none => rfl
      | some u => obtain ⟨w, z⟩ := J.base.there a u q (by rw [hex]; exact fun z => nomatch z); rw [new0] at z; cases z
    have npin : ∀ p ∈ X.pn ++ pins, p.1 ≠ a := fun p hp z => by have := (J.pin p hp).1; rw [z, new0] at this; cases this
    have T3 := I3.suite e3 d3 na nl nfs
    refine wpAny_handleBy_cons (codeAny_handlers_test ?_) (by intro q; cases q)
    have look : PySem.W.Looks (model X.prog X.w) h3 (typeOf (.ref a)) cls := fun A Q E s k q => wpAny_typeOf_ref (k _ _ e3) (z3.1.symm ▸ q)
    have hit := PySem.W.exm_one (M := model X.prog X.w) I3.kIn look hm
    have name : ∀ {Q E : Value → Shared → Prop}, Q cv { s' with heap := h3 } → wpAny (model X.prog X.w) (X.A.mark (some (.ref a))) (eval (.Name x np) X.env) Q E { s' with heap := h3 } := fun {Q E} q => by
      rcases hc with ⟨hg, hdb, hm | ⟨hm, hv, hn⟩⟩
      · exact ld_glob (X := X.suite a ((a, o3) :: (X.pn ++ pins))) T3 hg hm q hdb
      · exact ld_blt (X := X.suite a ((a, o3) :: (X.pn ++ pins))) T3 hg hm hv q hn hdb
    refine name (hit.here (codeAny_handlers_suite_as (HandSPX.lands_againZ f3 fun h4 f4 u4 => ?_)))
    have I4 : Inv X pins σ' H' { s' with heap := h4 } := J.landed nb f4.1 ((up.trans u3).trans u4) os ag
    obtain ⟨o4, v4, e4, z4, d4⟩ := f4.there
    refine store_ok (X := X.suite a ((a, o4) :: (X.pn ++ pins))) (v := .ref a) (I4.suite e4 d4 na nl nfs) hN hi (.inl hln) rfl (fun s5 T5 => ?_) (.inr hln)
    refine wpAny_mono ((hsu a o4 cls d (X.pn ++ pins) z4 ⟨_, d4⟩).run [] s5 _ H' _ T5 (hy a na)) (fun f s6 r => ?_) (fun _ _ z => z.elim)
    cases f with
    | next =>
      obtain ⟨σ6, H6, T6, q6⟩ := r
      obtain ⟨p1, p2, _, _, _⟩ := T6.pin (a, o4) (List.mem_append_left _ List.mem_cons_self)
      have I6 := inv_track (o := ExH cls d a) (T6.unsuite I.ok) p1 d4 p2 newE nl npin (exH_ok p1 z4 d4)
      exact gone_ok I6 hN hi hln fun s7 J7 => ⟨_, _, J7, q6 p2⟩
    | brk => exact r.elim fun _ r => r.elim fun _ r => r.2.elim
    | cont => exact r.elim fun _ r => r.elim fun _ r => r.2.elim
    | ret u => obtain ⟨_, _, _, _, _, z⟩ := r; exact z.elim
  refine wpAny_mono ((hb (wKept X.K cv i X.N.length ts Wo D) _ _ air PassesOwn.looking).run [] s σ H D (I.toTry _) h) (fun f s1 r => ?_) (fun e s1 r => r)
  cases f with
  | next => obtain ⟨σ', H', J', q⟩ := r; exact wpAny_execs_nil ⟨σ', H', J'.ofTry I.ok, q⟩
  | brk => obtain ⟨σ', H', J', q⟩ := r; exact ⟨σ', H', J'.ofTry I.ok, q⟩
  | cont => obtain ⟨σ', H', J', q⟩ := r; exact ⟨σ', H', J'.ofTry I.ok, q⟩
  | ret u => obtain ⟨v, σ', H', J', rr, q⟩ := r; exact ⟨v, σ', H', J'.ofTry I.ok, rr, q⟩
end
end PD

set_option Elab.async false
set_option linter.all false
set_option maxRecDepth 100000
set_option maxHeartbeats 2000000
/-! PD, twenty-seventh part: the top, with tables of code objects -/
namespace PD
open PySem PySem.Spec PyProof.Rows L2
abbrev CsL : Type := List (Addr × Addr)
abbrev tabO : Obj := { cls := .none, data := .fields #[] }
/-- the heap at the law's call: the script, unless the written part has it; what the loader keeps; the tables -/
def topT (K : PySem.W.Frag) (cs : CsL) (a : Addr) (vs : List Value) (ns : List Int) (so : Obj) : Hp := fun b =>
  if b = sysModules then some (sysH so) else if b ∈ cs.map (·.2) then some (.tbl #[]) else if b = a ∧ K.lookup a = none then some (.frz { cls := .type "list", data := .seq vs.toArray } (.lst (ns.map V.int))) else none
theorem law_topT {P : Program} {w : World} {K : PySem.W.Frag} {mg mb : Str → Option Value} {k : Nat} {fa a : Addr} {cs : CsL} {fd : FuncData} {x : Str} {sp : Sp} {s₁ : Shared} {vs : List Value} {ns : List Int} {so : Obj}
    (KX : K.In s₁.heap) (hns : s₁.heap.Ns mainGlobals mg) (hb : s₁.heap.Ns builtinsNs mb) (hbb : ∀ x : Str, x ≠ "__name__" → mb x = bootBuiltins x) (hlim : s₁.heap.NoLimit) (hg : s₁.gens = #[])
    (hK : K.lookup sysModules = none) (hso : s₁.heap.get? sysModules = some so) (hsx : ∃ es n, so.data = .dict es n)
    (hT : ∀ p ∈ cs, s₁.heap.get? p.2 = some tabO) (nT : ∀ p ∈ cs, K.lookup p.2 = none) (C : ∀ p ∈ cs, PySem.W.CodeHd s₁.heap p.1 p.2)
    (hbm : ∃ (bm : Addr) (ob : Obj), mg "__builtins__" = some (.ref bm) ∧ bm ≠ builtinsNs ∧ s₁.heap.get? bm = some ob ∧ ob.cls = .type "module" ∧ ob.dict = some builtinsNs ∧ ob.data = .plain)
    (ha : s₁.heap.get? a = some { cls := .type "list", data := .seq vs.toArray }) (hi : IntsAre vs ns) (hl : ns.length ≤ sizeLine) (hr : Room k callerA)
    (F : ∀ base : Heap, K.In base → base.Ns mainGlobals mg → (∀ p ∈ cs, LamX.TabB base mg p.1 p.2) → FnG P w K mg base (L2.CX P w) k fa fd [x] sp) (hbind : ∀ (s : Shared) (u : Value), BindsTo s fd ⟨[u], []⟩ [(x, u)])
    (hsp : ∀ H : Hp, H sysModules = some (sysH so) → (∀ p ∈ cs, H p.2 = some (.tbl #[])) → SqL K H a (ns.map V.int) → sp [.ref a] H (okV so) fun _ _ _ => False) :
    codeAny (model P w) callerA (.call (.ref fa) ⟨[.ref a], []⟩) (fun r s' => r = .ok (.ret (.bool true)) ∧ OldK s₁.heap s'.heap ∧ s'.os = s₁.os ∧ AllBare s'.gens) s₁ := by
  obtain ⟨esx, epx, hsx⟩ := hsx
  have hsd : ∀ vs n, so.data ≠ .seq vs n := fun vs n z => by rw [hsx] at z; cases z
  have hsf : ∀ vs, so.data ≠ .fields vs := fun vs z => by rw [hsx] at z; cases z
  have rv := vals_ints hi
  have lenV := hi.length
  have isT : ∀ {b : Addr}, b ∈ cs.map (·.2) → s₁.heap.get? b = some tabO := fun {b} hb => by
    obtain ⟨p, hp, e⟩ := List.mem_map.mp hb; rw [← e]; exact hT p hp
  have memT : ∀ {p : Addr × Addr}, p ∈ cs → p.2 ∈ cs.map (·.2) := fun hp => List.mem_map.mpr ⟨_, hp, rfl⟩
  have aS : a ≠ sysModules := fun z => by rw [z, hso] at ha; exact hsd _ _ (congrArg Obj.data (Option.some.inj ha))
  have aT : a ∉ cs.map (·.2) := fun z => by have q := isT z; rw [ha] at q; cases congrArg Obj.data (Option.some.inj q)
  have tS : sysModules ∉ cs.map (·.2) := fun z => by have q := isT z; rw [hso] at q; exact hsf _ (congrArg Obj.data (Option.some.inj q))
  obtain ⟨H, eH⟩ : ∃ H, H = topT K cs a vs ns so := ⟨_, rfl⟩
  have hS : H sysModules = some (sysH so) := by rw [eH]; exact if_pos rfl
  have hH : ∀ p ∈ cs, H p.2 = some (.tbl #[]) := fun p hp => by
    rw [eH]; exact (if_neg (fun z : p.2 = sysModules => tS (by rw [← z]; exact memT hp))).trans (if_pos (memT hp))
  have cases_ : ∀ b u, H b = some u → (b = sysModules ∧ u = sysH so) ∨ (b ∈ cs.map (·.2) ∧ u = .tbl #[]) ∨ (b = a ∧ K.lookup a = none ∧ u = .frz { cls := .type "list", data := .seq vs.toArray } (.lst (ns.map V.int))) := fun b u e => by
    rw [eH] at e; unfold topT at e
    by_cases h1 : b = sysModules
    · rw [if_pos h1] at e; cases e; exact .inl ⟨h1, rfl⟩
    · rw [if_neg h1] at e
      by_cases h2 : b ∈ cs.map (·.2)
      · rw [if_pos h2] at e; cases e; exact .inr (.inl ⟨h2, rfl⟩)
      · rw [if_neg h2] at e
        by_cases h3 : b = a ∧ K.lookup a = none
        · rw [if_pos h3] at e; cases e; exact .inr (.inr ⟨h3.1, h3.2, rfl⟩)
        · rw [if_neg h3] at e; cases e
  have noH : ∀ {b : Addr} {o : Obj}, s₁.heap.get? b = some o → b ≠ sysModules → (∀ vs n, o.data ≠ .seq vs n) → o.data ≠ .fields #[] → H b = none := fun {b o} e n1 n2 n3 => by
    cases q : H b with
    | none => rfl
    | some u =>
      rcases cases_ b u q with ⟨z, _⟩ | ⟨z, _⟩ | ⟨z, _, _⟩
      · exact (n1 z).elim
      · rw [isT z] at e; cases e; exact (n3 rfl).elim
      · rw [z, ha] at e; cases e; exact (n2 _ _ rfl).elim
  have hok : HOk P w H s₁.heap := fun b u e => by
    rcases cases_ b u e with ⟨rfl, rfl⟩ | ⟨z, rfl⟩ | ⟨rfl, _, rfl⟩
    · exact ⟨hso, ⟨so, hso⟩, fun h1 h2 p k => k _ p⟩
    · exact isT z
    · exact ⟨ha, by rw [List.length_map]; exact hl, vs, _, rv, ha⟩
  have hSq : SqL K H a (ns.map V.int) := by
    cases q : K.lookup a with
    | some o =>
      have e := KX a o q
      rw [ha] at e; cases e
      exact .inr ⟨_, vs.toArray, _, q, rfl, rfl, rfl, by rw [List.size_toArray, lenV]; exact hl, by simpa using rv⟩
    | none => exact .inl (.inr ⟨{ cls := .type "list", data := .seq vs.toArray }, by rw [eH]; exact (if_neg aS).trans ((if_neg aT).trans (if_pos ⟨rfl, q⟩))⟩)
  have noD : ∀ {b : Addr} {o : Obj} {es : Array DictEntry} {ep : Nat}, s₁.heap.get? b = some o → o.data = .dict es ep → b ≠ sysModules → H b = none := fun {b o es ep} e d n => noH e n (fun vs n z => by rw [d] at z; cases z) fun z => by rw [d] at z; cases z
  have nsK : ∀ {b : Addr} {m : Str → Option Value}, s₁.heap.Ns b m → b ≠ sysModules → (hidT s₁.heap H).Ns b m := fun {b m} ⟨o, es, ep, e, d, r⟩ n => ⟨o, es, ep, hidT_get e (noD e d n), d, r⟩
  have hKb : K.In (hidT s₁.heap H) := fun b o e => hidT_get (KX b o e) (by
    cases q : H b with
    | none => rfl
    | some u =>
      rcases cases_ b u q with ⟨z, _⟩ | ⟨z, _⟩ | ⟨z, n, _⟩
      · rw [z, hK] at e; cases e
      · obtain ⟨p, hp, ep⟩ := List.mem_map.mp z; rw [← ep, nT p hp] at e; cases e
      · rw [z, n] at e; cases e)
  have hM : L2.Mod K mg (hidT s₁.heap H) := ⟨hKb, nsK hns (by decide), ⟨mb, nsK hb (by decide), hbb⟩, let ⟨mc, h1, h2⟩ := hlim; ⟨mc, nsK h1 (by decide), h2⟩⟩
  have TB : ∀ p ∈ cs, LamX.TabB (hidT s₁.heap H) mg p.1 p.2 := fun p hp => by
    refine ⟨?_, ?_, fun z => ?_⟩
    · obtain ⟨o, us, file, tf, flags, tg, inF, text, tt, e1, r1, r2, r3, r4, r5, r6, r7, r8, hne⟩ := C p hp
      refine ⟨o, us, file, tf, flags, tg, inF, text, tt, hidT_get e1 ?_, r1, r2, r3, r4, r5, r6, r7, r8, hne⟩
      refine noH e1 (fun z => ?_) (fun vs n z => by rw [r2] at z; cases z) fun z => by rw [r2] at z; cases z; simp at r3
      rw [z, hso] at e1; cases e1; exact hsf _ r2
    · obtain ⟨bm, ob, b1, b2, b3, b4, b5, b6⟩ := hbm
      have nG : bm ≠ mainGlobals := fun q => by
        obtain ⟨o, es, ep, e, hd, _⟩ := hns
        rw [q, e] at b3; cases b3; rw [hd] at b6; cases b6
      have nP : bm ≠ p.2 := fun q => by rw [q, hT p hp] at b3; cases b3; cases b6
      have nM : H bm = none := by
        cases q : H bm with
        | none => rfl
        | some u =>
          rcases cases_ bm u q with ⟨z, _⟩ | ⟨z, _⟩ | ⟨z, _, _⟩
          · rw [z, hso] at b3; cases b3; rw [hsx] at b6; cases b6
          · rw [isT z] at b3; cases b3; cases b6
          · rw [z, ha] at b3; cases b3; cases b6
      exact ⟨bm, ob, b1, b2, nG, nP, hidT_get b3 nM, b4, b5, b6⟩
    · obtain ⟨o, es, ep, e, hd, _⟩ := hns
      rw [z, hT p hp] at e; cases e; cases hd
  have e0 : Env0 P w K mg (hidT s₁.heap H) callerA [] s₁ H := ⟨rfl, hM, fun b o e => of_hidT e, Nat.le_of_eq (hidT_size _ _), trivial, fun b hb => absurd (show b ∈ ([] : List Addr) from hb) (by simp), hok, .of_eq hg⟩
  refine codeAny_mono ((F _ hKb (nsK hns (by decide)) TB).run callerA [] s₁ H ⟨[.ref a], []⟩ [.ref a] [.ref a] _ _ rfl hr e0 (hbind s₁ (.ref a)) (.cons rfl .nil) (hsp H hS hH hSq)) fun r s' h => ?_
  cases r with
  | error e => exact (cx_false h).elim
  | ok fl =>
    cases fl with
    | next => exact False.elim h
    | brk => exact False.elim h
    | cont => exact False.elim h
    | ret u =>
      obtain ⟨v, H', os, bare, un, hok', r', q1, q2⟩ := h
      subst q1
      obtain rfl : u = Value.bool true := r'
      have key : ∀ b o, b ∉ cs.map (·.2) → s₁.heap.get? b = some o → s'.heap.get? b = some o := fun b o nb e => by
        cases q : H b with
        | none => exact un.keep b o e q (by intro z; exact absurd (show b ∈ ([] : List Addr) from z) (by simp)) (by simp)
        | some u =>
          rcases cases_ b u q with ⟨z, _⟩ | ⟨z, _⟩ | ⟨z, n, zu⟩
          · subst z; rw [hso] at e; cases e; exact (hok' _ _ q2).1
          · exact (nb z).elim
          · rw [zu] at q
            have e2 := (hok' b _ (un.frzs b _ _ q)).1
            rw [z, ha] at e; cases e; exact e2
      have grown : ∀ p ∈ cs, ∃ more : Array Value, s'.heap.get? p.2 = some { cls := .none, data := .fields more } := fun p hp => by
        obtain ⟨more, z⟩ := un.tbls p.2 #[] (hH p hp)
        exact ⟨_, hok' p.2 _ z⟩
      refine ⟨rfl, ⟨fun b o e => ?_, fun b o e => ?_⟩, os, bare⟩
      · by_cases hb : b ∈ cs.map (·.2)
        · obtain ⟨p, hp, ep⟩ := List.mem_map.mp hb
          obtain ⟨more, hm⟩ := grown p hp
          rw [← ep] at e ⊢
          rw [hT p hp] at e; cases e
          exact .inr (.inl ⟨((C p hp).tab (hT p hp)).isCodeTable, rfl, #[], more, rfl, by rw [Array.empty_append]; exact hm⟩)
        · exact .inl (key b o hb e)
      · by_cases hb : b ∈ cs.map (·.2)
        · obtain ⟨p, hp, ep⟩ := List.mem_map.mp hb
          obtain ⟨more, hm⟩ := grown p hp
          rw [← ep]; exact ⟨_, hm⟩
        · exact ⟨o, key b o hb e⟩
/-- what is known of the law's promise at the head's heap h -/
def LawT (l : PySem.W.OpenLaw) (w : World) (K : PySem.W.Frag) (k n : Nat) (x : Str) (mg : Str → Option Value) (fa : Addr) (h : Heap) : Prop :=
  ∃ (fd : FuncData) (cs : CsL) (so : Obj) (sp : Sp), K.lookup sysModules = none ∧ h.get? sysModules = some so ∧ (∃ es n, so.data = .dict es n) ∧ (∀ p ∈ cs, h.get? p.2 = some tabO) ∧ (∀ p ∈ cs, K.lookup p.2 = none) ∧ (∀ p ∈ cs, PySem.W.CodeHd h p.1 p.2) ∧
    (∀ (s : Shared) (u : Value), BindsTo s fd ⟨[u], []⟩ [(x, u)]) ∧
    (∀ (H : Hp) (a : Addr) (ns : List Int), ns.length ≤ n → H sysModules = some (sysH so) → (∀ p ∈ cs, H p.2 = some (.tbl #[])) → SqL K H a (ns.map V.int) → sp [.ref a] H (okV so) fun _ _ _ => False) ∧
    ∀ base : Heap, K.In base → base.Ns mainGlobals mg → (∀ p ∈ cs, LamX.TabB base mg p.1 p.2) → FnG l.prog w K mg base (L2.CX l.prog w) k fa fd [x] sp
theorem walk_T {l : PySem.W.OpenLaw} {n k : Nat} {q : Program} {loose : List Str} {XP : (Str → Option Value) → Heap → Prop} {YP : World → Heap → Prop} {d : DefRec} {x : Str}
    (hn : l.most = some n) (hn2 : n ≤ sizeLine) (hdf : d.params.defaults = []) (hr : Room k callerA)
    (F : ∀ (w : World) (mg : Str → Option Value) (fa : Addr) (h : Heap), YP w h → h.Ns mainGlobals mg → mg d.name = some (.ref fa) → ∃ K : PySem.W.Frag, K.In h ∧ LawT l w K k n x mg fa h) :
    PySem.W.WalkO q loose XP YP l.row.toRowW d [] (fun f vs => PySem.call f vs) := by
  refine Att.attach_callB hn hdf fun w s₀ s₁ mg mb fa o pm cd doc a vs ns G Y ho hd hcd hmg hobj hints hlen hbits hg => ?_
  obtain ⟨K, KX, fd, cs, so, sp, hK, hso, hsx, hT, nT, hC, hb, hsp, hF⟩ := F w mg fa _ Y G.T.g hmg
  exact law_topT KX G.T.g G.T.b G.T.builtins G.T.nolimit hg hK hso hsx hT nT hC G.T.bmain hobj hints (Nat.le_trans hlen hn2) hr hF hb fun H h1 h2 h3 => hsp H a ns hlen h1 h2 h3
/-! ### the Hook, with tables -/
def frL (g : Addr → Option Obj) (n : Nat) : PySem.W.Frag := He.frT g (asP g n)
def sysC (g : Addr → Option Obj) : Bool := match g sysModules with
  | some o => (match o.data with
    | .dict _ _ => true
    | _ => false)
  | none => false
abbrev AlQ : Type := He.AlD × (List FnC × Bool)
def obsQ (n : Nat) (fa : List He.Fa) (fn : List He.DefD) (me : List MeD) (tf : List He.Defn) (ex : PySem.W.Frag → Bool) (g : Addr → Option Obj) : AlQ :=
  (He.obsD fa fn (frL g n), me.map fun d => fnC (frL g n) (d.ad (frL g n)), ex (frL g n) && (sysC g && He.tabsB g tf (frL g n)))
structure SaysQ (fa : List He.Fa) (fn : List He.DefD) (me : List MeD) (tf : List He.Defn) (ex : PySem.W.Frag → Bool) (h : Heap) (K : PySem.W.Frag) : Prop where
  p : SaysP fa fn me ex h K
  sys : ∃ so, h.get? sysModules = some so ∧ ∃ es n, so.data = .dict es n
  hd : ∀ p ∈ tf, PySem.W.codeHdIn K (He.cT K p).1 (He.cT K p).2 = true
  out : ∀ p ∈ tf, K.lookup (He.cT K p).2 = none
  empty : ∀ p ∈ tf, h.get? (He.cT K p).2 = some tabO
theorem frL_no {g : Addr → Option Obj} {n : Nat} : (frL g n).lookup sysModules = none := by
  cases q : (frL g n).lookup sysModules with
  | none => rfl
  | some o =>
    obtain ⟨h1, h2⟩ := List.mem_filter.mp (He.lookup_mem q)
    unfold He.frG at h1
    obtain ⟨b, hb, e⟩ := List.mem_filterMap.mp h1
    cases q2 : g b with
    | none => rw [q2] at e; cases e
    | some u =>
      rw [q2] at e; cases e
      unfold asP at hb
      have h3 := (List.mem_filter.mp hb).2
      simp at h3
theorem saysQ_of {n : Nat} {fa : List He.Fa} {fn : List He.DefD} {me : List MeD} {tf : List He.Defn} {ex : PySem.W.Frag → Bool} {h : Heap} (e : obsQ n fa fn me tf ex h.get? = valP fn me) : SaysQ fa fn me tf ex h (frL h.get? n) := by
  have e1 : He.obsD fa fn (frL h.get? n) = He.valD fn := congrArg (fun z : AlQ => z.1) e
  have e2 : (ex (frL h.get? n) && (sysC h.get? && He.tabsB h.get? tf (frL h.get? n))) = true := congrArg (fun z : AlQ => z.2.2) e
  have e3 : (me.map fun d => fnC (frL h.get? n) (d.ad (frL h.get? n))) = me.map MeD.val := congrArg (fun z : AlQ => z.2.1) e
  obtain ⟨h1, h0⟩ := He.ba e2
  obtain ⟨h2, h3⟩ := He.ba h0
  have sx : ∃ so, h.get? sysModules = some so ∧ ∃ es n, so.data = .dict es n := by
    unfold sysC at h2
    cases q : h.get? sysModules with
    | none => rw [q] at h2; cases h2
    | some o =>
      rw [q] at h2
      have h4 : (match o.data with
        | .dict _ _ => true
        | _ => false) = true := h2
      cases q2 : o.data with
      | dict es n => exact ⟨o, rfl, es, n, q2⟩
      | _ => rw [q2] at h4; cases h4
  have key : ∀ p ∈ tf, PySem.W.codeHdIn (frL h.get? n) (He.cT (frL h.get? n) p).1 (He.cT (frL h.get? n) p).2 = true ∧ ∃ o, h.get? (He.cT (frL h.get? n) p).2 = some o ∧ He.emptyTab o = true := fun p hp => by
    obtain ⟨h4, h5⟩ := He.ba (List.all_eq_true.mp h3 p hp)
    refine ⟨h4, ?_⟩
    cases q : h.get? (He.cT (frL h.get? n) p).2 with
    | none => rw [q] at h5; cases h5
    | some o => rw [q] at h5; exact ⟨o, rfl, h5⟩
  refine ⟨⟨e1, e3, h1, frL_no, sx.imp fun so z => ⟨z.1, fun vs n y => by obtain ⟨_, es, m, z⟩ := z; rw [z] at y; cases y⟩⟩, sx, fun p hp => (key p hp).1, fun p hp => ?_, fun p hp => ?_⟩
  · obtain ⟨_, o, q, z⟩ := key p hp
    exact He.frT_none q z
  · obtain ⟨_, o, q, z⟩ := key p hp
    rw [q, He.emptyTab_eq z]
def hookQ (n : Nat) (fa : List He.Fa) (fn : List He.DefD) (me : List MeD) (tf : List He.Defn) (ex : PySem.W.Frag → Bool) : PySem.W.Hook where
  α := AlQ
  obs := fun s => obsQ n fa fn me tf ex s.heap.get?
  val := fun _ => valP fn me
  says := fun _ h => ∃ K : PySem.W.Frag, K.In h ∧ SaysQ fa fn me tf ex h K
  of := fun _ _ e => ⟨_, He.frT_in, saysQ_of e⟩
  keeps := fun _ _ _ ⟨K, hK, c⟩ k => ⟨K, PySem.W.Frag.In.keeps hK k, ⟨⟨c.p.d, c.p.me, c.p.more, c.p.no, c.p.sys.imp fun so z => ⟨k _ _ z.1, z.2⟩⟩, c.sys.imp fun so z => ⟨k _ _ z.1, z.2⟩, c.hd, c.out, fun p hp => k _ _ (c.empty p hp)⟩⟩
theorem obsQ_eq {n : Nat} {fa : List He.Fa} {fn : List He.DefD} {me : List MeD} {tf : List He.Defn} {ex : PySem.W.Frag → Bool} {g : Addr → Option Obj} {s : Shared} (h : ∀ a, g a = s.heap.get? a) : obsQ n fa fn me tf ex g = (hookQ n fa fn me tf ex).obs s := by
  have e : g = s.heap.get? := funext h
  rw [e] <;> rfl
end PD

set_option Elab.async false
set_option linter.all false
set_option maxRecDepth 100000
set_option maxHeartbeats 2000000
/-! PD, twenty-eighth part: caught(lambda: e) -/
namespace PD
open PySem PySem.Spec PyProof.Rows L2 LamX
/-- the def that catches: what it makes of its argument's wish -/
def TCatch (K : PySem.W.Frag) (CS : Addr) : (XK → Hp → VK → Prop) → Hp → VK → Prop := fun tl H Q =>
  tl (fun cls d H' => PySem.W.exmOne K cls (.ref CS) = some true ∧ ∀ a, H' a = none → Q (.ref a) (upd H' a (ExH cls d a))) H fun _ H' => Q .non H'
section
variable {X : Cx}
theorem catch_gives {x a y e z q : Str} {sg : Scope} {g CS : Addr} {cdg : Value} {j : Nat} {p1 p2 p3 p4 p5 p6 p7 p8 p9 p10 p11 p12 p13 p14 : Pos} (nd : ([a, y, e] : List Str).Nodup) (hy : sg.names.lookup y = some .local) (he : sg.names.lookup e = some .local) (hz : sg.names.lookup z = some .globalImplicit) (hm : X.mg z = some (.ref CS))
    (hdz : (z == ("__debug__" : Str)) = false) (hdy : (y == ("__debug__" : Str)) = false) (hcy : (y == ("__classdict__" : Str)) = false) (hde : (e == ("__debug__" : Str)) = false) (hce : (e == ("__classdict__" : Str)) = false)
    (hs1 : ∀ env : Env, env.scope = sg → swapsWith (.Constant .none j p2) (some (.Name y p1)) p3.line env = pure false) (hs2 : ∀ env : Env, env.scope = sg → swapsWith (.Call (.Name a p4) [] [] p5) none p6.line env = pure false) (hs3 : ∀ env : Env, env.scope = sg → swapsWith (.Name e p9) (some (.Name y p8)) p10.line env = pure false) :
    GivesTo X [a, y, e] x sg g cdg [.Assign [.Name y p1] (.Constant .none j p2) p3, .Try [.Expr (.Call (.Name a p4) [] [] p5) p6] [.ExceptHandler (some (.Name z p7)) (some e) [.Assign [.Name y p8] (.Name e p9) p10] p11] [] [] p12, .Return (some (.Name y p13)) p14] a q (TCatch X.K CS) := by
  intro f c' s H Q tl act hc h
  let Y : Cx := (cxOf C8.CX0 X.prog X.w X.K X.mg X.base [a, y, e] x sg g cdg X.A X.stack s H C8.E0).nox
  have hgl : Gl Y z := hz
  have vy : Vis Y.env.scope y := .inl hy
  have s1 : PS Y (.Assign [.Name y p1] (.Constant .none j p2) p3) (tAsg (tC .non) (gName 1)) := ps_set (i := 1) nd rfl (.inl hy) pe_non (hs1 _ rfl) (.inr hy)
  have s3 : PS Y (.Return (some (.Name y p13)) p14) (tRet (tVar 1)) := ps_ret (pe_var (i := 1) rfl vy hdy hcy)
  have s2 := ps_try_kept (X := Y) (x := z) (cv := .ref CS) (i := 2) (n := e) (np := p7) (pos := p12) (pos' := p11) (bd := [.Expr (.Call (.Name a p4) [] [] p5) p6]) (b1 := .Assign [.Name y p8] (.Name e p9) p10) (su := []) (Wo := fun _ _ _ _ => False)
    (tb := fun W D σ H' => ∃ Ec : XK, (∀ cls d σ' H', Ec cls d H' → W cls d σ' H') ∧ σ[0]? = some (some (.ref f)) ∧ H' c' = some (CodeO c' q) ∧ tl Ec H' fun _ H2 => D.nx σ H2)
    (ts := fun _ _ _ => tAsg (tVar 2) (gName 1)) rfl rfl rfl nd rfl he ⟨hgl, hdz, .inl hm⟩ rfl
    (fun W pn xe tk _ => ⟨fun pins s' σ H' D I ⟨Ec, hW, h1, h2, h3⟩ => (pss_one (ps_expr (act W pn xe Ec p4 p5 tk hW) (hs2 _ rfl))).run pins s' σ H' D I ⟨h1, h2, h3⟩⟩)
    (fun b oe cls d pn _ _ => pss_one (ps_set (i := 1) nd rfl (.inl hy) (pe_var (i := 2) rfl (.inl he) hde hce) (hs3 _ rfl) (.inr hy)))
  refine ⟨_, pss_cons s1 (pss_cons s2 (pss_one s3)), ?_⟩
  refine ⟨fun cls d H' => PySem.W.exmOne X.K cls (.ref CS) = some true ∧ ∀ a, H' a = none → Q (.ref a) (upd H' a (ExH cls d a)), fun cls d σ' H' ⟨e1, e2⟩ hl => .inl ⟨e1, fun b hb => ?_⟩, rfl, hc, ?_⟩
  · have hl' : σ'.length = 3 := hl
    refine ⟨.ref b, by rw [List.getElem?_set_self (by omega)], fun hn => ⟨.ref b, ?_, e2 b hb⟩⟩
    rw [List.getElem?_set_ne (by decide), List.getElem?_set_self (by rw [List.length_set]; omega)]
  · have e0 : (fun (_ : V) (H2 : Hp) => tRet (tVar 1) { nx := fun _ H' => Q .non H', rt := Q } ((L2.start [a, y, e] [.ref f]).set 1 (some .non)) H2) = fun _ H2 => Q .non H2 := by
      funext _ H2
      refine propext ⟨fun ⟨v, h1, h2⟩ => ?_, fun h => ⟨.non, rfl, h⟩⟩
      have h1' : some (some V.non) = some (some v) := h1
      cases h1'; exact h2
    show tl _ H (fun (_ : V) (H2 : Hp) => tRet (tVar 1) { nx := fun _ H' => Q .non H', rt := Q } ((L2.start [a, y, e] [.ref f]).set 1 (some .non)) H2)
    rw [e0]; exact h
end
section
variable {X : Cx} {pins : List (Addr × Obj)} {σ : L2.St} {H : Hp} {s : Shared}
/-- the argument called, in the def that got it; no repr is under way -/
theorem act_g {Eg : XK} {Ng : List Str} {qg : Str} {sg : Scope} {g f c' : Addr} {cdg pm ctv : Value} {params : Arguments} {body : Expr} {scope : Scope} {k : Nat} {a : Str} {pn : List (Addr × Obj)} {xe : Value → Shared → Prop} {W : WX} {E : XK} {tb : TE} {p1 p2 : Pos}
    (I : Inv X pins σ H s) (L : LamS X.env.scope scope) (hf : s.heap.get? f = some (PySem.W.kla_obj "<lambda>" (X.env.qual ++ "<lambda>") params body scope (cloFrom X.env.cells scope.names []) pm c' ctv)) (hfn : H f = none) (hfr : f ∉ frs X.stack)
    (hbind : bindArgs (PySem.W.kla_fn "<lambda>" (X.env.qual ++ "<lambda>") params body scope (cloFrom X.env.cells scope.names []) pm (.ref c') ctv) ⟨[], []⟩ = pure [])
    (tk : Takes ((cxOf C8.CX0 X.prog X.w X.K X.mg X.base Ng qg sg g cdg X.A X.stack s H Eg).tr pn xe) W) (hW : ∀ cls d σ' H', E cls d H' → W cls d σ' H') (hgd : X.A.guards = some []) (hr : Room (k + 1) (X.A.deeper (envOfC qg sg s.heap.objs.size g cdg)))
    (hbody : ∀ (A : Around) (outer : List Env) (s : Shared) (H : Hp), A.guards = some [] → Room k (A.deeper (lamEnv X scope s.heap.objs.size f c')) → PE (lamCx X A outer s H E scope f c') body tb)
    (hN : Ng[0]? = some a) (hv : Vis sg a) (hd : (a == ("__debug__" : Str)) = false) (hcd : (a == ("__classdict__" : Str)) = false) :
    PE ((cxOf C8.CX0 X.prog X.w X.K X.mg X.base Ng qg sg g cdg X.A X.stack s H Eg).tr pn xe) (.Call (.Name a p1) [] [] p2)
      (fun σZ HZ Q => σZ[0]? = some (some (.ref f)) ∧ HZ c' = some (CodeO c' (X.env.qual ++ "<lambda>")) ∧ tb σ HZ Q) := by
  constructor
  intro pinsZ sZ σZ HZ Q IZ ⟨hs, hc, ht⟩
  refine wpAny_Call_Name_kw (thn ((pe_var (pos := p1) (i := 0) hN hv hd hcd).run pinsZ sZ σZ HZ (fun v H1 => v = .ref f ∧ H1 = HZ) IZ ⟨.ref f, hs, rfl, rfl⟩) fun u s1 ⟨v, H1, I1, r1, q1, q2⟩ => ?_)
  subst q1; subst q2
  obtain rfl : u = Value.ref f := r1
  have lies : s1.heap.get? f = some (PySem.W.kla_obj "<lambda>" (X.env.qual ++ "<lambda>") params body scope (cloFrom X.env.cells scope.names []) pm c' ctv) := I1.base.keep f _ hf hfn hfr (fun z => nomatch (show f ∈ ([] : List Addr) from z))
  have unb : Un (frs X.stack) [] H H1 s.heap s1.heap := I1.base
  obtain ⟨⟨oc, vs, t, hoc, hdc, hvc⟩, _, _⟩ := I1.hok c' _ hc
  refine PySem.W.callWith_F0 ⟨_, _, _, _, lies⟩ (wpAny_call (codeAny_mono (R := CR (L2.CX X.prog X.w) (envOfC qg sg s.heap.objs.size g cdg :: X.stack) X.prog X.w H1 s1 Q E) ?_ fun r s' hq => ?_))
  · refine PySem.W.kla_callFunE hr.depth lies rfl L.co L.gen rfl ⟨c', oc, vs, t, rfl, hoc, hdc, hvc⟩ ?_
    rw [show bindArgs (PySem.W.kla_fn "<lambda>" (X.env.qual ++ "<lambda>") params body scope (cloFrom X.env.cells scope.names []) pm (.ref c') ctv) ⟨[] ++ [], []⟩ = pure [] from hbind]
    refine wpAny_pure (wpAny_newFunctionEnv (fun y hy => (L.own y hy).2) (fun y hy => absurd hy (by simp)) (fun h₁ hns hsb => ⟨I1.nolimit.fresh _ hsb, ?_⟩) L.kind)
    show codeAny _ _ (.expr body (lamEnv X scope s1.heap.objs.size f c')) _ _
    have J : Inv (lamCx X (X.A.deeper (envOfC qg sg s.heap.objs.size g cdg)) (envOfC qg sg s.heap.objs.size g cdg :: X.stack) s1 H1 E scope f c') [] σ H1 { s1 with heap := h₁, toks := s1.toks + ([] : List (Str × Value)).length } :=
      lam_start2 I L I1.env0 hr.hd unb hns fun b o e => hsb.extBut b o (Nat.ne_of_lt (Heap.lt_size e)) (Heap.get?_push_of_some _ e)
    exact PySem.W.kla_codeExpr (wpAny_mono ((hbody (X.A.deeper (envOfC qg sg s.heap.objs.size g cdg)) _ s1 H1 hgd (hr.deeper _)).run [] _ _ H1 Q J ht) (fun v s' ⟨w', H', J', rv, q⟩ => ⟨w', H', J'.os, J'.bare, J'.base, J'.hok, rv, q⟩) fun e s' hq => hq)
  · have hx : Passes (L2.CX X.prog X.w) ((cxOf C8.CX0 X.prog X.w X.K X.mg X.base Ng qg sg g cdg X.A X.stack s H Eg).tr pn xe) E := passes_call tk hW
    cases r with
    | error e => exact hx pinsZ σZ H1 s1 e s' I1 hq
    | ok fl =>
      cases fl with
      | ret u => exact I1.after hq
      | next => exact hq.elim
      | brk => exact hq.elim
      | cont => exact hq.elim
end
/-- the table of P is written at most, besides a new code object -/
def ExtP (P : Addr) (H H1 : Hp) : Prop := ∀ b o, H b = some o → b ≠ P → H1 b = some o
section
variable {X : Cx} {pins : List (Addr × Obj)} {σ : L2.St} {H : Hp} {s : Shared}
theorem lam_mk {T : List (Addr × Str)} {c P : Addr} {params : Arguments} {body : Expr} {scope : Scope} {pos : Pos} {E Q : Value → Shared → Prop} (I : Inv X pins σ H s) (TB : TabB X.base X.mg c P) (hcode : X.env.code = .ref c) (hm : (P, X.env.qual ++ "<lambda>") ∈ T)
    (hu : ∀ p ∈ T, p.1 = P → p.2 = X.env.qual ++ "<lambda>") (hT : Tabs T H) (hdef : defaultsOf params X.env = ([], [])) (hfree : ∀ y ∈ scope.names, y.2 = .free → ∃ c, X.env.cells.lookup y.1 = some c)
    (h : ∀ (f c' : Addr) (pm ctv : Value) (H1 : Hp) (s' : Shared), Inv X pins σ H1 s' → ExtP P H H1 → Tabs T H1 → s'.heap.get? f = some (PySem.W.kla_obj "<lambda>" (X.env.qual ++ "<lambda>") params body scope (cloFrom X.env.cells scope.names []) pm c' ctv) → H1 f = none → f ∉ frs X.stack → H1 c' = some (CodeO c' (X.env.qual ++ "<lambda>")) → Q (.ref f) s') :
    wpAny (model X.prog X.w) X.A (eval (.Lambda params body scope pos) X.env) Q E s := by
  obtain ⟨ps, tP, tOk, tAll⟩ := hT _ hm
  have hP0 : s.heap.get? P = some { cls := .none, data := .fields ps } := I.hok P _ tP
  have off : ∀ f, s.heap.objs.size ≤ f → f ∉ frs X.stack := fun f hf z => (List.mem_cons.mp (I.stkSub _ z)).elim (fun e => Nat.not_le_of_lt (by rw [e]; exact I.lt) hf) fun e => I.nofs hf e
  refine PySem.W.kla_eval hdef ?_
  rcases q : codeAmong pos ps.toList with _ | cv
  · refine PySem.W.kla_makeFunction (mg := X.mg) (c := c) (P := P) (ps := ps) (closure_ok hfree) I.ok.glob (I.mod.glob.keeps I.bk) hcode (TB.code.keeps I.bk) hP0 tOk q TB.gP (TB.bm.keeps I.bk) fun c' ctv h' tk hx hge hlt ⟨c2, oc, vs, t, e2, hoc, hd, hv⟩ htb => ?_
    cases e2
    have big : s.heap.objs.size ≤ h'.objs.size := Nat.le_trans hge (Nat.le_of_lt hlt)
    have fresh : H c' = none := I.hok.fresh hge
    have n1 : h'.objs.size ≠ c' := Nat.ne_of_gt hlt
    have n2 : h'.objs.size ≠ P := Nat.ne_of_gt (Nat.lt_of_lt_of_le (Heap.lt_size hP0) big)
    have nPc : P ≠ c' := ne_of_none tP fresh
    have keepP : ExtP P H (upd (upd H P (.tbl (ps ++ #[rawInt pos.line, rawInt pos.col, .ref c']))) c' (CodeO c' (X.env.qual ++ "<lambda>"))) := fun b o e nb => by rw [upd_ne (ne_of_none e fresh), upd_ne nb]; exact e
    have I1 := inv_table (t' := tk) (more := #[rawInt pos.line, rawInt pos.col, .ref c']) (h' := h'.push (PySem.W.kla_obj "<lambda>" (X.env.qual ++ "<lambda>") params body scope (cloFrom X.env.cells scope.names []) ((X.mg "__name__").getD .none) c' ctv)) I tP (fun b o hb e => Heap.get?_push_of_some _ (hx b o hb e)) (Heap.get?_push_of_some _ htb) hge ⟨oc, vs, t, Heap.get?_push_of_some _ hoc, hd, hv⟩
    refine h h'.objs.size c' _ ctv _ _ I1 keepP (fun p hp => ?_) (Heap.get?_push_size _ rfl) (by rw [upd_ne n1, upd_ne n2]; exact I.hok.fresh big) (off _ big) upd_same
    have back : ∀ {d r}, H d = some (CodeO d r) → upd (upd H P (.tbl (ps ++ #[rawInt pos.line, rawInt pos.col, .ref c']))) c' (CodeO c' (X.env.qual ++ "<lambda>")) d = some (CodeO d r) := fun {d r} e => keepP _ _ e fun z => by rw [z, tP] at e; exact codeO_ne _ (Option.some.inj e).symm
    by_cases hb : p.1 = P
    · rw [hu p hp hb, hb]
      have eL : (ps ++ #[rawInt pos.line, rawInt pos.col, .ref c']).toList = ps.toList ++ [rawInt pos.line, rawInt pos.col, .ref c'] := by simp
      refine ⟨_, by rw [upd_ne nPc, upd_same], by rw [eL]; exact PySem.TriplesOk_snoc _ _ _ _ tOk, fun p' cv hcv => ?_⟩
      rw [eL] at hcv
      rcases among_app _ tOk hcv with z | z
      · obtain ⟨d, e1, e2⟩ := tAll p' cv z; exact ⟨d, e1, back e2⟩
      · exact ⟨c', z, upd_same⟩
    · obtain ⟨qs, a1, a2, a3⟩ := hT p hp
      exact ⟨qs, keepP _ _ a1 hb, a2, fun p' cv hcv => let ⟨d, e1, e2⟩ := a3 p' cv hcv; ⟨d, e1, back e2⟩⟩
  · obtain ⟨c', e, hco⟩ := tAll pos cv q
    subst e
    refine PySem.W.kla_makeFunctionHit (mg := X.mg) (c := c) (P := P) (ps := ps) (closure_ok hfree) I.ok.glob (I.mod.glob.keeps I.bk) hcode (TB.code.keeps I.bk) hP0 tOk q (TB.bm.keeps I.bk) fun ctv h' tk hx hsz => ?_
    have I1 : Inv X pins σ H ⟨h'.push (PySem.W.kla_obj "<lambda>" (X.env.qual ++ "<lambda>") params body scope (cloFrom X.env.cells scope.names []) ((X.mg "__name__").getD .none) c' ctv), s.gens, s.drawn, tk, s.os⟩ := I.kept fun b o e => Heap.get?_push_of_some _ (hx b o e)
    exact h h'.objs.size c' _ ctv H _ I1 (fun _ _ e _ => e) hT (Heap.get?_push_size _ rfl) (I.hok.fresh hsz) (off _ hsz) hco
end
def tLamP (T : List (Addr × Str)) (P : Addr) (TT : (XK → Hp → VK → Prop) → Hp → VK → Prop) (t : XK → TE) : TE := fun σ H Q => Tabs T H ∧ ∀ H1, ExtP P H H1 → Tabs T H1 → TT (fun E H' Q' => t E σ H' Q') H1 Q
/-- the catching def, as the head knows it; the maker's code object and its table -/
structure CatD (P : Program) (K : PySem.W.Frag) (mg : Str → Option Value) (x : Str) (CS : Addr) : Prop where
  ex : ∃ (st : Stmt) (f : Addr) (fd : FuncData) (N : List Str) (a : Str), FunD K x x (defArgs st) (defBody st) (defScope st) [] [] f fd ∧ mg x = some (.ref f) ∧ FnScope N [a] (defScope st) ∧ N[0]? = some a ∧ Vis (defScope st) a ∧ (a == ("__debug__" : Str)) = false ∧ (a == ("__classdict__" : Str)) = false ∧
    (∀ (kV doc pm : Value) (an : Option Addr) (cdv ct : Value) (us : List Value), us.length = 1 → bindArgs (PySem.W.fnOf x x (defArgs st) (defBody st) (defScope st) .none kV doc pm an cdv ct) ⟨us, []⟩ = pure (([a] : List Str).zip us)) ∧
    ∀ (X : Cx) (cdv : Value) (q : Str), X.K = K → X.mg = mg → GivesTo X N x (defScope st) f cdv (defBody st) a q (TCatch K CS)
section
variable {X : Cx}
theorem pe_caught {T : List (Addr × Str)} {x : Str} {c P CS : Addr} {k : Nat} {params : Arguments} {body : Expr} {scope : Scope} {t : XK → TE} {p lpos pos : Pos} (D : CatD X.prog X.K X.mg x CS) (hg : Gl X x) (TB : TabB X.base X.mg c P) (hcode : X.env.code = .ref c) (hmT : (P, X.env.qual ++ "<lambda>") ∈ T) (hu : ∀ p ∈ T, p.1 = P → p.2 = X.env.qual ++ "<lambda>")
    (hgd : X.A.guards = some []) (hr : Room (k + 2) X.A) (L : LamS X.env.scope scope) (hdef : defaultsOf params X.env = ([], [])) (hbind : ∀ (q : Str) (cl : List (Str × Addr)) (pm cv ctv : Value), bindArgs (PySem.W.kla_fn "<lambda>" q params body scope cl pm cv ctv) ⟨[], []⟩ = pure [])
    (hbody : ∀ (A : Around) (outer : List Env) (s : Shared) (H : Hp) (E : XK) (f c' : Addr), A.guards = some [] → Room k (A.deeper (lamEnv X scope s.heap.objs.size f c')) → PE (lamCx X A outer s H E scope f c') body (t E))
    (hdb : (x == ("__debug__" : Str)) = false := by decide) : PE X (.Call (.Name x p) [.Lambda params body scope lpos] [] pos) (tLamP T P (TCatch X.K CS) t) := by
  obtain ⟨st, g, fd, Ng, a, Fd, hm, Sg, hNg, hva, hd, hcd, hb, hG⟩ := D.ex
  have hk := Fd.kp
  have hB : L2.Binds X.K fd [a] [] := Fd.bindsN hb
  obtain ⟨oc, od, dV, kV, doc, pm, an, cdv, ct, osl, rfl, lk, hcg, _, _⟩ := Fd.ex
  constructor
  intro pins s σ H Q I ⟨hT, h⟩
  refine wpAny_Call_Name_kw (ld_glob I hg hm (PySem.W.callWith_K (h₀ := X.base) I.ok.mod.kin hk ?_ (by rfl) (by rfl)) hdb)
  show wpAny _ _ (spliced ((false, eval (.Lambda params body scope lpos) X.env) :: backTo pos (starEach [] X.env))) _ _ s
  refine Calls.spliced_cons (lam_mk I TB hcode hmT hu hT hdef (L.has I.ok) fun f c' pm' ctv H1 s' I1 eN T1 hf hfn hfr hco => Calls.spliced_nil ⟨I1.kIn, wpAny_call (codeAny_mono (R := CR C8.CX0 X.stack X.prog X.w H1 s' Q C8.E0) ?_ fun r s2 hq => ?_)⟩)
  · refine run_ofS (N := Ng) (ps := [a]) (us := [.ref f]) (vs := [.ref f]) lk hcg Sg hr I1.env0 (hB s' [.ref f] I1.kIn rfl) (.cons rfl .nil) rfl fun hr' => ?_
    obtain ⟨t', ht', hq'⟩ := hG X cdv (X.env.qual ++ "<lambda>") rfl rfl f c' s' H1 Q (fun E H' Q' => t E σ H' Q') (fun W pn xe E p1 p2 tk hW => act_g I1 L hf hfn hfr (hbind _ _ _ _ _) tk hW hgd hr' (fun A outer s H h1 h2 => hbody A outer s H E f c' h1 h2) hNg hva hd hcd) hco (h H1 eN T1)
    exact ⟨t', ht'.nox, hq'⟩
  · cases r with
    | error e => exact (show False from hq).elim
    | ok fl =>
      cases fl with
      | ret u => exact I1.after hq
      | next => exact hq.elim
      | brk => exact hq.elim
      | cont => exact hq.elim
end
end PD

set_option Elab.async false
set_option linter.all false
set_option maxRecDepth 100000
set_option maxHeartbeats 2000000
/-! PD, twenty-ninth part: caught(lambda: e) by data -/
namespace PD
open PySem PySem.Spec PyProof.Rows L2 LamX
/-- all errors are below the first one -/
def SwK (K : PySem.W.Frag) : Prop := ∀ C, ExK K C → PySem.W.exmOne K (.ref (cA K C)) (.ref (cA K 0)) = some true
def lamSl (δ : List Sl) : List Sl := δ.map fun s => match s with
  | .own _ => .no
  | s => s
def wCatch (w : (Nat → List D → Prop) → WE) : WE := fun δ Q => ∃ (E : Nat → List D → Prop) (R : D → Bool → List Sl → Prop), w E (lamSl δ) R ∧ (∀ C xs, E C xs → Q (.exc C xs) false δ) ∧ ∀ d o δ', R d o δ' → Q .non false δ
theorem mo_catch (w : (Nat → List D → Prop) → WE) : MoE (wCatch w) := fun δ Q Q' h ⟨E, R, a, b, c⟩ => ⟨E, R, a, fun C xs e => h _ _ _ (b C xs e), fun d o δ' r => h _ _ _ (c d o δ' r)⟩
theorem lamSl_at {δ : List Sl} {i : Nat} {s : Sl} (h : (lamSl δ)[i]? = some s) : (∀ d, s ≠ .own d) ∧ ∀ d, s = .fro d → δ[i]? = some (.fro d) := by
  unfold lamSl at h
  rw [List.getElem?_map] at h
  cases e : δ[i]? with
  | none => rw [e] at h; cases h
  | some u =>
    rw [e] at h
    cases u <;> (cases h; exact ⟨fun d z => (by cases z), fun d z => by first | (cases z; rfl) | cases z⟩)
/-- the maker of lambdas: its code object's table -/
def LamW (Ω : Om) (base : Heap) (mg : Str → Option Value) (c : Addr) (q : Str) : Prop := ∃ T P, DrawT T Ω ∧ TabB base mg c P ∧ (P, q) ∈ T ∧ ∀ r ∈ T, r.1 = P → r.2 = q
section
variable {c : Ct} {K : PySem.W.Frag} {G H H1 : Hp} {σ : L2.St} {δ : List Sl}
theorem SR.tab {p l m P : Addr} {cells : List Int} {T : TbL} {so : Obj} {q : Str} (S : SR c K G H σ δ) (W : DrawW c.Om p l m cells T so) (hP : (P, q) ∈ T) (x : ExtP P H H1) (tb : Tabs T H1) : SR c K G H1 σ δ ∧ Kp c G H σ δ δ G H1 := by
  have oP : c.Om.own P := by rw [W.eq]; exact .inr (.inr ⟨_, hP, rfl⟩)
  have atP : ∃ o, H1 P = some o := let ⟨ps, h, _⟩ := tb _ hP; ⟨_, h⟩
  have no : ∀ {a o}, H a = some o → ¬ c.Om.own a → H1 a = some o := fun e n => x _ _ e fun z => n (by rw [z]; exact oP)
  have gP : ∀ {a o}, G a = some o → a ≠ P := fun e z => by rw [z, S.out.omG P oP] at e; cases e
  have pP : p ≠ P := fun z => (W.nT _ hP).1 z.symm
  have lP : l ≠ P := fun z => (W.nT _ hP).2 z.symm
  have hi := S.out.inv
  rw [W.eq] at hi
  obtain ⟨⟨r, t, large, a1, a2, a3, a4, a5, a6⟩, _⟩ := hi
  refine ⟨⟨⟨fun a o e => x _ _ (S.out.sub a o e) (gP e), ?_, S.out.omG, fun a ha => ?_, S.out.fz, S.out.ext, fun a o e n z => ?_, S.out.tb⟩, S.len, S.fro, fun i d e => ?_, S.sep⟩, ⟨Sub.refl _, fun _ h => h, fun a e => ?_, fun a o e n _ => ⟨no e n, fun g _ => g⟩⟩⟩
  · rw [W.eq]; exact ⟨⟨r, t, large, a1, a2, a3, a4, x _ _ a5 pP, x _ _ a6 lP⟩, tb⟩
  · obtain ⟨o, e⟩ := S.out.omH a ha
    by_cases z : a = P
    · rw [z]; exact atP
    · exact ⟨o, x _ _ e z⟩
  · obtain ⟨h1, h2⟩ := S.out.kp a o e n z
    exact ⟨no h1 n, h2⟩
  · obtain ⟨y, h3, w, f⟩ := S.own i d e
    obtain ⟨o, e1, e2⟩ := w.ob
    exact ⟨y, h3, ⟨w.g, w.om, o, no e1 w.om, e2⟩, f⟩
  · cases q : H a with
    | none => rfl
    | some o =>
      by_cases z : a = P
      · obtain ⟨o, h⟩ := atP; rw [z, h] at e; cases e
      · rw [x _ _ q z] at e; cases e
/-- the lambda's own reading of the slots -/
theorem SR.lam (S : SR c K G H σ δ) : SR ⟨c.Om, ⟨G, H, none⟩⟩ K G H σ (lamSl δ) := by
  refine ⟨⟨S.out.sub, S.out.inv, S.out.omG, S.out.omH, S.out.fz, Sub.refl _, fun a o e _ _ => ⟨e, fun g _ => g⟩, S.out.tb⟩, by unfold lamSl; rw [List.length_map]; exact S.len, fun i d e => S.fro i d ((lamSl_at e).2 d rfl), fun i d e => ((lamSl_at e).1 d rfl).elim, fun i j d e p h => ((lamSl_at h).1 d rfl).elim⟩
end
section
variable {X : Cx} {c : Ct} {x q : Str} {cd : Addr} {k : Nat} {params : Arguments} {body : Expr} {scope : Scope} {w : (Nat → List D → Prop) → WE} {p lpos pos : Pos}
theorem qe_caught (Dc : CatD X.prog X.K X.mg x (cA X.K 0)) (sw : SwK X.K) (hg : Gl X x) (W : LamW c.Om X.base X.mg cd q) (hcode : X.env.code = .ref cd) (hgd : X.A.guards = some []) (hr : Room (k + 2) X.A) (L : LamS X.env.scope scope)
    (hbody : ∀ (A : Around) (outer : List Env) (s : Shared) (H : Hp) (E : XK) (f c0 : Addr) (c' : Ct) (ED : Nat → List D → Prop), A.guards = some [] → Room k (A.deeper (lamEnv X scope s.heap.objs.size f c0)) → c'.Om = c.Om → TakesD (lamCx X A outer s H E scope f c0) c' (fun _ => ED) → QE (lamCx X A outer s H E scope f c0) c' body (w ED))
    (hk : k ≤ 90 := by decide) (hq : q = X.env.qual ++ "<lambda>" := by rfl) (hdef : defaultsOf params X.env = ([], []) := by rfl) (hbind : ∀ (q : Str) (cl : List (Str × Addr)) (pm cv ctv : Value), bindArgs (PySem.W.kla_fn "<lambda>" q params body scope cl pm cv ctv) ⟨[], []⟩ = pure [] := by intros; rfl)
    (hdb : (x == ("__debug__" : Str)) = false := by decide) : QE X c (.Call (.Name x p) [.Lambda params body scope lpos] [] pos) (wCatch w) := by
  obtain ⟨T, P, ⟨dp, dl, dm, cells, so, W⟩, TB, hPT, hu⟩ := W
  subst hq
  have takes : ∀ (A : Around) (outer : List Env) (s : Shared) (H : Hp) (E : XK) (f c0 : Addr), Takes (lamCx X A outer s H E scope f c0) (fun cls d _ H => E cls d H) := fun A outer s H E f c0 => takes_of rfl rfl rfl rfl
  have mo : ∀ ED, MoE (w ED) := fun ED => (hbody aRoom [] { heap := default, gens := #[], drawn := {}, toks := 0, os := {} } (fun _ => none) (fun _ _ _ => True) 0 0 ⟨c.Om, ⟨fun _ => none, fun _ => none, none⟩⟩ ED rfl (aRoom_ok hk _) rfl ((takes _ _ _ _ _ _ _).imp fun _ _ _ _ _ => trivial)).mo
  refine ⟨mo_catch w, pe_imp (pe_caught (t := fun E σ H Q => ∃ c' ED, c'.Om = c.Om ∧ (∀ cls d σ' H', wishD c' X.K (fun _ => ED) cls d σ' H' → E cls d H') ∧ lE c' X.K (w ED) σ H Q) Dc hg TB hcode hPT hu hgd hr L hdef hbind (fun A outer s H E f c0 h1 h2 => ⟨fun pins s' σ H' Q I ⟨c', ED, hO, hE, h⟩ => (hbody A outer s H E f c0 c' ED h1 h2 hO ((takes A outer s H E f c0).imp hE)).pe.run pins s' σ H' Q I h⟩) hdb) fun σ H Q ⟨G, δ, S, ED, R, hw, h1, h2⟩ => ?_⟩
  have hT : Tabs T H := by have z := S.out.inv; rw [W.eq] at z; exact z.2
  refine ⟨hT, fun H1 ex T1 => ?_⟩
  obtain ⟨S1, k1⟩ := S.tab W hPT ex T1
  refine ⟨⟨c.Om, ⟨G, H1, none⟩⟩, ED, rfl, fun cls d σ' H' ⟨G', δ', C, xs, S', er, hE⟩ => ?_, G, lamSl δ, S1.lam, mo ED _ _ _ (fun dd o δ' z v G' H' S' k' r => ?_) hw⟩
  · obtain ⟨S2, k2⟩ := post_sr S1 S'.out.post
    obtain ⟨rfl, ek, vs, hl, rv, hx⟩ := er
    refine ⟨sw C ek, fun a ha => ?_⟩
    obtain ⟨S3, k3⟩ := new_any (u := ExH (.ref (cA X.K C)) d a) S2 ha
    refine h1 C xs hE _ _ _ S3 ((k1.trans k2).trans k3) ⟨fun _ => ⟨a, d, vs, rfl, upd_same, hl, hx.imp id (fun ⟨dd, e, g⟩ => ⟨dd, e, k3.ext _ _ g⟩), ek, rv.mono k3.ext⟩, fun h => (by cases h)⟩
  · obtain ⟨S2, k2⟩ := post_sr S1 S'.out.post
    exact h2 dd o δ' z _ _ _ S2 (k1.trans k2) ⟨fun _ => rfl, fun h => (by cases h)⟩
end
end PD

set_option Elab.async false
set_option linter.all false
set_option maxRecDepth 100000
set_option maxHeartbeats 2000000
/-! PD, thirtieth part: == and != of data that hold instances with an own __eq__ -/
namespace GQ
open PySem PySem.SeqAt
open AutoSeq1 (wpAny_loadPart')
open MeetsSeq MeetsSeq2 MeetsSeq3 SeqRoads2
section
variable {prog : Program} {w : World} {A : Around} {R : Result → Shared → Prop}
/-- two tuples whose items are equal one by one: != tells False -/
theorem tuple_neG (l b : Addr) (us vs : Array Value) (n m : Nat) (d1 d2 : Option Addr) (s1 s2 : Array (Option Value)) (same : us.size = vs.size) (J : Nat → Shared → Prop)
    (each : ∀ i (h1 : i < us.size) (h2 : i < vs.size) s, J i s → wpAny (model prog w) A.in1 (eqBool us[i] vs[i]) (fun r s' => r = true ∧ J (i + 1) s') (fun e s' => R (.error e) s') s)
    (last : ∀ s, J us.size s → R (.ok (.ret (.bool false))) s) {s : Shared} (e1 : s.heap.get? l = some { cls := .type "tuple", dict := d1, data := .seq us n, slots := s1 }) (e2 : s.heap.get? b = some { cls := .type "tuple", dict := d2, data := .seq vs m, slots := s2 }) (j0 : J 0 s) :
    wpAny (model prog w) A.in1 (Builtin.«tuple.__ne__» ⟨[.ref l, .ref b], []⟩) (FinOf prog w A R) (fun e s' => R (.error e) s') s := by
  have sub2 := AutoSeq1.sub_tuple_tuple
  have len : (us.toList.zip vs.toList).length = us.size := by simp [same]
  have j1 := j0
  obtain ⟨hp, g, d, tk, os⟩ := s
  wp_walk using wpAny_loadPart' e1, wpAny_loadPart' e2, wpAny_forIn_list _ (fun rest b s' => b.1 = none ∧ ∃ i, rest = (us.toList.zip vs.toList).drop i ∧ i ≤ us.size ∧ J i s') _
  case turn =>
    rintro ⟨y, x⟩ rest b s' ⟨_, i, hz, hi, hJ⟩
    have lt : i < (us.toList.zip vs.toList).length := Nat.lt_of_not_le fun h' => by rw [List.drop_of_length_le h'] at hz; cases hz
    have lu : i < us.size := len ▸ lt
    have lv : i < vs.size := same ▸ lu
    rw [List.drop_eq_getElem_cons lt] at hz
    injection hz with h3 h4
    have hy : y = us[i] := by simpa using congrArg Prod.fst h3
    have hx : x = vs[i] := by simpa using congrArg Prod.snd h3
    subst hy hx
    refine wpAny_bind (wpAny_mono (each i lu lv s' hJ) (fun r s3 ⟨hr, q⟩ => ?_) fun _ _ x => x)
    subst hr
    wp_walk
    exact ⟨rfl, i + 1, h4, lu, q⟩
  case fin =>
    rintro ⟨b1, b2⟩ s' ⟨hb, i, hz, hi, hJ⟩
    simp only at hb
    subst hb
    have ge : us.size ≤ i := Nat.le_of_not_lt fun h' => by rw [List.drop_eq_getElem_cons (len.symm ▸ h')] at hz; cases hz
    have hR : R (.ok (.ret (.bool false))) s' := last s' (Nat.le_antisymm hi ge ▸ hJ)
    wp_walk
    simpa [Builtin.Tuple.tupleCompareSizes, same] using hR
  case h => exact ⟨rfl, 0, rfl, Nat.zero_le _, j1⟩
end
section
variable {prog : Program} {w : World} {A : Around} {E : Value → Shared → Prop} {s : Shared}
theorem rc_tupNe {l b : Addr} {us vs : Array Value} {Q : Value → Shared → Prop} (same : us.size = vs.size) (hu : A.units < cLine) (J : Nat → Shared → Prop) (hl : s.heap.IsTuple l us) (hb : s.heap.IsTuple b vs)
    (each : ∀ i (h1 : i < us.size) (h2 : i < vs.size) s, J i s → wpAny (model prog w) A.in1 (eqBool us[i] vs[i]) (fun r s' => r = true ∧ J (i + 1) s') E s) (last : ∀ s, J us.size s → Q (.bool false) s) (j0 : J 0 s) : wpAny (model prog w) A (richCompare .NotEq (.ref l) (.ref b)) Q E s := by
  obtain ⟨⟨c1, d1, t1, s1⟩, e1, hc1, n, hd1⟩ := hl
  obtain ⟨⟨c2, d2, t2, s2⟩, e2, hc2, m, hd2⟩ := hb
  simp only at hc1 hd1 hc2 hd2
  subst hc1 hd1 hc2 hd2
  refine wpAny_richCompare_same_room (op := .NotEq) ⟨_, e1, rfl⟩ ⟨_, e2, rfl⟩ F.slot_tuple_ne (call_here F.slot_tuple_ne ⟨_, e1, rfl⟩ F.entry_tuple_ne (F.args_tuple_ne_2 _ _) ?_) hu
  exact tuple_neG (R := wants (fun v s' => v ≠ .notImplemented ∧ Q v s') E) l b us vs n m d1 d2 s1 s2 same J each (fun s' q => ⟨(fun x => nomatch x), last s' q⟩) e1 e2 j0
end
end GQ
namespace PD
open PySem PySem.Spec PyProof.Rows L2
structure SubG (X : Cx) (n : Nat) (A : Around) : Prop where
  room : Room n A
  fr : A.frames = X.A.frames
  gd : A.guards = some []
theorem SubG.in1 {X : Cx} {n : Nat} {A : Around} (s : SubG X (n + 1) A) : SubG X n A.in1 := ⟨s.room.in1, s.fr, s.gd⟩
theorem SubG.mono {X : Cx} {n m : Nat} {A : Around} (s : SubG X n A) (h : m ≤ n) : SubG X m A := ⟨s.room.mono h, s.fr, s.gd⟩
theorem Post.refl {Ω : Om} {G H : Hp} (h : Pre Ω G H) : Post Ω G H G H := ⟨Sub.refl _, h, fun _ h => h, fun a o e _ => ⟨e, fun g _ => g⟩⟩
theorem Post.trans {Ω : Om} {G H G1 H1 G2 H2 : Hp} (a : Post Ω G H G1 H1) (b : Post Ω G1 H1 G2 H2) : Post Ω G H G2 H2 :=
  ⟨a.ext.trans b.ext, b.pre, fun x e => a.nu x (b.nu x e), fun x o e n => by
    obtain ⟨h1, g1⟩ := a.kp x o e n
    obtain ⟨h2, g2⟩ := b.kp x o h1 n
    exact ⟨h2, fun g m => g2 (g1 g m) m⟩⟩
/-- what is left behind a comparison -/
def EqI (X : Cx) (Ω : Om) (pins : List (Addr × Obj)) (σ : L2.St) (G H : Hp) (s' : Shared) : Prop := ∃ G' H', Inv X pins σ H' s' ∧ Post Ω G H G' H'
def EqD (X : Cx) (Ω : Om) (n : Nat) (a b : D) : Prop := ∀ (A : Around) (pins : List (Addr × Obj)) (s : Shared) (σ : L2.St) (G H : Hp) (x y : V) (u v : Value), SubG X n A → Inv X pins σ H s → RelV x u → RelV y v → Pre Ω G H → Rp Ω X.K G a x → Rp Ω X.K G b y →
  wpAny (model X.prog X.w) A (eqBool u v) (fun r s' => r = true ∧ EqI X Ω pins σ G H s') X.xe s
def EqR (X : Cx) (Ω : Om) (op : CmpOp) (r : Bool) (n : Nat) (a b : D) : Prop := ∀ (A : Around) (pins : List (Addr × Obj)) (s : Shared) (σ : L2.St) (G H : Hp) (x y : V) (u v : Value), SubG X n A → Inv X pins σ H s → RelV x u → RelV y v → Pre Ω G H → Rp Ω X.K G a x → Rp Ω X.K G b y →
  wpAny (model X.prog X.w) A (richCompare op u v) (fun z s' => z = .bool r ∧ EqI X Ω pins σ G H s') X.xe s
/-- an own __eq__ tells True of instances of the class C whose fields are so -/
structure EqC (P : Program) (w : World) (K : PySem.W.Frag) (mg : Str → Option Value) (base : Heap) (Ω : Om) (k C : Nat) (xs ys : List D) : Prop where
  ex : ∃ (f : Addr) (fd : FuncData) (F : FD), FnG P w K mg base (L2.CX P w) k f fd ["self", "other"] (spD Ω K 2 F) ∧ PySem.W.findIn K (.ref (cA K C)) "__eq__" = some (some (.ref f)) ∧ PySem.W.isFn K (.ref f) = true ∧ Binds K fd ["self", "other"] [] ∧
    ∀ (R : D → Bool → Prop) (E : Nat → List D → Prop), R (.bl true) false → F [.ins C xs, .ins C ys] R E
def all2 (f : D → D → Bool) : List D → List D → Bool
  | [], [] => true
  | x :: xs, y :: ys => f x y && all2 f xs ys
  | _, _ => false
/-- seen to be equal, to a depth; ok: fields of instances -/
def eqOk (ok : Nat → List D → List D → Bool) : Nat → D → D → Bool
  | n + 1, .lst xs, .lst ys => all2 (eqOk ok n) xs ys
  | n + 1, .tup xs, .tup ys => all2 (eqOk ok n) xs ys
  | n + 1, .tup xs, .ktp ys => all2 (eqOk ok n) xs ys
  | n + 1, .ktp xs, .tup ys => all2 (eqOk ok n) xs ys
  | n + 1, .ktp xs, .ktp ys => all2 (eqOk ok n) xs ys
  | _, .ins C xs, .ins C' ys => decide (C = C') && ok C xs ys
  | _, a, b => flt a && (flt b && deq a b)
section
variable {X : Cx} {Ω : Om} {n k : Nat} {a b : D} {ok : Nat → List D → List D → Bool}
theorem eqD_flat (ha : flt a = true) (hb : flt b = true) (he : deq a b = true) : EqD X Ω n a b := by
  intro A pins s σ G H x y u v sb I rx ry hp ra rb
  have q := eqAt_V (A := A) (s := s) rx ry (flt_flat ha ra) (flt_flat hb rb)
  rw [flt_eq ha hb ra rb, he] at q
  exact q X.prog X.w X.xe _ ⟨rfl, G, H, I, .refl hp⟩
theorem all2_at {f : D → D → Bool} : ∀ {xs ys : List D}, all2 f xs ys = true → xs.length = ys.length ∧ ∀ (i : Nat) x y, xs[i]? = some x → ys[i]? = some y → f x y = true
  | [], [], _ => ⟨rfl, fun i x y h _ => by simp at h⟩
  | [], _ :: _, h => by cases h
  | _ :: _, [], h => by cases h
  | x :: xs, y :: ys, h => by
    obtain ⟨h1, h2⟩ := He.ba (show (f x y && all2 f xs ys) = true from h)
    obtain ⟨h3, h4⟩ := all2_at h2
    refine ⟨by rw [List.length_cons, List.length_cons, h3], fun i a b e1 e2 => ?_⟩
    cases i with
    | zero => cases e1; cases e2; exact h1
    | succ i => exact h4 i a b (by simpa using e1) (by simpa using e2)
/-- a turn -/
theorem turnD {xs ys : List D} (h : ∀ (i : Nat) x y, xs[i]? = some x → ys[i]? = some y → EqD X Ω n x y) {A : Around} (sb : SubG X (n + 1) A) {pins : List (Addr × Obj)} {σ : L2.St} {G H : Hp} {vs ws : List V} {its its2 : List Value} (hp : Pre Ω G H) (r1 : Rps Ω X.K G xs vs) (r2 : Rps Ω X.K G ys ws) (v1 : Vals vs its) (v2 : Vals ws its2)
    (i : Nat) (h1 : i < its.toArray.size) (h2 : i < its2.toArray.size) (s' : Shared) (l : EqI X Ω pins σ G H s') : wpAny (model X.prog X.w) A.in1 (eqBool its.toArray[i] its2.toArray[i]) (fun r s2 => r = true ∧ EqI X Ω pins σ G H s2) X.xe s' := by
  obtain ⟨G1, H1, I1, p1⟩ := l
  have l1 : i < its.length := by simpa using h1
  have l2 : i < its2.length := by simpa using h2
  have k1 : i < vs.length := by rw [v1.length]; exact l1
  have k2 : i < ws.length := by rw [v2.length]; exact l2
  obtain ⟨u, hu, ru⟩ := v1.get (List.getElem?_eq_getElem k1)
  obtain ⟨v, hv, rv⟩ := v2.get (List.getElem?_eq_getElem k2)
  obtain ⟨d, hd, rd⟩ := r1.get (List.getElem?_eq_getElem k1)
  obtain ⟨e, he, re⟩ := r2.get (List.getElem?_eq_getElem k2)
  have eu : its.toArray[i] = u := by rw [List.getElem?_eq_getElem l1] at hu; simpa using Option.some.inj hu
  have ev : its2.toArray[i] = v := by rw [List.getElem?_eq_getElem l2] at hv; simpa using Option.some.inj hv
  rw [eu, ev]
  refine wpAny_mono (h i d e hd he A.in1 pins s' σ G1 H1 _ _ u v sb.in1 I1 ru rv p1.pre (rd.mono p1.ext) (re.mono p1.ext)) (fun r s2 ⟨hr, G2, H2, I2, p2⟩ => ⟨hr, G2, H2, I2, p1.trans p2⟩) fun _ _ x => x
theorem rcD_tup {xs ys : List D} (ha : itemsT a = some xs) (hb : itemsT b = some ys) (hl : xs.length = ys.length) (h : ∀ (i : Nat) x y, xs[i]? = some x → ys[i]? = some y → EqD X Ω n x y) : EqR X Ω .Eq true (n + 1) a b ∧ EqR X Ω .NotEq false (n + 1) a b := by
  constructor <;> intro A pins s σ G H x y u v sb I rx ry hp ra rb
  all_goals
    obtain ⟨p, vs, rfl, s1, r1⟩ := sqT_of (c := ⟨Ω, ⟨G, H, none⟩⟩) ha hp.sub ra
    obtain ⟨q, ws, rfl, s2, r2⟩ := sqT_of (c := ⟨Ω, ⟨G, H, none⟩⟩) hb hp.sub rb
    cases rx
    cases ry
    obtain ⟨its, v1, e1, _⟩ := I.tuple s1
    obtain ⟨its2, v2, e2, _⟩ := I.tuple s2
    have hsz : its.toArray.size = its2.toArray.size := by rw [List.size_toArray, List.size_toArray, ← v1.length, ← v2.length, r1.length, r2.length, hl]
  · exact GQ.rc_tupG hsz sb.room.units0 (fun _ s' => EqI X Ω pins σ G H s') e1 e2 (fun i h1 h2 s' l => turnD h sb hp r1 r2 v1 v2 i h1 h2 s' l) (fun s' l => ⟨rfl, l⟩) ⟨G, H, I, .refl hp⟩
  · exact GQ.rc_tupNe hsz sb.room.units0 (fun _ s' => EqI X Ω pins σ G H s') e1 e2 (fun i h1 h2 s' l => turnD h sb hp r1 r2 v1 v2 i h1 h2 s' l) (fun s' l => ⟨rfl, l⟩) ⟨G, H, I, .refl hp⟩
theorem rcD_lst {xs ys : List D} (hl : xs.length = ys.length) (h : ∀ (i : Nat) x y, xs[i]? = some x → ys[i]? = some y → EqD X Ω n x y) : EqR X Ω .Eq true (n + 1) (.lst xs) (.lst ys) := by
  intro A pins s σ G H x y u v sb I rx ry hp ra rb
  obtain ⟨p, vs, rfl, g1, r1⟩ := ra
  obtain ⟨q, ws, rfl, g2, r2⟩ := rb
  cases rx
  cases ry
  refine GQ.rc_listG (N := vs.length) sb.room.units0 (fun _ s' => EqI X Ω pins σ G H s') (fun i s' l => ?_) (fun s' l => ⟨rfl, l⟩) ⟨G, H, I, .refl hp⟩
  obtain ⟨G1, H1, I1, p1⟩ := id l
  obtain ⟨_, its, k1, v1, e1⟩ := I1.hok p _ (p1.pre.sub _ _ (p1.ext _ _ g1))
  obtain ⟨_, its2, k2, v2, e2⟩ := I1.hok q _ (p1.pre.sub _ _ (p1.ext _ _ g2))
  exact ⟨its.toArray, its2.toArray, k1, k2, e1, e2, by rw [List.size_toArray, ← v1.length], by rw [List.size_toArray, ← v2.length, r1.length, r2.length, hl], fun h1 h2 => turnD h sb hp r1 r2 v1 v2 i h1 h2 s' l⟩
theorem rcD_ins {C : Nat} {xs ys : List D} (hc : EqC X.prog X.w X.K X.mg X.base Ω n C xs ys) : EqR X Ω .Eq true n (.ins C xs) (.ins C ys) := by
  intro A pins s σ G H x y u v sb I rx ry hp ra rb
  obtain ⟨f, fd, F, ok, hs, hf, hB, hF⟩ := hc.ex
  have ra' := ra
  have rb' := rb
  obtain ⟨p, dx, vs, rfl, g1, _⟩ := ra
  obtain ⟨q, dy, ws, rfl, g2, _⟩ := rb
  cases rx
  cases ry
  obtain ⟨mA, J, _⟩ := ins_get I.hok (hp.sub _ _ g1)
  obtain ⟨mB, J', _⟩ := ins_get I.hok (hp.sub _ _ g2)
  obtain ⟨od, J, _⟩ := J.look
  obtain ⟨od', J', _⟩ := J'.look
  obtain ⟨m, hFr⟩ := I.fr
  refine PySem.W.cmp_K (op := .Eq) (tb := .ref (cA X.K C)) sb.room.units0 hFr I.ok.mod.kin J J'.type (by simp [PySem.W.notFirst]) hs hf ?_
  have hsp : spD Ω X.K 2 F [.ref p, .ref q] H (fun v H' => v = .bl true ∧ ∃ G', Post Ω G H G' H') (fun _ _ _ => False) :=
    ⟨G, [.ins C xs, .ins C ys], hp, .cons ra' (.cons rb' .nil), rfl, fun d o => d = .bl true ∧ o = false, fun _ _ => False, hF _ _ ⟨rfl, rfl⟩, fun d o ⟨h1, h2⟩ v G' H' po rv => by
      subst h1; exact ⟨rv.fro h2, G', po⟩, fun _ _ z => z.elim⟩
  have e0 : Env0 X.prog X.w X.K X.mg X.base A X.stack s H := by
    have e := I.env0
    exact ⟨by rw [sb.fr]; exact e.frames, e.mod, e.bs, e.bsz, e.funs, e.frf, e.hok, e.bare⟩
  have bd := hB s [.ref p, .ref q] I.kIn rfl
  refine wpAny_call (codeAny_mono (ok.run A X.stack s H ⟨[.ref p, .ref q], []⟩ [.ref p, .ref q] [.ref p, .ref q] _ _ sb.gd sb.room e0 (by simpa using bd) (.cons rfl (.cons rfl .nil)) hsp) fun r s' hq => ?_)
  cases r with
  | error e => exact (cx_false hq).elim
  | ok fl =>
    cases fl with
    | ret z =>
      obtain ⟨t, H', I', rz, ez, G', po⟩ := I.after hq
      subst ez
      cases rz
      exact ⟨rfl, G', H', I', po⟩
    | next => exact hq.elim
    | brk => exact hq.elim
    | cont => exact hq.elim
/-- from a comparison of objects to == within a builtin -/
theorem EqR.eqD (h : EqR X Ω .Eq true n a b) (ha : ∀ {G : Hp} {v : V}, Rp Ω X.K G a v → ∃ p, v = .ref p) (hb : ∀ {G : Hp} {v : V}, Rp Ω X.K G b v → ∃ p, v = .ref p) : EqD X Ω n a b := by
  intro A pins s σ G H x y u v sb I rx ry hp ra rb
  obtain ⟨p, rfl⟩ := ha ra
  obtain ⟨q, rfl⟩ := hb rb
  cases rx
  cases ry
  by_cases e : p = q
  · subst e
    exact SeqAt.EqAt.same (A := A) (s := s) (.ref p) X.prog X.w X.xe _ ⟨rfl, G, H, I, .refl hp⟩
  · exact GQ.eqBool_refG e (wpAny_mono (h A pins s σ G H (.ref p) (.ref q) _ _ sb I rfl rfl hp ra rb) (fun r s' ⟨hr, l⟩ => ⟨true, hr, rfl, l⟩) fun _ _ x => x)
theorem itT_ref {d : D} {ds : List D} (h : itemsT d = some ds) {G : Hp} {v : V} (r : Rp Ω X.K G d v) : ∃ p, v = .ref p := by
  cases d with
  | tup xs => obtain ⟨p, _, e, _⟩ := r; exact ⟨p, e⟩
  | ktp xs => obtain ⟨p, _, e, _⟩ := r; exact ⟨p, e⟩
  | _ => cases h
theorem EqD.mono {m : Nat} (h : EqD X Ω n a b) (hm : n ≤ m) : EqD X Ω m a b := fun A pins s σ G H x y u v sb => h A pins s σ G H x y u v (sb.mono hm)
/-- THE RULE: what is seen to be equal is equal -/
theorem eqD_ok (hc : ∀ C xs ys, ok C xs ys = true → EqC X.prog X.w X.K X.mg X.base Ω k C xs ys) : ∀ (n : Nat) (a b : D), eqOk ok n a b = true → EqD X Ω (n + k) a b
  | 0, a, b, h => by
    have fl : (flt a && (flt b && deq a b)) = true → EqD X Ω (0 + k) a b := fun h => eqD_flat (He.ba h).1 (He.ba (He.ba h).2).1 (He.ba (He.ba h).2).2
    cases a <;> try exact fl h
    cases b <;> try exact fl h
    rename_i C xs C' ys
    obtain ⟨e, h9⟩ := He.ba (show (decide (C = C') && ok C xs ys) = true from h)
    have e := of_decide_eq_true e
    subst e
    rw [Nat.zero_add]
    exact (rcD_ins (hc C xs ys h9)).eqD (fun r => let ⟨p, _, _, e, _⟩ := r; ⟨p, e⟩) (fun r => let ⟨p, _, _, e, _⟩ := r; ⟨p, e⟩)
  | n + 1, a, b, h => by
    have fl : (flt a && (flt b && deq a b)) = true → EqD X Ω (n + 1 + k) a b := fun h => eqD_flat (He.ba h).1 (He.ba (He.ba h).2).1 (He.ba (He.ba h).2).2
    have sq : ∀ {xs ys : List D}, itemsT a = some xs → itemsT b = some ys → all2 (eqOk ok n) xs ys = true → EqD X Ω (n + 1 + k) a b := fun {xs ys} ha hb h => by
      obtain ⟨h1, h2⟩ := all2_at h
      rw [show n + 1 + k = n + k + 1 by omega]
      exact (rcD_tup ha hb h1 fun i x y e1 e2 => eqD_ok hc n x y (h2 i x y e1 e2)).1.eqD (itT_ref ha) (itT_ref hb)
    cases a <;> try exact fl h
    · cases b <;> try exact fl h
      obtain ⟨h1, h2⟩ := all2_at (show all2 (eqOk ok n) _ _ = true from h)
      rw [show n + 1 + k = n + k + 1 by omega]
      exact (rcD_lst h1 fun i x y e1 e2 => eqD_ok hc n x y (h2 i x y e1 e2)).eqD (fun r => let ⟨p, _, e, _⟩ := r; ⟨p, e⟩) (fun r => let ⟨p, _, e, _⟩ := r; ⟨p, e⟩)
    · cases b <;> first | exact fl h | exact sq rfl rfl h
    · cases b <;> first | exact fl h | exact sq rfl rfl h
    · cases b <;> try exact fl h
      rename_i C xs C' ys
      obtain ⟨e, h9⟩ := He.ba (show (decide (C = C') && ok C xs ys) = true from h)
      have e := of_decide_eq_true e
      subst e
      exact ((rcD_ins (hc C xs ys h9)).eqD (fun r => let ⟨p, _, _, e, _⟩ := r; ⟨p, e⟩) (fun r => let ⟨p, _, _, e, _⟩ := r; ⟨p, e⟩)).mono (by omega)
end
/-- == , != of tuples that are seen to be equal -/
def eqTF (ok : Nat → List D → List D → Bool) (r : Bool) (n : Nat) : F2 := fun a b R => (∃ xs ys, itemsT a = some xs ∧ itemsT b = some ys ∧ all2 (eqOk ok n) xs ys = true) ∧ R (.bl r) false
theorem mo_eqT (ok : Nat → List D → List D → Bool) (r : Bool) (n : Nat) : MoF2 (eqTF ok r n) := fun a b Q Q' h q => ⟨q.1, h _ _ q.2⟩
def rEqT (K : PySem.W.Frag) (Ω : Om) (ok : Nat → List D → List D → Bool) (r : Bool) (n : Nat) : R2 := fun x y H Q => ∃ G a b xs ys, Pre Ω G H ∧ Rp Ω K G a x ∧ Rp Ω K G b y ∧ itemsT a = some xs ∧ itemsT b = some ys ∧ all2 (eqOk ok n) xs ys = true ∧ ∀ G' H', Post Ω G H G' H' → Q (.bl r) H'
section
variable {X : Cx} {Ω : Om} {n k : Nat} {ok : Nat → List D → List D → Bool}
theorem op_eqT (hc : ∀ C xs ys, ok C xs ys = true → EqC X.prog X.w X.K X.mg X.base Ω k C xs ys) (hgd : X.A.guards = some []) (hr : Room (n + k + 1) X.A) : OpR X (compareOp .Eq) (rEqT X.K Ω ok true n) := by
  intro pins s σ H x y v u Q I rx ry ⟨G, a, b, xs, ys, hp, ra, rb, ha, hb, he, q⟩
  obtain ⟨h1, h2⟩ := all2_at he
  show wpAny (model X.prog X.w) X.A (richCompare .Eq v u) (EP X pins σ Q) X.xe s
  refine wpAny_mono ((rcD_tup ha hb h1 fun i x y e1 e2 => eqD_ok hc n x y (h2 i x y e1 e2)).1 X.A pins s σ G H x y v u ⟨hr, rfl, hgd⟩ I rx ry hp ra rb) (fun r s' ⟨hr', G', H', I', po⟩ => ?_) fun _ _ x => x
  subst hr'
  exact ⟨.bl true, H', I', rfl, q G' H' po⟩
theorem op_neT (hc : ∀ C xs ys, ok C xs ys = true → EqC X.prog X.w X.K X.mg X.base Ω k C xs ys) (hgd : X.A.guards = some []) (hr : Room (n + k + 1) X.A) : OpR X (compareOp .NotEq) (rEqT X.K Ω ok false n) := by
  intro pins s σ H x y v u Q I rx ry ⟨G, a, b, xs, ys, hp, ra, rb, ha, hb, he, q⟩
  obtain ⟨h1, h2⟩ := all2_at he
  show wpAny (model X.prog X.w) X.A (richCompare .NotEq v u) (EP X pins σ Q) X.xe s
  refine wpAny_mono ((rcD_tup ha hb h1 fun i x y e1 e2 => eqD_ok hc n x y (h2 i x y e1 e2)).2 X.A pins s σ G H x y v u ⟨hr, rfl, hgd⟩ I rx ry hp ra rb) (fun r s' ⟨hr', G', H', I', po⟩ => ?_) fun _ _ x => x
  subst hr'
  exact ⟨.bl false, H', I', rfl, q G' H' po⟩
theorem or_eqT {c : Ct} {K : PySem.W.Frag} {r : Bool} : Op2 c K (rEqT K c.Om ok r n) (eqTF ok r n) := fun G H σ δ a b x y R Q S ra rb ⟨⟨xs, ys, ha, hb, he⟩, hR⟩ q =>
  ⟨G, a, b, xs, ys, S.pre, ra, rb, ha, hb, he, fun G' H' po => by
    obtain ⟨S2, k2⟩ := post_sr S po
    exact q _ _ _ _ _ hR S2 k2 ⟨fun _ => rfl, fun h => (by cases h)⟩⟩
end
end PD

set_option Elab.async false
set_option linter.all false
set_option maxRecDepth 100000
set_option maxHeartbeats 2000000
/-! PD, thirty-first part: slices, texts many times, replace -/
namespace PD
open PySem PySem.Spec PyProof.Rows L2
/-! ### slices -/
abbrev WO := List Sl → (Option Int → List Sl → Prop) → Prop
def MoO (w : WO) : Prop := ∀ δ Q Q', (∀ o δ', Q o δ' → Q' o δ') → w δ Q → w δ Q'
def woN : WO := fun δ Q => Q none δ
def woS (w : WE) : WO := fun δ Q => w δ fun d _ δ1 => ∃ i, d = .int i ∧ Q (some i) δ1
structure QO (X : Cx) (c : Ct) (e : Option Expr) (w : WO) : Prop where
  mo : MoO w
  run : ∃ t : TO, PO X e t ∧ ∀ (σ : L2.St) (G H : Hp) (δ : List Sl) (R : Option Int → List Sl → Prop) (Q : Option Int → Hp → Prop), SR c X.K G H σ δ → w δ R → (∀ o δ' G' H', R o δ' → SR c X.K G' H' σ δ' → Kp c G H σ δ δ' G' H' → Q o H') → t σ H Q
section
variable {X : Cx} {c : Ct} {e : Expr} {w wa : WE}
theorem qo_n : QO X c none woN := ⟨fun δ Q Q' h q => h _ _ q, tNoPart, po_none, fun σ G H δ R Q S h k => k none δ G H h S .refl⟩
theorem qo_s (h : QE X c e w) : QO X c (some e) (woS w) := ⟨fun δ Q Q' g q => h.mo δ _ _ (fun d o δ1 ⟨i, a, z⟩ => ⟨i, a, g _ _ z⟩) q, tPart (lE c X.K (wF w)), po_some h.f.pe, fun σ G H δ R Q S q k => lF h.mo S q fun d δ1 v G1 H1 ⟨i, e1, z⟩ S1 k1 r1 => by
  subst e1; exact ⟨i, r1, k _ _ _ _ z S1 k1⟩⟩
def cutD (xs : List D) (lo hi : Option Int) : List D := (xs.drop (HT.sIx xs.length 0 lo)).take (HT.sIx xs.length xs.length hi - HT.sIx xs.length 0 lo)
def slF (d : D) (lo hi : Option Int) (R : D → Bool → Prop) : Prop := match d with
  | .str z => z.length ≤ 16777216 ∧ R (.str (cutS z lo hi)) false
  | .lst xs => R (.lst (cutD xs lo hi)) true
  | .kls xs => R (.lst (cutD xs lo hi)) true
  | .tup xs => ¬ (HT.sIx xs.length 0 lo = 0 ∧ HT.sIx xs.length xs.length hi = xs.length) ∧ R (.tup (cutD xs lo hi)) false
  | .ktp xs => ¬ (HT.sIx xs.length 0 lo = 0 ∧ HT.sIx xs.length xs.length hi = xs.length) ∧ R (.tup (cutD xs lo hi)) false
  | _ => False
def wSlice (wa : WE) (wl wh : WO) : WE := fun δ Q => wa δ fun d _ δ1 => wl δ1 fun lo δ2 => wh δ2 fun hi δ3 => slF d lo hi fun r o => Q r o δ3
theorem mo_sl (d : D) (lo hi : Option Int) (Q Q' : D → Bool → Prop) (h : ∀ d o, Q d o → Q' d o) (q : slF d lo hi Q) : slF d lo hi Q' := by
  cases d <;> first | exact h _ _ q | exact ⟨q.1, h _ _ q.2⟩ | exact q
def rSlA (K : PySem.W.Frag) : V → Option Int → Option Int → Hp → VK → Prop := fun x lo hi H Q => rSlS x lo hi H Q ∨ (rSlL K x lo hi H Q ∨ rSlT K x lo hi H Q)
theorem cutD_rps {Ω : Om} {K : PySem.W.Frag} {G : Hp} {xs : List D} {vs : List V} {lo hi : Option Int} (r : Rps Ω K G xs vs) : Rps Ω K G (cutD xs lo hi) (cutV vs lo hi) := by
  unfold cutD cutV
  rw [r.length]
  exact (r.drop _).take _
theorem qe_slice {el eh : Option Expr} {wl wh : WO} {p2 pos : Pos} (ha : QE X c e wa) (hl : QO X c el wl) (hh : QO X c eh wh) : QE X c (.Subscript e (.Slice el eh none p2) pos) (wSlice wa wl wh) := by
  obtain ⟨tl, pl, kl⟩ := hl.run
  obtain ⟨th, ph, kh⟩ := hh.run
  refine ⟨fun δ Q Q' h q => ha.mo δ _ _ (fun d o δ1 z => hl.mo δ1 _ _ (fun lo δ2 y => hh.mo δ2 _ _ (fun hi δ3 x => mo_sl d lo hi _ _ (fun r o u => h _ _ _ u) x) y) z) q, pe_imp (pe_slice (r := rSlA X.K) (sl_str.or (sl_list.or sl_tup)) ha.f.pe pl ph) fun σ H Q ⟨G, δ, S, q⟩ => lF ha.mo S q fun d δ1 v G1 H1 z S1 k1 r1 => ?_⟩
  refine kl σ G1 H1 δ1 _ _ S1 z fun lo δ2 G2 H2 z2 S2 k2 => kh σ G2 H2 δ2 _ _ S2 z2 fun hi δ3 G3 H3 z3 S3 k3 => ?_
  have kk := (k1.trans k2).trans k3
  have rr : Rp c.Om X.K G3 d v := (r1.mono k2.ext).mono k3.ext
  have fin : ∀ {r : D} {o : Bool}, Q = Q → (∀ v G' H', SR c X.K G' H' σ δ3 → Kp c G H σ δ δ3 G' H' → RV c X.K H G' H' r o v → Q v H') → ∀ v G' H', SR c X.K G' H' σ δ3 → Kp c G3 H3 σ δ3 δ3 G' H' → RV c X.K H3 G' H' r o v → Q v H' := fun _ h v G' H' S' k' r' => h v G' H' S' (kk.trans k') (r'.back kk)
  have res : Res c X.K G3 H3 σ δ3 (fun r o => ∀ v G' H', SR c X.K G' H' σ δ3 → Kp c G H σ δ δ3 G' H' → RV c X.K H G' H' r o v → Q v H') Q := fun d o v G' H' h S' k' r' => h v G' H' S' (kk.trans k') (r'.back kk)
  cases d with
  | str x => cases rr; exact .inl ⟨x, rfl, by rw [← line16]; exact z3.1, res.val S3 z3.2 rfl⟩
  | lst xs =>
    obtain ⟨p, vs, rfl, g, r⟩ := rr
    exact .inr (.inl ⟨p, vs, rfl, SqL.of (S3.out.sub _ _ g), fun q hq => res.new S3 z3 ⟨_, rfl, cutD_rps r⟩ hq⟩)
  | kls xs =>
    obtain ⟨p, vs, rfl, g, r⟩ := rr
    exact .inr (.inl ⟨p, vs, rfl, S3.out.sub.sqL g, fun q hq => res.new S3 z3 ⟨_, rfl, cutD_rps r⟩ hq⟩)
  | tup xs =>
    obtain ⟨p, vs, rfl, g, r⟩ := rr
    exact .inr (.inr ⟨p, vs, rfl, .inl (.inl (S3.out.sub _ _ g)), by rw [r.length]; exact z3.1, fun q hq => res.tup S3 z3.2 (cutD_rps r) hq⟩)
  | ktp xs =>
    obtain ⟨p, vs, rfl, g, r⟩ := rr
    exact .inr (.inr ⟨p, vs, rfl, .inr g, by rw [r.length]; exact z3.1, fun q hq => res.tup S3 z3.2 (cutD_rps r) hq⟩)
  | _ => exact z3.elim
end
/-! ### a text many times -/
def mulS (z : Str) (k : Nat) : Str := ⟨(List.replicate k z.cps).foldl (· ++ ·) #[]⟩
theorem fold_size : ∀ (l : List (Array Nat)) (a : Array Nat) (n : Nat), (∀ b ∈ l, b.size = n) → (l.foldl (· ++ ·) a).size = a.size + l.length * n
  | [], a, n, _ => by simp
  | b :: l, a, n, h => by
    rw [List.foldl_cons, fold_size l _ n fun c hc => h c (List.mem_cons_of_mem _ hc), Array.size_append, h b List.mem_cons_self, List.length_cons, Nat.succ_mul]; omega
theorem mulS_len (z : Str) (k : Nat) : (mulS z k).length = k * z.length := by
  show ((List.replicate k z.cps).foldl (· ++ ·) #[]).size = _
  rw [fold_size _ _ z.cps.size fun b hb => by rw [(List.mem_replicate.mp hb).2], List.length_replicate]
  simp; rfl
def mulSF : F2 := fun a b R => match a, b with
  | .str z, .int k => 2 ≤ k ∧ k ≤ 4096 * 4 ∧ 0 < z.length ∧ z.length ≤ 1000 ∧ R (.str (mulS z k.toNat)) false
  | _, _ => False
theorem mo_mulS : MoF2 mulSF := fun a b Q Q' h q => by
  cases a <;> cases b <;> first | exact ⟨q.1, q.2.1, q.2.2.1, q.2.2.2.1, h _ _ q.2.2.2.2⟩ | exact q
theorem mul_run {prog : Program} {w : World} {A : Around} {E : Value → Shared → Prop} {s : Shared} {z : Str} {k : Int} {t u : Tok} {Q : Value → Shared → Prop} (h2 : 2 ≤ k) (h3 : k ≤ 4096 * 4) (h4 : 0 < z.length) (h5 : z.length ≤ 1000) (q : Q (.str (mulS z k.toNat) s.toks) { s with toks := s.toks + 1 }) :
    wpAny (model prog w) A (binaryOp .Mult (.str z t) (.int k u)) Q E s := by
  have c0 : ¬ k < 1 := by omega
  have c1 : (k == 1 || z.length == 0) = false := by
    have : (k == 1) = false := by simp; omega
    have h : (z.length == 0) = false := by simp; omega
    rw [this, h]; rfl
  have sz : z.length * k.toNat ≤ 16384000 := by
    have : k.toNat ≤ 16384 := by omega
    exact Nat.le_trans (Nat.mul_le_mul h5 this) (by decide)
  have sl := sizeLine_eq
  refine PySem.P.mul_str ?_ (fun _ _ => ?_) (fun _ _ => ?_) ?_
  · have a : ¬ k < -(2 ^ 63 : Int) := by omega
    have b : ¬ k ≥ 2 ^ 63 := by omega
    rw [decide_eq_false a, decide_eq_false b]; rfl
  · have h6 : (2 ^ 63 - 1) / 16384 ≤ (2 ^ 63 - 1 : Int) / k := by
      apply Int.le_ediv_of_mul_le (by omega)
      have : (2 ^ 63 - 1 : Int) / 16384 * k ≤ (2 ^ 63 - 1 : Int) / 16384 * 16384 := Int.mul_le_mul_of_nonneg_left (by omega) (by decide)
      have h7 : (2 ^ 63 - 1 : Int) / 16384 * 16384 ≤ 2 ^ 63 - 1 := by decide
      omega
    have h8 : (2 ^ 63 - 1 : Int) / 16384 = 562949953421311 := by decide
    omega
  · unfold Builtin.Str.tooLong; exact decide_eq_false (by omega)
  · rw [if_neg c0, if_neg (by rw [c1]; decide)]
    refine ⟨?_, q⟩
    show (mulS z k.toNat).length ≤ sizeLine
    rw [mulS_len, Nat.mul_comm]; omega
theorem op_mulS {X : Cx} : OpR X (binaryOp .Mult) (fun x y H Q => ∃ z k, x = .str z ∧ y = .int k ∧ 2 ≤ k ∧ k ≤ 4096 * 4 ∧ 0 < z.length ∧ z.length ≤ 1000 ∧ Q (.str (mulS z k.toNat)) H) := by
  intro pins s σ H x y v u Q I rx ry ⟨z, k, e1, e2, h2, h3, h4, h5, q⟩
  subst e1; subst e2
  obtain ⟨t, rfl⟩ := rx
  obtain ⟨t', rfl⟩ := ry
  exact mul_run h2 h3 h4 h5 ⟨.str _, H, I.tok _, ⟨_, rfl⟩, q⟩
theorem or_mulS {c : Ct} {K : PySem.W.Frag} : Op2 c K (fun x y H Q => ∃ z k, x = .str z ∧ y = .int k ∧ 2 ≤ k ∧ k ≤ 4096 * 4 ∧ 0 < z.length ∧ z.length ≤ 1000 ∧ Q (.str (mulS z k.toNat)) H) mulSF := fun G H σ δ a b x y R Q S ra rb h q => by
  cases a <;> cases b <;> first | exact h.elim | skip
  obtain ⟨h2, h3, h4, h5, hR⟩ := h
  exact ⟨_, _, ra, rb, h2, h3, h4, h5, q.val S hR rfl⟩
/-! ### a + o.replace(y, e), a and y written -/
/-- a text newly made -/
structure PFr (X : Cx) (e : Expr) (t : TE) : Prop where
  run : ∀ (pins : List (Addr × Obj)) (s : Shared) (σ : L2.St) (H : Hp) (Q : VK), Inv X pins σ H s → t σ H Q → wpAny (model X.prog X.w) X.A (eval e X.env) (fun v s' => ∃ z tk H', v = .str z tk ∧ s.toks ≤ tk ∧ Inv X pins σ H' s' ∧ Q (.str z) H') X.xe s
structure QFr (X : Cx) (c : Ct) (e : Expr) (w : WE) : Prop where
  mo : MoE w
  pf : PFr X e (lE c X.K w)
section
variable {X : Cx} {c : Ct} {e o : Expr} {w wo : WE} {p pos : Pos}
theorem qf_lit {z : Str} {j : Nat} : QFr X c (.Constant (.str z) j pos) (wC (.str z)) :=
  ⟨mo_c _, ⟨fun pins s σ H Q I ⟨G, δ, S, q⟩ => Calls.Constant_str ⟨z, s.toks, H, rfl, Nat.le_refl _, I.tok _, q _ G H S .refl ⟨fun _ => rfl, fun h => (by cases h)⟩⟩⟩⟩
theorem qf_mul {z : Str} {k : Int} {j j2 : Nat} {p1 p2 : Pos} (h2 : 2 ≤ k := by decide) (h3 : k ≤ 4096 * 4 := by decide) (h4 : 0 < z.length := by decide) (h5 : z.length ≤ 1000 := by decide) : QFr X c (.BinOp (.Constant (.str z) j p1) .Mult (.Constant (.int k) j2 p2) pos) (wC (.str (mulS z k.toNat))) :=
  ⟨mo_c _, ⟨fun pins s σ H Q I ⟨G, δ, S, q⟩ => wpAny_BinOp (Calls.Constant_str (wpAny_Constant_int (mul_run h2 h3 h4 h5 ⟨_, _, H, rfl, (show s.toks ≤ s.toks + 1 + 1 by omega), (I.tok _), q _ G H S .refl ⟨fun _ => rfl, fun h => (by cases h)⟩⟩)))⟩⟩
theorem qf_str (hg : Gl X "str") (hm : X.mg "str" = none) (he : QE X c e w) (hs : starEach [e] X.env = (false, eval e X.env) :: starEach [] X.env := by rfl) : QFr X c (.Call (.Name "str" p) [e] [] pos) (wCB strF (wCons w wNil)) := by
  refine ⟨mo_cb mo_strF (mo_cons he.mo mo_nil), ⟨fun pins s σ H Q I ⟨G, δ, S, q⟩ => ?_⟩⟩
  have q2 : lE c X.K (wF w) σ H fun v H1 => ∃ i, v = .int i ∧ i.natAbs.log2 < 1920 ∧ Q (.str (toString i)) H1 := lF he.mo S q fun d δ1 v G1 H1 z S1 k1 r1 => by
    cases d with
    | int i => exact ⟨i, r1, z.1, z.2 _ G1 H1 S1 k1 ⟨fun _ => rfl, fun h => (by cases h)⟩⟩
    | _ => exact z.elim
  refine wpAny_Call_Name_kw (ld_blt I hg hm (show bootBuiltins "str" = some (.type "str") by decide +kernel) ?_ (by decide) (by decide))
  refine PyProof.Rows.callWith_type1 ?_ hs (by rfl)
  rw [hs]
  refine Calls.spliced_cons (wpAny_mono (PySem.wpAny_toks (he.f.pe.run pins s σ H _ I q2)) (fun v s1 ⟨hk, x, H1, I1, r1, i, e1, hz, q1⟩ => Calls.spliced_nil ?_) fun _ _ z => z.2)
  subst e1
  obtain ⟨t, rfl⟩ := r1
  exact PySem.P.str_of_int hz ⟨_, _, H1, rfl, hk, I1.tok _, q1⟩
def wLitRepl (a y : Str) (wo w : WE) : WE := fun δ Q => wo δ fun d _ δ1 => ∃ x, d = .str x ∧ w δ1 fun d2 _ δ2 => ∃ z, d2 = .str z ∧ (y == z) = false ∧ a.length + (x.length + (x.length + 1) * z.length) ≤ 16777216 ∧ Q (.str (a ++ Txt.replace x y z)) false δ2
theorem qe_litRepl {a y : Str} {j j2 : Nat} {p1 p2 p3 apos : Pos} (ho : QE X c o wo) (hf : QFr X c e w)
    (hst : starEach [.Constant (.str y) j2 p2, e] X.env = [(false, eval (.Constant (.str y) j2 p2) X.env), (false, eval e X.env)] := by rfl)
    (hbase : attributeBase o "replace" X.env (eval o X.env) = eval o X.env := by rfl) (hline : (apos.endLine == p3.line) = true := by rfl) :
    QE X c (.BinOp (.Constant (.str a) j p1) .Add (.Call (.Attribute o "replace" apos) [.Constant (.str y) j2 p2, e] [] p3) pos) (wLitRepl a y wo w) := by
  refine ⟨fun δ Q Q' h q => ho.mo δ _ _ (fun d o δ1 ⟨x, e1, z⟩ => ⟨x, e1, hf.mo δ1 _ _ (fun d2 o2 δ2 ⟨z, b1, b2, b3, y⟩ => ⟨z, b1, b2, b3, h _ _ _ y⟩) z⟩) q, ⟨fun pins s σ H Q I ⟨G, δ, S, q⟩ => ?_⟩⟩
  have q2 : lE c X.K (wF wo) σ H fun v H1 => ∃ x, v = .str x ∧ lE c X.K w σ H1 fun v2 H2 => ∃ z, v2 = .str z ∧ (y == z) = false ∧ a.length + (x.length + (x.length + 1) * z.length) ≤ 16777216 ∧ Q (.str (a ++ Txt.replace x y z)) H2 :=
    lF ho.mo S q fun d δ1 v G1 H1 ⟨x, e1, z⟩ S1 k1 r1 => by
      subst e1
      refine ⟨x, r1, G1, δ1, S1, hf.mo δ1 _ _ (fun d2 o2 δ2 ⟨z, b1, b2, b3, yy⟩ v G2 H2 S2 k2 r2 => ?_) z⟩
      subst b1
      have ev : v = .str z := by
        cases o2 with
        | false => exact r2.fro rfl
        | true =>
          obtain ⟨_, _, _, w', _⟩ := r2.own rfl
          obtain ⟨_, _, xx⟩ := w'.ob
          exact xx.elim
      exact ⟨z, ev, b2, b3, yy _ G2 H2 S2 (k1.trans k2) ⟨fun _ => rfl, fun h => (by cases h)⟩⟩
  refine wpAny_BinOp (Calls.Constant_str ?_)
  refine PySem.Call_method2 hbase hst hline (wpAny_mono (PySem.wpAny_toks (ho.f.pe.run pins _ σ H _ (I.tok (s.toks + 1)) q2)) (fun v s1 ⟨hk, x', H1, I1, r1, x, e1, q3⟩ => ?_) fun _ _ z => z.2)
  subst e1
  obtain ⟨tx, rfl⟩ := r1
  have hk' : 1 ≤ s1.toks := Nat.le_trans (Nat.succ_le_succ (Nat.zero_le _)) hk
  refine ⟨"str", _, PySem.F.plainAttrs_str, PySem.F.slot_str_replace, PySem.F.type_str_replace, typeIs_str _ _ _, (fun _ e => nomatch e), Calls.callWith_builtin rfl (Calls.evalArgs_plain (Calls.spliced_cons (Calls.Constant_str ?_)))⟩
  refine Calls.spliced_cons (wpAny_mono (hf.pf.run pins _ σ H1 _ (I1.tok (s1.toks + 1)) q3) (fun v2 s2 ⟨z, tk, H2, e2, ht, I2, z', e3, hyz, hb, q4⟩ => Calls.spliced_nil ?_) fun _ _ z => z)
  cases e3
  subst e2
  have ht' : s1.toks + 1 ≤ tk := ht
  refine PySem.SC.replace (by show s1.toks ≠ 0; omega) (by show tk ≠ 0; have := ht'; clear ht hb; intro e; rw [e] at this; omega) (by show s1.toks ≠ tk; intro e; rw [← e] at ht'; omega) hyz (by omega) fun t' k => ?_
  have hl := TK.replace_len x y z
  exact add_str (fun t2 k2 => ⟨.str _, H2, I2.tok k2, ⟨_, rfl⟩, q4⟩) (by rw [sizeLine_eq]; omega)
end
end PD

set_option Elab.async false
set_option linter.all false
set_option maxRecDepth 100000
set_option maxHeartbeats 2000000
/-! PD, thirty-second part: own classes, constants, by a look at the head -/
namespace PD
open PySem PySem.Spec PyProof.Rows L2
/-! ### errors below the first -/
def swKB (K : PySem.W.Frag) : Bool := (List.range 48).all fun C => !He.eqO (PySem.W.findIn K (.ref (cA K C)) "__getattribute__") (some (some (.builtin "BaseException.__getattribute__"))) || decide (PySem.W.exmOne K (.ref (cA K C)) (.ref (cA K 0)) = some true)
theorem swKB_ok {K : PySem.W.Frag} (h : swKB K = true) : SwK K := fun C hC => by
  have key : ∀ D, D < 48 → cName D = cName C → PySem.W.exmOne K (.ref (cA K C)) (.ref (cA K 0)) = some true := fun D hD e => by
    have z := List.all_eq_true.mp h D (List.mem_range.mpr hD)
    have ec : cA K D = cA K C := by unfold cA; rw [e]
    have z2 : (!He.eqO (PySem.W.findIn K (.ref (cA K D)) "__getattribute__") (some (some (.builtin "BaseException.__getattribute__"))) || decide (PySem.W.exmOne K (.ref (cA K D)) (.ref (cA K 0)) = some true)) = true := z
    rw [ec, hC.ga] at z2
    have z3 : He.eqO (some (some (.builtin "BaseException.__getattribute__"))) (some (some (.builtin "BaseException.__getattribute__"))) = true := decide_eq_true rfl
    rw [z3] at z2
    exact of_decide_eq_true z2
  by_cases hc : C < 47
  · exact key C (by omega) rfl
  · exact key 47 (by decide) (cName_big (by omega)).symm
/-! ### an own class -/
def inkB (K : PySem.W.Frag) (C : Nat) : Bool := (He.Fa.cls (cName C)).ok K && (He.eqO (PySem.W.findIn K (.ref (cA K C)) "__class__") (some (some (.builtin "object.__class__"))) && (He.eqO (PySem.W.specialIn K (.builtin "object.__class__") "__get__") (some (some (.builtin "getset_descriptor.__get__"))) &&
  (decide (PySem.W.takesIn K (.builtin "object.__class__") = some true) && (decide (PySem.W.mroIn K (cA K C) (.type "object") = some true) && (bTys.all (fun n => decide (PySem.W.kitOne K (.ref (cA K C)) (.type n) = some false)) &&
  (List.range nCls).all fun C2 => !knB K C2 || decide (PySem.W.kitOne K (.ref (cA K C)) (.ref (cA K C2)) = some (decide (C = C2))))))))
theorem inkB_ok {K : PySem.W.Frag} {C : Nat} (h : inkB K C = true) : InK K C := by
  obtain ⟨b1, h⟩ := He.ba h
  obtain ⟨b2, h⟩ := He.ba h
  obtain ⟨b3, h⟩ := He.ba h
  obtain ⟨b4, h⟩ := He.ba h
  obtain ⟨b5, h⟩ := He.ba h
  obtain ⟨b6, b7⟩ := He.ba h
  refine ⟨He.cls_ok b1, He.eqO_ok b2, He.eqO_ok b3, of_decide_eq_true b4, of_decide_eq_true b5, fun n hn => of_decide_eq_true (List.all_eq_true.mp b6 n hn), fun C2 hC => ?_⟩
  have z := List.all_eq_true.mp b7 C2 (List.mem_range.mpr hC.1)
  have z2 : (!knB K C2 || decide (PySem.W.kitOne K (.ref (cA K C)) (.ref (cA K C2)) = some (decide (C = C2)))) = true := z
  rw [knB_of hC] at z2
  exact of_decide_eq_true z2
def naB (K : PySem.W.Frag) (C : Nat) : Bool := (cFields C).all fun f => He.eqO (PySem.W.findIn K (.ref (cA K C)) f) (some none)
theorem naB_ok {K : PySem.W.Frag} {C : Nat} (h : naB K C = true) : ∀ f ∈ cFields C, NoAttr K (cA K C) f := fun f hf => He.eqO_ok (List.all_eq_true.mp h f hf)
/-- a property's getter -/
def gA (K : PySem.W.Frag) (C : Nat) (f : Str) : Addr := match PySem.W.recIn K (He.ma K (cA K C) f) "property" with
  | some (.ref g :: _) => g
  | _ => 0
def getB (K : PySem.W.Frag) (C : Nat) (f q : Str) : Bool := He.eqO (PySem.W.findIn K (.ref (cA K C)) f) (some (some (.ref (He.ma K (cA K C) f)))) && (He.eqO (PySem.W.specialIn K (.ref (He.ma K (cA K C) f)) "__get__") (some (some (.builtin "property.__get__"))) && (decide (PySem.W.takesIn K (.ref (He.ma K (cA K C) f)) = some true) &&
  ((match PySem.W.recIn K (He.ma K (cA K C) f) "property" with
    | some (.ref _ :: _) => true
    | _ => false) && (match K.lookup (gA K C f) with
    | some ⟨_, _, .func fd, _⟩ => PySem.W.codeIn K fd.code q
    | _ => false))))
theorem getD_of {K : PySem.W.Frag} {C : Nat} {f o : Str} {d : MeD} {N : List Str} {p1 p2 p3 : Pos} (he : fnC K (d.ad K) = d.val) (hclo : d.clo = []) (had : d.ad K = gA K C f) (hb : getB K C f d.qual = true) (S : FnScope N ["self"] d.scope) (hN : N[0]? = some ("self" : Str))
    (hbd : d.body = [.Return (some (.Attribute (.Name "self" p1) o p2)) p3]) (hbind : ∀ (kV doc pm : Value) (an : Option Addr) (cdv ct : Value) (us : List Value), us.length = 1 → bindArgs (PySem.W.fnOf d.name d.qual d.params d.body d.scope .none kV doc pm an cdv ct) ⟨us, []⟩ = pure ((["self"] : List Str).zip us))
    (na : NoAttr K (cA K C) o) (cl : Cls K (cA K C)) : GetD K C f o := by
  unfold getB at hb
  obtain ⟨b1, hb⟩ := He.ba hb
  obtain ⟨b2, hb⟩ := He.ba hb
  obtain ⟨b3, hb⟩ := He.ba hb
  obtain ⟨b4, b5⟩ := He.ba hb
  rw [had] at he
  unfold fnC at he
  have hrec : ∃ rest, PySem.W.recIn K (He.ma K (cA K C) f) "property" = some (.ref (gA K C f) :: rest) := by
    have eg : gA K C f = (match PySem.W.recIn K (He.ma K (cA K C) f) "property" with
      | some (.ref g :: _) => g
      | _ => 0) := rfl
    rcases q : PySem.W.recIn K (He.ma K (cA K C) f) "property" with _ | (_ | ⟨v, rest⟩)
    · rw [q] at b4; cases b4
    · rw [q] at b4; cases b4
    · rw [q] at b4 eg
      cases v with
      | ref g => exact ⟨rest, by rw [show gA K C f = g from eg]⟩
      | _ => cases b4
  cases q : K.lookup (gA K C f) with
  | none => rw [q] at b5; cases b5
  | some ob =>
    obtain ⟨oc, od, dt, osl⟩ := ob
    rw [q] at b5 he
    cases dt with
    | func fd =>
      obtain ⟨n1, n2, n3, n4, n5, n6, n7, n8, n9, n10, n11, n12, n13, n14, n15⟩ := fd
      have he2 : (some (n1, n2, n3, n4, n5, n6, n7.map (·.1), n15, noV n8 && noV n9) : FnC) = d.val := he
      unfold MeD.val at he2
      rw [hclo] at he2
      simp only [Option.some.injEq, Prod.mk.injEq] at he2
      obtain ⟨y1, y2, y3, y4, y5, y6, y7, y8, y9⟩ := he2
      obtain ⟨z8, z9⟩ := He.ba y9
      have z8 := noV_eq z8
      have z9 := noV_eq z9
      have z7 : n7 = [] := List.map_eq_nil_iff.mp y7
      subst y1 y2 y3 y4 y5 y6 y8 z8 z9 z7
      exact ⟨cl, He.ma K (cA K C) f, gA K C f, _, ⟨He.eqO_ok b1, He.eqO_ok b2, of_decide_eq_true b3, hrec⟩, fun P w mg base => fn_getter (k := 0) q b5 S hN hbd cl na, .all (hbind _ _ _ _ _ _)⟩
    | _ => cases b5
/-- C(..) -/
theorem clM_of {P : Program} {w : World} {K : PySem.W.Frag} {mg : Str → Option Value} {base : Heap} {Ω : Om} {C k : Nat} {nm qual : Str} {params : Arguments} {body : List Stmt} {scope : Scope} {fd : FuncData} {N ps : List Str} {y : Str} (M : Mk K (cA K C) (He.ma K (cA K C) "__init__")) (gl : mg (cName C) = some (.ref (cA K C)))
    (Fd : FunD K nm qual params body scope [] [] (He.ma K (cA K C) "__init__") fd) (S : FnScope N ("self" :: ps) scope) (hN : ps.length + 1 ≤ N.length) (ik : InK K C) (wS : (Nat → List D → Prop) → WS) (hk : k ≤ 90)
    (hb : BodyQ P w K mg base Ω k N qual scope (He.ma K (cA K C) "__init__") fd.code body wS)
    (hbind : ∀ (kV doc pm : Value) (an : Option Addr) (cdv ct : Value) (us : List Value), us.length = (("self" : Str) :: ps).length → bindArgs (PySem.W.fnOf nm qual params body scope .none kV doc pm an cdv ct) ⟨us, []⟩ = pure ((("self" : Str) :: ps).zip us)) : ClM P w K mg base Ω (k + 1) C ps (FI C N.length wS) :=
  ⟨⟨_, fd, fn_init Fd S hN ik wS hb, M, Fd.bindsN hbind⟩, gl, fun ds R R' E hr q => hb.mo hk E ⟨fun δ => ∃ ds', δ[0]? = some (.own (.par C ds')) ∧ ds'.length = (cFields C).length ∧ R (.ins C ds') true, fun _ _ => False, fun _ => False, fun _ => False⟩ ⟨fun δ => ∃ ds', δ[0]? = some (.own (.par C ds')) ∧ ds'.length = (cFields C).length ∧ R' (.ins C ds') true, fun _ _ => False, fun _ => False, fun _ => False⟩ _ ⟨fun δ ⟨ds', a, b, z⟩ => ⟨ds', a, b, hr _ _ z⟩, fun _ _ z => z, fun _ z => z, fun _ z => z⟩ q⟩
/-- an own __eq__ -/
theorem eqC_of {P : Program} {w : World} {K : PySem.W.Frag} {mg : Str → Option Value} {base : Heap} {Ω : Om} {C k : Nat} {nm qual : Str} {params : Arguments} {body : List Stmt} {scope : Scope} {fd : FuncData} {N : List Str} (M : Meth K (cA K C) "__eq__" (He.ma K (cA K C) "__eq__"))
    (Fd : FunD K nm qual params body scope [] [] (He.ma K (cA K C) "__eq__") fd) (S : FnScope N ["self", "other"] scope) (hN : 2 ≤ N.length) (wS : (Nat → List D → Prop) → WS)
    (hb : BodyQ P w K mg base Ω k N qual scope (He.ma K (cA K C) "__eq__") fd.code body wS)
    (hbind : ∀ (kV doc pm : Value) (an : Option Addr) (cdv ct : Value) (us : List Value), us.length = 2 → bindArgs (PySem.W.fnOf nm qual params body scope .none kV doc pm an cdv ct) ⟨us, []⟩ = pure ((["self", "other"] : List Str).zip us)) {xs ys : List D}
    (h : ∀ (R : D → Bool → Prop) (E : Nat → List D → Prop), R (.bl true) false → FW N.length wS [.ins C xs, .ins C ys] R E) : EqC P w K mg base Ω (k + 1) C xs ys :=
  ⟨_, fd, _, fn_pd Fd S hN wS hb, M.at_, M.fn, Fd.bindsN hbind, h⟩
/-! ### constants -/
theorem kt_of {K : PySem.W.Frag} {x : Str} {ns : List Int} (h : He.tupB K x (ns.map He.Dv.int) = true) : Kt K (He.ga K x) (ns.map V.int) := by
  have z := He.tupB_ok h (fun _ => none)
  rw [List.map_map] at z
  have e : (He.Dv.v K ∘ He.Dv.int) = V.int := rfl
  rw [e] at z
  rcases z with (z | ⟨o, z⟩) | z
  · cases z
  · cases z
  · exact z
/-- what the head says of one own class: its fields, its properties -/
structure HdI (K : PySem.W.Frag) (C : Nat) (gs : List (Str × Str)) : Prop where
  ink : InK K C
  na : ∀ f ∈ cFields C, NoAttr K (cA K C) f
  gt : ∀ q ∈ gs, GetD K C q.1 q.2
theorem HdI.p {K : PySem.W.Frag} {C : Nat} {gs : List (Str × Str)} (h : HdI K C gs) (f o : Str) (hm : (f, o) ∈ gs) {X : Cx} (e : X.K = K := by rfl) : GetD X.K C f o := by subst e; exact h.gt _ hm
theorem HdI.f {K : PySem.W.Frag} {C : Nat} {gs : List (Str × Str)} (h : HdI K C gs) (f : Str) (hm : f ∈ cFields C) {X : Cx} (e : X.K = K := by rfl) : NoAttr X.K (cA X.K C) f := by subst e; exact h.na _ hm
/-- the head's constants -/
structure HdC (K : PySem.W.Frag) (mg : Str → Option Value) (ci : List (Str × Int)) (cst : List (Str × Str)) (ct : List (Str × List Int)) : Prop where
  i : ∀ q ∈ ci, ∃ t, mg q.1 = some (.int q.2 t)
  s : ∀ q ∈ cst, ∃ t, mg q.1 = some (.str q.2 t)
  t : ∀ q ∈ ct, mg q.1 = some (.ref (He.ga K q.1)) ∧ Kt K (He.ga K q.1) (q.2.map V.int)
section
variable {K : PySem.W.Frag} {mg : Str → Option Value} {ci : List (Str × Int)} {cst : List (Str × Str)} {ct : List (Str × List Int)} {X : Cx} {c : Ct} {x : Str} {pos : Pos}
theorem HdC.qi (h : HdC K mg ci cst ct) (i : Int) (hm : (x, i) ∈ ci) (hg : Gl X x) (e2 : X.mg = mg := by rfl) (hd : (x == ("__debug__" : Str)) = false := by decide) : QE X c (.Name x pos) (wC (.int i)) := by
  subst e2; exact qe_gint hg (h.i _ hm) hd
theorem HdC.qs (h : HdC K mg ci cst ct) (z : Str) (hm : (x, z) ∈ cst) (hg : Gl X x) (e2 : X.mg = mg := by rfl) (hd : (x == ("__debug__" : Str)) = false := by decide) : QE X c (.Name x pos) (wC (.str z)) := by
  subst e2; exact qe_gstr hg (h.s _ hm) hd
theorem HdC.qt (h : HdC K mg ci cst ct) (ns : List Int) (hm : (x, ns) ∈ ct) (hg : Gl X x) (e1 : X.K = K := by rfl) (e2 : X.mg = mg := by rfl) (hd : (x == ("__debug__" : Str)) = false := by decide) : QE X c (.Name x pos) (wC (.ktp (ns.map D.int))) := by
  subst e1; subst e2; exact qe_gtup hg (h.t _ hm).1 (h.t _ hm).2 hd
end
/-! ### built-in names -/
theorem boot_min : bootBuiltins "min" = some (.builtin "min") := by decide +kernel
theorem boot_all : bootBuiltins "all" = some (.builtin "all") := by decide +kernel
theorem boot_any : bootBuiltins "any" = some (.builtin "any") := by decide +kernel
theorem boot_strT : bootBuiltins "str" = some (.type "str") := by decide +kernel
theorem boot_listT : bootBuiltins "list" = some (.type "list") := by decide +kernel
theorem boot_tupleT : bootBuiltins "tuple" = some (.type "tuple") := by decide +kernel
theorem rord_id (n : Nat) : Rord n (fun l => l) := ⟨fun _ r => r, fun _ r => r, fun h => h⟩
def memb (s : Stmt) (j : Nat) : Stmt := match s with
  | .ClassDef _ _ _ b _ _ _ _ _ _ _ => b.getD j (.Pass ⟨0, 0, 0, 0⟩)
  | _ => .Pass ⟨0, 0, 0, 0⟩
/-- fields of plain data that are equal -/
def okFld (n : Nat) (xs ys : List D) : Bool := decide (xs.length = n) && all2 (fun a b => (shp 50 a && (shp 50 b && deq a b) : Bool)) xs ys
section
variable {X : Cx} {c : Ct} {x : Str} {st : Stmt} {ps : List Str} {F : FD} {k C : Nat} {p pos : Pos} {e : Expr} {es : List Expr} {t : WA} {xw : XD}
/-- calls, the number of arguments told -/
theorem qe_callN {n : Nat} (cl : Cl X.prog X.w X.K X.mg X.base c.Om k x st ps F) (hgd : X.A.guards = some []) (hr : Room k X.A) (hg : Gl X x) (tk : TakesD X c xw)
    (hb : ∀ (kV doc pm : Value) (an : Option Addr) (cdv ct : Value) (us : List Value), us.length = ps.length → bindArgs (PySem.W.fnOf x x (defArgs st) (defBody st) (defScope st) .none kV doc pm an cdv ct) ⟨us, []⟩ = pure (ps.zip us)) (ha : QA X c (e :: es) t) (hn : ps.length = n := by rfl)
    (hdb : (x == ("__debug__" : Str)) = false := by decide) (he : starEach (e :: es) X.env = (false, eval e X.env) :: starEach es X.env := by rfl) (hpl : (backTo pos (starEach es X.env)).any (·.1) = false := by rfl) :
    QE X c (.Call (.Name x p) (e :: es) [] pos) (wCall n (fun ds => ds) F xw t) := hn ▸ qe_call cl hgd hr hg tk hb ha hdb he hpl
theorem qe_makeN {n : Nat} (cl : ClM X.prog X.w X.K X.mg X.base c.Om k C ps F) (hgd : X.A.guards = some []) (hr : Room (k + 1) X.A) (hg : Gl X x) (tk : TakesD X c xw) (ha : QA X c (e :: es) t) (hn : ps.length = n := by rfl) (hx : x = cName C := by rfl)
    (hdb : (x == ("__debug__" : Str)) = false := by decide) (he : starEach (e :: es) X.env = (false, eval e X.env) :: starEach es X.env := by rfl) (hpl : (backTo pos (starEach es X.env)).any (·.1) = false := by rfl) :
    QE X c (.Call (.Name x p) (e :: es) [] pos) (wCall n (fun ds => ds) F xw t) := hn ▸ qe_make cl hgd hr hg tk ha hx hdb he hpl
end
/-! ### tables -/
theorem code_ref {K : PySem.W.Frag} {x qual : Str} {params : Arguments} {body : List Stmt} {scope : Scope} {dvs : List V} {kws : List (Str × V)} {p : He.Defn} {fd : FuncData} (F : FunD K x qual params body scope dvs kws (He.fAd K p) fd) : fd.code = .ref (He.cT K p).1 := by
  obtain ⟨oc, od, dV, kV, doc, pm, an, cdv, ct, osl, rfl, lk, hcd, _, _⟩ := F.ex
  obtain ⟨c, rfl⟩ := He.codeIn_ref hcd
  have e := He.codeOf_eq (c := c) lk rfl
  show Value.ref c = .ref (He.codeOf K p)
  rw [e]
abbrev tbT (K : PySem.W.Frag) (l : List (He.Defn × Str)) : TbL := l.map fun p => ((He.cT K p.1).2, p.2)
def tabNB (K : PySem.W.Frag) (l : List (He.Defn × Str)) : Bool := decide ((tbT K l).map (·.1)).Nodup
theorem uniq_of {T : TbL} (h : (T.map (·.1)).Nodup) {P : Addr} {q : Str} (hm : (P, q) ∈ T) : ∀ r ∈ T, r.1 = P → r.2 = q := by
  induction T with
  | nil => cases hm
  | cons t T ih =>
    rw [List.map_cons, List.nodup_cons] at h
    intro r hr e
    rcases List.mem_cons.mp hm with a | a <;> rcases List.mem_cons.mp hr with b | b
    · rw [b, ← a]
    · exact absurd (List.mem_map.mpr ⟨r, b, by rw [e, ← a]⟩) h.1
    · exact absurd (List.mem_map.mpr ⟨_, a, by rw [← b, e]⟩) h.1
    · exact ih h.2 a r b e
theorem lamW_of {K : PySem.W.Frag} {base : Heap} {mg : Str → Option Value} {l : List (He.Defn × Str)} {Ω : Om} (hn : tabNB K l = true) (hT : DrawT (tbT K l) Ω) (TB : ∀ p ∈ l.map (fun p => He.cT K p.1), LamX.TabB base mg p.1 p.2) {p : He.Defn} {q : Str} (hm : (p, q) ∈ l) : LamW Ω base mg (He.cT K p).1 q :=
  ⟨_, (He.cT K p).2, hT, TB _ (List.mem_map.mpr ⟨(p, q), hm, rfl⟩), List.mem_map.mpr ⟨(p, q), hm, rfl⟩, uniq_of (of_decide_eq_true hn) (List.mem_map.mpr ⟨(p, q), hm, rfl⟩)⟩
end PD

set_option Elab.async false
set_option linter.all false
set_option maxRecDepth 100000
set_option maxHeartbeats 4000000
/-! PL: plain rules over data: comprehensions and loops that are simple -/
namespace PD
open PySem PySem.Spec PyProof.Rows L2
theorem lc_map {wi : WI} {t : Tg} {te : WE} {vs : List Nat} {δ δ1 : List Sl} {Q : D → Bool → List Sl → Prop} {items : List D} (f : D → D) (hi : ∀ R : List D → List Sl → Prop, R items δ1 → wi δ R) (hl : items.length ≤ 16777216)
    (hte : ∀ d ∈ items, ∃ δ2, t.asg d (wipD δ1 vs) = some δ2 ∧ wipD δ2 vs = wipD δ1 vs ∧ ∀ R : D → Bool → List Sl → Prop, (∀ o, R (f d) o δ2) → te δ2 R) (hQ : Q (.lst (items.map f)) true (wipD δ1 vs)) : wLc wi t wYes te vs δ Q := by
  unfold wLc
  refine hi _ ⟨fun i acc δ => acc = (items.take i).map f ∧ δ = wipD δ1 vs, ⟨rfl, rfl⟩, ?_, ?_⟩
  · rintro i d acc δ hd ⟨ea, ed⟩
    subst ea; subst ed
    have hm := List.mem_of_getElem? hd
    have hlt := (List.getElem?_eq_some_iff.mp hd).1
    obtain ⟨δ2, h1, h2, h3⟩ := hte d hm
    refine ⟨δ2, h1, h3 _ fun o => ⟨?_, ?_, h2⟩⟩
    · rw [List.length_map, List.length_take]; omega
    · rw [List.take_add_one, hd, List.map_append]; rfl
  · rintro acc δ ⟨ea, ed⟩
    subst ea; subst ed
    rw [List.take_length]; exact hQ
theorem lc_all {wi : WI} {t : Tg} {te : WE} {vs : List Nat} {δ δ1 : List Sl} {Q : D → Bool → List Sl → Prop} {items : List D} (good : D → Prop) (hi : ∀ R : List D → List Sl → Prop, R items δ1 → wi δ R) (hl : items.length ≤ 16777216)
    (hte : ∀ d ∈ items, ∃ δ2, t.asg d (wipD δ1 vs) = some δ2 ∧ wipD δ2 vs = wipD δ1 vs ∧ ∀ R : D → Bool → List Sl → Prop, (∀ r o, good r → R r o δ2) → te δ2 R) (hQ : ∀ acc : List D, acc.length = items.length → (∀ a ∈ acc, good a) → Q (.lst acc) true (wipD δ1 vs)) : wLc wi t wYes te vs δ Q := by
  unfold wLc
  refine hi _ ⟨fun i acc δ => i ≤ items.length ∧ acc.length = i ∧ (∀ a ∈ acc, good a) ∧ δ = wipD δ1 vs, ⟨Nat.zero_le _, rfl, fun a h => (by cases h), rfl⟩, ?_, ?_⟩
  · rintro i d acc δ hd ⟨_, ea, hg, ed⟩
    subst ed
    have hm := List.mem_of_getElem? hd
    have hlt := (List.getElem?_eq_some_iff.mp hd).1
    obtain ⟨δ2, h1, h2, h3⟩ := hte d hm
    refine ⟨δ2, h1, h3 _ fun r o hr => ⟨by omega, by omega, by rw [List.length_append, ea]; rfl, fun a ha => ?_, h2⟩⟩
    rcases List.mem_append.mp ha with ha | ha
    · exact hg a ha
    · rw [List.mem_singleton.mp ha]; exact hr
  · rintro acc δ ⟨_, ea, hg, ed⟩
    subst ed
    exact hQ acc ea hg
/-- a loop whose turns leave the slots as some of these -/
theorem for_inv {wi : WI} {t : Tg} {tb : WS} {Z : DE} {δ δ1 : List Sl} {items : List D} (I : List Sl → Prop) (hi : ∀ R : List D → List Sl → Prop, R items δ1 → wi δ R) (h0 : I δ1)
    (step : ∀ d ∈ items, ∀ δ, I δ → ∃ δ2, t.asg d δ = some δ2 ∧ ∀ Z' : DE, (∀ δ', I δ' → Z'.nx δ') → (∀ δ', I δ' → Z'.ct δ') → (∀ d o, Z.rt d o → Z'.rt d o) → tb Z' δ2) (hn : ∀ δ, I δ → Z.nx δ) : wFor wi t tb Z δ := by
  unfold wFor
  refine hi _ ⟨fun _ δ => I δ, h0, fun i d δ hd hI => ?_, fun δ hI => hn δ hI⟩
  obtain ⟨δ2, h1, h2⟩ := step d (List.mem_of_getElem? hd) δ hI
  exact ⟨δ2, h1, h2 _ (fun _ h => h) (fun _ h => h) fun _ _ h => h⟩
/-- kinds -/
def tyB : D → Bool
  | .non => true | .bl _ => true | .int _ => true | .str _ => true | .lst _ => true | .tup _ => true | .ktp _ => true | .dT _ _ => true | .dK _ _ => true | .ins _ _ => true | .exc _ _ => true
  | _ => false
def numB : D → Bool
  | .int _ => true
  | _ => false
def strB : D → Bool
  | .str _ => true
  | _ => false
def tupB : D → Bool
  | .tup _ => true | .ktp _ => true
  | _ => false
def insB (C : Nat) : D → Bool
  | .ins C' _ => decide (C' = C)
  | .exc C' _ => subE C' C
  | _ => false
theorem isi_int {d : D} {R : D → Bool → Prop} (h : tyB d = true) (hR : R (.bl (match d with | .int _ => true | .bl _ => true | _ => false)) false) : isiF [d, .ty "int"] R := by
  cases d <;> first | (cases h; done) | exact ⟨by decide, _, rfl, hR⟩
theorem isi_bool {d : D} {R : D → Bool → Prop} (h : tyB d = true) (hR : R (.bl (match d with | .bl _ => true | _ => false)) false) : isiF [d, .ty "bool"] R := by
  cases d <;> first | (cases h; done) | exact ⟨by decide, _, rfl, hR⟩
theorem isi_str {d : D} {R : D → Bool → Prop} (h : tyB d = true) (hR : R (.bl (strB d)) false) : isiF [d, .ty "str"] R := by
  cases d <;> first | (cases h; done) | exact ⟨by decide, _, rfl, hR⟩
theorem isi_tup {d : D} {R : D → Bool → Prop} (h : tyB d = true) (hR : R (.bl (tupB d)) false) : isiF [d, .ty "tuple"] R := by
  cases d <;> first | (cases h; done) | exact ⟨by decide, _, rfl, hR⟩
theorem isi_cls {C : Nat} {d : D} {R : D → Bool → Prop} (h : tyB d = true) (hR : R (.bl (insB C d)) false) : isiCF C [d, .cls C] R := by
  cases d <;> first | (cases h; done) | exact ⟨rfl, _, rfl, hR⟩
end PD

set_option Elab.async false
set_option linter.all false
set_option maxRecDepth 100000
set_option maxHeartbeats 2000000
/-! texts of numbers and tables, there and back: plain Lean -/
namespace Tx
open PySem PySem.Builtin TL
/-! ### numbers -/
def numT (n : Nat) : Str := Str.ofString (toString ((n : Nat) : Int))
theorem tl_numT (n : Nat) : tl (numT n) = numL n := tl_num n
def canonB (l : List Nat) : Bool := decide (1 ≤ l.length) && (decide (l.length ≤ 10) && (l.all (fun c => decide (48 ≤ c) && decide (c ≤ 57)) && !(decide (1 < l.length) && decide (l[0]? = some 48))))
structure Canon (l : List Nat) : Prop where
  pos : 1 ≤ l.length
  few : l.length ≤ 10
  dig : NumText.AllDigits l
  head : 1 < l.length → l[0]? ≠ some 48
theorem canonB_iff {l : List Nat} : canonB l = true ↔ Canon l := by
  unfold canonB
  simp only [Bool.and_eq_true, Bool.not_eq_true', Bool.and_eq_false_iff, decide_eq_true_eq, decide_eq_false_iff_not, List.all_eq_true]
  constructor
  · rintro ⟨h1, h2, h3, h4⟩
    exact ⟨h1, h2, fun c hc => h3 c hc, fun h => h4.elim (fun x => absurd h x) id⟩
  · rintro ⟨h1, h2, h3, h4⟩
    refine ⟨h1, h2, fun c hc => h3 c hc, ?_⟩
    by_cases h : 1 < l.length
    · exact .inr (h4 h)
    · exact .inl h
theorem numL_head : ∀ n : Nat, 0 < n → (numL n)[0]? ≠ some 48 := by
  intro n
  induction n using Nat.strongRecOn with
  | _ n ih =>
    intro h
    by_cases hn : n < 10
    · rw [numL_lt hn]; simp; omega
    · rw [numL_step (by omega), List.getElem?_append_left (by have := List.length_pos_iff.mpr (numL_ne (n / 10)); omega)]
      exact ih (n / 10) (by omega) (by omega)
theorem canon_num {n : Nat} (h : n < 10 ^ 10) : Canon (numL n) := by
  refine ⟨List.length_pos_iff.mpr (numL_ne n), numL_len (by decide) h, numL_digits n, fun hl => ?_⟩
  by_cases hn : n < 10
  · rw [numL_lt hn] at hl; simp at hl
  · exact numL_head n (by omega)
theorem digitsVal_snoc (l : List Nat) (c : Nat) : NumText.digitsVal (l ++ [c]) = NumText.digitsVal l * 10 + (c - 48) := by
  unfold NumText.digitsVal; rw [List.foldl_append]; rfl
theorem snoc_of {α : Type} {l : List α} (h : l ≠ []) : ∃ m c, l = m ++ [c] := ⟨l.dropLast, l.getLast h, (List.dropLast_concat_getLast h).symm⟩
/-- digits without a zero ahead are the text of their value -/
theorem back_num : ∀ (k : Nat) (l : List Nat), l.length = k → l ≠ [] → NumText.AllDigits l → (1 < l.length → l[0]? ≠ some 48) → numL (NumText.digitsVal l) = l ∧ (l[0]? ≠ some 48 → 0 < NumText.digitsVal l) := by
  intro k
  induction k with
  | zero => intro l h h0; exact absurd (List.length_eq_zero_iff.mp h) h0
  | succ k ih =>
    intro l hl h0 hd hh
    obtain ⟨m, c, rfl⟩ := snoc_of h0
    have hm : m.length = k := by simpa using hl
    have hc : 48 ≤ c ∧ c ≤ 57 := hd c (by simp)
    by_cases hk : m = []
    · subst hk
      have e : NumText.digitsVal ([] ++ [c]) = c - 48 := by rw [digitsVal_snoc]; show 0 * 10 + (c - 48) = _; omega
      rw [e, numL_lt (by omega)]
      refine ⟨by simp; omega, fun h => ?_⟩
      simp at h; omega
    · have hlen : 0 < m.length := List.length_pos_iff.mpr hk
      have h1 : (m ++ [c])[0]? = m[0]? := List.getElem?_append_left hlen
      have hne : m[0]? ≠ some 48 := by rw [← h1]; exact hh (by simp; omega)
      obtain ⟨i1, i2⟩ := ih m hm hk (fun d hd' => hd d (by simp [hd'])) fun _ => hne
      have pv := i2 hne
      rw [digitsVal_snoc]
      have e1 : (NumText.digitsVal m * 10 + (c - 48)) / 10 = NumText.digitsVal m := by omega
      have e2 : (NumText.digitsVal m * 10 + (c - 48)) % 10 = c - 48 := by omega
      refine ⟨?_, fun _ => by omega⟩
      rw [numL_step (by omega), e1, e2, i1]
      have : 48 + (c - 48) = c := by omega
      rw [this]
theorem canon_back {l : List Nat} (h : Canon l) : numL (NumText.digitsVal l) = l :=
  (back_num l.length l rfl (fun e => by have := h.pos; rw [e] at this; simp at this) h.dig h.head).1
/-- the number from lo to hi that has the text w -/
def numF (w : Str) (lo hi : Int) : Option Int := if canonB (tl w) = true then (if lo ≤ (NumText.digitsVal (tl w) : Int) ∧ (NumText.digitsVal (tl w) : Int) ≤ hi then some (NumText.digitsVal (tl w) : Int) else none) else none
theorem numF_num {n : Nat} {lo hi : Int} (h : n < 10 ^ 10) (h1 : lo ≤ (n : Int)) (h2 : (n : Int) ≤ hi) : numF (numT n) lo hi = some (n : Int) := by
  unfold numF
  rw [tl_numT, if_pos (canonB_iff.mpr (canon_num h)), numL_val, if_pos ⟨h1, h2⟩]
theorem numF_back {w : Str} {lo hi i : Int} (h : numF w lo hi = some i) : ∃ n : Nat, i = (n : Int) ∧ w = numT n ∧ lo ≤ i ∧ i ≤ hi ∧ (tl w).length ≤ 10 ∧ 1 ≤ (tl w).length := by
  unfold numF at h
  split at h
  · rename_i hc
    split at h
    · rename_i hb
      cases h
      have c := canonB_iff.mp hc
      exact ⟨_, rfl, ext_tl (by rw [tl_numT, canon_back c]), hb.1, hb.2, c.few, c.pos⟩
    · cases h
  · cases h
/-! ### lists of options -/
def allSome {α : Type} : List (Option α) → Option (List α)
  | [] => some []
  | none :: _ => none
  | some a :: l => (allSome l).map (a :: ·)
theorem allSome_iff {α : Type} : ∀ {l : List (Option α)} {m : List α}, allSome l = some m ↔ l = m.map some
  | [], m => by cases m <;> simp [allSome]
  | none :: l, m => by cases m <;> simp [allSome]
  | some a :: l, m => by
    cases m with
    | nil => simp [allSome]
    | cons b m =>
      unfold allSome
      cases e : allSome l with
      | none =>
        have := fun z => (allSome_iff (l := l) (m := m)).mpr z
        rw [e] at this
        simp
        intro _ z; exact nomatch this z
      | some k =>
        have := (allSome_iff (l := l) (m := k)).mp e
        subst this
        simp only [Option.map_some, Option.some.injEq, List.cons.injEq, List.map_cons]
        exact ⟨fun ⟨h1, h2⟩ => ⟨h1, by rw [h2]⟩, fun ⟨h1, h2⟩ => ⟨h1, (List.map_inj_right (fun _ _ z => Option.some.inj z)).mp h2⟩⟩
theorem allSome_none {α : Type} {l : List (Option α)} (h : allSome l = none) : none ∈ l := by
  induction l with
  | nil => cases h
  | cons a l ih =>
    cases a with
    | none => exact List.mem_cons_self
    | some a =>
      unfold allSome at h
      cases e : allSome l with
      | none => exact List.mem_cons_of_mem _ (ih e)
      | some k => rw [e] at h; cases h
/-! ### lines of numbers -/
def sp : Str := " "
def sl : Str := " / "
theorem tl_sp : tl sp = [32] := by rw [show tl sp = _ from tl_ofString " "]; rfl
theorem tl_sl : tl sl = [32, 47, 32] := by rw [show tl sl = _ from tl_ofString " / "]; rfl
theorem low_sp : sp.cps.all (· < 256) = true := by decide +kernel
theorem low_sl : sl.cps.all (· < 256) = true := by decide +kernel
def numsF (t : Str) (lo hi : Int) : Option (List Int) := allSome ((Txt.split t sp).map fun w => numF w lo hi)
def rowT (r : List Nat) : Str := Txt.join sp (r.map numT)
def rowsT (rs : List (List Nat)) : Str := Txt.join sl (rs.map rowT)
def intL (r : List Nat) : List Int := r.map fun (n : Nat) => (n : Int)
theorem mapE {α β : Type} {f g : α → β} {l : List α} (h : ∀ a ∈ l, f a = g a) : l.map f = l.map g := List.map_congr_left h
theorem numsF_row {r : List Nat} {lo hi : Int} (hne : r ≠ []) (h : ∀ n ∈ r, n < 10 ^ 10 ∧ lo ≤ (n : Int) ∧ (n : Int) ≤ hi) : numsF (rowT r) lo hi = some (intL r) := by
  unfold numsF rowT
  rw [split_join tl_sp low_sp (by simpa using hne) fun p hp => by
    obtain ⟨n, _, rfl⟩ := List.mem_map.mp hp
    rw [tl_numT]; exact numL_free (by omega)]
  rw [allSome_iff, List.map_map]
  unfold intL
  rw [List.map_map]
  exact mapE fun n hn => numF_num (h n hn).1 (h n hn).2.1 (h n hn).2.2
theorem numsF_back {t : Str} {lo hi : Int} {l : List Int} (h : numsF t lo hi = some l) : ∃ r : List Nat, l = intL r ∧ t = rowT r ∧ (∀ n ∈ r, lo ≤ (n : Int) ∧ (n : Int) ≤ hi) ∧ l ≠ [] := by
  unfold numsF at h
  rw [allSome_iff] at h
  have key : ∀ (ws : List Str) (l : List Int), (ws.map fun w => numF w lo hi) = l.map some → ∃ r : List Nat, l = intL r ∧ ws = r.map numT ∧ ∀ n ∈ r, lo ≤ (n : Int) ∧ (n : Int) ≤ hi := by
    intro ws
    induction ws with
    | nil => intro l h; cases l with
      | nil => exact ⟨[], rfl, rfl, fun _ h => by cases h⟩
      | cons a l => simp at h
    | cons w ws ih =>
      intro l h
      cases l with
      | nil => simp at h
      | cons a l =>
        simp only [List.map_cons, List.cons.injEq] at h
        obtain ⟨n, e1, e2, b1, b2, _⟩ := numF_back h.1
        obtain ⟨r, e3, e4, e5⟩ := ih l h.2
        subst e1
        refine ⟨n :: r, by rw [e3]; rfl, by rw [e4, e2]; rfl, fun m hm => ?_⟩
        rcases List.mem_cons.mp hm with rfl | hm
        · exact ⟨b1, b2⟩
        · exact e5 m hm
  obtain ⟨r, e1, e2, e3⟩ := key _ _ h
  refine ⟨r, e1, ?_, e3, fun z => ?_⟩
  · unfold rowT
    rw [← e2, join_eq, StrLaws.join_split]
  · rw [z] at h
    have : Txt.split t sp = [] := List.map_eq_nil_iff.mp h
    have e := StrLaws.join_split t sp
    rw [this] at e
    have z2 : (Txt.split t sp).map tl = spl (tl sp) 0 [] (tl t) := split_spl t sp (by rw [tl_sp]; simp) (kind_ok low_sp)
    rw [this, tl_sp] at z2
    have ne : ∀ (k : Nat) (acc l : List Nat), spl [32] k acc l ≠ [] := by
      intro k acc l
      induction l generalizing k acc with
      | nil => rw [spl_nil]; simp
      | cons c l ih =>
        cases k with
        | zero => unfold spl; split <;> simp [ih]
        | succ k => exact ih k acc
    exact ne _ _ _ z2.symm
/-! ### tables -/
def rowsF (p : Int) (w : Nat) (t : Str) : Option (List (List Int)) :=
  match allSome ((Txt.split t sl).map fun u => numsF u 0 (p - 1)) with
  | some ls => if ls.length = w ∧ ∀ l ∈ ls, l.length = w then some ls else none
  | none => none
structure Rows (p : Int) (w : Nat) (rs : List (List Nat)) : Prop where
  len : rs.length = w
  wid : ∀ r ∈ rs, r.length = w
  low : ∀ r ∈ rs, ∀ n ∈ r, (n : Int) ≤ p - 1
theorem rowsF_rows {p : Int} {w : Nat} {rs : List (List Nat)} (hp : p ≤ 97) (hw : 1 ≤ w) (h : Rows p w rs) : rowsF p w (rowsT rs) = some (rs.map intL) := by
  have rne : ∀ r ∈ rs, r ≠ [] := fun r hr e => by have := h.wid r hr; rw [e] at this; simp at this; omega
  have ne : rs ≠ [] := fun e => by have := h.len; rw [e] at this; simp at this; omega
  have e : Txt.split (rowsT rs) sl = rs.map rowT := by
    -- the separator's first sign may stand in a row: cut by the list functions
    unfold rowsT
    refine map_tl_inj ?_
    rw [split_spl _ sl (by rw [tl_sl]; simp) (kind_ok low_sl), join_eq, tl_join, tl_sl]
    have row : ∀ r ∈ rs, ∀ q : List Nat, (q = [] ∨ ∃ q', q = 32 :: 47 :: q') → ∀ i, i < (tl (rowT r)).length → pre [32, 47, 32] ((tl (rowT r) ++ q).drop i) = false := by
      intro r hr q hq i hi
      -- a 32 in a row is followed by a digit
      have nx : ∀ (r : List Nat) (i : Nat), i < (joinL [32] (r.map numL)).length → (joinL [32] (r.map numL))[i]? = some 32 → ∃ c, (joinL [32] (r.map numL))[i + 1]? = some c ∧ 48 ≤ c := by
        intro r
        induction r with
        | nil => intro i hi; simp [joinL] at hi
        | cons n r ih =>
          intro i hi h32
          have free : ∀ (n i : Nat), (numL n)[i]? ≠ some 32 := fun n i z => numL_free (n := n) (s := 32) (by omega) (List.mem_of_getElem? z)
          cases r with
          | nil => exact absurd h32 (free n i)
          | cons m r =>
            have ej : joinL [32] ((n :: m :: r).map numL) = numL n ++ ([32] ++ joinL [32] ((m :: r).map numL)) := rfl
            rw [ej] at hi h32 ⊢
            by_cases c1 : i < (numL n).length
            · rw [List.getElem?_append_left c1] at h32; exact absurd h32 (free n i)
            · rw [List.getElem?_append_right (by omega)] at h32
              rw [List.getElem?_append_right (by omega)]
              by_cases c2 : i = (numL n).length
              · have e0 : i + 1 - (numL n).length = 1 := by omega
                rw [e0]
                have hd : ∃ c l, joinL [32] ((m :: r).map numL) = c :: l ∧ 48 ≤ c := by
                  have hm := numL_ne m
                  have hdm := numL_digits m
                  cases em : numL m with
                  | nil => exact absurd em hm
                  | cons c l =>
                    rw [em] at hdm
                    refine ⟨c, ?_⟩
                    cases r with
                    | nil => exact ⟨l, by show numL m = _; rw [em], hdm.head.1⟩
                    | cons k r => exact ⟨l ++ ([32] ++ joinL [32] ((k :: r).map numL)), by show numL m ++ _ = _; rw [em]; rfl, hdm.head.1⟩
                obtain ⟨c, l, e1, e2⟩ := hd
                exact ⟨c, by rw [e1]; rfl, e2⟩
              · have e0 : i - (numL n).length = (i - (numL n).length - 1) + 1 := by omega
                have e1 : i + 1 - (numL n).length = (i - (numL n).length - 1 + 1) + 1 := by omega
                rw [e0] at h32
                rw [e1]
                have h32' : (joinL [32] ((m :: r).map numL))[i - (numL n).length - 1]? = some 32 := by simpa using h32
                have hlt := (List.getElem?_eq_some_iff.mp h32').1
                obtain ⟨c, z1, z2⟩ := ih _ hlt h32'
                exact ⟨c, by simpa using z1, z2⟩
      have et : tl (rowT r) = joinL [32] (r.map numL) := by
        unfold rowT
        rw [join_eq, tl_join, tl_sp, List.map_map]
        exact congrArg _ (mapE fun n _ => tl_numT n)
      cases hpre : pre [32, 47, 32] ((tl (rowT r) ++ q).drop i) with
      | false => rfl
      | true =>
        exfalso
        unfold pre at hpre
        have h3 : ((tl (rowT r) ++ q).drop i).take 3 = [32, 47, 32] := by simpa using hpre
        have g0 : (tl (rowT r) ++ q)[i]? = some 32 := by
          have : (((tl (rowT r) ++ q).drop i).take 3)[0]? = some 32 := by rw [h3]; rfl
          rw [List.getElem?_take_of_lt (by omega), List.getElem?_drop] at this
          simpa using this
        have g1 : (tl (rowT r) ++ q)[i + 1]? = some 47 := by
          have : (((tl (rowT r) ++ q).drop i).take 3)[1]? = some 47 := by rw [h3]; rfl
          rw [List.getElem?_take_of_lt (by omega), List.getElem?_drop] at this
          simpa using this
        rw [List.getElem?_append_left hi] at g0
        obtain ⟨c, z1, z2⟩ := nx r i (by rw [← et]; exact hi) (by rw [← et]; exact g0)
        rw [← et] at z1
        have hlt := (List.getElem?_eq_some_iff.mp z1).1
        rw [List.getElem?_append_left hlt, z1] at g1
        cases g1
        omega
    have run : ∀ rs : List (List Nat), rs ≠ [] → (∀ r ∈ rs, ∀ q : List Nat, (q = [] ∨ ∃ q', q = 32 :: 47 :: q') → ∀ i, i < (tl (rowT r)).length → pre [32, 47, 32] ((tl (rowT r) ++ q).drop i) = false) → spl [32, 47, 32] 0 [] (joinL [32, 47, 32] ((rs.map rowT).map tl)) = (rs.map rowT).map tl := by
      intro rs
      induction rs with
      | nil => intro h; exact absurd rfl h
      | cons r rs ih =>
        intro _ hr
        cases rs with
        | nil =>
          show spl [32, 47, 32] 0 [] (tl (rowT r)) = [tl (rowT r)]
          rw [spl_last fun i hi => by have z := hr r List.mem_cons_self [] (.inl rfl) i hi; rw [List.append_nil] at z; exact z, List.nil_append]
        | cons r2 rs =>
          show spl [32, 47, 32] 0 [] (tl (rowT r) ++ ([32, 47, 32] ++ joinL [32, 47, 32] (((r2 :: rs).map rowT).map tl))) = tl (rowT r) :: _
          rw [spl_part (by simp) fun i hi => hr r List.mem_cons_self _ (.inr ⟨_, rfl⟩) i hi, List.nil_append]
          rw [ih (by simp) fun r h => hr r (List.mem_cons_of_mem _ h)]
    exact run rs ne row
  unfold rowsF
  rw [e]
  have e2 : allSome ((rs.map rowT).map fun u => numsF u 0 (p - 1)) = some (rs.map intL) := by
    rw [allSome_iff, List.map_map, List.map_map]
    refine mapE fun r hr => numsF_row (rne r hr) fun n hn => ?_
    have := h.low r hr n hn
    refine ⟨?_, by omega, this⟩
    have : (n : Int) < 97 := by omega
    omega
  rw [e2]
  refine if_pos ⟨by rw [List.length_map, h.len], fun l hl => ?_⟩
  obtain ⟨r, hr, rfl⟩ := List.mem_map.mp hl
  unfold intL
  rw [List.length_map, h.wid r hr]
theorem rowsF_back {p : Int} {w : Nat} {t : Str} {ls : List (List Int)} (h : rowsF p w t = some ls) : ∃ rs : List (List Nat), ls = rs.map intL ∧ t = rowsT rs ∧ Rows p w rs := by
  unfold rowsF at h
  split at h
  · rename_i ms e
    split at h
    · rename_i hc
      cases h
      rw [allSome_iff] at e
      have key : ∀ (us : List Str) (ls : List (List Int)), (us.map fun u => numsF u 0 (p - 1)) = ls.map some → ∃ rs : List (List Nat), ls = rs.map intL ∧ us = rs.map rowT ∧ ∀ r ∈ rs, ∀ n ∈ r, (n : Int) ≤ p - 1 := by
        intro us
        induction us with
        | nil => intro ls h; cases ls with
          | nil => exact ⟨[], rfl, rfl, fun _ h => by cases h⟩
          | cons a l => simp at h
        | cons u us ih =>
          intro ls h
          cases ls with
          | nil => simp at h
          | cons a ls =>
            simp only [List.map_cons, List.cons.injEq] at h
            obtain ⟨r, e1, e2, e3, _⟩ := numsF_back h.1
            obtain ⟨rs, f1, f2, f3⟩ := ih ls h.2
            refine ⟨r :: rs, by rw [e1, f1]; rfl, by rw [e2, f2]; rfl, fun k hk => ?_⟩
            rcases List.mem_cons.mp hk with rfl | hk
            · exact fun n hn => (e3 n hn).2
            · exact f3 k hk
      obtain ⟨rs, e1, e2, e3⟩ := key _ _ e
      refine ⟨rs, e1, ?_, ?_, fun r hr => ?_, e3⟩
      · unfold rowsT
        rw [← e2, join_eq, StrLaws.join_split]
      · rw [← hc.1, e1, List.length_map]
      · have := hc.2 (intL r) (by rw [e1]; exact List.mem_map.mpr ⟨r, hr, rfl⟩)
        unfold intL at this
        rw [List.length_map] at this; exact this
    · cases h
  · cases h
end Tx

set_option Elab.async false
set_option linter.all false
set_option maxRecDepth 100000
set_option maxHeartbeats 4000000
namespace Lk97
open PySem PySem.Spec PyProof.Rows L2 PD
def top (i : Nat) : Stmt := PySem.Challenge.pw_unswayed_k97_texts_of_deeds.main.body.getD i (.Pass ⟨0, 0, 0, 0⟩)
def fl : List Str := ["isinstance", "len", "abs", "int", "range", "str", "list", "tuple", "min", "all", "any", "bool", "ValueError"]
def cs : List Nat := [0, 1, 2, 3, 11, 17, 40]
def pl : List Nat := [0, 1, 2, 11]
def ff : List Nat := [3, 17]
def gs : List (Str × Str) := [("prime", "own_prime"), ("tall", "own_tall"), ("wide", "own_wide"), ("lines", "own_lines")]
def ci : List (Str × Int) := [("MOST_SIDE", 60), ("LONGEST", 10), ("GREATEST", 1000000000)]
def cst : List (Str × Str) := [("DIGITS", "0123456789")]
def ct : List (Str × List Int) := [("PRIMES", [2, 3, 5, 7, 11, 13, 17, 19, 23, 29, 31, 37, 41, 43, 47, 53, 59, 61, 67, 71, 73, 79, 83, 89, 97])]
def okF (C : Nat) (xs ys : List D) : Bool := decide (C = 40) && okFld 4 xs ys
def Nis_number : List Str := ["thing"]
theorem scis_number : FnScope Nis_number ["thing"] (defScope (top 10)) := C8.fnScope_by (by decide +kernel)
def wis_number (E : Nat → List D → Prop) : WS := (wRet (wAndV (wCB isiF (wCons (wVar 0) (wCons (wC (.ty "int")) wNil))) (wNotV (wCB isiF (wCons (wVar 0) (wCons (wC (.ty "bool")) wNil))))))
def F0is_number : FD := FW 1 wis_number
abbrev Fis_number : FD := F0is_number
def Nis_between : List Str := ["thing", "low", "high"]
theorem scis_between : FnScope Nis_between ["thing", "low", "high"] (defScope (top 11)) := C8.fnScope_by (by decide +kernel)
def wis_between (E : Nat → List D → Prop) : WS := (wRet (wAndV (wCall 1 (fun ds => ds) Fis_number (fun _ => E) (wCons (wVar 0) wNil)) (wChain leF leF (wVar 1) (wVar 0) (wVar 2))))
def F0is_between : FD := FW 3 wis_between
abbrev Fis_between : FD := F0is_between
def Nis_list : List Str := ["thing"]
theorem scis_list : FnScope Nis_list ["thing"] (defScope (top 12)) := C8.fnScope_by (by decide +kernel)
def wis_list (E : Nat → List D → Prop) : WS := (wRet (wCB isiLF (wCons (wVar 0) (wCons (wTup (wCons (wC (.ty "list")) (wCons (wC (.ty "tuple")) wNil))) wNil))))
def F0is_list : FD := FW 1 wis_list
abbrev Fis_list : FD := F0is_list
def Nis_prime : List Str := ["thing"]
theorem scis_prime : FnScope Nis_prime ["thing"] (defScope (top 13)) := C8.fnScope_by (by decide +kernel)
def wis_prime (E : Nat → List D → Prop) : WS := (wRet (wAndV (wCall 1 (fun ds => ds) Fis_number (fun _ => E) (wCons (wVar 0) wNil)) (wBin (inF false) (wVar 0) (wC (.ktp (([2, 3, 5, 7, 11, 13, 17, 19, 23, 29, 31, 37, 41, 43, 47, 53, 59, 61, 67, 71, 73, 79, 83, 89, 97] : List Int).map D.int))))))
def F0is_prime : FD := FW 1 wis_prime
abbrev Fis_prime : FD := F0is_prime
def Nneed_prime : List Str := ["thing"]
theorem scneed_prime : FnScope Nneed_prime ["thing"] (defScope (top 14)) := C8.fnScope_by (by decide +kernel)
def wneed_prime (E : Nat → List D → Prop) : WS := (wIfS (wNot (wB (wCall 1 (fun ds => ds) Fis_prime (fun _ => E) (wCons (wVar 0) wNil)))) (wRaise (fun _ => E) 1 (wC (.str "no prime from 2 to 97"))) wNx)
def F0need_prime : FD := FW 1 wneed_prime
abbrev Fneed_prime : FD := F0need_prime
def Nare_lines : List Str := ["thing", "tall", "wide", "one", "item"]
theorem scare_lines : FnScope Nare_lines ["thing", "tall", "wide"] (defScope (top 15)) := C8.fnScope_by (by decide +kernel)
def ware_lines (E : Nat → List D → Prop) : WS := (wSeq (wIfS (wOr (wNot (wB (wCall 1 (fun ds => ds) Fis_list (fun _ => E) (wCons (wVar 0) wNil)))) (wB (wBin neF (wUnP lenF1 (wPv 0)) (wVar 1)))) (wRet (wC (.bl false))) wNx)
  (wRet (wCB (aaF fun l => l.all id) (wCons (wLc (wIter (wVar 0)) (.n 3) wYes (wAndV (wCall 1 (fun ds => ds) Fis_list xw0 (wCons (wVar 3) wNil)) (wAndV (wBin eqF (wUnP lenF1 (wPv 3)) (wVar 2)) (wCB (aaF fun l => l.all id) (wCons (wLc (wIter (wVar 3)) (.n 4) wYes (wCall 1 (fun ds => ds) Fis_number xw0 (wCons (wVar 4) wNil)) [4]) wNil)))) [3]) wNil))))
def F0are_lines : FD := FW 5 ware_lines
abbrev Fare_lines : FD := F0are_lines
def NTable__init__ : List Str := ["self", "prime", "tall", "wide", "lines", "one", "item"]
theorem scTable__init__ : FnScope NTable__init__ ["self", "prime", "tall", "wide", "lines"] (defScope (memb (top 16) 0)) := C8.fnScope_by (by decide +kernel)
def wTable__init__ (E : Nat → List D → Prop) : WS := (wSeq (wDrop (wCall 1 (fun ds => ds) Fneed_prime (fun _ => E) (wCons (wVar 1) wNil)))
  (wSeq (wIfS (wOr (wNot (wB (wCall 3 (fun ds => ds) Fis_between (fun _ => E) (wCons (wVar 2) (wCons (wC (.int 0)) (wCons (wC (.int 60)) wNil)))))) (wNot (wB (wCall 3 (fun ds => ds) Fis_between (fun _ => E) (wCons (wVar 3) (wCons (wC (.int 0)) (wCons (wC (.int 60)) wNil))))))) (wRaise (fun _ => E) 2 (wC (.str "no such size"))) wNx)
  (wSeq (wIfS (wNot (wB (wCall 3 (fun ds => ds) Fare_lines (fun _ => E) (wCons (wVar 4) (wCons (wVar 2) (wCons (wVar 3) wNil)))))) (wRaise (fun _ => E) 2 (wC (.str "no such lines"))) wNx)
  (wSeq (wFldSet 0 40 "own_prime" (wVar 1))
  (wSeq (wFldSet 0 40 "own_tall" (wVar 2))
  (wSeq (wFldSet 0 40 "own_wide" (wVar 3))
  (wFldSet 0 40 "own_lines" (wCB tupleF (wCons (wLc (wIter (wVar 4)) (.n 5) wYes (wCB tupleF (wCons (wLc (wIter (wVar 5)) (.n 6) wYes (wBin modF (wVar 6) (wVar 1)) [6]) wNil)) [5]) wNil)))))))))
abbrev FTable : FD := FI 40 7 wTable__init__
def NTable__eq__ : List Str := ["self", "other"]
theorem scTable__eq__ : FnScope NTable__eq__ ["self", "other"] (defScope (memb (top 16) 5)) := C8.fnScope_by (by decide +kernel)
def wTable__eq__ (E : Nat → List D → Prop) : WS := (wSeq (wIfS (wOr (wNot (wB (wCB (isiCF 40) (wCons (wVar 1) (wCons (wC (.cls 40)) wNil))))) (wB (wBin neF (wFld 40 "own_prime" (wVar 0)) (wFld 40 "own_prime" (wVar 1))))) (wRet (wC (.bl false))) wNx)
  (wSeq (wIfS (wOr (wB (wBin neF (wFld 40 "own_tall" (wVar 0)) (wFld 40 "own_tall" (wVar 1)))) (wB (wBin neF (wFld 40 "own_wide" (wVar 0)) (wFld 40 "own_wide" (wVar 1))))) (wRet (wC (.bl false))) wNx)
  (wRet (wBin eqF (wFld 40 "own_lines" (wVar 0)) (wFld 40 "own_lines" (wVar 1))))))
def F0Table__eq__ : FD := FW 2 wTable__eq__
abbrev FTable__eq__ : FD := F0Table__eq__
def Nplain : List Str := ["prime", "size", "k", "spot"]
theorem scplain : FnScope Nplain ["prime", "size"] (defScope (top 17)) := C8.fnScope_by (by decide +kernel)
def wplain (E : Nat → List D → Prop) : WS := (wSeq (wDrop (wCall 1 (fun ds => ds) Fneed_prime (fun _ => E) (wCons (wVar 0) wNil)))
  (wSeq (wIfS (wNot (wB (wCall 3 (fun ds => ds) Fis_between (fun _ => E) (wCons (wVar 1) (wCons (wC (.int 0)) (wCons (wC (.int 60)) wNil)))))) (wRaiseF (fun _ => E) 3 (wC (.str "size"))) wNx)
  (wRet (wCall 4 (fun ds => ds) FTable (fun _ => E) (wCons (wVar 0) (wCons (wVar 1) (wCons (wVar 1) (wCons (wLc (wRng1 (wVar 1)) (.n 2) wYes (wLc (wRng1 (wVar 1)) (.n 3) wYes (wCB intF (wCons (wBin eqF (wVar 2) (wVar 3)) wNil)) [3]) [2]) wNil))))))))
def F0plain : FD := FW 4 wplain
abbrev Fplain : FD := F0plain
def Nis_deed : List Str := ["thing"]
theorem scis_deed : FnScope Nis_deed ["thing"] (defScope (top 19)) := C8.fnScope_by (by decide +kernel)
def wis_deed (E : Nat → List D → Prop) : WS := (wSeq (wIfS (wOr (wNot (wB (wCB isiF (wCons (wVar 0) (wCons (wC (.ty "tuple")) wNil))))) (wOr (wB (wBin neF (wUnP lenF1 (wPv 0)) (wC (.int 2)))) (wNot (wB (wCB isiF (wCons (wBinP ixF (wPv 0) (wC (.int 0))) (wCons (wC (.ty "str")) wNil))))))) (wRet (wC (.bl false))) wNx)
  (wSeq (wIfS (wB (wBin eqF (wBinP ixF (wPv 0) (wC (.int 0))) (wC (.str "take")))) (wRet (wCall 1 (fun ds => ds) Fis_number (fun _ => E) (wCons (wBinP ixF (wPv 0) (wC (.int 1))) wNil))) wNx)
  (wRet (wAndV (wBin (inF false) (wBinP ixF (wPv 0) (wC (.int 0))) (wTup (wCons (wC (.str "put")) (wCons (wC (.str "turn")) wNil)))) (wCB (isiCF 40) (wCons (wBinP ixF (wPv 0) (wC (.int 1))) (wCons (wC (.cls 40)) wNil)))))))
def F0is_deed : FD := FW 1 wis_deed
abbrev Fis_deed : FD := F0is_deed
def Nnumber_of_text : List Str := ["word", "low", "high", "found", "sign"]
theorem scnumber_of_text : FnScope Nnumber_of_text ["word", "low", "high"] (defScope (top 23)) := C8.fnScope_by (by decide +kernel)
def wnumber_of_text (E : Nat → List D → Prop) : WS := (wSeq (wIfS (wOr (wNot (wB (wChain leF leF (wC (.int 1)) (wUnP lenF1 (wPv 0)) (wC (.int 10))))) (wNot (wB (wCB (aaF fun l => l.all id) (wCons (wLc (wIter (wVar 0)) (.n 4) wYes (wBin (inF false) (wVar 4) (wC (.str "0123456789"))) [4]) wNil))))) (wRet (wC .non)) wNx)
  (wSeq (wIfS (wAnd (wB (wBin gtF (wUnP lenF1 (wPv 0)) (wC (.int 1)))) (wB (wBin eqF (wBinP ixF (wPv 0) (wC (.int 0))) (wC (.str "0"))))) (wRet (wC .non)) wNx)
  (wSeq (wSet 3 (wCB intSF (wCons (wVar 0) wNil)))
  (wRet (wIf (wB (wChain leF leF (wVar 1) (wVar 3) (wVar 2))) (wVar 3) (wC .non))))))
def F0number_of_text : FD := FW 5 wnumber_of_text
abbrev Fnumber_of_text : FD := F0number_of_text
def Nnumbers_of_text : List Str := ["text", "low", "high", "found", "word"]
theorem scnumbers_of_text : FnScope Nnumbers_of_text ["text", "low", "high"] (defScope (top 24)) := C8.fnScope_by (by decide +kernel)
def wnumbers_of_text (E : Nat → List D → Prop) : WS := (wSeq (wSet 3 (wLc (wIter (wBM splitF (wVar 0) (wCons (wC (.str " ")) wNil))) (.n 4) wYes (wCall 3 (fun ds => ds) Fnumber_of_text xw0 (wCons (wVar 4) (wCons (wVar 1) (wCons (wVar 2) wNil)))) [4]))
  (wRet (wIf (wB (wBinQ (inLF false) (wC .non) (wPv 3))) (wC .non) (wVar 3))))
def F0numbers_of_text : FD := FW 5 wnumbers_of_text
abbrev Fnumbers_of_text : FD := F0numbers_of_text
def Nlines_text : List Str := ["table", "line", "item"]
theorem sclines_text : FnScope Nlines_text ["table"] (defScope (top 25)) := C8.fnScope_by (by decide +kernel)
def wlines_text (E : Nat → List D → Prop) : WS := (wRet (wBM joinF (wC (.str " / ")) (wCons (wLc (wIter (wFld 40 "own_lines" (wVar 0))) (.n 1) wYes (wBM joinF (wC (.str " ")) (wCons (wLc (wIter (wVar 1)) (.n 2) wYes (wCB strF (wCons (wVar 2) wNil)) [2]) wNil)) [1]) wNil)))
def F0lines_text : FD := FW 3 wlines_text
abbrev Flines_text : FD := F0lines_text
def Ntable_of_lines : List Str := ["prime", "wide", "text", "lines", "part", "line"]
theorem sctable_of_lines : FnScope Ntable_of_lines ["prime", "wide", "text"] (defScope (top 26)) := C8.fnScope_by (by decide +kernel)
def wtable_of_lines (E : Nat → List D → Prop) : WS := (wSeq (wSet 3 (wLc (wIter (wBM splitF (wVar 2) (wCons (wC (.str " / ")) wNil))) (.n 4) wYes (wCall 3 (fun ds => ds) Fnumbers_of_text xw0 (wCons (wVar 4) (wCons (wC (.int 0)) (wCons (wBin subF (wVar 0) (wC (.int 1))) wNil)))) [4]))
  (wSeq (wIfS (wOr (wB (wBin neF (wUnP lenF1 (wPv 3)) (wVar 1))) (wB (wCB (aaF fun l => l.any id) (wCons (wLc (wIter (wVar 3)) (.n 5) wYes (wOrV (wBin (isNF false) (wVar 5) (wC .non)) (wBin neF (wUnP lenF1 (wPv 5)) (wVar 1))) [5]) wNil)))) (wRet (wC .non)) wNx)
  (wRet (wCall 4 (fun ds => ds) FTable (fun _ => E) (wCons (wVar 0) (wCons (wVar 1) (wCons (wVar 1) (wCons (wVar 3) wNil))))))))
def F0table_of_lines : FD := FW 6 wtable_of_lines
abbrev Ftable_of_lines : FD := F0table_of_lines
def Ndeed_text : List Str := ["deed", "word", "thing"]
theorem scdeed_text : FnScope Ndeed_text ["deed"] (defScope (top 29)) := C8.fnScope_by (by decide +kernel)
def wdeed_text (E : Nat → List D → Prop) : WS := (wSeq (wIfS (wNot (wB (wCall 1 (fun ds => ds) Fis_deed (fun _ => E) (wCons (wVar 0) wNil)))) (wRaise (fun _ => E) 11 (wC (.str "no deed"))) wNx)
  (wSeq (wAsg (.t [1, 2]) (wVar 0))
  (wSeq (wIfS (wB (wBin eqF (wVar 1) (wC (.str "take")))) (wSeq (wIfS (wNot (wB (wCall 3 (fun ds => ds) Fis_between (fun _ => E) (wCons (wVar 2) (wCons (wC (.int 0)) (wCons (wC (.int 1000000000)) wNil)))))) (wRaise (fun _ => E) 11 (wC (.str "no such number"))) wNx)
  (wRet (wBin addF (wC (.str "take ")) (wCB strF (wCons (wVar 2) wNil))))) wNx)
  (wSeq (wIfS (wOr (wB (wBin neF (wFld 40 "own_tall" (wVar 2)) (wFld 40 "own_wide" (wVar 2)))) (wNot (wB (wCall 3 (fun ds => ds) Fis_between (fun _ => E) (wCons (wFld 40 "own_wide" (wVar 2)) (wCons (wC (.int 1)) (wCons (wC (.int 3)) wNil))))))) (wRaise (fun _ => E) 11 (wC (.str "no such table"))) wNx)
  (wRet (wBin addF (wBin addF (wVar 1) (wC (.str " "))) (wCall 1 (fun ds => ds) Flines_text (fun _ => E) (wCons (wVar 2) wNil))))))))
def F0deed_text : FD := FW 3 wdeed_text
abbrev Fdeed_text : FD := F0deed_text
def Nfound_deed : List Str := ["prime", "wide", "line", "word", "space", "rest", "thing"]
theorem scfound_deed : FnScope Nfound_deed ["prime", "wide", "line"] (defScope (top 30)) := C8.fnScope_by (by decide +kernel)
def wfound_deed (E : Nat → List D → Prop) : WS := (wSeq (wAsg (.t [3, 4, 5]) (wBM partF (wVar 2) (wCons (wC (.str " ")) wNil)))
  (wSeq (wIfS (wB (wBin eqF (wVar 3) (wC (.str "take")))) (wSet 6 (wCall 3 (fun ds => ds) Fnumber_of_text (fun _ => E) (wCons (wVar 5) (wCons (wC (.int 0)) (wCons (wC (.int 1000000000)) wNil))))) (wIfS (wOr (wB (wBin eqF (wVar 3) (wC (.str "put")))) (wB (wBin eqF (wVar 3) (wC (.str "turn"))))) (wSet 6 (wCall 3 (fun ds => ds) Ftable_of_lines (fun _ => E) (wCons (wVar 0) (wCons (wVar 1) (wCons (wVar 5) wNil))))) (wSet 6 (wC .non))))
  (wRet (wIf (wB (wBin (isNF false) (wVar 6) (wC .non))) (wC .non) (wTup (wCons (wVar 3) (wCons (wVar 6) wNil)))))))
def F0found_deed : FD := FW 7 wfound_deed
abbrev Ffound_deed : FD := F0found_deed
def Ndeed_of_text : List Str := ["prime", "wide", "text", "found"]
theorem scdeed_of_text : FnScope Ndeed_of_text ["prime", "wide", "text"] (defScope (top 31)) := C8.fnScope_by (by decide +kernel)
def wdeed_of_text (E : Nat → List D → Prop) : WS := (wSeq (wDrop (wCall 1 (fun ds => ds) Fneed_prime (fun _ => E) (wCons (wVar 0) wNil)))
  (wSeq (wIfS (wNot (wB (wCall 3 (fun ds => ds) Fis_between (fun _ => E) (wCons (wVar 1) (wCons (wC (.int 1)) (wCons (wC (.int 3)) wNil)))))) (wRaiseF (fun _ => E) 3 (wC (.str "wide"))) wNx)
  (wSeq (wSet 3 (wIf (wB (wCB isiF (wCons (wVar 2) (wCons (wC (.ty "str")) wNil)))) (wCall 3 (fun ds => ds) Ffound_deed (fun _ => E) (wCons (wVar 0) (wCons (wVar 1) (wCons (wVar 2) wNil)))) (wC .non)))
  (wSeq (wIfS (wB (wBin (isNF false) (wVar 3) (wC .non))) (wRaiseF (fun _ => E) 17 (wC (.int 0))) wNx)
  (wRetV 3)))))
def F0deed_of_text : FD := FW 4 wdeed_of_text
abbrev Fdeed_of_text : FD := F0deed_of_text
section
variable {P : Program} {w : World} {K : PySem.W.Frag} {mg : Str → Option Value} {base : Heap} {Ω : Om} (hD : Hd P K mg fl cs pl ff) (hI : HdI K 40 gs) (hC : HdC K mg ci cst ct) (hW : DrawO Ω)
include hD hI hC hW
theorem bis_number {f : Addr} {code : Value} : BodyQ P w K mg base Ω 0 Nis_number "is_number" (defScope (top 10)) f code (defBody (top 10)) wis_number := by
  intro cdv A outer s H EK c E hc hg hr hO tk
  subst hO
  have sN := scis_number.nd
  exact (qss_one (qs_ret (qe_and (qe_callB call_isiY (by rfl) (hD.fr "isinstance" (by decide)) boot_isinstance mo_isi or_isi (qa_cons (qe_var 0) (qa_cons (qe_ty (by rfl) (hD.fr "int" (by decide)) boot_int) qa_nil))) (qe_one (qe_not (qe_callB call_isiY (by rfl) (hD.fr "isinstance" (by decide)) boot_isinstance mo_isi or_isi (qa_cons (qe_var 0) (qa_cons (qe_ty (by rfl) (hD.fr "bool" (by decide)) boot_bool) qa_nil))))))))
theorem bis_between {f : Addr} {code : Value} (cis_number : Cl P w K mg base Ω 1 "is_number" (top 10) ["thing"] Fis_number) : BodyQ P w K mg base Ω 1 Nis_between "is_between" (defScope (top 11)) f code (defBody (top 11)) wis_between := by
  intro cdv A outer s H EK c E hc hg hr hO tk
  subst hO
  have sN := scis_between.nd
  exact (qss_one (qs_ret (qe_and (qe_callN cis_number hg (hr.mono (by decide)) (by rfl) tk (by exact fun _ _ _ _ _ _ us hl => match us, hl with | [_], _ => rfl) (qa_cons (qe_var 0) qa_nil)) (qe_one (qe_chain op_le op_le (mo_cmp _) (mo_cmp _) (or_cmp _) (or_cmp _) (qe_var 1) (qe_var 0) (qe_var 2))))))
theorem bis_list {f : Addr} {code : Value} : BodyQ P w K mg base Ω 0 Nis_list "is_list" (defScope (top 12)) f code (defBody (top 12)) wis_list := by
  intro cdv A outer s H EK c E hc hg hr hO tk
  subst hO
  have sN := scis_list.nd
  exact (qss_one (qs_ret (qe_callB call_isiYT (by rfl) (hD.fr "isinstance" (by decide)) boot_isinstance mo_isiL or_isiL (qa_cons (qe_var 0) (qa_cons (qe_tup (qa_cons (qe_ty (by rfl) (hD.fr "list" (by decide)) boot_list) (qa_cons (qe_ty (by rfl) (hD.fr "tuple" (by decide)) boot_tuple) qa_nil))) qa_nil)))))
theorem bis_prime {f : Addr} {code : Value} (cis_number : Cl P w K mg base Ω 1 "is_number" (top 10) ["thing"] Fis_number) : BodyQ P w K mg base Ω 1 Nis_prime "is_prime" (defScope (top 13)) f code (defBody (top 13)) wis_prime := by
  intro cdv A outer s H EK c E hc hg hr hO tk
  subst hO
  have sN := scis_prime.nd
  exact (qss_one (qs_ret (qe_and (qe_callN cis_number hg (hr.mono (by decide)) (by rfl) tk (by exact fun _ _ _ _ _ _ us hl => match us, hl with | [_], _ => rfl) (qa_cons (qe_var 0) qa_nil)) (qe_one (qe_cmp (opr_in (u65 hr)) (mo_in _) or_in (qe_var 0) (hC.qt ([2, 3, 5, 7, 11, 13, 17, 19, 23, 29, 31, 37, 41, 43, 47, 53, 59, 61, 67, 71, 73, 79, 83, 89, 97]) (by decide) (by rfl)) rfl)))))
theorem bneed_prime {f : Addr} {code : Value} (cis_prime : Cl P w K mg base Ω 2 "is_prime" (top 13) ["thing"] Fis_prime) : BodyQ P w K mg base Ω 2 Nneed_prime "need_prime" (defScope (top 14)) f code (defBody (top 14)) wneed_prime := by
  intro cdv A outer s H EK c E hc hg hr hO tk
  subst hO
  have sN := scneed_prime.nd
  exact (qss_one (qs_if (qt_not (qt_val (qe_callN cis_prime hg (hr.mono (by decide)) (by rfl) tk (by exact fun _ _ _ _ _ _ us hl => match us, hl with | [_], _ => rfl) (qa_cons (qe_var 0) qa_nil)))) (qss_one (qs_raise 1 rfl (hD.ep 1 (by decide)) tk (by rfl) qe_str)) qss_nil))
theorem bare_lines {f : Addr} {code : Value} (cis_number : Cl P w K mg base Ω 1 "is_number" (top 10) ["thing"] Fis_number) (cis_list : Cl P w K mg base Ω 1 "is_list" (top 12) ["thing"] Fis_list) : BodyQ P w K mg base Ω 1 Nare_lines "are_lines" (defScope (top 15)) f code (defBody (top 15)) ware_lines := by
  intro cdv A outer s H EK c E hc hg hr hO tk
  subst hO
  have sN := scare_lines.nd
  exact (qss_cons (qs_if (QW.qt (qw_or (qt_not (qt_val (qe_callN cis_list hg (hr.mono (by decide)) (by rfl) tk (by exact fun _ _ _ _ _ _ us hl => match us, hl with | [_], _ => rfl) (qa_cons (qe_var 0) qa_nil)))) (qw_or1 (qt_cmp (op_neD hr.units) mo_ne or_ne (qe_callBP call_len (by rfl) (hD.fr "len" (by decide)) PD.boot_len mo_len1 or_lenP (qp_var 0)) (qe_var 1) (nomark _))))) (qss_one (qs_ret qe_bl)) qss_nil)
  (qss_one (qs_ret (qe_callB (call_all rfl) (by rfl) (hD.fr "all" (by decide)) PD.boot_all (mo_aa _) (or_aa fun l => l.all id) (qa_cons (qe_lc rfl sN (.n 3) [("one", 3)] (qi_any (qe_var 0)) (blkOk_by (by kernel_rfl)) (by decide) (fun _ _ _ _ _ => (pgN sN 3)) (fun _ _ _ _ _ => qts_nil) (fun _ _ _ _ _ => (qe_and (qe_callN cis_list hg (hr.mono (by decide)) (by rfl) takesD0 (by exact fun _ _ _ _ _ _ us hl => match us, hl with | [_], _ => rfl) (qa_cons (qe_var 3) qa_nil)) (qe_and (qe_cmp (op_eqD hr.units) mo_eq or_eq (qe_callBP call_len (by rfl) (hD.fr "len" (by decide)) PD.boot_len mo_len1 or_lenP (qp_var 3)) (qe_var 2) (nomark _)) (qe_one (qe_callB (call_all rfl) (by rfl) (hD.fr "all" (by decide)) PD.boot_all (mo_aa _) (or_aa fun l => l.all id) (qa_cons (qe_lc rfl sN (.n 4) [("item", 4)] (qi_any (qe_var 3)) (blkOk_by (by kernel_rfl)) (by decide) (fun _ _ _ _ _ => (pgN sN 4)) (fun _ _ _ _ _ => qts_nil) (fun _ _ _ _ _ => (qe_callN cis_number hg (hr.mono (by decide)) (by rfl) takesD0 (by exact fun _ _ _ _ _ _ us hl => match us, hl with | [_], _ => rfl) (qa_cons (qe_var 4) qa_nil)))) qa_nil))))))) qa_nil)))))
theorem bTable__init__ {f : Addr} {code : Value} (cis_between : Cl P w K mg base Ω 2 "is_between" (top 11) ["thing", "low", "high"] Fis_between) (cneed_prime : Cl P w K mg base Ω 3 "need_prime" (top 14) ["thing"] Fneed_prime) (care_lines : Cl P w K mg base Ω 2 "are_lines" (top 15) ["thing", "tall", "wide"] Fare_lines) : BodyQ P w K mg base Ω 3 NTable__init__ "Table.__init__" (defScope (memb (top 16) 0)) f code (defBody (memb (top 16) 0)) wTable__init__ := by
  intro cdv A outer s H EK c E hc hg hr hO tk
  subst hO
  have sN := scTable__init__.nd
  exact (qss_cons (qs_expr (qe_callN cneed_prime hg (hr.mono (by decide)) (by rfl) tk (by exact fun _ _ _ _ _ _ us hl => match us, hl with | [_], _ => rfl) (qa_cons (qe_var 1) qa_nil)))
  (qss_cons (qs_if (QW.qt (qw_or (qt_not (qt_val (qe_callN cis_between hg (hr.mono (by decide)) (by rfl) tk (by exact fun _ _ _ _ _ _ us hl => match us, hl with | [_,_,_], _ => rfl) (qa_cons (qe_var 2) (qa_cons qe_int (qa_cons (hC.qi (60) (by decide) (by rfl)) qa_nil)))))) (qw_or1 (qt_not (qt_val (qe_callN cis_between hg (hr.mono (by decide)) (by rfl) tk (by exact fun _ _ _ _ _ _ us hl => match us, hl with | [_,_,_], _ => rfl) (qa_cons (qe_var 3) (qa_cons qe_int (qa_cons (hC.qi (60) (by decide) (by rfl)) qa_nil))))))))) (qss_one (qs_raise 2 rfl (hD.ep 2 (by decide)) tk (by rfl) qe_str)) qss_nil)
  (qss_cons (qs_if (qt_not (qt_val (qe_callN care_lines hg (hr.mono (by decide)) (by rfl) tk (by exact fun _ _ _ _ _ _ us hl => match us, hl with | [_,_,_], _ => rfl) (qa_cons (qe_var 4) (qa_cons (qe_var 2) (qa_cons (qe_var 3) qa_nil)))))) (qss_one (qs_raise 2 rfl (hD.ep 2 (by decide)) tk (by rfl) qe_str)) qss_nil)
  (qss_cons (qs_fldset 0 40 (by decide) (hI.f "own_prime" (by decide)) (qe_var 1))
  (qss_cons (qs_fldset 0 40 (by decide) (hI.f "own_tall" (by decide)) (qe_var 2))
  (qss_cons (qs_fldset 0 40 (by decide) (hI.f "own_wide" (by decide)) (qe_var 3))
  (qss_one (qs_fldset 0 40 (by decide) (hI.f "own_lines" (by decide)) (qe_callTy call_tuple_of (by rfl) (hD.fr "tuple" (by decide)) PD.boot_tupleT mo_tuple or_tuple (qa_cons (qe_lc rfl sN (.n 5) [("one", 5)] (qi_any (qe_var 4)) (blkOk_by (by kernel_rfl)) (by decide) (fun _ _ _ _ _ => (pgN sN 5)) (fun _ _ _ _ _ => qts_nil) (fun _ _ _ _ _ => (qe_callTy call_tuple_of (by rfl) (hD.fr "tuple" (by decide)) PD.boot_tupleT mo_tuple or_tuple (qa_cons (qe_lc rfl sN (.n 6) [("item", 6)] (qi_any (qe_var 5)) (blkOk_by (by kernel_rfl)) (by decide) (fun _ _ _ _ _ => (pgN sN 6)) (fun _ _ _ _ _ => qts_nil) (fun _ _ _ _ _ => (qe_bin op_mod mo_mod or_mod (qe_var 6) (qe_var 1)))) qa_nil)))) qa_nil))))))))))
theorem bTable__eq__ {f : Addr} {code : Value} : BodyQ P w K mg base Ω 0 NTable__eq__ "Table.__eq__" (defScope (memb (top 16) 5)) f code (defBody (memb (top 16) 5)) wTable__eq__ := by
  intro cdv A outer s H EK c E hc hg hr hO tk
  subst hO
  have sN := scTable__eq__.nd
  exact (qss_cons (qs_if (QW.qt (qw_or (qt_not (qt_val (qe_callB call_isiY (by rfl) (hD.fr "isinstance" (by decide)) boot_isinstance (mo_isiC 40) (or_isiC (hD.kn 40 (by decide)) (hD.tk 40 (by decide))) (qa_cons (qe_var 1) (qa_cons (qe_cls 40 (by rfl) (hD.cls 40 (by decide))) qa_nil))))) (qw_or1 (qt_cmp (op_neD hr.units) mo_ne or_ne (qe_fld 40 (hI.f "own_prime" (by decide)) (qe_var 0)) (qe_fld 40 (hI.f "own_prime" (by decide)) (qe_var 1)) (nomark _))))) (qss_one (qs_ret qe_bl)) qss_nil)
  (qss_cons (qs_if (QW.qt (qw_or (qt_cmp (op_neD hr.units) mo_ne or_ne (qe_fld 40 (hI.f "own_tall" (by decide)) (qe_var 0)) (qe_fld 40 (hI.f "own_tall" (by decide)) (qe_var 1)) (nomark _)) (qw_or1 (qt_cmp (op_neD hr.units) mo_ne or_ne (qe_fld 40 (hI.f "own_wide" (by decide)) (qe_var 0)) (qe_fld 40 (hI.f "own_wide" (by decide)) (qe_var 1)) (nomark _))))) (qss_one (qs_ret qe_bl)) qss_nil)
  (qss_one (qs_ret (qe_cmp (op_eqD hr.units) mo_eq or_eq (qe_fld 40 (hI.f "own_lines" (by decide)) (qe_var 0)) (qe_fld 40 (hI.f "own_lines" (by decide)) (qe_var 1)) (nomark _))))))
theorem bplain {f : Addr} {code : Value} (cis_between : Cl P w K mg base Ω 2 "is_between" (top 11) ["thing", "low", "high"] Fis_between) (cneed_prime : Cl P w K mg base Ω 3 "need_prime" (top 14) ["thing"] Fneed_prime) (mTable : ClM P w K mg base Ω 4 40 ["prime", "tall", "wide", "lines"] FTable) : BodyQ P w K mg base Ω 5 Nplain "plain" (defScope (top 17)) f code (defBody (top 17)) wplain := by
  intro cdv A outer s H EK c E hc hg hr hO tk
  subst hO
  have sN := scplain.nd
  exact (qss_cons (qs_expr (qe_callN cneed_prime hg (hr.mono (by decide)) (by rfl) tk (by exact fun _ _ _ _ _ _ us hl => match us, hl with | [_], _ => rfl) (qa_cons (qe_var 0) qa_nil)))
  (qss_cons (qs_if (qt_not (qt_val (qe_callN cis_between hg (hr.mono (by decide)) (by rfl) tk (by exact fun _ _ _ _ _ _ us hl => match us, hl with | [_,_,_], _ => rfl) (qa_cons (qe_var 1) (qa_cons qe_int (qa_cons (hC.qi (60) (by decide) (by rfl)) qa_nil)))))) (qss_one (qs_raiseF 3 rfl (hD.ef 3 (by decide)) hr tk (by rfl) qe_str)) qss_nil)
  (qss_one (qs_ret (qe_makeN mTable hg (hr.mono (by decide)) (by rfl) tk (qa_cons (qe_var 0) (qa_cons (qe_var 1) (qa_cons (qe_var 1) (qa_cons (qe_lc rfl sN (.n 2) [("k", 2)] (qi_range1 (hD.fr "range" (by decide)) (qe_var 1)) (blkOk_by (by kernel_rfl)) (by decide) (fun _ _ _ _ _ => (pgN sN 2)) (fun _ _ _ _ _ => qts_nil) (fun _ _ _ _ _ => (qe_lc rfl sN (.n 3) [("spot", 3)] (qi_range1 (hD.fr "range" (by decide)) (qe_var 1)) (blkOk_by (by kernel_rfl)) (by decide) (fun _ _ _ _ _ => (pgN sN 3)) (fun _ _ _ _ _ => qts_nil) (fun _ _ _ _ _ => (qe_callTy call_int1 (by rfl) (hD.fr "int" (by decide)) boot_int mo_int or_int (qa_cons (qe_cmp (op_eqD hr.units) mo_eq or_eq (qe_var 2) (qe_var 3) (nomark _)) qa_nil)))))) qa_nil)))))))))
theorem bis_deed {f : Addr} {code : Value} (cis_number : Cl P w K mg base Ω 1 "is_number" (top 10) ["thing"] Fis_number) : BodyQ P w K mg base Ω 1 Nis_deed "is_deed" (defScope (top 19)) f code (defBody (top 19)) wis_deed := by
  intro cdv A outer s H EK c E hc hg hr hO tk
  subst hO
  have sN := scis_deed.nd
  exact (qss_cons (qs_if (QW.qt (qw_or (qt_not (qt_val (qe_callB call_isiY (by rfl) (hD.fr "isinstance" (by decide)) boot_isinstance mo_isi or_isi (qa_cons (qe_var 0) (qa_cons (qe_ty (by rfl) (hD.fr "tuple" (by decide)) boot_tuple) qa_nil))))) (qw_or (qt_cmp (op_neD hr.units) mo_ne or_ne (qe_callBP call_len (by rfl) (hD.fr "len" (by decide)) PD.boot_len mo_len1 or_lenP (qp_var 0)) qe_int (nomark _)) (qw_or1 (qt_not (qt_val (qe_callB call_isiY (by rfl) (hD.fr "isinstance" (by decide)) boot_isinstance mo_isi or_isi (qa_cons (qe_ixP ix_seq mo_ix or_ixP (qp_var 0) qe_int) (qa_cons (qe_ty (by rfl) (hD.fr "str" (by decide)) boot_str) qa_nil))))))))) (qss_one (qs_ret qe_bl)) qss_nil)
  (qss_cons (qs_if (qt_cmp (op_eqD hr.units) mo_eq or_eq (qe_ixP ix_seq mo_ix or_ixP (qp_var 0) qe_int) qe_str (nomark _)) (qss_one (qs_ret (qe_callN cis_number hg (hr.mono (by decide)) (by rfl) tk (by exact fun _ _ _ _ _ _ us hl => match us, hl with | [_], _ => rfl) (qa_cons (qe_ixP ix_seq mo_ix or_ixP (qp_var 0) qe_int) qa_nil)))) qss_nil)
  (qss_one (qs_ret (qe_and (qe_cmp (opr_in (u65 hr)) (mo_in _) or_in (qe_ixP ix_seq mo_ix or_ixP (qp_var 0) qe_int) (qe_tup (qa_cons qe_str (qa_cons qe_str qa_nil))) rfl) (qe_one (qe_callB call_isiY (by rfl) (hD.fr "isinstance" (by decide)) boot_isinstance (mo_isiC 40) (or_isiC (hD.kn 40 (by decide)) (hD.tk 40 (by decide))) (qa_cons (qe_ixP ix_seq mo_ix or_ixP (qp_var 0) qe_int) (qa_cons (qe_cls 40 (by rfl) (hD.cls 40 (by decide))) qa_nil)))))))))
theorem bnumber_of_text {f : Addr} {code : Value} : BodyQ P w K mg base Ω 0 Nnumber_of_text "number_of_text" (defScope (top 23)) f code (defBody (top 23)) wnumber_of_text := by
  intro cdv A outer s H EK c E hc hg hr hO tk
  subst hO
  have sN := scnumber_of_text.nd
  exact (qss_cons (qs_if (QW.qt (qw_or (qt_not (qt_chain op_le op_le (mo_cmp _) (mo_cmp _) (or_cmp _) (or_cmp _) qe_int (qe_callBP call_len (by rfl) (hD.fr "len" (by decide)) PD.boot_len mo_len1 or_lenP (qp_var 0)) (hC.qi (10) (by decide) (by rfl)))) (qw_or1 (qt_not (qt_val (qe_callB (call_all rfl) (by rfl) (hD.fr "all" (by decide)) PD.boot_all (mo_aa _) (or_aa fun l => l.all id) (qa_cons (qe_lc rfl sN (.n 4) [("sign", 4)] (qi_any (qe_var 0)) (blkOk_by (by kernel_rfl)) (by decide) (fun _ _ _ _ _ => (pgN sN 4)) (fun _ _ _ _ _ => qts_nil) (fun _ _ _ _ _ => (qe_cmp (opr_in (u65 hr)) (mo_in _) or_in (qe_var 4) (hC.qs "0123456789" (by decide) (by rfl)) rfl))) qa_nil))))))) (qss_one (qs_ret qe_non)) qss_nil)
  (qss_cons (qs_if (QW.qt (qw_and (qt_cmp op_gt (mo_cmp _) (or_cmp _) (qe_callBP call_len (by rfl) (hD.fr "len" (by decide)) PD.boot_len mo_len1 or_lenP (qp_var 0)) qe_int (nomark _)) (qw_and1 (qt_cmp (op_eqD hr.units) mo_eq or_eq (qe_ixP ix_seq mo_ix or_ixP (qp_var 0) qe_int) qe_str (nomark _))))) (qss_one (qs_ret qe_non)) qss_nil)
  (qss_cons (qs_set sN (qe_callTy call_int_str (by rfl) (hD.fr "int" (by decide)) boot_int mo_intS or_intS (qa_cons (qe_var 0) qa_nil)) 3)
  (qss_one (qs_ret (qe_if (qt_chain op_le op_le (mo_cmp _) (mo_cmp _) (or_cmp _) (or_cmp _) (qe_var 1) (qe_var 3) (qe_var 2)) (qe_var 3) qe_non))))))
theorem bnumbers_of_text {f : Addr} {code : Value} (cnumber_of_text : Cl P w K mg base Ω 1 "number_of_text" (top 23) ["word", "low", "high"] Fnumber_of_text) : BodyQ P w K mg base Ω 1 Nnumbers_of_text "numbers_of_text" (defScope (top 24)) f code (defBody (top 24)) wnumbers_of_text := by
  intro cdv A outer s H EK c E hc hg hr hO tk
  subst hO
  have sN := scnumbers_of_text.nd
  exact (qss_cons (qs_setLc 3 rfl sN (.n 4) [("word", 4)] (qi_any (qe_sm PySem.F.slot_str_split PySem.F.type_str_split mt_split mo_split or_split (qe_var 0) (qa_cons qe_str qa_nil))) (blkOk_by (by kernel_rfl)) (by decide) (fun _ _ _ _ _ => (pgN sN 4)) (fun _ _ _ _ _ => qts_nil) (fun _ _ _ _ _ => (qe_callN cnumber_of_text hg (hr.mono (by decide)) (by rfl) takesD0 (by exact fun _ _ _ _ _ _ us hl => match us, hl with | [_,_,_], _ => rfl) (qa_cons (qe_var 4) (qa_cons (qe_var 1) (qa_cons (qe_var 2) qa_nil))))))
  (qss_one (qs_ret (qe_if (qt_cmpQ (opr_in (u65 hr)) (mo_inL _) or_inLQ qe_non (qp_var 3) rfl) qe_non (qe_var 3)))))
theorem blines_text {f : Addr} {code : Value} : BodyQ P w K mg base Ω 2 Nlines_text "lines_text" (defScope (top 25)) f code (defBody (top 25)) wlines_text := by
  intro cdv A outer s H EK c E hc hg hr hO tk
  subst hO
  have sN := sclines_text.nd
  exact (qss_one (qs_ret (qe_sm PySem.F.slot_str_join PySem.F.type_str_join mt_join mo_join or_join qe_str (qa_cons (qe_lc rfl sN (.n 1) [("line", 1)] (qi_any (qe_prop (k := 0) 40 (hI.p "lines" "own_lines" (by decide)) (hr.mono (by decide)) (qe_var 0))) (blkOk_by (by kernel_rfl)) (by decide) (fun _ _ _ _ _ => (pgN sN 1)) (fun _ _ _ _ _ => qts_nil) (fun _ _ _ _ _ => (qe_sm PySem.F.slot_str_join PySem.F.type_str_join mt_join mo_join or_join qe_str (qa_cons (qe_lc rfl sN (.n 2) [("item", 2)] (qi_any (qe_var 1)) (blkOk_by (by kernel_rfl)) (by decide) (fun _ _ _ _ _ => (pgN sN 2)) (fun _ _ _ _ _ => qts_nil) (fun _ _ _ _ _ => (qe_callTy call_str_int (by rfl) (hD.fr "str" (by decide)) PD.boot_strT mo_strF or_strI (qa_cons (qe_var 2) qa_nil)))) qa_nil)))) qa_nil))))
theorem btable_of_lines {f : Addr} {code : Value} (cnumbers_of_text : Cl P w K mg base Ω 2 "numbers_of_text" (top 24) ["text", "low", "high"] Fnumbers_of_text) (mTable : ClM P w K mg base Ω 4 40 ["prime", "tall", "wide", "lines"] FTable) : BodyQ P w K mg base Ω 5 Ntable_of_lines "table_of_lines" (defScope (top 26)) f code (defBody (top 26)) wtable_of_lines := by
  intro cdv A outer s H EK c E hc hg hr hO tk
  subst hO
  have sN := sctable_of_lines.nd
  exact (qss_cons (qs_setLc 3 rfl sN (.n 4) [("part", 4)] (qi_any (qe_sm PySem.F.slot_str_split PySem.F.type_str_split mt_split mo_split or_split (qe_var 2) (qa_cons qe_str qa_nil))) (blkOk_by (by kernel_rfl)) (by decide) (fun _ _ _ _ _ => (pgN sN 4)) (fun _ _ _ _ _ => qts_nil) (fun _ _ _ _ _ => (qe_callN cnumbers_of_text hg (hr.mono (by decide)) (by rfl) takesD0 (by exact fun _ _ _ _ _ _ us hl => match us, hl with | [_,_,_], _ => rfl) (qa_cons (qe_var 4) (qa_cons qe_int (qa_cons (qe_bin op_sub mo_sub or_sub (qe_var 0) qe_int) qa_nil))))))
  (qss_cons (qs_if (QW.qt (qw_or (qt_cmp (op_neD hr.units) mo_ne or_ne (qe_callBP call_len (by rfl) (hD.fr "len" (by decide)) PD.boot_len mo_len1 or_lenP (qp_var 3)) (qe_var 1) (nomark _)) (qw_or1 (qt_val (qe_callB (call_any rfl) (by rfl) (hD.fr "any" (by decide)) PD.boot_any (mo_aa _) (or_aa fun l => l.any id) (qa_cons (qe_lc rfl sN (.n 5) [("line", 5)] (qi_any (qe_var 3)) (blkOk_by (by kernel_rfl)) (by decide) (fun _ _ _ _ _ => (pgN sN 5)) (fun _ _ _ _ _ => qts_nil) (fun _ _ _ _ _ => (qe_or (qe_cmp op_isN (mo_isN _) or_isN (qe_var 5) qe_non (nomark _)) (qe_one (qe_cmp (op_neD hr.units) mo_ne or_ne (qe_callBP call_len (by rfl) (hD.fr "len" (by decide)) PD.boot_len mo_len1 or_lenP (qp_var 5)) (qe_var 1) (nomark _)))))) qa_nil)))))) (qss_one (qs_ret qe_non)) qss_nil)
  (qss_one (qs_ret (qe_makeN mTable hg (hr.mono (by decide)) (by rfl) tk (qa_cons (qe_var 0) (qa_cons (qe_var 1) (qa_cons (qe_var 1) (qa_cons (qe_var 3) qa_nil)))))))))
theorem bdeed_text {f : Addr} {code : Value} (cis_between : Cl P w K mg base Ω 2 "is_between" (top 11) ["thing", "low", "high"] Fis_between) (cis_deed : Cl P w K mg base Ω 2 "is_deed" (top 19) ["thing"] Fis_deed) (clines_text : Cl P w K mg base Ω 3 "lines_text" (top 25) ["table"] Flines_text) : BodyQ P w K mg base Ω 3 Ndeed_text "deed_text" (defScope (top 29)) f code (defBody (top 29)) wdeed_text := by
  intro cdv A outer s H EK c E hc hg hr hO tk
  subst hO
  have sN := scdeed_text.nd
  exact (qss_cons (qs_if (qt_not (qt_val (qe_callN cis_deed hg (hr.mono (by decide)) (by rfl) tk (by exact fun _ _ _ _ _ _ us hl => match us, hl with | [_], _ => rfl) (qa_cons (qe_var 0) qa_nil)))) (qss_one (qs_raise 11 rfl (hD.ep 11 (by decide)) tk (by rfl) qe_str)) qss_nil)
  (qss_cons (qs_asg (.t [1, 2]) (qe_var 0) (pg_tup rfl (pgs_cons (pgN sN 1) (pgs_cons (pgN sN 2) pgs_nil))))
  (qss_cons (qs_if (qt_cmp (op_eqD hr.units) mo_eq or_eq (qe_var 1) qe_str (nomark _)) (qss_cons (qs_if (qt_not (qt_val (qe_callN cis_between hg (hr.mono (by decide)) (by rfl) tk (by exact fun _ _ _ _ _ _ us hl => match us, hl with | [_,_,_], _ => rfl) (qa_cons (qe_var 2) (qa_cons qe_int (qa_cons (hC.qi (1000000000) (by decide) (by rfl)) qa_nil)))))) (qss_one (qs_raise 11 rfl (hD.ep 11 (by decide)) tk (by rfl) qe_str)) qss_nil)
  (qss_one (qs_ret (qe_bin opr_add mo_add or_add qe_str (qe_callTy call_str_int (by rfl) (hD.fr "str" (by decide)) PD.boot_strT mo_strF or_strI (qa_cons (qe_var 2) qa_nil)))))) qss_nil)
  (qss_cons (qs_if (QW.qt (qw_or (qt_cmp (op_neD hr.units) mo_ne or_ne (qe_prop (k := 0) 40 (hI.p "tall" "own_tall" (by decide)) (hr.mono (by decide)) (qe_var 2)) (qe_prop (k := 0) 40 (hI.p "wide" "own_wide" (by decide)) (hr.mono (by decide)) (qe_var 2)) (nomark _)) (qw_or1 (qt_not (qt_val (qe_callN cis_between hg (hr.mono (by decide)) (by rfl) tk (by exact fun _ _ _ _ _ _ us hl => match us, hl with | [_,_,_], _ => rfl) (qa_cons (qe_prop (k := 0) 40 (hI.p "wide" "own_wide" (by decide)) (hr.mono (by decide)) (qe_var 2)) (qa_cons qe_int (qa_cons qe_int qa_nil))))))))) (qss_one (qs_raise 11 rfl (hD.ep 11 (by decide)) tk (by rfl) qe_str)) qss_nil)
  (qss_one (qs_ret (qe_bin opr_add mo_add or_add (qe_bin opr_add mo_add or_add (qe_var 1) qe_str) (qe_callN clines_text hg (hr.mono (by decide)) (by rfl) tk (by exact fun _ _ _ _ _ _ us hl => match us, hl with | [_], _ => rfl) (qa_cons (qe_var 2) qa_nil)))))))))
theorem bfound_deed {f : Addr} {code : Value} (cnumber_of_text : Cl P w K mg base Ω 1 "number_of_text" (top 23) ["word", "low", "high"] Fnumber_of_text) (ctable_of_lines : Cl P w K mg base Ω 6 "table_of_lines" (top 26) ["prime", "wide", "text"] Ftable_of_lines) : BodyQ P w K mg base Ω 6 Nfound_deed "found_deed" (defScope (top 30)) f code (defBody (top 30)) wfound_deed := by
  intro cdv A outer s H EK c E hc hg hr hO tk
  subst hO
  have sN := scfound_deed.nd
  exact (qss_cons (qs_asg (.t [3, 4, 5]) (qe_sm PySem.F.slot_str_partition PySem.F.type_str_partition mt_partition mo_part or_part (qe_var 2) (qa_cons qe_str qa_nil)) (pg_tup rfl (pgs_cons (pgN sN 3) (pgs_cons (pgN sN 4) (pgs_cons (pgN sN 5) pgs_nil)))))
  (qss_cons (qs_if (qt_cmp (op_eqD hr.units) mo_eq or_eq (qe_var 3) qe_str (nomark _)) (qss_one (qs_set sN (qe_callN cnumber_of_text hg (hr.mono (by decide)) (by rfl) tk (by exact fun _ _ _ _ _ _ us hl => match us, hl with | [_,_,_], _ => rfl) (qa_cons (qe_var 5) (qa_cons qe_int (qa_cons (hC.qi (1000000000) (by decide) (by rfl)) qa_nil)))) 6)) (qss_one (qs_if (QW.qt (qw_or (qt_cmp (op_eqD hr.units) mo_eq or_eq (qe_var 3) qe_str (nomark _)) (qw_or1 (qt_cmp (op_eqD hr.units) mo_eq or_eq (qe_var 3) qe_str (nomark _))))) (qss_one (qs_set sN (qe_callN ctable_of_lines hg (hr.mono (by decide)) (by rfl) tk (by exact fun _ _ _ _ _ _ us hl => match us, hl with | [_,_,_], _ => rfl) (qa_cons (qe_var 0) (qa_cons (qe_var 1) (qa_cons (qe_var 5) qa_nil)))) 6)) (qss_one (qs_set sN qe_non 6)))))
  (qss_one (qs_ret (qe_if (qt_cmp op_isN (mo_isN _) or_isN (qe_var 6) qe_non (nomark _)) qe_non (qe_tup (qa_cons (qe_var 3) (qa_cons (qe_var 6) qa_nil))))))))
theorem bdeed_of_text {f : Addr} {code : Value} (cis_between : Cl P w K mg base Ω 2 "is_between" (top 11) ["thing", "low", "high"] Fis_between) (cneed_prime : Cl P w K mg base Ω 3 "need_prime" (top 14) ["thing"] Fneed_prime) (cfound_deed : Cl P w K mg base Ω 7 "found_deed" (top 30) ["prime", "wide", "line"] Ffound_deed) : BodyQ P w K mg base Ω 7 Ndeed_of_text "deed_of_text" (defScope (top 31)) f code (defBody (top 31)) wdeed_of_text := by
  intro cdv A outer s H EK c E hc hg hr hO tk
  subst hO
  have sN := scdeed_of_text.nd
  exact (qss_cons (qs_expr (qe_callN cneed_prime hg (hr.mono (by decide)) (by rfl) tk (by exact fun _ _ _ _ _ _ us hl => match us, hl with | [_], _ => rfl) (qa_cons (qe_var 0) qa_nil)))
  (qss_cons (qs_if (qt_not (qt_val (qe_callN cis_between hg (hr.mono (by decide)) (by rfl) tk (by exact fun _ _ _ _ _ _ us hl => match us, hl with | [_,_,_], _ => rfl) (qa_cons (qe_var 1) (qa_cons qe_int (qa_cons qe_int qa_nil)))))) (qss_one (qs_raiseF 3 rfl (hD.ef 3 (by decide)) hr tk (by rfl) qe_str)) qss_nil)
  (qss_cons (qs_set sN (qe_if (qt_val (qe_callB call_isiY (by rfl) (hD.fr "isinstance" (by decide)) boot_isinstance mo_isi or_isi (qa_cons (qe_var 2) (qa_cons (qe_ty (by rfl) (hD.fr "str" (by decide)) boot_str) qa_nil)))) (qe_callN cfound_deed hg (hr.mono (by decide)) (by rfl) tk (by exact fun _ _ _ _ _ _ us hl => match us, hl with | [_,_,_], _ => rfl) (qa_cons (qe_var 0) (qa_cons (qe_var 1) (qa_cons (qe_var 2) qa_nil)))) qe_non) 3)
  (qss_cons (qs_if (qt_cmp op_isN (mo_isN _) or_isN (qe_var 3) qe_non (nomark _)) (qss_one (qs_raiseF 17 rfl (hD.ef 17 (by decide)) hr tk (by rfl) qe_int)) qss_nil)
  (qss_one (qs_retV 3))))))
end
end Lk97

set_option Elab.async false
set_option linter.all false
set_option maxRecDepth 100000
set_option maxHeartbeats 4000000
namespace Lk97
open PySem PySem.Spec PyProof.Rows L2 PD
def N_law_mixed : List Str := ["_law_draw", "_law_great", "_law_turn", "_law_found", "_law_blend", "_law_grain"]
theorem sc_law_mixed : FnScope N_law_mixed ["_law_draw"] (defScope (top 34)) := C8.fnScope_by (by decide +kernel)
def w_law_mixed (E : Nat → List D → Prop) : WS := (wSeq (wDs 0 (wBin addF (wDg 0) (wC (.int 1))))
  (wSeq (wPar [2, 3] (wCons (wCB intF (wCons (wDg 0) wNil)) (wCons (wC (.int 0)) wNil)))
  (wSeq (wFor (wIter (wLst (wCons (wC (.int 2147483629)) (wCons (wC (.int 2147483587)) (wCons (wC (.int 2147483579)) wNil))))) (.n 1) (wSeq (wSet 4 (wBin modF (wBin addF (wBin mulF (wVar 2) (wC (.int 69621))) (wBin fdivF (wVar 1) (wC (.int 7)))) (wVar 1)))
  (wSeq (wFor (wIter (wDc 0)) (.n 5) (wSet 4 (wBin modF (wBin addF (wBin mulF (wVar 4) (wC (.int 48271))) (wCB intF (wCons (wVar 5) wNil))) (wVar 1))))
  (wSet 3 (wBin addF (wBin mulF (wVar 3) (wC (.int 2147483647))) (wBin modF (wBin powF (wVar 4) (wC (.int 5))) (wVar 1)))))))
  (wRetV 3))))
def F0_law_mixed : FD := FW 6 w_law_mixed
abbrev F_law_mixed : FD := mixedF
def N_law_take : List Str := ["_law_draw", "_law_amount", "_law_found"]
theorem sc_law_take : FnScope N_law_take ["_law_draw", "_law_amount"] (defScope (top 35)) := C8.fnScope_by (by decide +kernel)
def w_law_take (E : Nat → List D → Prop) : WS := (wSeq (wIfS (wB (wBin eqF (wDg 0) (wC (.int 0)))) (wDs 0 (wRefill 0 (wCall 1 (fun ds => ds) F_law_mixed (fun _ => E) (wCons (wVar 0) wNil)))) wNx)
  (wSeq (wSet 2 (wBin modF (wCB intF (wCons (wDg 0) wNil)) (wVar 1)))
  (wSeq (wDs 0 (wBin fdivF (wCB intF (wCons (wDg 0) wNil)) (wVar 1)))
  (wRetV 2))))
def F0_law_take : FD := FW 3 w_law_take
abbrev F_law_take : FD := takeF
def N_law_pick : List Str := ["_law_draw", "_law_some"]
theorem sc_law_pick : FnScope N_law_pick ["_law_draw", "_law_some"] (defScope (top 36)) := C8.fnScope_by (by decide +kernel)
def w_law_pick (E : Nat → List D → Prop) : WS := (wRet (wBinP ixF (wPv 1) (wCall 2 (fun ds => ds) F_law_take (fun _ => E) (wCons (wVar 0) (wCons (wUnP lenF1 (wPv 1)) wNil)))))
def F0_law_pick : FD := FW 2 w_law_pick
abbrev F_law_pick : FD := pickF
def N_law_unit : List Str := ["_law_size", "_law_k", "_law_spot"]
theorem sc_law_unit : FnScope N_law_unit ["_law_size"] (defScope (top 37)) := C8.fnScope_by (by decide +kernel)
def w_law_unit (E : Nat → List D → Prop) : WS := (wRet (wLc (wRng1 (wVar 0)) (.n 1) wYes (wLc (wRng1 (wVar 0)) (.n 2) wYes (wCB intF (wCons (wBin eqF (wVar 1) (wVar 2)) wNil)) [2]) [1]))
def F0_law_unit : FD := FW 3 w_law_unit
abbrev F_law_unit : FD := F0_law_unit
def N_law_field : List Str := ["_law_draw"]
theorem sc_law_field : FnScope N_law_field ["_law_draw"] (defScope (top 38)) := C8.fnScope_by (by decide +kernel)
def w_law_field (E : Nat → List D → Prop) : WS := (wRet (wCall 2 (fun ds => ds) F_law_pick (fun _ => E) (wCons (wVar 0) (wCons (wLst (wCons (wC (.int 2)) (wCons (wC (.int 3)) (wCons (wC (.int 3)) (wCons (wC (.int 5)) (wCons (wC (.int 5)) (wCons (wC (.int 7)) (wCons (wC (.int 7)) (wCons (wC (.int 11)) (wCons (wC (.int 13)) (wCons (wC (.int 97)) wNil))))))))))) wNil))))
def F0_law_field : FD := FW 1 w_law_field
abbrev F_law_field : FD := F0_law_field
def N_law_made_table : List Str := ["_law_field_here", "_law_lines_here", "_law_row"]
theorem sc_law_made_table : FnScope N_law_made_table ["_law_field_here", "_law_lines_here"] (defScope (top 39)) := C8.fnScope_by (by decide +kernel)
def w_law_made_table (E : Nat → List D → Prop) : WS := (wRet (wCall 4 (fun ds => ds) FTable (fun _ => E) (wCons (wVar 0) (wCons (wUnP lenF1 (wPv 1)) (wCons (wUnP lenF1 (wPv 1)) (wCons (wLc (wIter (wVar 1)) (.n 2) wYes (wCB listF (wCons (wVar 2) wNil)) [2]) wNil))))))
def F0_law_made_table : FD := FW 3 w_law_made_table
abbrev F_law_made_table : FD := F0_law_made_table
def N_law_line_of : List Str := ["_law_lines_here", "_law_row", "_law_item"]
theorem sc_law_line_of : FnScope N_law_line_of ["_law_lines_here"] (defScope (top 41)) := C8.fnScope_by (by decide +kernel)
def w_law_line_of (E : Nat → List D → Prop) : WS := (wRet (wBM joinF (wC (.str " / ")) (wCons (wLc (wIter (wVar 0)) (.n 1) wYes (wBM joinF (wC (.str " ")) (wCons (wLc (wIter (wVar 1)) (.n 2) wYes (wCB strF (wCons (wVar 2) wNil)) [2]) wNil)) [1]) wNil)))
def F0_law_line_of : FD := FW 3 w_law_line_of
abbrev F_law_line_of : FD := F0_law_line_of
def N_law_made_deed : List Str := ["_law_field_here", "_law_move_here", "_law_word", "_law_thing"]
theorem sc_law_made_deed : FnScope N_law_made_deed ["_law_field_here", "_law_move_here"] (defScope (top 42)) := C8.fnScope_by (by decide +kernel)
def w_law_made_deed (E : Nat → List D → Prop) : WS := (wSeq (wAsg (.t [2, 3]) (wVar 1))
  (wRet (wTup (wCons (wVar 2) (wCons (wIf (wB (wBin eqF (wVar 2) (wC (.str "take")))) (wVar 3) (wCall 2 (fun ds => ds) F_law_made_table (fun _ => E) (wCons (wVar 0) (wCons (wVar 3) wNil)))) wNil)))))
def F0_law_made_deed : FD := FW 4 w_law_made_deed
abbrev F_law_made_deed : FD := F0_law_made_deed
def N_law_move_line : List Str := ["_law_move_here", "_law_word", "_law_thing"]
theorem sc_law_move_line : FnScope N_law_move_line ["_law_move_here"] (defScope (top 43)) := C8.fnScope_by (by decide +kernel)
def w_law_move_line (E : Nat → List D → Prop) : WS := (wSeq (wAsg (.t [1, 2]) (wVar 0))
  (wRet (wBin addF (wBin addF (wVar 1) (wC (.str " "))) (wIf (wB (wBin eqF (wVar 1) (wC (.str "take")))) (wCB strF (wCons (wVar 2) wNil)) (wCall 1 (fun ds => ds) F_law_line_of (fun _ => E) (wCons (wVar 2) wNil))))))
def F0_law_move_line : FD := FW 3 w_law_move_line
abbrev F_law_move_line : FD := F0_law_move_line
def N_law_any_deed : List Str := ["_law_draw", "_law_field_here", "_law_wide_here", "_law_way", "_law_lines_here", "_law_k", "_law_spot"]
theorem sc_law_any_deed : FnScope N_law_any_deed ["_law_draw", "_law_field_here", "_law_wide_here"] (defScope (top 44)) := C8.fnScope_by (by decide +kernel)
def w_law_any_deed (E : Nat → List D → Prop) : WS := (wSeq (wSet 3 (wCall 2 (fun ds => ds) F_law_take (fun _ => E) (wCons (wVar 0) (wCons (wC (.int 4)) wNil))))
  (wSeq (wIfS (wB (wBin eqF (wVar 3) (wC (.int 0)))) (wRet (wTup (wCons (wC (.str "take")) (wCons (wCall 2 (fun ds => ds) F_law_pick (fun _ => E) (wCons (wVar 0) (wCons (wLst (wCons (wC (.int 0)) (wCons (wC (.int 1)) (wCons (wC (.int 7)) (wCons (wC (.int 10)) (wCons (wBin powF (wC (.int 10)) (wC (.int 9))) (wCons (wC (.int 987654321)) (wCons (wC (.int 100)) wNil)))))))) wNil))) wNil)))) wNx)
  (wSeq (wSet 4 (wLc (wRng1 (wVar 2)) (.n 5) wYes (wLc (wRng1 (wVar 2)) (.n 6) wYes (wCall 2 (fun ds => ds) F_law_take xw0 (wCons (wVar 0) (wCons (wVar 1) wNil))) [6]) [5]))
  (wRet (wTup (wCons (wCall 2 (fun ds => ds) F_law_pick (fun _ => E) (wCons (wVar 0) (wCons (wLst (wCons (wC (.str "put")) (wCons (wC (.str "turn")) wNil))) wNil))) (wCons (wVar 4) wNil)))))))
def F0_law_any_deed : FD := FW 7 w_law_any_deed
abbrev F_law_any_deed : FD := F0_law_any_deed
def N_law_deed_holds : List Str := ["_law_draw", "_law_field_here", "_law_wide_here", "_law_move_here", "_law_lap", "_law_due", "_law_line_here", "_law_bent", "_law_caught_here", "_law_spot", "_law_sign_here", "_law_way"]
theorem sc_law_deed_holds : FnScope N_law_deed_holds ["_law_draw", "_law_field_here", "_law_wide_here", "_law_move_here"] (defScope (top 45)) := C8.fnScope_by (by decide +kernel)
def w_law_deed_holds (E : Nat → List D → Prop) : WS := (wSeq (wPar [5, 6] (wCons (wCall 2 (fun ds => ds) F_law_made_deed (fun _ => E) (wCons (wVar 1) (wCons (wVar 3) wNil))) (wCons (wCall 1 (fun ds => ds) F_law_move_line (fun _ => E) (wCons (wVar 3) wNil)) wNil)))
  (wSeq (wIfS (wOr (wB (wBin neF (wCallK 0 1 (fun l => l) Fdeed_text (fun _ => E) wNil (wCons (wVar 5) wNil)) (wVar 6))) (wB (wBin (eqTF okF false 0) (wCallK 0 3 (fun l => l) Fdeed_of_text (fun _ => E) wNil (wCons (wVar 1) (wCons (wVar 2) (wCons (wVar 6) wNil)))) (wVar 5)))) (wRet (wC (.bl false))) wNx)
  (wSeq (wFor (wRng1 (wC (.int 6))) (.n 4) (wSeq (wPar [9, 10, 11] (wCons (wCall 2 (fun ds => ds) F_law_take (fun _ => E) (wCons (wVar 0) (wCons (wBin addF (wUnP lenF1 (wPv 6)) (wC (.int 1))) wNil))) (wCons (wCall 2 (fun ds => ds) F_law_pick (fun _ => E) (wCons (wVar 0) (wCons (wC (.str "0123456789 /tupx-")) wNil))) (wCons (wCall 2 (fun ds => ds) F_law_take (fun _ => E) (wCons (wVar 0) (wCons (wC (.int 3)) wNil))) wNil))))
  (wSeq (wSet 7 (wBin addF (wBin addF (wSlice (wVar 6) woN (woS (wVar 9))) (wIf (wB (wBin gtF (wVar 11) (wC (.int 0)))) (wVar 10) (wC (.str "")))) (wSlice (wVar 6) (woS (wBin addF (wVar 9) (wIf (wB (wBin ltF (wVar 11) (wC (.int 2)))) (wC (.int 1)) (wC (.int 0))))) woN)))
  (wSeq (wSet 8 (wCatch fun E => (wCall 3 (fun ds => ds) Fdeed_of_text (fun _ => E) (wCons (wVar 1) (wCons (wVar 2) (wCons (wVar 7) wNil))))))
  (wIfS (wB (wBin (isNF false) (wVar 8) (wC .non))) (wIfS (wB (wBin neF (wCall 1 (fun ds => ds) Fdeed_text (fun _ => E) (wCons (wCall 3 (fun ds => ds) Fdeed_of_text (fun _ => E) (wCons (wVar 1) (wCons (wVar 2) (wCons (wVar 7) wNil)))) wNil)) (wVar 7))) (wRet (wC (.bl false))) wNx) (wIfS (wOr (wNot (wB (wCB (isiCF 17) (wCons (wVar 8) (wCons (wC (.cls 17)) wNil))))) (wB (wBin neF (wXat "at" (wVar 8)) (wC (.int 0))))) (wRet (wC (.bl false))) wNx))))))
  (wRet (wC (.bl true))))))
def F0_law_deed_holds : FD := FW 12 w_law_deed_holds
abbrev F_law_deed_holds : FD := F0_law_deed_holds
def N_law_wrong_lines : List Str := ["_law_field_here", "_law_wide_here", "_law_unit_line", "_law_found"]
theorem sc_law_wrong_lines : FnScope N_law_wrong_lines ["_law_field_here", "_law_wide_here"] (defScope (top 46)) := C8.fnScope_by (by decide +kernel)
def w_law_wrong_lines (E : Nat → List D → Prop) : WS := (wSeq (wSet 2 (wCall 1 (fun ds => ds) F_law_line_of (fun _ => E) (wCons (wCall 1 (fun ds => ds) F_law_unit (fun _ => E) (wCons (wVar 1) wNil)) wNil)))
  (wSeq (wSet 3 (wLst (wCons (wC .non) (wCons (wC (.int 0)) (wCons (wTup wNil) (wCons (wLst (wCons (wC (.str "take 1")) wNil)) (wCons (wC (.str "")) (wCons (wC (.str "take")) (wCons (wC (.str "take ")) (wCons (wC (.str "take 01")) (wCons (wC (.str "take -1")) (wCons (wC (.str "take 1000000001")) (wCons (wC (.str "take 1 ")) (wCons (wC (.str "Take 1")) (wCons (wC (.str " take 1")) wNil)))))))))))))))
  (wSeq (wSet 3 (wBin addF (wVar 3) (wLst (wCons (wC (.str "put")) (wCons (wC (.str "put ")) (wCons (wBin addF (wC (.str "put  ")) (wVar 2)) (wCons (wBin addF (wBin addF (wC (.str "put ")) (wVar 2)) (wC (.str " "))) (wCons (wBin addF (wBin addF (wC (.str "put ")) (wVar 2)) (wC (.str "\n"))) (wCons (wBin addF (wC (.str "give ")) (wVar 2)) wNil)))))))))
  (wSeq (wSet 3 (wBin addF (wVar 3) (wLst (wCons (wLitRepl "put " "1" (wVar 2) (wCB strF (wCons (wVar 0) wNil))) (wCons (wLitRepl "put " "1" (wVar 2) (wC (.str "01"))) (wCons (wBin addF (wBin addF (wC (.str "put ")) (wVar 2)) (wC (.str " / 1"))) wNil))))))
  (wSeq (wSet 3 (wBin addF (wVar 3) (wLst (wCons (wLitRepl "turn " "1" (wVar 2) (wC (.str (mulS "1" 5000)))) (wCons (wBin addF (wC (.str "take ")) (wBin mulSF (wC (.str "1")) (wC (.int 5000)))) (wCons (wC (.str "put None")) (wCons (wC (.str "turn 1 1 1 1")) (wCons (wC (.str "undo")) wNil))))))))
  (wRet (wBin addF (wVar 3) (wLst (wCons (wBin addF (wC (.str "put ")) (wCall 1 (fun ds => ds) F_law_line_of (fun _ => E) (wCons (wCall 1 (fun ds => ds) F_law_unit (fun _ => E) (wCons (wBin addF (wBin modF (wCB intF (wCons (wVar 1) wNil)) (wC (.int 3))) (wC (.int 1))) wNil)) wNil))) (wCons (wBin addF (wLitRepl "put " " / " (wVar 2) (wC (.str "/"))) (wC (.str " /"))) wNil))))))))))
def F0_law_wrong_lines : FD := FW 4 w_law_wrong_lines
abbrev F_law_wrong_lines : FD := F0_law_wrong_lines
def N_law_refused : List Str := ["_law_draw", "_law_field_here", "_law_wide_here", "_law_thing", "_law_line_here", "_law_number", "_law_caught_here"]
theorem sc_law_refused : FnScope N_law_refused ["_law_draw", "_law_field_here", "_law_wide_here"] (defScope (top 47)) := C8.fnScope_by (by decide +kernel)
def w_law_refused (E : Nat → List D → Prop) : WS := (wSeq (wFor (wIter (wLst (wCons (wC .non) (wCons (wC (.int 0)) (wCons (wTup wNil) (wCons (wTup (wCons (wC (.str "put")) wNil)) (wCons (wTup (wCons (wC (.str "take")) (wCons (wC (.bl true)) wNil))) (wCons (wTup (wCons (wC (.str "take")) (wCons (wUn negF (wC (.int 1))) wNil))) (wCons (wTup (wCons (wC (.str "take")) (wCons (wBin addF (wBin powF (wC (.int 10)) (wC (.int 9))) (wC (.int 1))) wNil))) (wCons (wTup (wCons (wC (.str "put")) (wCons (wCall 4 (fun ds => ds) FTable (fun _ => E) (wCons (wC (.int 5)) (wCons (wC (.int 2)) (wCons (wC (.int 1)) (wCons (wLst (wCons (wLst (wCons (wC (.int 1)) wNil)) (wCons (wLst (wCons (wC (.int 0)) wNil)) wNil))) wNil))))) wNil))) (wCons (wTup (wCons (wC (.str "turn")) (wCons (wCall 2 (fun ds => ds) Fplain (fun _ => E) (wCons (wC (.int 5)) (wCons (wC (.int 4)) wNil))) wNil))) (wCons (wTup (wCons (wC (.str "put")) (wCons (wCall 2 (fun ds => ds) Fplain (fun _ => E) (wCons (wC (.int 5)) (wCons (wC (.int 0)) wNil))) wNil))) (wCons (wLst (wCons (wC (.str "take")) (wCons (wC (.int 1)) wNil))) (wCons (wTup (wCons (wC (.str "put")) (wCons (wLst (wCons (wLst (wCons (wC (.int 1)) wNil)) wNil)) wNil))) wNil)))))))))))))) (.n 3) (wIfS (wNot (wB (wCB (isiCF 11) (wCons (wCatch fun E => (wCall 1 (fun ds => ds) Fdeed_text (fun _ => E) (wCons (wVar 3) wNil))) (wCons (wC (.cls 11)) wNil))))) (wRet (wC (.bl false))) wNx))
  (wSeq (wFor (wIter (wCall 2 (fun ds => ds) F_law_wrong_lines (fun _ => E) (wCons (wVar 1) (wCons (wVar 2) wNil)))) (.n 4) (wSeq (wSet 6 (wCatch fun E => (wCall 3 (fun ds => ds) Fdeed_of_text (fun _ => E) (wCons (wVar 1) (wCons (wVar 2) (wCons (wVar 4) wNil))))))
  (wIfS (wOr (wNot (wB (wCB (isiCF 17) (wCons (wVar 6) (wCons (wC (.cls 17)) wNil))))) (wB (wBin neF (wXat "at" (wVar 6)) (wC (.int 0))))) (wRet (wC (.bl false))) wNx)))
  (wSeq (wSet 5 (wCall 2 (fun ds => ds) F_law_pick (fun _ => E) (wCons (wVar 0) (wCons (wLst (wCons (wC (.int 0)) (wCons (wC (.int 4)) (wCons (wUn negF (wC (.int 1))) (wCons (wC .non) (wCons (wC (.bl true)) (wCons (wC (.str "1")) wNil))))))) wNil))))
  (wSeq (wSet 6 (wCatch fun E => (wCall 3 (fun ds => ds) Fdeed_of_text (fun _ => E) (wCons (wVar 1) (wCons (wVar 5) (wCons (wC .non) wNil))))))
  (wSeq (wIfS (wOr (wNot (wB (wCB (isiCF 3) (wCons (wVar 6) (wCons (wC (.cls 3)) wNil))))) (wB (wBin neF (wXat "part" (wVar 6)) (wC (.str "wide"))))) (wRet (wC (.bl false))) wNx)
  (wRet (wCB (isiCF 1) (wCons (wCatch fun E => (wCall 3 (fun ds => ds) Fdeed_of_text (fun _ => E) (wCons (wCall 2 (fun ds => ds) F_law_pick (fun _ => E) (wCons (wVar 0) (wCons (wLst (wCons (wC (.int 1)) (wCons (wC (.int 4)) (wCons (wC (.int 101)) (wCons (wC .non) (wCons (wC (.bl true)) (wCons (wC (.str "3")) wNil))))))) wNil))) (wCons (wVar 5) (wCons (wC .non) wNil))))) (wCons (wC (.cls 1)) wNil)))))))))
def F0_law_refused : FD := FW 7 w_law_refused
abbrev F_law_refused : FD := F0_law_refused
section
variable {P : Program} {w : World} {K : PySem.W.Frag} {mg : Str → Option Value} {base : Heap} {Ω : Om} (hD : Hd P K mg fl cs pl ff) (hI : HdI K 40 gs) (hC : HdC K mg ci cst ct) (hW : DrawO Ω)
include hD hI hC hW
theorem b_law_mixed {f : Addr} {code : Value} : BodyQ P w K mg base Ω 0 N_law_mixed "_law_mixed" (defScope (top 34)) f code (defBody (top 34)) w_law_mixed := by
  intro cdv A outer s H EK c E hc hg hr hO tk
  subst hO
  have sN := sc_law_mixed.nd
  exact (qss_cons (qs_ds (by decide) hW 0 (u1 hr) (qe_bin opr_add mo_add or_add (qe_dg (by decide) hW 0 (u1 hr)) qe_int))
  (qss_cons (qs_par rfl sN 2 3 (qa_cons (qe_callTy call_int1 (by rfl) (hD.fr "int" (by decide)) boot_int mo_int or_int (qa_cons (qe_dg (by decide) hW 0 (u1 hr)) qa_nil)) (qa_cons qe_int qa_nil)))
  (qss_cons (qs_for (passes_of rfl) rfl (.n 1) (qi_any (qe_lst (qa_cons qe_int (qa_cons qe_int (qa_cons qe_int qa_nil))))) (pgN sN 1) (qss_cons (qs_set sN (qe_bin op_mod mo_mod or_mod (qe_bin opr_add mo_add or_add (qe_bin opr_mul mo_mul or_mul (qe_var 2) qe_int) (qe_bin op_fdiv mo_fdiv or_fdiv (qe_var 1) qe_int)) (qe_var 1)) 4)
  (qss_cons (qs_for (passes_of rfl) rfl (.n 5) (qi_any (qe_dc hW 0 (u1 hr))) (pgN sN 5) (qss_one (qs_set sN (qe_bin op_mod mo_mod or_mod (qe_bin opr_add mo_add or_add (qe_bin opr_mul mo_mul or_mul (qe_var 4) qe_int) (qe_callTy call_int1 (by rfl) (hD.fr "int" (by decide)) boot_int mo_int or_int (qa_cons (qe_var 5) qa_nil))) (qe_var 1)) 4)))
  (qss_one (qs_set sN (qe_bin opr_add mo_add or_add (qe_bin opr_mul mo_mul or_mul (qe_var 3) qe_int) (qe_bin op_mod mo_mod or_mod (qe_bin op_pow mo_pow or_pow (qe_var 4) qe_int) (qe_var 1))) 3)))))
  (qss_one (qs_retV 3)))))
theorem b_law_take {f : Addr} {code : Value} (c_law_mixed : Cl P w K mg base Ω 1 "_law_mixed" (top 34) ["_law_draw"] F_law_mixed) : BodyQ P w K mg base Ω 1 N_law_take "_law_take" (defScope (top 35)) f code (defBody (top 35)) w_law_take := by
  intro cdv A outer s H EK c E hc hg hr hO tk
  subst hO
  have sN := sc_law_take.nd
  exact (qss_cons (qs_if (qt_cmp (op_eqD hr.units) mo_eq or_eq (qe_dg (by decide) hW 0 (u1 hr)) qe_int (nomark _)) (qss_one (qs_ds (by decide) hW 0 (u1 hr) (qe_refill hW 0 hr.units (qe_callN c_law_mixed hg (hr.mono (by decide)) (by rfl) tk (by exact fun _ _ _ _ _ _ us hl => match us, hl with | [_], _ => rfl) (qa_cons (qe_var 0) qa_nil)) (hpe := (pe_bm PySem.F.plainAttrs_list PySem.F.slot_list_pop PySem.F.type_list_pop mt_popAt (pe_dget (u1 hr) (pe_varS 0) pe_str (by intro _ _; rfl)) (pa_cons pe_int pa_nil)))))) qss_nil)
  (qss_cons (qs_set sN (qe_bin op_mod mo_mod or_mod (qe_callTy call_int1 (by rfl) (hD.fr "int" (by decide)) boot_int mo_int or_int (qa_cons (qe_dg (by decide) hW 0 (u1 hr)) qa_nil)) (qe_var 1)) 2)
  (qss_cons (qs_ds (by decide) hW 0 (u1 hr) (qe_bin op_fdiv mo_fdiv or_fdiv (qe_callTy call_int1 (by rfl) (hD.fr "int" (by decide)) boot_int mo_int or_int (qa_cons (qe_dg (by decide) hW 0 (u1 hr)) qa_nil)) (qe_var 1)))
  (qss_one (qs_retV 2)))))
theorem b_law_pick {f : Addr} {code : Value} (c_law_take : Cl P w K mg base Ω 2 "_law_take" (top 35) ["_law_draw", "_law_amount"] F_law_take) : BodyQ P w K mg base Ω 2 N_law_pick "_law_pick" (defScope (top 36)) f code (defBody (top 36)) w_law_pick := by
  intro cdv A outer s H EK c E hc hg hr hO tk
  subst hO
  have sN := sc_law_pick.nd
  exact (qss_one (qs_ret (qe_ixP ix_seq mo_ix or_ixP (qp_var 1) (qe_callN c_law_take hg (hr.mono (by decide)) (by rfl) tk (by exact fun _ _ _ _ _ _ us hl => match us, hl with | [_,_], _ => rfl) (qa_cons (qe_var 0) (qa_cons (qe_callBP call_len (by rfl) (hD.fr "len" (by decide)) PD.boot_len mo_len1 or_lenP (qp_var 1)) qa_nil))))))
theorem b_law_unit {f : Addr} {code : Value} : BodyQ P w K mg base Ω 0 N_law_unit "_law_unit" (defScope (top 37)) f code (defBody (top 37)) w_law_unit := by
  intro cdv A outer s H EK c E hc hg hr hO tk
  subst hO
  have sN := sc_law_unit.nd
  exact (qss_one (qs_ret (qe_lc rfl sN (.n 1) [("_law_k", 1)] (qi_range1 (hD.fr "range" (by decide)) (qe_var 0)) (blkOk_by (by kernel_rfl)) (by decide) (fun _ _ _ _ _ => (pgN sN 1)) (fun _ _ _ _ _ => qts_nil) (fun _ _ _ _ _ => (qe_lc rfl sN (.n 2) [("_law_spot", 2)] (qi_range1 (hD.fr "range" (by decide)) (qe_var 0)) (blkOk_by (by kernel_rfl)) (by decide) (fun _ _ _ _ _ => (pgN sN 2)) (fun _ _ _ _ _ => qts_nil) (fun _ _ _ _ _ => (qe_callTy call_int1 (by rfl) (hD.fr "int" (by decide)) boot_int mo_int or_int (qa_cons (qe_cmp (op_eqD hr.units) mo_eq or_eq (qe_var 1) (qe_var 2) (nomark _)) qa_nil))))))))
theorem b_law_field {f : Addr} {code : Value} (c_law_pick : Cl P w K mg base Ω 3 "_law_pick" (top 36) ["_law_draw", "_law_some"] F_law_pick) : BodyQ P w K mg base Ω 3 N_law_field "_law_field" (defScope (top 38)) f code (defBody (top 38)) w_law_field := by
  intro cdv A outer s H EK c E hc hg hr hO tk
  subst hO
  have sN := sc_law_field.nd
  exact (qss_one (qs_ret (qe_callN c_law_pick hg (hr.mono (by decide)) (by rfl) tk (by exact fun _ _ _ _ _ _ us hl => match us, hl with | [_,_], _ => rfl) (qa_cons (qe_var 0) (qa_cons (qe_lst (qa_cons qe_int (qa_cons qe_int (qa_cons qe_int (qa_cons qe_int (qa_cons qe_int (qa_cons qe_int (qa_cons qe_int (qa_cons qe_int (qa_cons qe_int (qa_cons qe_int qa_nil))))))))))) qa_nil)))))
theorem b_law_made_table {f : Addr} {code : Value} (mTable : ClM P w K mg base Ω 4 40 ["prime", "tall", "wide", "lines"] FTable) : BodyQ P w K mg base Ω 5 N_law_made_table "_law_made_table" (defScope (top 39)) f code (defBody (top 39)) w_law_made_table := by
  intro cdv A outer s H EK c E hc hg hr hO tk
  subst hO
  have sN := sc_law_made_table.nd
  exact (qss_one (qs_ret (qe_makeN mTable hg (hr.mono (by decide)) (by rfl) tk (qa_cons (qe_var 0) (qa_cons (qe_callBP call_len (by rfl) (hD.fr "len" (by decide)) PD.boot_len mo_len1 or_lenP (qp_var 1)) (qa_cons (qe_callBP call_len (by rfl) (hD.fr "len" (by decide)) PD.boot_len mo_len1 or_lenP (qp_var 1)) (qa_cons (qe_lc rfl sN (.n 2) [("_law_row", 2)] (qi_any (qe_var 1)) (blkOk_by (by kernel_rfl)) (by decide) (fun _ _ _ _ _ => (pgN sN 2)) (fun _ _ _ _ _ => qts_nil) (fun _ _ _ _ _ => (qe_callTy call_list_of (by rfl) (hD.fr "list" (by decide)) PD.boot_listT mo_list or_list (qa_cons (qe_var 2) qa_nil)))) qa_nil)))))))
theorem b_law_line_of {f : Addr} {code : Value} : BodyQ P w K mg base Ω 0 N_law_line_of "_law_line_of" (defScope (top 41)) f code (defBody (top 41)) w_law_line_of := by
  intro cdv A outer s H EK c E hc hg hr hO tk
  subst hO
  have sN := sc_law_line_of.nd
  exact (qss_one (qs_ret (qe_sm PySem.F.slot_str_join PySem.F.type_str_join mt_join mo_join or_join qe_str (qa_cons (qe_lc rfl sN (.n 1) [("_law_row", 1)] (qi_any (qe_var 0)) (blkOk_by (by kernel_rfl)) (by decide) (fun _ _ _ _ _ => (pgN sN 1)) (fun _ _ _ _ _ => qts_nil) (fun _ _ _ _ _ => (qe_sm PySem.F.slot_str_join PySem.F.type_str_join mt_join mo_join or_join qe_str (qa_cons (qe_lc rfl sN (.n 2) [("_law_item", 2)] (qi_any (qe_var 1)) (blkOk_by (by kernel_rfl)) (by decide) (fun _ _ _ _ _ => (pgN sN 2)) (fun _ _ _ _ _ => qts_nil) (fun _ _ _ _ _ => (qe_callTy call_str_int (by rfl) (hD.fr "str" (by decide)) PD.boot_strT mo_strF or_strI (qa_cons (qe_var 2) qa_nil)))) qa_nil)))) qa_nil))))
theorem b_law_made_deed {f : Addr} {code : Value} (c_law_made_table : Cl P w K mg base Ω 6 "_law_made_table" (top 39) ["_law_field_here", "_law_lines_here"] F_law_made_table) : BodyQ P w K mg base Ω 6 N_law_made_deed "_law_made_deed" (defScope (top 42)) f code (defBody (top 42)) w_law_made_deed := by
  intro cdv A outer s H EK c E hc hg hr hO tk
  subst hO
  have sN := sc_law_made_deed.nd
  exact (qss_cons (qs_asg (.t [2, 3]) (qe_var 1) (pg_tup rfl (pgs_cons (pgN sN 2) (pgs_cons (pgN sN 3) pgs_nil))))
  (qss_one (qs_ret (qe_tup (qa_cons (qe_var 2) (qa_cons (qe_if (qt_cmp (op_eqD hr.units) mo_eq or_eq (qe_var 2) qe_str (nomark _)) (qe_var 3) (qe_callN c_law_made_table hg (hr.mono (by decide)) (by rfl) tk (by exact fun _ _ _ _ _ _ us hl => match us, hl with | [_,_], _ => rfl) (qa_cons (qe_var 0) (qa_cons (qe_var 3) qa_nil)))) qa_nil))))))
theorem b_law_move_line {f : Addr} {code : Value} (c_law_line_of : Cl P w K mg base Ω 1 "_law_line_of" (top 41) ["_law_lines_here"] F_law_line_of) : BodyQ P w K mg base Ω 1 N_law_move_line "_law_move_line" (defScope (top 43)) f code (defBody (top 43)) w_law_move_line := by
  intro cdv A outer s H EK c E hc hg hr hO tk
  subst hO
  have sN := sc_law_move_line.nd
  exact (qss_cons (qs_asg (.t [1, 2]) (qe_var 0) (pg_tup rfl (pgs_cons (pgN sN 1) (pgs_cons (pgN sN 2) pgs_nil))))
  (qss_one (qs_ret (qe_bin opr_add mo_add or_add (qe_bin opr_add mo_add or_add (qe_var 1) qe_str) (qe_if (qt_cmp (op_eqD hr.units) mo_eq or_eq (qe_var 1) qe_str (nomark _)) (qe_callTy call_str_int (by rfl) (hD.fr "str" (by decide)) PD.boot_strT mo_strF or_strI (qa_cons (qe_var 2) qa_nil)) (qe_callN c_law_line_of hg (hr.mono (by decide)) (by rfl) tk (by exact fun _ _ _ _ _ _ us hl => match us, hl with | [_], _ => rfl) (qa_cons (qe_var 2) qa_nil)))))))
theorem b_law_any_deed {f : Addr} {code : Value} (c_law_take : Cl P w K mg base Ω 2 "_law_take" (top 35) ["_law_draw", "_law_amount"] F_law_take) (c_law_pick : Cl P w K mg base Ω 3 "_law_pick" (top 36) ["_law_draw", "_law_some"] F_law_pick) : BodyQ P w K mg base Ω 3 N_law_any_deed "_law_any_deed" (defScope (top 44)) f code (defBody (top 44)) w_law_any_deed := by
  intro cdv A outer s H EK c E hc hg hr hO tk
  subst hO
  have sN := sc_law_any_deed.nd
  exact (qss_cons (qs_set sN (qe_callN c_law_take hg (hr.mono (by decide)) (by rfl) tk (by exact fun _ _ _ _ _ _ us hl => match us, hl with | [_,_], _ => rfl) (qa_cons (qe_var 0) (qa_cons qe_int qa_nil))) 3)
  (qss_cons (qs_if (qt_cmp (op_eqD hr.units) mo_eq or_eq (qe_var 3) qe_int (nomark _)) (qss_one (qs_ret (qe_tup (qa_cons qe_str (qa_cons (qe_callN c_law_pick hg (hr.mono (by decide)) (by rfl) tk (by exact fun _ _ _ _ _ _ us hl => match us, hl with | [_,_], _ => rfl) (qa_cons (qe_var 0) (qa_cons (qe_lst (qa_cons qe_int (qa_cons qe_int (qa_cons qe_int (qa_cons qe_int (qa_cons (qe_bin op_pow mo_pow or_pow qe_int qe_int) (qa_cons qe_int (qa_cons qe_int qa_nil)))))))) qa_nil))) qa_nil))))) qss_nil)
  (qss_cons (qs_setLc 4 rfl sN (.n 5) [("_law_k", 5)] (qi_range1 (hD.fr "range" (by decide)) (qe_var 2)) (blkOk_by (by kernel_rfl)) (by decide) (fun _ _ _ _ _ => (pgN sN 5)) (fun _ _ _ _ _ => qts_nil) (fun _ _ _ _ _ => (qe_lc rfl sN (.n 6) [("_law_spot", 6)] (qi_range1 (hD.fr "range" (by decide)) (qe_var 2)) (blkOk_by (by kernel_rfl)) (by decide) (fun _ _ _ _ _ => (pgN sN 6)) (fun _ _ _ _ _ => qts_nil) (fun _ _ _ _ _ => (qe_callN c_law_take hg (hr.mono (by decide)) (by rfl) takesD0 (by exact fun _ _ _ _ _ _ us hl => match us, hl with | [_,_], _ => rfl) (qa_cons (qe_var 0) (qa_cons (qe_var 1) qa_nil)))))))
  (qss_one (qs_ret (qe_tup (qa_cons (qe_callN c_law_pick hg (hr.mono (by decide)) (by rfl) tk (by exact fun _ _ _ _ _ _ us hl => match us, hl with | [_,_], _ => rfl) (qa_cons (qe_var 0) (qa_cons (qe_lst (qa_cons qe_str (qa_cons qe_str qa_nil))) qa_nil))) (qa_cons (qe_var 4) qa_nil))))))))
theorem b_law_deed_holds {f : Addr} {code : Value} (cdeed_text : Cl P w K mg base Ω 4 "deed_text" (top 29) ["deed"] Fdeed_text) (cdeed_of_text : Cl P w K mg base Ω 8 "deed_of_text" (top 31) ["prime", "wide", "text"] Fdeed_of_text) (c_law_take : Cl P w K mg base Ω 2 "_law_take" (top 35) ["_law_draw", "_law_amount"] F_law_take) (c_law_pick : Cl P w K mg base Ω 3 "_law_pick" (top 36) ["_law_draw", "_law_some"] F_law_pick) (c_law_made_deed : Cl P w K mg base Ω 7 "_law_made_deed" (top 42) ["_law_field_here", "_law_move_here"] F_law_made_deed) (c_law_move_line : Cl P w K mg base Ω 2 "_law_move_line" (top 43) ["_law_move_here"] F_law_move_line) (eqC : ∀ C xs ys, okF C xs ys = true → EqC P w K mg base Ω 1 C xs ys) (catD : CatD P K mg "_law_caught" (cA K 0)) (sw : SwK K) {cd : Addr} (hcd : code = .ref cd) (lamW : LamW Ω base mg cd "_law_deed_holds.<locals>.<lambda>") : BodyQ P w K mg base Ω 10 N_law_deed_holds "_law_deed_holds" (defScope (top 45)) f code (defBody (top 45)) w_law_deed_holds := by
  intro cdv A outer s H EK c E hc hg hr hO tk
  subst hO
  have sN := sc_law_deed_holds.nd
  exact (qss_cons (qs_par rfl sN 5 6 (qa_cons (qe_callN c_law_made_deed hg (hr.mono (by decide)) (by rfl) tk (by exact fun _ _ _ _ _ _ us hl => match us, hl with | [_,_], _ => rfl) (qa_cons (qe_var 1) (qa_cons (qe_var 3) qa_nil))) (qa_cons (qe_callN c_law_move_line hg (hr.mono (by decide)) (by rfl) tk (by exact fun _ _ _ _ _ _ us hl => match us, hl with | [_], _ => rfl) (qa_cons (qe_var 3) qa_nil)) qa_nil)))
  (qss_cons (qs_if (QW.qt (qw_or (qt_cmp (op_neD hr.units) mo_ne or_ne (qe_callK0 (ks := ["deed"]) (fun l => l) (rord_id _) cdeed_text hg (hr.mono (by decide)) (by rfl) tk rfl (by exact fun _ _ _ _ _ _ us ws hu hw => match us, hu, ws, hw with | [], _, [_], _ => rfl) (qk_cons (qe_var 5) qk_nil)) (qe_var 6) (nomark _)) (qw_or1 (qt_cmp (op_neT eqC hg (hr.mono (by decide))) (mo_eqT okF false 0) or_eqT (qe_callK0 (ks := ["prime", "wide", "text"]) (fun l => l) (rord_id _) cdeed_of_text hg (hr.mono (by decide)) (by rfl) tk rfl (by exact fun _ _ _ _ _ _ us ws hu hw => match us, hu, ws, hw with | [], _, [_,_,_], _ => rfl) (qk_cons (qe_var 1) (qk_cons (qe_var 2) (qk_cons (qe_var 6) qk_nil)))) (qe_var 5) (nomark _))))) (qss_one (qs_ret qe_bl)) qss_nil)
  (qss_cons (qs_for (passes_of rfl) rfl (.n 4) (qi_range1 (hD.fr "range" (by decide)) qe_int) (pgN sN 4) (qss_cons (qs_par3 rfl sN 9 10 11 (qa_cons (qe_callN c_law_take hg (hr.mono (by decide)) (by rfl) tk (by exact fun _ _ _ _ _ _ us hl => match us, hl with | [_,_], _ => rfl) (qa_cons (qe_var 0) (qa_cons (qe_bin opr_add mo_add or_add (qe_callBP call_len (by rfl) (hD.fr "len" (by decide)) PD.boot_len mo_len1 or_lenP (qp_var 6)) qe_int) qa_nil))) (qa_cons (qe_callN c_law_pick hg (hr.mono (by decide)) (by rfl) tk (by exact fun _ _ _ _ _ _ us hl => match us, hl with | [_,_], _ => rfl) (qa_cons (qe_var 0) (qa_cons qe_str qa_nil))) (qa_cons (qe_callN c_law_take hg (hr.mono (by decide)) (by rfl) tk (by exact fun _ _ _ _ _ _ us hl => match us, hl with | [_,_], _ => rfl) (qa_cons (qe_var 0) (qa_cons qe_int qa_nil))) qa_nil))))
  (qss_cons (qs_set sN (qe_bin opr_add mo_add or_add (qe_bin opr_add mo_add or_add (qe_slice (qe_var 6) qo_n (qo_s (qe_var 9))) (qe_if (qt_cmp op_gt (mo_cmp _) (or_cmp _) (qe_var 11) qe_int (nomark _)) (qe_var 10) qe_str)) (qe_slice (qe_var 6) (qo_s (qe_bin opr_add mo_add or_add (qe_var 9) (qe_if (qt_cmp op_lt (mo_cmp _) (or_cmp _) (qe_var 11) qe_int (nomark _)) qe_int qe_int))) qo_n)) 7)
  (qss_cons (qs_set sN (qe_caught (k := 8) catD sw (by rfl) lamW (hc.trans hcd) hg (hr.mono (by decide)) (LamX.lamS_by (by kernel_rfl)) (fun A outer s H E f c0 c' ED hg hr hO tk => by
    obtain ⟨Om', B'⟩ := c'
    have hO : Om' = c.Om := hO
    subst hO
    exact (qe_callN cdeed_of_text hg (hr.mono (by decide)) (by rfl) tk (by exact fun _ _ _ _ _ _ us hl => match us, hl with | [_,_,_], _ => rfl) (qa_cons (qe_var 1) (qa_cons (qe_var 2) (qa_cons (qe_var 7) qa_nil))))) (by decide)) 8)
  (qss_one (qs_if (qt_cmp op_isN (mo_isN _) or_isN (qe_var 8) qe_non (nomark _)) (qss_one (qs_if (qt_cmp (op_neD hr.units) mo_ne or_ne (qe_callN cdeed_text hg (hr.mono (by decide)) (by rfl) tk (by exact fun _ _ _ _ _ _ us hl => match us, hl with | [_], _ => rfl) (qa_cons (qe_callN cdeed_of_text hg (hr.mono (by decide)) (by rfl) tk (by exact fun _ _ _ _ _ _ us hl => match us, hl with | [_,_,_], _ => rfl) (qa_cons (qe_var 1) (qa_cons (qe_var 2) (qa_cons (qe_var 7) qa_nil)))) qa_nil)) (qe_var 7) (nomark _)) (qss_one (qs_ret qe_bl)) qss_nil)) (qss_one (qs_if (QW.qt (qw_or (qt_not (qt_val (qe_callB call_isiY (by rfl) (hD.fr "isinstance" (by decide)) boot_isinstance (mo_isiC 17) (or_isiC (hD.kn 17 (by decide)) (hD.tk 17 (by decide))) (qa_cons (qe_var 8) (qa_cons (qe_cls 17 (by rfl) (hD.cls 17 (by decide))) qa_nil))))) (qw_or1 (qt_cmp (op_neD hr.units) mo_ne or_ne (qe_xat (qe_var 8)) qe_int (nomark _))))) (qss_one (qs_ret qe_bl)) qss_nil))))))))
  (qss_one (qs_ret qe_bl)))))
theorem b_law_wrong_lines {f : Addr} {code : Value} (c_law_unit : Cl P w K mg base Ω 1 "_law_unit" (top 37) ["_law_size"] F_law_unit) (c_law_line_of : Cl P w K mg base Ω 1 "_law_line_of" (top 41) ["_law_lines_here"] F_law_line_of) : BodyQ P w K mg base Ω 1 N_law_wrong_lines "_law_wrong_lines" (defScope (top 46)) f code (defBody (top 46)) w_law_wrong_lines := by
  intro cdv A outer s H EK c E hc hg hr hO tk
  subst hO
  have sN := sc_law_wrong_lines.nd
  exact (qss_cons (qs_set sN (qe_callN c_law_line_of hg (hr.mono (by decide)) (by rfl) tk (by exact fun _ _ _ _ _ _ us hl => match us, hl with | [_], _ => rfl) (qa_cons (qe_callN c_law_unit hg (hr.mono (by decide)) (by rfl) tk (by exact fun _ _ _ _ _ _ us hl => match us, hl with | [_], _ => rfl) (qa_cons (qe_var 1) qa_nil)) qa_nil)) 2)
  (qss_cons (qs_set sN (qe_lst (qa_cons qe_non (qa_cons qe_int (qa_cons (qe_tup qa_nil) (qa_cons (qe_lst (qa_cons qe_str qa_nil)) (qa_cons qe_str (qa_cons qe_str (qa_cons qe_str (qa_cons qe_str (qa_cons qe_str (qa_cons qe_str (qa_cons qe_str (qa_cons qe_str (qa_cons qe_str qa_nil)))))))))))))) 3)
  (qss_cons (qs_set sN (qe_bin opr_add mo_add or_add (qe_var 3) (qe_lst (qa_cons qe_str (qa_cons qe_str (qa_cons (qe_bin opr_add mo_add or_add qe_str (qe_var 2)) (qa_cons (qe_bin opr_add mo_add or_add (qe_bin opr_add mo_add or_add qe_str (qe_var 2)) qe_str) (qa_cons (qe_bin opr_add mo_add or_add (qe_bin opr_add mo_add or_add qe_str (qe_var 2)) qe_str) (qa_cons (qe_bin opr_add mo_add or_add qe_str (qe_var 2)) qa_nil)))))))) 3)
  (qss_cons (qs_set sN (qe_bin opr_add mo_add or_add (qe_var 3) (qe_lst (qa_cons (qe_litRepl (qe_var 2) (qf_str (by rfl) (hD.fr "str" (by decide)) (qe_var 0))) (qa_cons (qe_litRepl (qe_var 2) qf_lit) (qa_cons (qe_bin opr_add mo_add or_add (qe_bin opr_add mo_add or_add qe_str (qe_var 2)) qe_str) qa_nil))))) 3)
  (qss_cons (qs_set sN (qe_bin opr_add mo_add or_add (qe_var 3) (qe_lst (qa_cons (qe_litRepl (qe_var 2) qf_mul) (qa_cons (qe_bin opr_add mo_add or_add qe_str (qe_bin op_mulS mo_mulS or_mulS qe_str qe_int)) (qa_cons qe_str (qa_cons qe_str (qa_cons qe_str qa_nil))))))) 3)
  (qss_one (qs_ret (qe_bin opr_add mo_add or_add (qe_var 3) (qe_lst (qa_cons (qe_bin opr_add mo_add or_add qe_str (qe_callN c_law_line_of hg (hr.mono (by decide)) (by rfl) tk (by exact fun _ _ _ _ _ _ us hl => match us, hl with | [_], _ => rfl) (qa_cons (qe_callN c_law_unit hg (hr.mono (by decide)) (by rfl) tk (by exact fun _ _ _ _ _ _ us hl => match us, hl with | [_], _ => rfl) (qa_cons (qe_bin opr_add mo_add or_add (qe_bin op_mod mo_mod or_mod (qe_callTy call_int1 (by rfl) (hD.fr "int" (by decide)) boot_int mo_int or_int (qa_cons (qe_var 1) qa_nil)) qe_int) qe_int) qa_nil)) qa_nil))) (qa_cons (qe_bin opr_add mo_add or_add (qe_litRepl (qe_var 2) qf_lit) qe_str) qa_nil)))))))))))
theorem b_law_refused {f : Addr} {code : Value} (cplain : Cl P w K mg base Ω 6 "plain" (top 17) ["prime", "size"] Fplain) (cdeed_text : Cl P w K mg base Ω 4 "deed_text" (top 29) ["deed"] Fdeed_text) (cdeed_of_text : Cl P w K mg base Ω 8 "deed_of_text" (top 31) ["prime", "wide", "text"] Fdeed_of_text) (c_law_pick : Cl P w K mg base Ω 3 "_law_pick" (top 36) ["_law_draw", "_law_some"] F_law_pick) (c_law_wrong_lines : Cl P w K mg base Ω 2 "_law_wrong_lines" (top 46) ["_law_field_here", "_law_wide_here"] F_law_wrong_lines) (mTable : ClM P w K mg base Ω 4 40 ["prime", "tall", "wide", "lines"] FTable) (catD : CatD P K mg "_law_caught" (cA K 0)) (sw : SwK K) {cd : Addr} (hcd : code = .ref cd) (lamW : LamW Ω base mg cd "_law_refused.<locals>.<lambda>") : BodyQ P w K mg base Ω 10 N_law_refused "_law_refused" (defScope (top 47)) f code (defBody (top 47)) w_law_refused := by
  intro cdv A outer s H EK c E hc hg hr hO tk
  subst hO
  have sN := sc_law_refused.nd
  exact (qss_cons (qs_for (passes_of rfl) rfl (.n 3) (qi_any (qe_lst (qa_cons qe_non (qa_cons qe_int (qa_cons (qe_tup qa_nil) (qa_cons (qe_tup (qa_cons qe_str qa_nil)) (qa_cons (qe_tup (qa_cons qe_str (qa_cons qe_bl qa_nil))) (qa_cons (qe_tup (qa_cons qe_str (qa_cons (qe_un un_neg mo_neg or_neg qe_int) qa_nil))) (qa_cons (qe_tup (qa_cons qe_str (qa_cons (qe_bin opr_add mo_add or_add (qe_bin op_pow mo_pow or_pow qe_int qe_int) qe_int) qa_nil))) (qa_cons (qe_tup (qa_cons qe_str (qa_cons (qe_makeN mTable hg (hr.mono (by decide)) (by rfl) tk (qa_cons qe_int (qa_cons qe_int (qa_cons qe_int (qa_cons (qe_lst (qa_cons (qe_lst (qa_cons qe_int qa_nil)) (qa_cons (qe_lst (qa_cons qe_int qa_nil)) qa_nil))) qa_nil))))) qa_nil))) (qa_cons (qe_tup (qa_cons qe_str (qa_cons (qe_callN cplain hg (hr.mono (by decide)) (by rfl) tk (by exact fun _ _ _ _ _ _ us hl => match us, hl with | [_,_], _ => rfl) (qa_cons qe_int (qa_cons qe_int qa_nil))) qa_nil))) (qa_cons (qe_tup (qa_cons qe_str (qa_cons (qe_callN cplain hg (hr.mono (by decide)) (by rfl) tk (by exact fun _ _ _ _ _ _ us hl => match us, hl with | [_,_], _ => rfl) (qa_cons qe_int (qa_cons qe_int qa_nil))) qa_nil))) (qa_cons (qe_lst (qa_cons qe_str (qa_cons qe_int qa_nil))) (qa_cons (qe_tup (qa_cons qe_str (qa_cons (qe_lst (qa_cons (qe_lst (qa_cons qe_int qa_nil)) qa_nil)) qa_nil))) qa_nil)))))))))))))) (pgN sN 3) (qss_one (qs_if (qt_not (qt_val (qe_callB call_isiY (by rfl) (hD.fr "isinstance" (by decide)) boot_isinstance (mo_isiC 11) (or_isiC (hD.kn 11 (by decide)) (hD.tk 11 (by decide))) (qa_cons (qe_caught (k := 4) catD sw (by rfl) lamW (hc.trans hcd) hg (hr.mono (by decide)) (LamX.lamS_by (by kernel_rfl)) (fun A outer s H E f c0 c' ED hg hr hO tk => by
    obtain ⟨Om', B'⟩ := c'
    have hO : Om' = c.Om := hO
    subst hO
    exact (qe_callN cdeed_text hg (hr.mono (by decide)) (by rfl) tk (by exact fun _ _ _ _ _ _ us hl => match us, hl with | [_], _ => rfl) (qa_cons (qe_var 3) qa_nil))) (by decide)) (qa_cons (qe_cls 11 (by rfl) (hD.cls 11 (by decide))) qa_nil))))) (qss_one (qs_ret qe_bl)) qss_nil)))
  (qss_cons (qs_for (passes_of rfl) rfl (.n 4) (qi_any (qe_callN c_law_wrong_lines hg (hr.mono (by decide)) (by rfl) tk (by exact fun _ _ _ _ _ _ us hl => match us, hl with | [_,_], _ => rfl) (qa_cons (qe_var 1) (qa_cons (qe_var 2) qa_nil)))) (pgN sN 4) (qss_cons (qs_set sN (qe_caught (k := 8) catD sw (by rfl) lamW (hc.trans hcd) hg (hr.mono (by decide)) (LamX.lamS_by (by kernel_rfl)) (fun A outer s H E f c0 c' ED hg hr hO tk => by
    obtain ⟨Om', B'⟩ := c'
    have hO : Om' = c.Om := hO
    subst hO
    exact (qe_callN cdeed_of_text hg (hr.mono (by decide)) (by rfl) tk (by exact fun _ _ _ _ _ _ us hl => match us, hl with | [_,_,_], _ => rfl) (qa_cons (qe_var 1) (qa_cons (qe_var 2) (qa_cons (qe_var 4) qa_nil))))) (by decide)) 6)
  (qss_one (qs_if (QW.qt (qw_or (qt_not (qt_val (qe_callB call_isiY (by rfl) (hD.fr "isinstance" (by decide)) boot_isinstance (mo_isiC 17) (or_isiC (hD.kn 17 (by decide)) (hD.tk 17 (by decide))) (qa_cons (qe_var 6) (qa_cons (qe_cls 17 (by rfl) (hD.cls 17 (by decide))) qa_nil))))) (qw_or1 (qt_cmp (op_neD hr.units) mo_ne or_ne (qe_xat (qe_var 6)) qe_int (nomark _))))) (qss_one (qs_ret qe_bl)) qss_nil))))
  (qss_cons (qs_set sN (qe_callN c_law_pick hg (hr.mono (by decide)) (by rfl) tk (by exact fun _ _ _ _ _ _ us hl => match us, hl with | [_,_], _ => rfl) (qa_cons (qe_var 0) (qa_cons (qe_lst (qa_cons qe_int (qa_cons qe_int (qa_cons (qe_un un_neg mo_neg or_neg qe_int) (qa_cons qe_non (qa_cons qe_bl (qa_cons qe_str qa_nil))))))) qa_nil))) 5)
  (qss_cons (qs_set sN (qe_caught (k := 8) catD sw (by rfl) lamW (hc.trans hcd) hg (hr.mono (by decide)) (LamX.lamS_by (by kernel_rfl)) (fun A outer s H E f c0 c' ED hg hr hO tk => by
    obtain ⟨Om', B'⟩ := c'
    have hO : Om' = c.Om := hO
    subst hO
    exact (qe_callN cdeed_of_text hg (hr.mono (by decide)) (by rfl) tk (by exact fun _ _ _ _ _ _ us hl => match us, hl with | [_,_,_], _ => rfl) (qa_cons (qe_var 1) (qa_cons (qe_var 5) (qa_cons qe_non qa_nil))))) (by decide)) 6)
  (qss_cons (qs_if (QW.qt (qw_or (qt_not (qt_val (qe_callB call_isiY (by rfl) (hD.fr "isinstance" (by decide)) boot_isinstance (mo_isiC 3) (or_isiC (hD.kn 3 (by decide)) (hD.tk 3 (by decide))) (qa_cons (qe_var 6) (qa_cons (qe_cls 3 (by rfl) (hD.cls 3 (by decide))) qa_nil))))) (qw_or1 (qt_cmp (op_neD hr.units) mo_ne or_ne (qe_xat (qe_var 6)) qe_str (nomark _))))) (qss_one (qs_ret qe_bl)) qss_nil)
  (qss_one (qs_ret (qe_callB call_isiY (by rfl) (hD.fr "isinstance" (by decide)) boot_isinstance (mo_isiC 1) (or_isiC (hD.kn 1 (by decide)) (hD.tk 1 (by decide))) (qa_cons (qe_caught (k := 8) catD sw (by rfl) lamW (hc.trans hcd) hg (hr.mono (by decide)) (LamX.lamS_by (by kernel_rfl)) (fun A outer s H E f c0 c' ED hg hr hO tk => by
    obtain ⟨Om', B'⟩ := c'
    have hO : Om' = c.Om := hO
    subst hO
    exact (qe_callN cdeed_of_text hg (hr.mono (by decide)) (by rfl) tk (by exact fun _ _ _ _ _ _ us hl => match us, hl with | [_,_,_], _ => rfl) (qa_cons (qe_callN c_law_pick hg (hr.mono (by decide)) (by rfl) tk (by exact fun _ _ _ _ _ _ us hl => match us, hl with | [_,_], _ => rfl) (qa_cons (qe_var 0) (qa_cons (qe_lst (qa_cons qe_int (qa_cons qe_int (qa_cons qe_int (qa_cons qe_non (qa_cons qe_bl (qa_cons qe_str qa_nil))))))) qa_nil))) (qa_cons (qe_var 5) (qa_cons qe_non qa_nil))))) (by decide)) (qa_cons (qe_cls 1 (by rfl) (hD.cls 1 (by decide))) qa_nil))))))))))
end
end Lk97

set_option Elab.async false
set_option linter.all false
set_option maxRecDepth 100000
set_option maxHeartbeats 4000000
namespace Lk97
open PySem PySem.Spec PyProof.Rows L2 PD
def N_law_begun : List Str := ["_law_script", "_law_large", "_law_grain"]
theorem sc_law_begun : FnScope N_law_begun ["_law_script"] (defScope (top 33)) := C8.fnScope_by (by decide +kernel)
def w1_law_begun : WS := (wSet 1 (wLc (wIter (wVar 0)) (.n 2) (wB (wBin geF (wCB absF (wCons (wVar 2) wNil)) (wBin powF (wC (.int 10)) (wC (.int 18))))) (wBin subF (wCB absF (wCons (wVar 2) wNil)) (wBin powF (wC (.int 10)) (wC (.int 18)))) [2]))
def w2_law_begun : WE := (wLc (wIter (wVar 0)) (.n 2) wYes (wCB absF (wCons (wVar 2) wNil)) [2])
def Nlaw : List Str := ["_law_script", "_law_draw", "_law_lap", "_law_field_here", "_law_wide_here"]
theorem sclaw : FnScope Nlaw ["_law_script"] (defScope (top 48)) := C8.fnScope_by (by decide +kernel)
def wlaw : WS := (wSeq (wFor (wRng1 (wBin addF (wC (.int 2)) (wCB min2F (wCons (wUnP lenF1 (wPv 0)) (wCons (wC (.int 4)) wNil))))) (.n 2) (wSeq (wPar [3, 4] (wCons (wCall 1 (fun ds => ds) F_law_field xw0 (wCons (wVar 1) wNil)) (wCons (wCall 2 (fun ds => ds) F_law_pick xw0 (wCons (wVar 1) (wCons (wLst (wCons (wC (.int 1)) (wCons (wC (.int 2)) (wCons (wC (.int 2)) (wCons (wC (.int 3)) wNil))))) wNil))) wNil)))
  (wSeq (wIfS (wNot (wB (wCall 4 (fun ds => ds) F_law_deed_holds xw0 (wCons (wVar 1) (wCons (wVar 3) (wCons (wVar 4) (wCons (wCall 3 (fun ds => ds) F_law_any_deed xw0 (wCons (wVar 1) (wCons (wVar 3) (wCons (wVar 4) wNil)))) wNil))))))) (wRet (wC (.bl false))) wNx)
  (wIfS (wNot (wB (wCall 3 (fun ds => ds) F_law_refused xw0 (wCons (wVar 1) (wCons (wVar 3) (wCons (wVar 4) wNil)))))) (wRet (wC (.bl false))) wNx))))
  (wRet (wC (.bl true))))
def s0 : Stmt := (defBody (top 48)).headD (.Pass ⟨0, 0, 0, 0⟩)
abbrev rest : List Stmt := (defBody (top 48)).tail
section
variable {P : Program} {w : World} {K : PySem.W.Frag} {mg : Str → Option Value} {base : Heap} (hD : Hd P K mg fl cs pl ff)
include hD
theorem b_law_begun {f : Addr} {code : Value} (A : Around) (outer : List Env) (s : Shared) (H : Hp) (E : XK) (hg : A.guards = some []) (hr : Room 0 (A.deeper (envOfC "_law_begun" (defScope (top 33)) s.heap.objs.size f code))) : PSs (bx P w K mg base N_law_begun "_law_begun" (defScope (top 33)) f code A outer s H E) (defBody (top 33)) (tSeq (lS (c0 H) K w1_law_begun) (tRet (tDisp (trB H K w2_law_begun)))) := by
  have sN := sc_law_begun.nd
  exact pss_cons (qs_ps (qs_setLc 1 rfl sN (.n 2) [("_law_grain", 2)] (qi_any (qe_var 0)) (blkOk_by (by kernel_rfl)) (by decide) (fun _ _ _ _ _ => (pgN sN 2)) (fun _ _ _ _ _ => (qts_one (qt_cmp op_ge (mo_cmp _) (or_cmp _) (qe_callB call_abs (by rfl) (hD.fr "abs" (by decide)) boot_abs mo_abs or_abs (qa_cons (qe_var 2) qa_nil)) (qe_bin op_pow mo_pow or_pow qe_int qe_int) (nomark _)))) (fun _ _ _ _ _ => (qe_bin op_sub mo_sub or_sub (qe_callB call_abs (by rfl) (hD.fr "abs" (by decide)) boot_abs mo_abs or_abs (qa_cons (qe_var 2) qa_nil)) (qe_bin op_pow mo_pow or_pow qe_int qe_int))))) (pss_one (ps_ret (pe_disp (pps_cons pe_str (pe_varS 1) (pps_cons pe_str pe_int (pps_cons pe_str (qe_pe (qe_lc rfl sN (.n 2) [("_law_grain", 2)] (qi_any (qe_var 0)) (blkOk_by (by kernel_rfl)) (by decide) (fun _ _ _ _ _ => (pgN sN 2)) (fun _ _ _ _ _ => qts_nil) (fun _ _ _ _ _ => (qe_callB call_abs (by rfl) (hD.fr "abs" (by decide)) boot_abs mo_abs or_abs (qa_cons (qe_var 2) qa_nil))))) (pps_cons pe_str pe_int pps_nil)))) rfl rfl (by simp) (by decide))))
theorem blaw {f : Addr} {code : Value} (A : Around) (outer : List Env) (s : Shared) (H : Hp) (E : XK) (c : Ct) (hW : DrawO c.Om) (hS : SysO c.Om) (hg : A.guards = some []) (hr : Room 11 (A.deeper (envOfC "law" (defScope (top 48)) s.heap.objs.size f code))) (c_law_pick : Cl P w K mg base c.Om 3 "_law_pick" (top 36) ["_law_draw", "_law_some"] F_law_pick) (c_law_field : Cl P w K mg base c.Om 4 "_law_field" (top 38) ["_law_draw"] F_law_field) (c_law_any_deed : Cl P w K mg base c.Om 4 "_law_any_deed" (top 44) ["_law_draw", "_law_field_here", "_law_wide_here"] F_law_any_deed) (c_law_deed_holds : Cl P w K mg base c.Om 11 "_law_deed_holds" (top 45) ["_law_draw", "_law_field_here", "_law_wide_here", "_law_move_here"] F_law_deed_holds) (c_law_refused : Cl P w K mg base c.Om 11 "_law_refused" (top 47) ["_law_draw", "_law_field_here", "_law_wide_here"] F_law_refused) : QSs (bx P w K mg base Nlaw "law" (defScope (top 48)) f code A outer s H E) c rest wlaw := by
  have sN := sclaw.nd
  have tk : TakesD (bx P w K mg base Nlaw "law" (defScope (top 48)) f code A outer s H E) c xw0 := takesD0
  exact (qss_cons (qs_for (passes_of rfl) rfl (.n 2) (qi_range1 (hD.fr "range" (by decide)) (qe_bin opr_add mo_add or_add qe_int (qe_callB (call_min2 rfl) (by rfl) (hD.fr "min" (by decide)) PD.boot_min mo_min2 or_min2 (qa_cons (qe_callBP call_len (by rfl) (hD.fr "len" (by decide)) PD.boot_len mo_len1 or_lenP (qp_var 0)) (qa_cons qe_int qa_nil))))) (pgN sN 2) (qss_cons (qs_par rfl sN 3 4 (qa_cons (qe_callN c_law_field hg (hr.mono (by decide)) (by rfl) tk (by exact fun _ _ _ _ _ _ us hl => match us, hl with | [_], _ => rfl) (qa_cons (qe_var 1) qa_nil)) (qa_cons (qe_callN c_law_pick hg (hr.mono (by decide)) (by rfl) tk (by exact fun _ _ _ _ _ _ us hl => match us, hl with | [_,_], _ => rfl) (qa_cons (qe_var 1) (qa_cons (qe_lst (qa_cons qe_int (qa_cons qe_int (qa_cons qe_int (qa_cons qe_int qa_nil))))) qa_nil))) qa_nil)))
  (qss_cons (qs_if (qt_not (qt_val (qe_callN c_law_deed_holds hg (hr.mono (by decide)) (by rfl) tk (by exact fun _ _ _ _ _ _ us hl => match us, hl with | [_,_,_,_], _ => rfl) (qa_cons (qe_var 1) (qa_cons (qe_var 3) (qa_cons (qe_var 4) (qa_cons (qe_callN c_law_any_deed hg (hr.mono (by decide)) (by rfl) tk (by exact fun _ _ _ _ _ _ us hl => match us, hl with | [_,_,_], _ => rfl) (qa_cons (qe_var 1) (qa_cons (qe_var 3) (qa_cons (qe_var 4) qa_nil)))) qa_nil))))))) (qss_one (qs_ret qe_bl)) qss_nil)
  (qss_one (qs_if (qt_not (qt_val (qe_callN c_law_refused hg (hr.mono (by decide)) (by rfl) tk (by exact fun _ _ _ _ _ _ us hl => match us, hl with | [_,_,_], _ => rfl) (qa_cons (qe_var 1) (qa_cons (qe_var 3) (qa_cons (qe_var 4) qa_nil)))))) (qss_one (qs_ret qe_bl)) qss_nil)))))
  (qss_one (qs_ret qe_bl)))
theorem b0law {f fB : Addr} {fdB : FuncData} {code : Value} (ok : FnG P w K mg base (L2.CX P w) 1 fB fdB ["_law_script"] (spBegun K)) (hm : mg "_law_begun" = some (.ref fB)) (Fd : FunD K "_law_begun" "_law_begun" (defArgs (top 33)) (defBody (top 33)) (defScope (top 33)) [] [] fB fdB) (A : Around) (outer : List Env) (s : Shared) (H : Hp) (E : XK) (hg : A.guards = some []) (hr : Room 11 (A.deeper (envOfC "law" (defScope (top 48)) s.heap.objs.size f code))) : PS (bx P w K mg base Nlaw "law" (defScope (top 48)) f code A outer s H E) s0 (tAsg (fun σ H' Q => tCons (tVar 0) tNil σ H' fun vs H1 => spBegun K vs H1 Q (L2.WE (wishD (c0 H) K xw0) σ)) (gName 1)) := by
  have sN := sclaw.nd
  exact ps_set (i := 1) sN rfl (Or.inl rfl) (pe_callG ok hg (hr.mono (by decide)) (by rfl) hm Fd.kp (Fd.bindsN fun _ _ _ _ _ _ us hl => match us, hl with | [_], _ => rfl) (c0 H) (pa_cons (pe_varS 0) pa_nil))
end
end Lk97

set_option Elab.async false
set_option linter.all false
set_option maxRecDepth 100000
set_option maxHeartbeats 0
namespace Lk97
open PySem PySem.Spec PyProof.Rows L2 PD
def dis_number : He.DefD := ⟨("is_number", none), "is_number", "is_number", defArgs (top 10), defBody (top 10), defScope (top 10), [], []⟩
def dis_between : He.DefD := ⟨("is_between", none), "is_between", "is_between", defArgs (top 11), defBody (top 11), defScope (top 11), [], []⟩
def dis_list : He.DefD := ⟨("is_list", none), "is_list", "is_list", defArgs (top 12), defBody (top 12), defScope (top 12), [], []⟩
def dis_prime : He.DefD := ⟨("is_prime", none), "is_prime", "is_prime", defArgs (top 13), defBody (top 13), defScope (top 13), [], []⟩
def dneed_prime : He.DefD := ⟨("need_prime", none), "need_prime", "need_prime", defArgs (top 14), defBody (top 14), defScope (top 14), [], []⟩
def dare_lines : He.DefD := ⟨("are_lines", none), "are_lines", "are_lines", defArgs (top 15), defBody (top 15), defScope (top 15), [], []⟩
def dTable__init__ : He.DefD := ⟨("Table", some "__init__"), "__init__", "Table.__init__", defArgs (memb (top 16) 0), defBody (memb (top 16) 0), defScope (memb (top 16) 0), [], []⟩
def dTable__eq__ : He.DefD := ⟨("Table", some "__eq__"), "__eq__", "Table.__eq__", defArgs (memb (top 16) 5), defBody (memb (top 16) 5), defScope (memb (top 16) 5), [], []⟩
def dplain : He.DefD := ⟨("plain", none), "plain", "plain", defArgs (top 17), defBody (top 17), defScope (top 17), [], []⟩
def dis_deed : He.DefD := ⟨("is_deed", none), "is_deed", "is_deed", defArgs (top 19), defBody (top 19), defScope (top 19), [], []⟩
def dnumber_of_text : He.DefD := ⟨("number_of_text", none), "number_of_text", "number_of_text", defArgs (top 23), defBody (top 23), defScope (top 23), [], []⟩
def dnumbers_of_text : He.DefD := ⟨("numbers_of_text", none), "numbers_of_text", "numbers_of_text", defArgs (top 24), defBody (top 24), defScope (top 24), [], []⟩
def dlines_text : He.DefD := ⟨("lines_text", none), "lines_text", "lines_text", defArgs (top 25), defBody (top 25), defScope (top 25), [], []⟩
def dtable_of_lines : He.DefD := ⟨("table_of_lines", none), "table_of_lines", "table_of_lines", defArgs (top 26), defBody (top 26), defScope (top 26), [], []⟩
def ddeed_text : He.DefD := ⟨("deed_text", none), "deed_text", "deed_text", defArgs (top 29), defBody (top 29), defScope (top 29), [], []⟩
def dfound_deed : He.DefD := ⟨("found_deed", none), "found_deed", "found_deed", defArgs (top 30), defBody (top 30), defScope (top 30), [], []⟩
def ddeed_of_text : He.DefD := ⟨("deed_of_text", none), "deed_of_text", "deed_of_text", defArgs (top 31), defBody (top 31), defScope (top 31), [], []⟩
def d_law_begun : He.DefD := ⟨("_law_begun", none), "_law_begun", "_law_begun", defArgs (top 33), defBody (top 33), defScope (top 33), [], []⟩
def d_law_mixed : He.DefD := ⟨("_law_mixed", none), "_law_mixed", "_law_mixed", defArgs (top 34), defBody (top 34), defScope (top 34), [], []⟩
def d_law_take : He.DefD := ⟨("_law_take", none), "_law_take", "_law_take", defArgs (top 35), defBody (top 35), defScope (top 35), [], []⟩
def d_law_pick : He.DefD := ⟨("_law_pick", none), "_law_pick", "_law_pick", defArgs (top 36), defBody (top 36), defScope (top 36), [], []⟩
def d_law_unit : He.DefD := ⟨("_law_unit", none), "_law_unit", "_law_unit", defArgs (top 37), defBody (top 37), defScope (top 37), [], []⟩
def d_law_field : He.DefD := ⟨("_law_field", none), "_law_field", "_law_field", defArgs (top 38), defBody (top 38), defScope (top 38), [], []⟩
def d_law_made_table : He.DefD := ⟨("_law_made_table", none), "_law_made_table", "_law_made_table", defArgs (top 39), defBody (top 39), defScope (top 39), [], []⟩
def d_law_caught : He.DefD := ⟨("_law_caught", none), "_law_caught", "_law_caught", defArgs (top 40), defBody (top 40), defScope (top 40), [], []⟩
def d_law_line_of : He.DefD := ⟨("_law_line_of", none), "_law_line_of", "_law_line_of", defArgs (top 41), defBody (top 41), defScope (top 41), [], []⟩
def d_law_made_deed : He.DefD := ⟨("_law_made_deed", none), "_law_made_deed", "_law_made_deed", defArgs (top 42), defBody (top 42), defScope (top 42), [], []⟩
def d_law_move_line : He.DefD := ⟨("_law_move_line", none), "_law_move_line", "_law_move_line", defArgs (top 43), defBody (top 43), defScope (top 43), [], []⟩
def d_law_any_deed : He.DefD := ⟨("_law_any_deed", none), "_law_any_deed", "_law_any_deed", defArgs (top 44), defBody (top 44), defScope (top 44), [], []⟩
def d_law_deed_holds : He.DefD := ⟨("_law_deed_holds", none), "_law_deed_holds", "_law_deed_holds", defArgs (top 45), defBody (top 45), defScope (top 45), [], []⟩
def d_law_wrong_lines : He.DefD := ⟨("_law_wrong_lines", none), "_law_wrong_lines", "_law_wrong_lines", defArgs (top 46), defBody (top 46), defScope (top 46), [], []⟩
def d_law_refused : He.DefD := ⟨("_law_refused", none), "_law_refused", "_law_refused", defArgs (top 47), defBody (top 47), defScope (top 47), [], []⟩
def dlaw : He.DefD := ⟨("law", none), "law", "law", defArgs (top 48), defBody (top 48), defScope (top 48), [], []⟩
def mBadNumber : MeD := { cls := "BadNumber", name := "__init__", qual := "BadNumber.__init__", params := defArgs (memb (top 4) 0), body := defBody (memb (top 4) 0), scope := defScope (memb (top 4) 0) }
theorem tBadNumber : PySem.SwX.MeTxt "part" mBadNumber := ⟨_, _, _, _, _, _, _, _, _, _, _, _, _, _, rfl, rfl, rfl, rfl, rfl⟩
def mBadText : MeD := { cls := "BadText", name := "__init__", qual := "BadText.__init__", params := defArgs (memb (top 6) 0), body := defBody (memb (top 6) 0), scope := defScope (memb (top 6) 0) }
theorem tBadText : PySem.SwX.MeTxt "at" mBadText := ⟨_, _, _, _, _, _, _, _, _, _, _, _, _, _, rfl, rfl, rfl, rfl, rfl⟩
def gTable_prime : MeD := { cls := "Table", name := "prime", qual := "Table.prime", params := defArgs (memb (top 16) 1), body := defBody (memb (top 16) 1), scope := defScope (memb (top 16) 1), ad := fun K => gA K 40 "prime", clo := [] }
theorem scgTable_prime : FnScope ["self"] ["self"] gTable_prime.scope := C8.fnScope_by (by decide +kernel)
def gTable_tall : MeD := { cls := "Table", name := "tall", qual := "Table.tall", params := defArgs (memb (top 16) 2), body := defBody (memb (top 16) 2), scope := defScope (memb (top 16) 2), ad := fun K => gA K 40 "tall", clo := [] }
theorem scgTable_tall : FnScope ["self"] ["self"] gTable_tall.scope := C8.fnScope_by (by decide +kernel)
def gTable_wide : MeD := { cls := "Table", name := "wide", qual := "Table.wide", params := defArgs (memb (top 16) 3), body := defBody (memb (top 16) 3), scope := defScope (memb (top 16) 3), ad := fun K => gA K 40 "wide", clo := [] }
theorem scgTable_wide : FnScope ["self"] ["self"] gTable_wide.scope := C8.fnScope_by (by decide +kernel)
def gTable_lines : MeD := { cls := "Table", name := "lines", qual := "Table.lines", params := defArgs (memb (top 16) 4), body := defBody (memb (top 16) 4), scope := defScope (memb (top 16) 4), ad := fun K => gA K 40 "lines", clo := [] }
theorem scgTable_lines : FnScope ["self"] ["self"] gTable_lines.scope := C8.fnScope_by (by decide +kernel)
def fn : List He.DefD := [dis_number, dis_between, dis_list, dis_prime, dneed_prime, dare_lines, dTable__init__, dTable__eq__, dplain, dis_deed, dnumber_of_text, dnumbers_of_text, dlines_text, dtable_of_lines, ddeed_text, dfound_deed, ddeed_of_text, d_law_begun, d_law_mixed, d_law_take, d_law_pick, d_law_unit, d_law_field, d_law_made_table, d_law_caught, d_law_line_of, d_law_made_deed, d_law_move_line, d_law_any_deed, d_law_deed_holds, d_law_wrong_lines, d_law_refused, dlaw]
def me : List MeD := [mBadNumber, mBadText, gTable_prime, gTable_tall, gTable_wide, gTable_lines]
def fa : List He.Fa := fl.map He.Fa.free ++ ([He.Fa.free "super"] ++ [He.Fa.glo "is_number", He.Fa.glo "is_between", He.Fa.glo "is_list", He.Fa.glo "is_prime", He.Fa.glo "need_prime", He.Fa.glo "are_lines", He.Fa.glo "plain", He.Fa.glo "is_deed", He.Fa.glo "number_of_text", He.Fa.glo "numbers_of_text", He.Fa.glo "lines_text", He.Fa.glo "table_of_lines", He.Fa.glo "deed_text", He.Fa.glo "found_deed", He.Fa.glo "deed_of_text", He.Fa.glo "_law_begun", He.Fa.glo "_law_mixed", He.Fa.glo "_law_take", He.Fa.glo "_law_pick", He.Fa.glo "_law_unit", He.Fa.glo "_law_field", He.Fa.glo "_law_made_table", He.Fa.glo "_law_caught", He.Fa.glo "_law_line_of", He.Fa.glo "_law_made_deed", He.Fa.glo "_law_move_line", He.Fa.glo "_law_any_deed", He.Fa.glo "_law_deed_holds", He.Fa.glo "_law_wrong_lines", He.Fa.glo "_law_refused", He.Fa.glo "law", He.Fa.mkr "Table", He.Fa.cls "Table", He.Fa.meth "Table" "__eq__", He.Fa.int "MOST_SIDE" (60), He.Fa.int "LONGEST" (10), He.Fa.int "GREATEST" (1000000000), He.Fa.str "DIGITS" "0123456789", He.Fa.glo "PRIMES"])
def tfq : List (He.Defn × Str) := [(("_law_deed_holds", none), "_law_deed_holds.<locals>.<lambda>"), (("_law_refused", none), "_law_refused.<locals>.<lambda>")]
abbrev R : PySem.W.OpenRow := PySem.W.OpenLaw.row PySem.Challenge.rw_unswayed_k97_texts_of_deeds
abbrev qv : Program := PySem.W.view R.prog [48]
def loose : List Str := (["__name__", "SwayError", "BadPrime", "BadTable", "BadNumber", "BadDeed", "BadText", "PRIMES", "MOST_SIDE", "is_number", "is_between", "is_list", "is_prime", "need_prime", "are_lines", "Table", "plain", "is_deed", "DIGITS", "LONGEST", "number_of_text", "numbers_of_text", "lines_text", "table_of_lines", "GREATEST", "deed_text", "found_deed", "deed_of_text", "_law_begun", "_law_mixed"] : List Str) ++ (["_law_take", "_law_pick", "_law_unit", "_law_field", "_law_made_table", "_law_caught", "_law_line_of", "_law_made_deed", "_law_move_line", "_law_any_deed", "_law_deed_holds", "_law_wrong_lines", "_law_refused"] : List Str)
def fileN : Str := PySem.Challenge.pw_unswayed_k97_texts_of_deeds.main.file
def exl (K : PySem.W.Frag) : List Bool := [swKB K, tabNB K tfq, inkB K 40, naB K 40, getB K 40 "prime" "Table.prime", getB K 40 "tall" "Table.tall", getB K 40 "wide" "Table.wide", getB K 40 "lines" "Table.lines", He.tupB K "PRIMES" (([2, 3, 5, 7, 11, 13, 17, 19, 23, 29, 31, 37, 41, 43, 47, 53, 59, 61, 67, 71, 73, 79, 83, 89, 97] : List Int).map He.Dv.int)]
def ex (K : PySem.W.Frag) : Bool := (errB K fileN cs pl ff && veKB K) && (exl K).all id
def tf : List He.Defn := tfq.map (·.1)
abbrev hk : PySem.W.Hook := hookQ 5 fa fn me tf ex
def ob (s : PySem.W.SharedT) : AlQ := obsQ 5 fa fn me tf ex (HandSHeadRun.getT s)
theorem ob_eq (s : PySem.W.SharedT) : ob s = hk.obs s.abs := obsQ_eq (HandSHeadRun.getT_eq s)
theorem run (w : World) : HandSHeadRun.RunEq R qv hk ob 20000 loose w := by
  intro os
  kernel_rfl
end Lk97

set_option Elab.async false
set_option linter.all false
set_option maxRecDepth 100000
set_option maxHeartbeats 4000000
namespace Lk97
open PySem PySem.Spec PyProof.Rows L2 PD Tx TL
theorem d_is_number {d : D} {R : D → Bool → Prop} {E : Nat → List D → Prop} (h : tyB d = true) (hR : R (.bl (numB d)) false) : Fis_number [d] R E := by
  cases d <;> first | (cases h; done) | exact ⟨by decide, _, rfl, hR⟩ | exact ⟨by decide, _, rfl, by decide, _, rfl, hR⟩
def betB (d : D) (lo hi : Int) : Bool := match d with
  | .int i => decide (lo ≤ i) && decide (i ≤ hi)
  | _ => false
theorem d_is_between {d : D} {lo hi : Int} {R : D → Bool → Prop} {E : Nat → List D → Prop} (h : tyB d = true) (hR : R (.bl (betB d lo hi)) false) : Fis_between [d, .int lo, .int hi] R E := by
  refine ⟨rfl, d_is_number h ?_⟩
  cases d <;> first | (cases h; done) | exact hR | skip
  rename_i i
  show (match D.bl (decide (lo ≤ i)) with | .bl true => _ | .bl false => _ | _ => _)
  have hR' : R (.bl (decide (lo ≤ i) && decide (i ≤ hi))) false := hR
  cases e : decide (lo ≤ i) with
  | true => rw [e] at hR'; exact hR'
  | false => rw [e] at hR'; exact hR'
def listB : D → Bool
  | .lst _ => true | .tup _ => true | .ktp _ => true
  | _ => false
theorem d_is_list {d : D} {R : D → Bool → Prop} {E : Nat → List D → Prop} (h : tyB d = true) (hR : R (.bl (listB d)) false) : Fis_list [d] R E := by
  cases d <;> first | (cases h; done) | exact ⟨by decide, by decide, by decide, _, _, rfl, rfl, hR⟩
def primesL : List Int := [2, 3, 5, 7, 11, 13, 17, 19, 23, 29, 31, 37, 41, 43, 47, 53, 59, 61, 67, 71, 73, 79, 83, 89, 97]
def primeB (d : D) : Bool := match d with
  | .int i => (primesL.map D.int).any fun y => deq y (.int i)
  | _ => false
theorem primes_flt : (primesL.map D.int).all flt = true := by decide
theorem d_is_prime {d : D} {R : D → Bool → Prop} {E : Nat → List D → Prop} (h : tyB d = true) (hR : R (.bl (primeB d)) false) : Fis_prime [d] R E := by
  refine ⟨rfl, d_is_number h ?_⟩
  cases d <;> first | (cases h; done) | exact hR | skip
  refine ⟨rfl, primes_flt, ?_⟩
  show R (.bl (false != (primesL.map D.int).any _)) false
  rw [Bool.false_bne]; exact hR
theorem d_need_prime {d : D} {R : D → Bool → Prop} {E : Nat → List D → Prop} (h : tyB d = true) (h1 : primeB d = true → R .non false) (h2 : primeB d = false → E 1 []) : Fneed_prime [d] R E := by
  refine ⟨rfl, d_is_prime h ?_⟩
  show (match !primeB d with | true => _ | false => _)
  cases e : primeB d with
  | true => exact h1 e
  | false => exact h2 e
/-! ### tables -/
def rowD (l : List Int) : D := .lst (l.map D.int)
def tabD (p t w : Int) (ls : List (List Int)) : D := .ins 40 [.int p, .int t, .int w, .tup (ls.map fun l => .tup ((l.map fun i => i % p).map D.int))]
theorem all_id {l : List Bool} (h : ∀ b ∈ l, b = true) : l.all id = true := List.all_eq_true.mpr fun b hb => h b hb
theorem d_are_lines {ls : List (List Int)} {t w : Int} {R : D → Bool → Prop} {E : Nat → List D → Prop} (ht : (ls.length : Int) = t) (hw : ∀ l ∈ ls, (l.length : Int) = w) (hl : ls.length ≤ 1000) (hl2 : ∀ l ∈ ls, l.length ≤ 1000) (hR : R (.bl true) false) :
    Fare_lines [.lst (ls.map rowD), .int t, .int w] R E := by
  refine ⟨rfl, d_is_list rfl ⟨_, rfl, _, rfl, rfl, rfl, ?_⟩⟩
  have e0 : deq (.int ((ls.map rowD).length : Nat)) (.int t) = true := by rw [List.length_map, ht]; simp [deq]
  show (match !deq (.int ((ls.map rowD).length : Nat)) (.int t) with | true => _ | false => _)
  rw [e0]
  refine lc_map (items := ls.map rowD) (δ1 := [.fro (.lst (ls.map rowD)), .fro (.int t), .fro (.int w), .no, .no]) (fun _ => .bl true) (fun R h => h) (by rw [List.length_map]; omega) (fun d hd => ⟨_, rfl, rfl, fun R' hR' => ?_⟩) ?_
  · obtain ⟨l, hl', rfl⟩ := List.mem_map.mp hd
    refine ⟨rfl, d_is_list rfl ⟨_, rfl, _, rfl, rfl, rfl, ?_⟩⟩
    have e1 : deq (.int ((l.map D.int).length : Nat)) (.int w) = true := by rw [List.length_map, hw l hl']; simp [deq]
    show (match D.bl (deq (.int ((l.map D.int).length : Nat)) (.int w)) with | .bl true => _ | .bl false => _ | _ => _)
    rw [e1]
    refine lc_map (items := l.map D.int) (δ1 := [.fro (.lst (ls.map rowD)), .fro (.int t), .fro (.int w), .fro (rowD l), .no]) (fun _ => .bl true) (fun R h => h) (by rw [List.length_map]; have := hl2 l hl'; omega) (fun d hd => ⟨_, rfl, rfl, fun R'' hR'' => ?_⟩) ?_
    · obtain ⟨i, _, rfl⟩ := List.mem_map.mp hd
      exact ⟨rfl, d_is_number rfl (hR'' _)⟩
    · refine ⟨(l.map fun _ => true), ?_, ?_⟩
      · have : ((l.map D.int).map fun _ => D.bl true) = (l.map fun _ => true).map D.bl := by rw [List.map_map, List.map_map]; rfl
        rw [this]; exact boolsD_map _
      · have ea : (l.map fun _ => true).all id = true := all_id (by simp)
        show R' (.bl ((l.map fun _ => true).all id)) _ _
        rw [ea]; exact hR' _
  · refine ⟨(ls.map fun _ => true), ?_, ?_⟩
    · have : ((ls.map rowD).map fun _ => D.bl true) = (ls.map fun _ => true).map D.bl := by rw [List.map_map, List.map_map]; rfl
      rw [this]; exact boolsD_map _
    · have ea : (ls.map fun _ => true).all id = true := all_id (by simp)
      show R (.bl ((ls.map fun _ => true).all id)) _
      rw [ea]; exact hR
def modD (p : Int) : D → D
  | .int i => .int (i % p)
  | x => x
def rowMod (p : Int) : D → D
  | .lst xs => .tup (xs.map (modD p))
  | d => d
theorem d_Table {ls : List (List Int)} {p t w : Int} {R : D → Bool → Prop} {E : Nat → List D → Prop} (hp : primeB (.int p) = true) (hp0 : 0 < p) (ht : (ls.length : Int) = t) (hw : ∀ l ∈ ls, (l.length : Int) = w) (ht2 : t ≤ 60) (hw0 : 0 ≤ w) (hw2 : w ≤ 60) (hR : R (tabD p t w ls) true) :
    FTable [.int p, .int t, .int w, .lst (ls.map rowD)] R E := by
  have bt : betB (.int t) 0 60 = true := by show (decide ((0 : Int) ≤ t) && decide (t ≤ 60)) = true; simp; omega
  have bw : betB (.int w) 0 60 = true := by show (decide ((0 : Int) ≤ w) && decide (w ≤ 60)) = true; simp; omega
  refine ⟨rfl, d_need_prime rfl (fun _ => ?_) fun e => by rw [hp] at e; cases e⟩
  refine ⟨rfl, d_is_between rfl ?_⟩
  show (match !betB (.int t) 0 60 with | true => _ | false => _)
  rw [bt]
  refine ⟨rfl, d_is_between rfl ?_⟩
  show (match !betB (.int w) 0 60 with | true => _ | false => _)
  rw [bw]
  refine ⟨rfl, d_are_lines ht hw (by omega) (fun l hl => by have := hw l hl; omega) ?_⟩
  refine ⟨[], rfl, rfl, [.int p], rfl, rfl, [.int p, .int t], rfl, rfl, ?_⟩
  refine lc_map (items := ls.map rowD) (δ1 := [.own (.par 40 [.int p, .int t, .int w]), .fro (.int p), .fro (.int t), .fro (.int w), .fro (.lst (ls.map rowD)), .no, .no]) (rowMod p) (fun R h => h) (by rw [List.length_map]; omega) (fun d hd => ⟨_, rfl, rfl, fun R' hR' => ?_⟩) ?_
  · obtain ⟨l, hl, rfl⟩ := List.mem_map.mp hd
    refine lc_map (items := l.map D.int) (δ1 := [.own (.par 40 [.int p, .int t, .int w]), .fro (.int p), .fro (.int t), .fro (.int w), .fro (.lst (ls.map rowD)), .fro (rowD l), .no]) (modD p) (fun R h => h) (by rw [List.length_map]; have := hw l hl; omega) (fun d hd => ⟨_, rfl, rfl, fun R'' hR'' => ?_⟩) ?_
    · obtain ⟨i, _, rfl⟩ := List.mem_map.mp hd
      exact ⟨hp0, hR'' _⟩
    · exact hR' _
  · refine ⟨[.int p, .int t, .int w], rfl, rfl, ?_⟩
    refine ⟨_, rfl, rfl, ?_⟩
    have e : (ls.map rowD).map (rowMod p) = ls.map fun l => .tup ((l.map fun i => i % p).map D.int) := by
      rw [List.map_map]
      refine List.map_congr_left fun l _ => ?_
      show D.tup ((l.map D.int).map _) = _
      rw [List.map_map, List.map_map]; rfl
    show R (.ins 40 ([.int p, .int t, .int w] ++ [.tup _])) true
    rw [e]
    exact hR
end Lk97

set_option Elab.async false
set_option linter.all false
set_option maxRecDepth 100000
set_option maxHeartbeats 4000000
/-! texts of deeds, there and back -/
namespace Tx
open PySem PySem.Builtin TL PD Lk97
/-! ### lengths -/
theorem joinL_mem {S : List Nat} : ∀ {parts : List (List Nat)} {p : List Nat}, p ∈ parts → p.length ≤ (joinL S parts).length
  | [], _, h => by cases h
  | [q], p, h => by rw [List.mem_singleton.mp h]; exact Nat.le_refl _
  | q :: r :: parts, p, h => by
    show p.length ≤ (q ++ (S ++ joinL S (r :: parts))).length
    rw [List.length_append, List.length_append]
    rcases List.mem_cons.mp h with rfl | h
    · omega
    · have := joinL_mem (S := S) h; omega
theorem joinL_cnt {S : List Nat} (hS : S ≠ []) : ∀ parts : List (List Nat), parts.length ≤ (joinL S parts).length + 1
  | [] => by simp
  | [q] => by simp
  | q :: r :: parts => by
    show _ ≤ (q ++ (S ++ joinL S (r :: parts))).length + 1
    have := joinL_cnt hS (r :: parts)
    have := List.length_pos_iff.mpr hS
    rw [List.length_append, List.length_append, List.length_cons]
    omega
theorem joinL_le {S : List Nat} {k : Nat} : ∀ {parts : List (List Nat)}, (∀ p ∈ parts, p.length ≤ k) → (joinL S parts).length ≤ parts.length * (k + S.length)
  | [], _ => by simp [joinL]
  | [q], h => by have := h q (by simp); show q.length ≤ _; simp; omega
  | q :: r :: parts, h => by
    show (q ++ (S ++ joinL S (r :: parts))).length ≤ _
    have h1 := h q (by simp)
    have h2 := joinL_le (S := S) (parts := r :: parts) fun p hp => h p (List.mem_cons_of_mem _ hp)
    rw [List.length_append, List.length_append, List.length_cons, Nat.succ_mul]
    omega
theorem split_joinL {t y : Str} : joinL (tl y) ((Txt.split t y).map tl) = tl t := by
  rw [← tl_join, StrLaws.join_split]
theorem split_len {t y : Str} (hy : tl y ≠ []) : (Txt.split t y).length ≤ t.length + 1 := by
  have := joinL_cnt hy ((Txt.split t y).map tl)
  rw [split_joinL, List.length_map, ← len_tl] at this; exact this
theorem split_mem {t y p : Str} (h : p ∈ Txt.split t y) : p.length ≤ t.length := by
  have := joinL_mem (S := tl y) (List.mem_map.mpr ⟨p, h, rfl⟩ : tl p ∈ (Txt.split t y).map tl)
  rw [split_joinL, ← len_tl, ← len_tl] at this; exact this
theorem sum_le {k : Nat} : ∀ {ys : List Str}, (∀ y ∈ ys, y.length ≤ k) → (ys.map (·.length)).sum ≤ ys.length * k
  | [], _ => by simp
  | y :: ys, h => by
    have h1 := h y (by simp)
    have h2 := sum_le (ys := ys) fun z hz => h z (List.mem_cons_of_mem _ hz)
    rw [List.map_cons, List.sum_cons, List.length_cons, Nat.succ_mul]; omega
theorem numT_len {n : Nat} (h : n < 10 ^ 10) : (numT n).length ≤ 10 := by
  rw [len_tl, tl_numT]; exact numL_len (by decide) h
theorem tl_rowT (r : List Nat) : tl (rowT r) = joinL [32] (r.map numL) := by
  unfold rowT
  rw [join_eq, tl_join, tl_sp, List.map_map]
  exact congrArg _ (mapE fun n _ => tl_numT n)
theorem tl_rowsT (rs : List (List Nat)) : tl (rowsT rs) = joinL [32, 47, 32] (rs.map fun r => joinL [32] (r.map numL)) := by
  unfold rowsT
  rw [join_eq, tl_join, tl_sl, List.map_map]
  exact congrArg _ (mapE fun r _ => tl_rowT r)
theorem rowT_len {r : List Nat} (h : ∀ n ∈ r, n < 10 ^ 10) : (rowT r).length ≤ r.length * 11 := by
  rw [len_tl, tl_rowT]
  have := joinL_le (S := [32]) (k := 10) (parts := r.map numL) fun p hp => by
    obtain ⟨n, hn, rfl⟩ := List.mem_map.mp hp
    exact numL_len (by decide) (h n hn)
  rw [List.length_map] at this; exact this
theorem rowsT_len {rs : List (List Nat)} {w : Nat} (hw : ∀ r ∈ rs, r.length ≤ w) (h : ∀ r ∈ rs, ∀ n ∈ r, n < 10 ^ 10) : (rowsT rs).length ≤ rs.length * (w * 11 + 3) := by
  rw [len_tl, tl_rowsT]
  have := joinL_le (S := [32, 47, 32]) (k := w * 11) (parts := rs.map fun r => joinL [32] (r.map numL)) fun p hp => by
    obtain ⟨r, hr, rfl⟩ := List.mem_map.mp hp
    have := rowT_len (h r hr)
    rw [len_tl, tl_rowT] at this
    exact Nat.le_trans this (Nat.mul_le_mul_right _ (hw r hr))
  rw [List.length_map] at this; exact this
theorem Rows.small {p : Int} {w : Nat} {rs : List (List Nat)} (h : Rows p w rs) (hp : p ≤ 97) : ∀ r ∈ rs, ∀ n ∈ r, n < 97 := fun r hr n hn => by
  have := h.low r hr n hn; omega
theorem Rows.tlen {p : Int} {w : Nat} {rs : List (List Nat)} (h : Rows p w rs) (hp : p ≤ 97) (hw : w ≤ 3) : (rowsT rs).length ≤ 108 := by
  have h1 := rowsT_len (w := 3) (fun r hr => by have := h.wid r hr; omega) (fun r hr n hn => by have := h.small hp r hr n hn; omega)
  have : rs.length ≤ 3 := by rw [h.len]; exact hw
  have : rs.length * (3 * 11 + 3) ≤ 3 * (3 * 11 + 3) := Nat.mul_le_mul_right _ this
  omega
theorem Rows.tpos {p : Int} {w : Nat} {rs : List (List Nat)} (h : Rows p w rs) (hw : 1 ≤ w) : 1 ≤ (rowsT rs).length := by
  rw [len_tl, tl_rowsT]
  cases rs with
  | nil => have := h.len; simp at this; omega
  | cons r rs =>
    have e := h.wid r (by simp)
    cases r with
    | nil => simp at e; omega
    | cons n r =>
      have h1 := joinL_mem (S := [32, 47, 32]) (parts := (((n :: r) :: rs).map fun r => joinL [32] (r.map numL))) (p := joinL [32] ((n :: r).map numL)) (by simp)
      have h2 := joinL_mem (S := [32]) (parts := (n :: r).map numL) (p := numL n) (by simp)
      have := List.length_pos_iff.mpr (numL_ne n)
      omega
/-! ### signs of a text -/
theorem joinL_sub {S : List Nat} {c : Nat} : ∀ {parts : List (List Nat)}, c ∈ joinL S parts → c ∈ S ∨ ∃ p ∈ parts, c ∈ p
  | [], h => by cases h
  | [q], h => .inr ⟨q, by simp, h⟩
  | q :: r :: parts, h => by
    have h : c ∈ q ++ (S ++ joinL S (r :: parts)) := h
    rcases List.mem_append.mp h with h | h
    · exact .inr ⟨q, by simp, h⟩
    · rcases List.mem_append.mp h with h | h
      · exact .inl h
      · rcases joinL_sub h with h | ⟨p, hp, h⟩
        · exact .inl h
        · exact .inr ⟨p, List.mem_cons_of_mem _ hp, h⟩
theorem numT_sub {n c : Nat} (h : c ∈ tl (numT n)) : c < 58 := by
  rw [tl_numT] at h; have := numL_digits n c h; omega
theorem rowsT_sub {rs : List (List Nat)} {c : Nat} (h : c ∈ tl (rowsT rs)) : c < 58 := by
  rw [tl_rowsT] at h
  rcases joinL_sub h with h | ⟨p, hp, h⟩
  · simp at h; omega
  · obtain ⟨r, _, rfl⟩ := List.mem_map.mp hp
    rcases joinL_sub h with h | ⟨q, hq, h⟩
    · simp at h; omega
    · obtain ⟨n, _, rfl⟩ := List.mem_map.mp hq
      have := numL_digits n c h; omega
/-! ### deeds -/
def wTake : Str := "take"
def wPut : Str := "put"
def wTurn : Str := "turn"
def foundD (p : Int) (w : Nat) (t : Str) : D :=
  if (Txt.partition t sp).1 = wTake then (match numF (Txt.partition t sp).2.2 0 1000000000 with | some i => .tup [.str wTake, .int i] | none => .non)
  else if (Txt.partition t sp).1 = wPut ∨ (Txt.partition t sp).1 = wTurn then (match rowsF p w (Txt.partition t sp).2.2 with | some ls => .tup [.str (Txt.partition t sp).1, tabD p w w ls] | none => .non)
  else .non
theorem part_sub {t : Str} : tl t = tl (Txt.partition t sp).1 ++ (tl (Txt.partition t sp).2.1 ++ tl (Txt.partition t sp).2.2) := by
  rw [← List.append_assoc, ← tl_append, ← tl_append, StrLaws.partition_sum]
theorem part_cases (t : Str) : t = (Txt.partition t sp).1 ++ sp ++ (Txt.partition t sp).2.2 ∨ (Txt.partition t sp).2.2 = Str.empty := by
  have s := StrLaws.partition_sum t sp
  have e := partition_par t sp (by rw [tl_sp]; simp)
  cases q : par (tl sp) [] (tl t) with
  | some ab => rw [q] at e; rw [e] at s ⊢; exact .inl s.symm
  | none => rw [q] at e; rw [e]; exact .inr rfl
theorem numF_empty {lo hi : Int} : numF Str.empty lo hi = none := by
  cases e : numF Str.empty lo hi with
  | none => rfl
  | some i => obtain ⟨n, _, _, _, _, _, h⟩ := numF_back e; simp [Str.empty, tl] at h
theorem rowsF_empty {p : Int} {w : Nat} (hw : 1 ≤ w) : rowsF p w Str.empty = none := by
  cases e : rowsF p w Str.empty with
  | none => rfl
  | some ls =>
    obtain ⟨rs, _, h, hr⟩ := rowsF_back e
    have := hr.tpos hw
    rw [← h] at this; simp [Str.empty, Str.length] at this
inductive Back (p : Int) (w : Nat) (t : Str) : D → Prop where
  | take (n : Nat) (h : n ≤ 1000000000) (e : t = wTake ++ sp ++ numT n) : Back p w t (.tup [.str wTake, .int n])
  | put (a : Str) (rs : List (List Nat)) (ha : a = wPut ∨ a = wTurn) (hr : Rows p w rs) (e : t = a ++ sp ++ rowsT rs) : Back p w t (.tup [.str a, tabD p w w (rs.map intL)])
theorem found_back {p : Int} {w : Nat} {t : Str} (hw : 1 ≤ w) : foundD p w t = .non ∨ Back p w t (foundD p w t) := by
  unfold foundD
  rcases part_cases t with e | e
  · generalize (Txt.partition t sp).1 = a at e ⊢
    generalize (Txt.partition t sp).2.2 = b at e ⊢
    subst e
    split
    · rename_i ea
      subst ea
      cases q : numF b 0 1000000000 with
      | none => exact .inl rfl
      | some i =>
        obtain ⟨n, e1, e2, _, h2, _⟩ := numF_back q
        subst e1; subst e2
        exact .inr (.take n (by omega) rfl)
    · split
      · rename_i ha
        cases q : rowsF p w b with
        | none => exact .inl rfl
        | some ls =>
          obtain ⟨rs, e1, e2, hr⟩ := rowsF_back q
          subst e1; subst e2
          exact .inr (.put a rs ha hr rfl)
      · exact .inl rfl
  · rw [e, numF_empty, rowsF_empty hw]
    split
    · exact .inl rfl
    · split <;> exact .inl rfl
theorem found_take {p : Int} {w n : Nat} (h : n ≤ 1000000000) : foundD p w (wTake ++ sp ++ numT n) = .tup [.str wTake, .int n] := by
  unfold foundD
  rw [partition_app tl_sp (by decide +kernel)]
  show (if wTake = wTake then (match numF (numT n) 0 1000000000 with | some i => _ | none => _) else _) = _
  rw [if_pos rfl, numF_num (by omega) (by omega) (by omega)]
theorem found_put {p : Int} {w : Nat} {a : Str} {rs : List (List Nat)} (ha : a = wPut ∨ a = wTurn) (hp : p ≤ 97) (hw : 1 ≤ w) (h : Rows p w rs) : foundD p w (a ++ sp ++ rowsT rs) = .tup [.str a, tabD p w w (rs.map intL)] := by
  have hs : 32 ∉ tl a := by rcases ha with rfl | rfl <;> decide +kernel
  have hn : a ≠ wTake := by rcases ha with rfl | rfl <;> decide +kernel
  unfold foundD
  rw [partition_app tl_sp hs]
  show (if a = wTake then _ else if a = wPut ∨ a = wTurn then (match rowsF p w (rowsT rs) with | some ls => _ | none => _) else _) = _
  rw [if_neg hn, if_pos ha, rowsF_rows hp hw h]
theorem found_long {p : Int} {w : Nat} {t : Str} (hp : p ≤ 97) (hw : 1 ≤ w) (hw2 : w ≤ 3) (h : 200 < t.length) : foundD p w t = .non := by
  rcases found_back (p := p) (t := t) hw with e | b
  · exact e
  · exfalso
    generalize foundD p w t = d at b
    cases b with
    | take n hn e =>
      have := numT_len (n := n) (by omega)
      have e1 : t.length = 5 + (numT n).length := by rw [e, len_tl, tl_append, tl_append, List.length_append, List.length_append, ← len_tl (numT n)]; rfl
      omega
    | put a rs ha hr e =>
      have := hr.tlen hp hw2
      have e1 : t.length = (tl a).length + 1 + (rowsT rs).length := by rw [e, len_tl, tl_append, tl_append, List.length_append, List.length_append, ← len_tl (rowsT rs)]; rfl
      have : (tl a).length ≤ 4 := by rcases ha with rfl | rfl <;> decide +kernel
      omega
end Tx

set_option Elab.async false
set_option linter.all false
set_option maxRecDepth 100000
set_option maxHeartbeats 4000000
namespace Lk97
open PySem PySem.Spec PyProof.Rows L2 PD Tx TL
theorem sh60 {d : D} (h : shp 50 d = true) : shp 60 d = true :=
  shp_le 59 d (shp_le 58 d (shp_le 57 d (shp_le 56 d (shp_le 55 d (shp_le 54 d (shp_le 53 d (shp_le 52 d (shp_le 51 d (shp_le 50 d h)))))))))
theorem f4_p {a b c d : D} : fldAt (cFields 40) [a, b, c, d] "own_prime" = some a := by kernel_rfl
theorem f4_t {a b c d : D} : fldAt (cFields 40) [a, b, c, d] "own_tall" = some b := by kernel_rfl
theorem f4_w {a b c d : D} : fldAt (cFields 40) [a, b, c, d] "own_wide" = some c := by kernel_rfl
theorem f4_l {a b c d : D} : fldAt (cFields 40) [a, b, c, d] "own_lines" = some d := by kernel_rfl
/-! ### equality of tables -/
theorem d_eq {C : Nat} {xs ys : List D} (h : okF C xs ys = true) : C = 40 ∧ ∀ (R : D → Bool → Prop) (E : Nat → List D → Prop), R (.bl true) false → FTable__eq__ [.ins 40 xs, .ins 40 ys] R E := by
  obtain ⟨hC, h⟩ := He.ba (show (decide (C = 40) && okFld 4 xs ys) = true from h)
  obtain ⟨h4, ha⟩ := He.ba (show (decide (xs.length = 4) && all2 _ xs ys) = true from h)
  have h4 := of_decide_eq_true h4
  refine ⟨of_decide_eq_true hC, fun R E hR => ?_⟩
  obtain ⟨hl, at_⟩ := all2_at ha
  match xs, ys, h4, hl, at_ with
  | [a, b, c, d], [a', b', c', d'], _, _, at_ =>
    have k : ∀ (i : Nat) (x y : D), [a, b, c, d][i]? = some x → [a', b', c', d'][i]? = some y → shp 60 x = true ∧ shp 60 y = true ∧ deq x y = true := fun i x y e1 e2 => by
      obtain ⟨z1, z⟩ := He.ba (at_ i x y e1 e2)
      obtain ⟨z2, z3⟩ := He.ba z
      exact ⟨sh60 z1, sh60 z2, z3⟩
    obtain ⟨a1, a2, a3⟩ := k 0 a a' rfl rfl
    obtain ⟨b1, b2, b3⟩ := k 1 b b' rfl rfl
    obtain ⟨c1, c2, c3⟩ := k 2 c c' rfl rfl
    obtain ⟨d1, d2, d3⟩ := k 3 d d' rfl rfl
    refine ⟨rfl, true, rfl, _, _, rfl, f4_p, _, _, rfl, f4_p, a1, a2, ?_⟩
    show (match !deq a a' with | true => _ | false => _)
    rw [a3]
    refine ⟨_, _, rfl, f4_t, _, _, rfl, f4_t, b1, b2, ?_⟩
    show (match !deq b b' with | true => _ | false => _)
    rw [b3]
    refine ⟨_, _, rfl, f4_w, _, _, rfl, f4_w, c1, c2, ?_⟩
    show (match !deq c c' with | true => _ | false => _)
    rw [c3]
    refine ⟨_, _, rfl, f4_l, _, _, rfl, f4_l, d1, d2, ?_⟩
    show R (.bl (deq d d')) false
    rw [d3]; exact hR
/-! ### deeds -/
def deedB (w : Str) (b : D) : Bool := match deq (.str w) (.str "take") with
  | true => numB b
  | false => ([D.str "put", D.str "turn"].any fun y => deq y (.str w)) && insB 40 b
theorem d_is_deed {w : Str} {b : D} {R : D → Bool → Prop} {E : Nat → List D → Prop} (hw : PyData.strOk w = true) (hb : tyB b = true) (hR : R (.bl (deedB w b)) false) : Fis_deed [.tup [.str w, b]] R E := by
  refine ⟨by decide, true, rfl, _, rfl, _, rfl, rfl, rfl, _, rfl, _, rfl, by decide, true, rfl, ?_⟩
  refine ⟨_, rfl, _, rfl, hw, by decide +kernel, ?_⟩
  unfold deedB at hR
  show (match deq (.str w) (.str "take") with | true => _ | false => _)
  cases e : deq (.str w) (.str "take") with
  | true => rw [e] at hR; exact ⟨_, rfl, _, rfl, rfl, d_is_number hb hR⟩
  | false =>
    rw [e] at hR
    refine ⟨_, rfl, _, rfl, by decide, rfl, rfl, ?_⟩
    show (match D.bl (false != ([D.str "put", D.str "turn"].any fun y => deq y (.str w))) with | .bl true => _ | .bl false => _ | _ => _)
    rw [Bool.false_bne]
    have hR' : R (.bl (([D.str "put", D.str "turn"].any fun y => deq y (.str w)) && insB 40 b)) false := hR
    cases q : ([D.str "put", D.str "turn"].any fun y => deq y (.str w)) with
    | true => rw [q] at hR'; exact ⟨_, rfl, _, rfl, isi_cls hb hR'⟩
    | false => rw [q] at hR'; exact hR'
theorem d_not_tup {d : D} {R : D → Bool → Prop} {E : Nat → List D → Prop} (h : tyB d = true) (ht : tupB d = false) (hR : R (.bl false) false) : Fis_deed [d] R E := by
  cases d <;> first | (cases h; done) | (cases ht; done) | exact ⟨by decide, false, rfl, hR⟩
theorem d_tup0 {R : D → Bool → Prop} {E : Nat → List D → Prop} (hR : R (.bl false) false) : Fis_deed [.tup []] R E :=
  ⟨by decide, true, rfl, _, rfl, _, rfl, rfl, rfl, hR⟩
theorem d_tup1 {a : D} {R : D → Bool → Prop} {E : Nat → List D → Prop} (hR : R (.bl false) false) : Fis_deed [.tup [a]] R E :=
  ⟨by decide, true, rfl, _, rfl, _, rfl, rfl, rfl, hR⟩
theorem d_text_no {d : D} {R : D → Bool → Prop} {E : Nat → List D → Prop} (hd : ∀ (R' : D → Bool → Prop) (E' : Nat → List D → Prop), R' (.bl false) false → Fis_deed [d] R' E') (hE : E 11 []) : Fdeed_text [d] R E :=
  ⟨rfl, hd _ _ hE⟩
theorem k_take : deq (D.str wTake) (.str "take") = true := by decide +kernel
theorem k_put : deq (D.str wPut) (.str "take") = false := by decide +kernel
theorem k_turn : deq (D.str wTurn) (.str "take") = false := by decide +kernel
theorem ok_take : PyData.strOk wTake = true := by decide +kernel
theorem ok_put : PyData.strOk wPut = true := by decide +kernel
theorem ok_turn : PyData.strOk wTurn = true := by decide +kernel
theorem take_sp : (("take " : Str)) = wTake ++ sp := by decide +kernel
theorem deed_take {b : D} : deedB wTake b = numB b := by unfold deedB; rw [k_take]
theorem any_put : ([D.str "put", D.str "turn"].any fun y => deq y (.str wPut)) = true := by decide +kernel
theorem any_turn : ([D.str "put", D.str "turn"].any fun y => deq y (.str wTurn)) = true := by decide +kernel
theorem deed_put {a : Str} {b : D} (h : a = wPut ∨ a = wTurn) : deedB a b = insB 40 b := by
  rcases h with rfl | rfl
  · unfold deedB; rw [k_put, any_put]; rfl
  · unfold deedB; rw [k_turn, any_turn]; rfl
theorem ok_pt {a : Str} (h : a = wPut ∨ a = wTurn) : PyData.strOk a = true := by
  rcases h with rfl | rfl
  · exact ok_put
  · exact ok_turn
theorem k_pt {a : Str} (h : a = wPut ∨ a = wTurn) : deq (D.str a) (.str "take") = false := by
  rcases h with rfl | rfl
  · exact k_put
  · exact k_turn
theorem log_small {n : Nat} (h : n < 10 ^ 10) : ((n : Nat) : Int).natAbs.log2 < 1920 := by
  rw [Int.natAbs_natCast]
  by_cases h0 : n = 0
  · subst h0; decide
  · have h1 : n < 2 ^ 34 := Nat.lt_of_lt_of_le h (by decide)
    have := (Nat.log2_lt h0).mpr h1
    omega
theorem d_text_take {n : Nat} {R : D → Bool → Prop} {E : Nat → List D → Prop} (h : n ≤ 1000000000) (hR : R (.str (wTake ++ sp ++ numT n)) false) : Fdeed_text [.tup [.str wTake, .int n]] R E := by
  refine ⟨rfl, d_is_deed ok_take rfl ?_⟩
  rw [deed_take]
  refine ⟨_, rfl, ?_⟩
  refine ⟨ok_take, by decide +kernel, ?_⟩
  rw [k_take]
  refine ⟨rfl, d_is_between rfl ?_⟩
  have b : betB (.int n) 0 1000000000 = true := by show (decide ((0 : Int) ≤ n) && decide ((n : Int) ≤ 1000000000)) = true; simp; omega
  show (match !betB (.int n) 0 1000000000 with | true => _ | false => _)
  rw [b]
  refine ⟨log_small (by omega), ?_, ?_⟩
  · have : (numT n).length ≤ 10 := numT_len (by omega)
    have e : (("take " : Str)).length = 5 := by decide +kernel
    show (("take " : Str)).length + (numT n).length ≤ 16777216
    omega
  · show R (.str (("take " : Str) ++ numT n)) false
    rw [take_sp]; exact hR
theorem d_text_wide {i : Int} {R : D → Bool → Prop} {E : Nat → List D → Prop} (h : ¬ (0 ≤ i ∧ i ≤ 1000000000)) (hE : E 11 []) : Fdeed_text [.tup [.str wTake, .int i]] R E := by
  refine ⟨rfl, d_is_deed ok_take rfl ?_⟩
  rw [deed_take]
  refine ⟨_, rfl, ?_⟩
  refine ⟨ok_take, by decide +kernel, ?_⟩
  rw [k_take]
  refine ⟨rfl, d_is_between rfl ?_⟩
  have b : betB (.int i) 0 1000000000 = false := by
    show (decide ((0 : Int) ≤ i) && decide (i ≤ 1000000000)) = false
    rw [← Bool.not_eq_true, Bool.and_eq_true, decide_eq_true_eq, decide_eq_true_eq]; exact h
  show (match !betB (.int i) 0 1000000000 with | true => _ | false => _)
  rw [b]
  exact hE
def strI : D → D
  | .int i => .str (Str.ofString (toString i))
  | x => x
def strJ : D → Str
  | .int i => Str.ofString (toString i)
  | _ => Str.empty
def joinR : D → D
  | .tup xs => .str (Txt.join sp (xs.map strJ))
  | d => d
/-- lines of a table in one line -/
theorem d_lines {rs : List (List Nat)} {p : Int} {t w : Int} {R : D → Bool → Prop} {E : Nat → List D → Prop} (hp : ∀ r ∈ rs, ∀ n ∈ r, (n : Int) < p ∧ n < 97) (hl : rs.length ≤ 60) (hl2 : ∀ r ∈ rs, r.length ≤ 60) (hR : R (.str (rowsT rs)) false) : Flines_text [tabD p t w (rs.map intL)] R E := by
  have e0 : ((rs.map intL).map fun l => D.tup ((l.map fun i => i % p).map D.int)) = rs.map fun r => .tup ((intL r).map D.int) := by
    rw [List.map_map]
    refine mapE fun r hr => ?_
    show D.tup (((intL r).map fun i => i % p).map D.int) = _
    have : ((intL r).map fun i => i % p) = intL r := by
      unfold intL
      rw [List.map_map]
      exact mapE fun n hn => show ((n : Nat) : Int) % p = ((n : Nat) : Int) from Int.emod_eq_of_lt (by omega) (hp r hr n hn).1
    rw [this]
  have small : ∀ r ∈ rs, ∀ n ∈ r, n < 10 ^ 10 := fun r hr n hn => by have := (hp r hr n hn).2; omega
  refine ⟨⟨_, rfl⟩, ?_⟩
  refine lc_map (items := (rs.map intL).map fun l : List Int => D.tup ((l.map fun i : Int => i % p).map D.int)) (δ1 := [.fro (tabD p t w (rs.map intL)), .no, .no]) joinR (fun R h => ⟨_, _, rfl, f4_l, h⟩) (by rw [List.length_map, List.length_map]; omega) (fun d hd => ⟨_, rfl, rfl, fun R' hR' => ?_⟩) ?_
  · rw [e0] at hd
    obtain ⟨r, hr, rfl⟩ := List.mem_map.mp hd
    refine ⟨⟨_, rfl⟩, ?_⟩
    refine lc_map (items := (intL r).map D.int) (δ1 := [.fro (tabD p t w (rs.map intL)), .fro (.tup ((intL r).map D.int)), .no]) strI (fun R h => h) (by rw [List.length_map]; unfold intL; rw [List.length_map]; have := hl2 r hr; omega) (fun d hd => ⟨_, rfl, rfl, fun R'' hR'' => ?_⟩) ?_
    · obtain ⟨i, hi, rfl⟩ := List.mem_map.mp hd
      unfold intL at hi
      obtain ⟨n, hn, rfl⟩ := List.mem_map.mp hi
      exact ⟨log_small (small r hr n hn), hR'' _⟩
    · have e1 : ((intL r).map D.int).map strI = (r.map numT).map D.str := by
        unfold intL; rw [List.map_map, List.map_map, List.map_map]; rfl
      have e2 : (((intL r).map D.int).map strJ) = r.map numT := by
        unfold intL; rw [List.map_map, List.map_map]; rfl
      refine ⟨r.map numT, ?_, ?_, ?_⟩
      · show strsD (((intL r).map D.int).map _) = _
        rw [e1]; exact strsD_map _
      · have h1 := sum_le (k := 10) (ys := r.map numT) fun y hy => by
          obtain ⟨n, hn, rfl⟩ := List.mem_map.mp hy; exact numT_len (small r hr n hn)
        rw [List.length_map] at h1 ⊢
        have := hl2 r hr
        have e : (" " : Str).length = 1 := by decide +kernel
        rw [e]; omega
      · show R' (.str (Txt.join sp (r.map numT))) false _
        have : joinR (.tup ((intL r).map D.int)) = .str (Txt.join sp (r.map numT)) := by
          show D.str (Txt.join sp (((intL r).map D.int).map strJ)) = _
          rw [e2]
        rw [← this]; exact hR' _
  · rw [e0]
    have e3 : (rs.map fun r => D.tup ((intL r).map D.int)).map joinR = (rs.map rowT).map D.str := by
      rw [List.map_map, List.map_map]
      refine mapE fun r hr => ?_
      show D.str (Txt.join sp (((intL r).map D.int).map strJ)) = .str (rowT r)
      have e2 : (((intL r).map D.int).map strJ) = r.map numT := by
        unfold intL; rw [List.map_map, List.map_map]; rfl
      rw [e2]; rfl
    rw [e3]
    refine ⟨rs.map rowT, strsD_map _, ?_, hR⟩
    have h1 := sum_le (k := 660) (ys := rs.map rowT) fun y hy => by
      obtain ⟨r, hr, rfl⟩ := List.mem_map.mp hy
      have := rowT_len (small r hr)
      have := hl2 r hr
      omega
    rw [List.length_map] at h1 ⊢
    have e : (" / " : Str).length = 3 := by decide +kernel
    rw [e]; omega
theorem d_text_put {a : Str} {k : Nat} {p : Int} {rs : List (List Nat)} {R : D → Bool → Prop} {E : Nat → List D → Prop} (ha : a = wPut ∨ a = wTurn) (hp : p ≤ 97) (hk : 1 ≤ k) (hk3 : k ≤ 3) (hr : Rows p k rs) (hR : R (.str (a ++ sp ++ rowsT rs)) false) : Fdeed_text [.tup [.str a, tabD p k k (rs.map intL)]] R E := by
  refine ⟨rfl, d_is_deed (ok_pt ha) rfl ?_⟩
  rw [deed_put ha]
  refine ⟨_, rfl, ?_⟩
  refine ⟨ok_pt ha, by decide +kernel, ?_⟩
  rw [k_pt ha]
  refine ⟨_, _, rfl, f4_t, _, _, rfl, f4_w, rfl, rfl, ?_⟩
  have ek : deq (D.int k) (.int k) = true := by simp [deq]
  show (match !deq (D.int k) (.int k) with | true => _ | false => _)
  rw [ek]
  refine ⟨_, _, rfl, f4_w, rfl, d_is_between rfl ?_⟩
  have b : betB (.int k) 1 3 = true := by show (decide ((1 : Int) ≤ k) && decide ((k : Int) ≤ 3)) = true; simp; omega
  show (match !betB (.int k) 1 3 with | true => _ | false => _)
  rw [b]
  have la : a.length ≤ 4 := by rcases ha with rfl | rfl <;> decide +kernel
  have e1 : (" " : Str).length = 1 := by decide +kernel
  refine ⟨?_, rfl, ?_⟩
  · rw [e1]; omega
  · refine d_lines (fun r h n hn => ?_) ?_ ?_ ?_
    · have := hr.low r h n hn; exact ⟨by omega, by omega⟩
    · rw [hr.len]; omega
    · intro r h; rw [hr.wid r h]; omega
    · refine ⟨?_, hR⟩
      have := hr.tlen hp hk3
      have e2 : (a ++ (" " : Str)).length = a.length + 1 := by rw [len_tl, tl_append, List.length_append, ← len_tl, ← len_tl, e1]
      show (a ++ (" " : Str)).length + (rowsT rs).length ≤ 16777216
      rw [e2]; omega
theorem d_text_tab {a : Str} {p t w : Int} {ls : List (List Int)} {R : D → Bool → Prop} {E : Nat → List D → Prop} (ha : a = wPut ∨ a = wTurn) (h : t = w → ¬ (1 ≤ w ∧ w ≤ 3)) (hE : E 11 []) : Fdeed_text [.tup [.str a, tabD p t w ls]] R E := by
  refine ⟨rfl, d_is_deed (ok_pt ha) rfl ?_⟩
  rw [deed_put ha]
  refine ⟨_, rfl, ?_⟩
  refine ⟨ok_pt ha, by decide +kernel, ?_⟩
  rw [k_pt ha]
  refine ⟨_, _, rfl, f4_t, _, _, rfl, f4_w, rfl, rfl, ?_⟩
  show (match !deq (D.int t) (.int w) with | true => _ | false => _)
  by_cases e : t = w
  · have ek : deq (D.int t) (.int w) = true := by subst e; simp [deq]
    rw [ek]
    refine ⟨_, _, rfl, f4_w, rfl, d_is_between rfl ?_⟩
    have b : betB (.int w) 1 3 = false := by
      show (decide ((1 : Int) ≤ w) && decide (w ≤ 3)) = false
      rw [← Bool.not_eq_true, Bool.and_eq_true, decide_eq_true_eq, decide_eq_true_eq]; exact h e
    show (match !betB (.int w) 1 3 with | true => _ | false => _)
    rw [b]
    exact hE
  · have ek : deq (D.int t) (.int w) = false := by simp [deq]; exact e
    rw [ek]
    exact hE
end Lk97

set_option Elab.async false
set_option linter.all false
set_option maxRecDepth 100000
set_option maxHeartbeats 4000000
namespace Lk97
open PySem PySem.Spec PyProof.Rows L2 PD Tx TL
/-! ### reading numbers -/
def numD : Option Int → D
  | some i => .int i
  | none => .non
theorem numF_no {z : Str} {lo hi : Int} (h : ¬ Canon (tl z)) : numF z lo hi = none := by
  unfold numF
  rw [if_neg fun e => h (canonB_iff.mp e)]
def digB (x : Str) : Bool := !(Builtin.Str.occurrences ("0123456789" : Str) x 0 ("0123456789" : Str).length 1).isEmpty
theorem tl_dig : tl ("0123456789" : Str) = [48, 49, 50, 51, 52, 53, 54, 55, 56, 57] := by decide +kernel
theorem digB_one (c : Nat) : digB ⟨#[c]⟩ = true ↔ 48 ≤ c ∧ c ≤ 57 := by
  unfold digB
  rw [StrLaws.found_one, decide_eq_true_eq]
  show c ∈ tl ("0123456789" : Str) ↔ _
  rw [tl_dig]
  simp only [List.mem_cons, List.not_mem_nil, or_false]
  omega
theorem tl_zero : tl ("0" : Str) = [48] := by decide +kernel
def digD : D → D
  | .str x => .bl (digB x)
  | d => d
theorem d_number {z : Str} {lo hi : Int} {R : D → Bool → Prop} {E : Nat → List D → Prop} (hz : z.length ≤ 16777216) (hR : R (numD (numF z lo hi)) false) : Fnumber_of_text [.str z, .int lo, .int hi] R E := by
  have lz := len_tl z
  refine ⟨_, rfl, _, rfl, hz, ?_⟩
  show (match D.bl (decide ((1 : Int) ≤ (z.length : Nat))) with | .bl true => _ | .bl false => _ | _ => _)
  by_cases h1 : (1 : Int) ≤ (z.length : Nat)
  case neg =>
    rw [decide_eq_false h1]
    rw [numF_no fun c => h1 (by have := c.pos; omega)] at hR
    exact hR
  rw [decide_eq_true h1]
  show (match !decide (((z.length : Nat) : Int) ≤ 10) with | true => _ | false => _)
  by_cases h2 : ((z.length : Nat) : Int) ≤ 10
  case neg =>
    rw [decide_eq_false h2]
    rw [numF_no fun c => h2 (by have := c.few; omega)] at hR
    exact hR
  rw [decide_eq_true h2]
  refine lc_map (items := (tl z).map fun c => .str ⟨#[c]⟩) (δ1 := [.fro (.str z), .fro (.int lo), .fro (.int hi), .no, .no]) digD (fun R h => h) (by rw [List.length_map]; omega) (fun d hd => ⟨_, rfl, rfl, fun R' hR' => ?_⟩) ?_
  · obtain ⟨c, _, rfl⟩ := List.mem_map.mp hd
    show R' (.bl (false != digB ⟨#[c]⟩)) false _
    rw [Bool.false_bne]; exact hR' _
  have eb : ((tl z).map fun c => D.str ⟨#[c]⟩).map digD = ((tl z).map fun c => digB ⟨#[c]⟩).map D.bl := by
    rw [List.map_map, List.map_map]; rfl
  rw [eb]
  refine ⟨_, boolsD_map _, ?_⟩
  show (match !(((tl z).map fun c => digB ⟨#[c]⟩).all id) with | true => _ | false => _)
  cases hd : ((tl z).map fun c => digB ⟨#[c]⟩).all id with
  | false =>
    rw [numF_no fun c => ?_] at hR
    · exact hR
    · rw [← Bool.not_eq_true, List.all_eq_true] at hd
      refine hd fun b hb => ?_
      obtain ⟨k, hk, rfl⟩ := List.mem_map.mp hb
      exact (digB_one k).mpr (c.dig k hk)
  | true =>
    have dig : NumText.AllDigits (tl z) := fun k hk => (digB_one k).mp (List.all_eq_true.mp hd _ (List.mem_map.mpr ⟨k, hk, rfl⟩))
    -- the rest
    have rest : (¬ (1 < (tl z).length ∧ (tl z)[0]? = some 48)) → (wSeq (wSet 3 (wCB intSF (wCons (wVar 0) wNil))) (wRet (wIf (wB (wChain leF leF (wVar 1) (wVar 3) (wVar 2))) (wVar 3) (wC .non)))) ⟨fun _ => R .non false, R, fun _ => False, fun _ => False⟩ [.fro (.str z), .fro (.int lo), .fro (.int hi), .no, .no] := fun hh => by
      have can : Canon (tl z) := ⟨by omega, by omega, dig, fun a b => hh ⟨a, b⟩⟩
      refine ⟨_, PySem.intText_digits dig (fun e => by
        have : (tl z).length = 0 := by
          show z.cps.toList.length = 0
          rw [e]; rfl
        omega) (by omega), by omega, ?_⟩
      unfold numF at hR
      rw [if_pos (canonB_iff.mpr can)] at hR
      show (match D.bl (decide (lo ≤ (NumText.digitsVal (tl z) : Int))) with | .bl true => _ | .bl false => _ | _ => _)
      by_cases c1 : lo ≤ (NumText.digitsVal (tl z) : Int)
      · rw [decide_eq_true c1]
        show (match decide ((NumText.digitsVal (tl z) : Int) ≤ hi) with | true => _ | false => _)
        by_cases c2 : (NumText.digitsVal (tl z) : Int) ≤ hi
        · rw [decide_eq_true c2]
          rw [if_pos ⟨c1, c2⟩] at hR
          exact hR
        · rw [decide_eq_false c2]
          rw [if_neg fun c => c2 c.2] at hR
          exact hR
      · rw [decide_eq_false c1]
        rw [if_neg fun c => c1 c.1] at hR
        exact hR
    refine ⟨_, rfl, _, rfl, hz, ?_⟩
    show (match decide ((1 : Int) < (z.length : Nat)) with | true => _ | false => _)
    by_cases h3 : (1 : Int) < (z.length : Nat)
    · rw [decide_eq_true h3]
      obtain ⟨c, r, e⟩ : ∃ c r, tl z = c :: r := by
        cases q : tl z with
        | nil => rw [q] at lz; simp at lz; omega
        | cons c r => exact ⟨c, r, rfl⟩
      refine ⟨_, rfl, _, rfl, hz, ?_⟩
      show (match atI (tl z) 0 with | some k => _ | none => False)
      have e0 : atI (tl z) 0 = some c := by rw [e]; exact atI_nat (xs := c :: r) (j := 0) rfl
      rw [e0]
      have hc := dig c (by rw [e]; simp)
      refine ⟨?_, by decide +kernel, ?_⟩
      · show (#[c] : Array Nat).all (· < 0x110000) = true
        simp; omega
      · show (match (⟨#[c]⟩ : Str) == ("0" : Str) with | true => _ | false => _)
        cases q : (⟨#[c]⟩ : Str) == ("0" : Str) with
        | true =>
          have q := eq_of_beq q
          have q : tl (⟨#[c]⟩ : Str) = tl ("0" : Str) := congrArg tl q
          rw [tl_zero] at q
          have q : c = 48 := by injection q
          rw [numF_no fun cc => cc.head (by omega) (by rw [e, q]; rfl)] at hR
          exact hR
        | false =>
          refine rest fun hh => ?_
          have h0 := hh.2
          rw [e] at h0
          have h0 : c = 48 := by simpa using h0
          subst h0
          exact absurd q (by decide +kernel)
    · rw [decide_eq_false h3]
      exact rest fun hh => h3 (by have := hh.1; omega)
/-! ### lists of numbers -/
theorem nums_all {os : List (Option Int)} : match allSome os with
    | none => ((os.map numD).any fun y => deq y .non) = true
    | some l => os.map numD = l.map D.int ∧ ((os.map numD).any fun y => deq y .non) = false := by
  cases e : allSome os with
  | none =>
    show ((os.map numD).any fun y => deq y .non) = true
    rw [List.any_eq_true]
    exact ⟨.non, List.mem_map.mpr ⟨none, allSome_none e, rfl⟩, rfl⟩
  | some l =>
    have e := allSome_iff.mp e
    subst e
    have h : (l.map some).map numD = l.map D.int := by rw [List.map_map]; rfl
    refine ⟨h, ?_⟩
    show (((l.map some).map numD).any fun y => deq y .non) = false
    rw [h, List.any_eq_false]
    intro y hy
    obtain ⟨i, _, rfl⟩ := List.mem_map.mp hy
    simp [deq]
def numsD : Option (List Int) → D
  | some l => .lst (l.map D.int)
  | none => .non
def numFD (lo hi : Int) : D → D
  | .str x => numD (numF x lo hi)
  | d => d
theorem shp_numD (o : Option Int) (k : Nat) : shp (k + 1) (numD o) = true := by cases o <;> rfl
theorem d_numbers {t : Str} {lo hi : Int} {R : D → Bool → Prop} {E : Nat → List D → Prop} (ht : t.length ≤ 1000000) (hR : ∀ o, R (numsD (numsF t lo hi)) o) : Fnumbers_of_text [.str t, .int lo, .int hi] R E := by
  have sl1 := split_len (t := t) (y := sp) (by rw [tl_sp]; simp)
  refine lc_map (items := (Txt.split t sp).map D.str) (δ1 := [.fro (.str t), .fro (.int lo), .fro (.int hi), .no, .no]) (numFD lo hi) (fun R h => ⟨⟨_, rfl⟩, by decide +kernel, by omega, h⟩) (by rw [List.length_map]; omega) (fun d hd => ⟨_, rfl, rfl, fun R' hR' => ?_⟩) ?_
  · obtain ⟨x, hx, rfl⟩ := List.mem_map.mp hd
    have := split_mem hx
    exact ⟨rfl, d_number (by omega) (hR' _)⟩
  have e : ((Txt.split t sp).map D.str).map (numFD lo hi) = ((Txt.split t sp).map fun w => numF w lo hi).map numD := by
    rw [List.map_map, List.map_map]; rfl
  rw [e]
  unfold numsF at hR
  generalize ((Txt.split t sp).map fun w => numF w lo hi) = os at hR
  refine ⟨_, rfl, _, rfl, rfl, ?_, ?_⟩
  · show (os.map numD).all (shp 59) = true
    rw [List.all_eq_true]
    intro y hy
    obtain ⟨o, _, rfl⟩ := List.mem_map.mp hy
    exact shp_numD o 58
  · show (match false != ((os.map numD).any fun y => deq y .non) with | true => _ | false => _)
    have key := nums_all (os := os)
    rw [Bool.false_bne]
    cases q : allSome os with
    | none =>
      rw [q] at key hR
      rw [show ((os.map numD).any fun y => deq y .non) = true from key]
      exact hR _
    | some l =>
      rw [q] at key hR
      rw [key.2]
      refine ⟨rfl, ?_⟩
      show R (.lst (os.map numD)) false
      rw [key.1]
      exact hR _
/-! ### tables of lines -/
def rowsD (p w : Int) : Option (List (List Int)) → D
  | some ls => tabD p w w ls
  | none => .non
def numsFD (p : Int) : D → D
  | .str x => numsD (numsF x 0 (p - 1))
  | d => d
def badW (w : Nat) : D → D
  | .lst xs => .bl (!deq (D.int (xs.length : Nat)) (.int w))
  | _ => .bl true
def badO (w : Nat) : Option (List Int) → Bool
  | some l => !decide (l.length = w)
  | none => true
def pickR (w : Nat) : Option (List (List Int)) → Option (List (List Int))
  | some ls => if ls.length = w ∧ ∀ l ∈ ls, l.length = w then some ls else none
  | none => none
theorem rowsF_pick {p : Int} {w : Nat} {t : Str} : rowsF p w t = pickR w (allSome ((Txt.split t sl).map fun u => numsF u 0 (p - 1))) := by
  unfold rowsF pickR
  cases allSome ((Txt.split t sl).map fun u => numsF u 0 (p - 1)) <;> rfl
theorem primes_in {p : Int} (h : primeB (.int p) = true) : 0 < p ∧ p ≤ 97 := by
  have h : ((primesL.map D.int).any fun y => deq y (.int p)) = true := h
  rw [List.any_eq_true] at h
  obtain ⟨y, hy, e⟩ := h
  obtain ⟨q, hq, rfl⟩ := List.mem_map.mp hy
  have e : q = p := by simpa [deq] using e
  subst e
  have : ∀ q ∈ primesL, 0 < q ∧ q ≤ 97 := by decide
  exact this q hq
theorem d_table_of {p : Int} {w : Nat} {t : Str} {R : D → Bool → Prop} {E : Nat → List D → Prop} (hp : primeB (.int p) = true) (hw3 : w ≤ 3) (ht : t.length ≤ 1000000) (hR : ∀ o, R (rowsD p w (rowsF p w t)) o) : Ftable_of_lines [.int p, .int w, .str t] R E := by
  have sl1 := split_len (t := t) (y := sl) (by rw [tl_sl]; simp)
  obtain ⟨p0, p97⟩ := primes_in hp
  refine lc_map (items := (Txt.split t sl).map D.str) (δ1 := [.fro (.int p), .fro (.int w), .fro (.str t), .no, .no, .no]) (numsFD p) (fun R h => ⟨⟨_, rfl⟩, by decide +kernel, by omega, h⟩) (by rw [List.length_map]; omega) (fun d hd => ⟨_, rfl, rfl, fun R' hR' => ?_⟩) ?_
  · obtain ⟨x, hx, rfl⟩ := List.mem_map.mp hd
    have := split_mem hx
    exact ⟨rfl, d_numbers (by omega) hR'⟩
  have e : ((Txt.split t sl).map D.str).map (numsFD p) = ((Txt.split t sl).map fun u => numsF u 0 (p - 1)).map numsD := by
    rw [List.map_map, List.map_map]; rfl
  rw [e]
  rw [rowsF_pick] at hR
  have lo : ((Txt.split t sl).map fun u => numsF u 0 (p - 1)).length ≤ 1000001 := by rw [List.length_map]; omega
  generalize ((Txt.split t sl).map fun u => numsF u 0 (p - 1)) = os at hR lo
  refine ⟨_, rfl, _, rfl, rfl, rfl, ?_⟩
  show (match !deq (D.int ((os.map numsD).length : Nat)) (.int w) with | true => _ | false => _)
  by_cases hl : os.length = w
  case neg =>
    have ek : deq (D.int ((os.map numsD).length : Nat)) (.int w) = false := by rw [List.length_map]; simp [deq]; omega
    rw [ek]
    have : pickR w (allSome os) = none := by
      cases q : allSome os with
      | none => rfl
      | some ls =>
        have q := allSome_iff.mp q
        exact if_neg fun c => hl (by rw [q, List.length_map]; exact c.1)
    rw [this] at hR
    exact hR _
  have ek : deq (D.int ((os.map numsD).length : Nat)) (.int w) = true := by rw [List.length_map, hl]; simp [deq]
  rw [ek]
  refine lc_map (items := os.map numsD) (δ1 := [.fro (.int p), .fro (.int w), .fro (.str t), .fro (.lst (os.map numsD)), .no, .no]) (badW w) (fun R h => ⟨rfl, h⟩) (by rw [List.length_map]; omega) (fun d hd => ⟨_, rfl, rfl, fun R' hR' => ?_⟩) ?_
  · obtain ⟨o, _, rfl⟩ := List.mem_map.mp hd
    cases o with
    | none => exact hR' _
    | some l => exact ⟨_, rfl, _, rfl, rfl, rfl, hR' _⟩
  have eb : (os.map numsD).map (badW w) = (os.map (badO w)).map D.bl := by
    rw [List.map_map, List.map_map]
    refine mapE fun o _ => ?_
    cases o with
    | none => rfl
    | some l =>
      show D.bl (!deq (D.int ((l.map D.int).length : Nat)) (.int w)) = .bl (!decide (l.length = w))
      have : deq (D.int ((l.map D.int).length : Nat)) (.int w) = decide (l.length = w) := by
        rw [List.length_map, Bool.eq_iff_iff]; simp [deq]; omega
      rw [this]
  rw [eb]
  refine ⟨_, boolsD_map _, ?_⟩
  show (match ((os.map (badO w)).any id) with | true => _ | false => _)
  cases q : allSome os with
  | none =>
    have : ((os.map (badO w)).any id) = true := by
      rw [List.any_eq_true]
      exact ⟨true, List.mem_map.mpr ⟨none, allSome_none q, rfl⟩, rfl⟩
    rw [this]
    rw [q] at hR
    exact hR _
  | some ls =>
    rw [q] at hR
    have q := allSome_iff.mp q
    subst q
    have ll : ls.length = w := by rw [← hl, List.length_map]
    by_cases hwid : ∀ l ∈ ls, l.length = w
    · have : (((ls.map some).map (badO w)).any id) = false := by
        rw [List.any_eq_false]
        intro b hb
        rw [List.map_map] at hb
        obtain ⟨l, hl', rfl⟩ := List.mem_map.mp hb
        show ¬ (!decide (l.length = w)) = true
        rw [decide_eq_true (hwid l hl')]; decide
      rw [this]
      have hR : ∀ o, R (tabD p w w ls) o := fun o => by
        have := hR o
        rw [show pickR w (some ls) = some ls from if_pos ⟨ll, hwid⟩] at this
        exact this
      refine ⟨rfl, ?_⟩
      have em : (ls.map some).map numsD = ls.map rowD := by rw [List.map_map]; rfl
      show FTable [.int p, .int w, .int w, .lst ((ls.map some).map numsD)] _ _
      rw [em]
      exact d_Table hp p0 (by rw [ll]) (fun l hl' => by rw [hwid l hl']) (by omega) (by omega) (by omega) (hR _)
    · have : (((ls.map some).map (badO w)).any id) = true := by
        have ⟨l, hl', hn⟩ : ∃ l ∈ ls, l.length ≠ w := by
          refine Classical.byContradiction fun c => hwid fun l hl' => Classical.byContradiction fun z => c ⟨l, hl', z⟩
        rw [List.any_eq_true]
        refine ⟨true, List.mem_map.mpr ⟨some l, List.mem_map.mpr ⟨l, hl', rfl⟩, ?_⟩, rfl⟩
        show (!decide (l.length = w)) = true
        rw [decide_eq_false hn]; rfl
      rw [this]
      have hR : ∀ o, R .non o := fun o => by
        have := hR o
        rw [show pickR w (some ls) = none from if_neg fun c => hwid c.2] at this
        exact this
      exact hR _
/-! ### deeds -/
theorem deq_eq {a b : Str} (h : a = b) : deq (D.str a) (.str b) = true := by subst h; simp [deq]
theorem deq_ne {a b : Str} (h : a ≠ b) : deq (D.str a) (.str b) = false := by simp [deq]; exact h
theorem foundD_shape {p : Int} {w : Nat} {t : Str} : foundD p w t = .non ∨ ∃ a b, foundD p w t = .tup [a, b] := by
  unfold foundD
  split
  · split
    · exact .inr ⟨_, _, rfl⟩
    · exact .inl rfl
  · split
    · split
      · exact .inr ⟨_, _, rfl⟩
      · exact .inl rfl
    · exact .inl rfl
theorem two_le {a b : D} : [a, b].length ≤ 16777216 := by show 2 ≤ 16777216; decide
theorem d_found {p : Int} {w : Nat} {t : Str} {R : D → Bool → Prop} {E : Nat → List D → Prop} (hp : primeB (.int p) = true) (hw3 : w ≤ 3) (ht : t.length ≤ 999999) (oka : PyData.strOk (Txt.partition t sp).1 = true) (hR : R (foundD p w t) false) : Ffound_deed [.int p, .int w, .str t] R E := by
  have ps := part_sub (t := t)
  have lb : (Txt.partition t sp).2.2.length ≤ t.length := by
    rw [len_tl t, ps, List.length_append, List.length_append, ← len_tl (Txt.partition t sp).2.2]; omega
  unfold foundD at hR
  refine ⟨⟨_, rfl⟩, by decide +kernel, by omega, ?_⟩
  refine ⟨_, rfl, ?_⟩
  show (wSeq _ _) _ [.fro (.int p), .fro (.int w), .fro (.str t), .fro (.str (Txt.partition t sp).1), .fro (.str (Txt.partition t sp).2.1), .fro (.str (Txt.partition t sp).2.2), .no]
  generalize (Txt.partition t sp).1 = a at hR oka
  generalize (Txt.partition t sp).2.2 = b at hR lb
  generalize (Txt.partition t sp).2.1 = s
  refine ⟨oka, by decide +kernel, ?_⟩
  show (match deq (.str a) (.str wTake) with | true => _ | false => _)
  by_cases h1 : a = wTake
  · rw [deq_eq h1]
    rw [if_pos h1] at hR
    subst h1
    refine ⟨rfl, d_number (by omega) ?_⟩
    cases q : numF b 0 1000000000 with
    | none => rw [q] at hR; exact hR
    | some i => rw [q] at hR; exact ⟨two_le, hR⟩
  · rw [deq_ne h1]
    rw [if_neg h1] at hR
    have tab : (a = wPut ∨ a = wTurn) → Ftable_of_lines [.int p, .int w, .str b] (fun d o => (wRet (wIf (wB (wBin (isNF false) (wVar 6) (wC .non))) (wC .non) (wTup (wCons (wVar 3) (wCons (wVar 6) wNil))))) ⟨fun _ => R .non false, R, fun _ => False, fun _ => False⟩ ([.fro (.int p), .fro (.int w), .fro (.str t), .fro (.str a), .fro (.str s), .fro (.str b), slOf d o])) E := fun ha => by
      rw [if_pos ha] at hR
      refine d_table_of hp hw3 (by omega) fun o => ?_
      cases q : rowsF p w b with
      | none => rw [q] at hR; cases o with
        | false => exact hR
        | true => exact ⟨rfl, hR⟩
      | some ls => rw [q] at hR; cases o with
        | false => exact ⟨two_le, hR⟩
        | true => exact ⟨rfl, two_le, hR⟩
    refine ⟨oka, by decide +kernel, ?_⟩
    show (match deq (.str a) (.str wPut) with | true => _ | false => _)
    by_cases h2 : a = wPut
    · rw [deq_eq h2]
      exact ⟨rfl, tab (.inl h2)⟩
    · rw [deq_ne h2]
      refine ⟨oka, by decide +kernel, ?_⟩
      show (match deq (.str a) (.str wTurn) with | true => _ | false => _)
      by_cases h3 : a = wTurn
      · rw [deq_eq h3]
        exact ⟨rfl, tab (.inr h3)⟩
      · rw [deq_ne h3]
        rw [if_neg fun c => c.elim h2 h3] at hR
        exact hR
/-- what deed_of_text reads of a value -/
def readD (p : Int) (w : Nat) : D → D
  | .str t => foundD p w t
  | _ => .non
def okT : D → Bool
  | .str t => decide (t.length ≤ 999999) && PyData.strOk (Txt.partition t sp).1
  | _ => true
theorem part_ok {t : Str} (hlow : ∀ c ∈ tl t, c < 0x110000) : PyData.strOk (Txt.partition t sp).1 = true := by
  have ps := part_sub (t := t)
  show (Txt.partition t sp).1.cps.all _ = true
  rw [Array.all_eq_true_iff_forall_mem]
  intro c hc
  have := hlow c (by rw [ps]; exact List.mem_append.mpr (.inl (Array.mem_toList_iff.mpr hc)))
  simpa using this
theorem d_deed_of {p : Int} {w : Nat} {d : D} {R : D → Bool → Prop} {E : Nat → List D → Prop} (hp : primeB (.int p) = true) (hw : 1 ≤ w) (hw3 : w ≤ 3) (hd : tyB d = true) (ho : okT d = true) (h0 : readD p w d = .non → E 17 [.int 0]) (h1 : readD p w d ≠ .non → R (readD p w d) false) : Fdeed_of_text [.int p, .int w, d] R E := by
  refine ⟨rfl, d_need_prime rfl (fun _ => ?_) fun e => by rw [hp] at e; cases e⟩
  refine ⟨rfl, d_is_between rfl ?_⟩
  have b : betB (.int w) 1 3 = true := by show (decide ((1 : Int) ≤ w) && decide ((w : Int) ≤ 3)) = true; simp; omega
  show (match !betB (.int w) 1 3 with | true => _ | false => _)
  rw [b]
  have no : ∀ d : D, strB d = false → readD p w d = .non := fun d h => by cases d <;> first | rfl | cases h
  cases d <;> first | (cases hd; done) | exact ⟨by decide, false, rfl, h0 rfl⟩ | skip
  rename_i t
  obtain ⟨o1, o2⟩ := He.ba (show (decide (t.length ≤ 999999) && PyData.strOk (Txt.partition t sp).1) = true from ho)
  refine ⟨by decide, true, rfl, rfl, d_found hp hw3 (of_decide_eq_true o1) o2 ?_⟩
  have h0 : foundD p w t = .non → E 17 [.int 0] := h0
  have h1 : foundD p w t ≠ .non → R (foundD p w t) false := h1
  rcases foundD_shape (p := p) (w := w) (t := t) with e | ⟨x, y, e⟩
  · rw [e]; exact h0 e
  · rw [e] at h1 ⊢; exact h1 (by intro z; cases z)
theorem d_deed_wide {p : Int} {d x : D} {R : D → Bool → Prop} {E : Nat → List D → Prop} (hp : primeB (.int p) = true) (hd : tyB d = true) (hb : betB d 1 3 = false) (hE : E 3 [.str "wide"]) : Fdeed_of_text [.int p, d, x] R E := by
  refine ⟨rfl, d_need_prime rfl (fun _ => ?_) fun e => by rw [hp] at e; cases e⟩
  refine ⟨rfl, d_is_between hd ?_⟩
  show (match !betB d 1 3 with | true => _ | false => _)
  rw [hb]; exact hE
theorem d_deed_prime {d e x : D} {R : D → Bool → Prop} {E : Nat → List D → Prop} (hd : tyB d = true) (hp : primeB d = false) (hE : E 1 []) : Fdeed_of_text [d, e, x] R E :=
  ⟨rfl, d_need_prime hd (fun h => by rw [hp] at h; cases h) fun _ => hE⟩
end Lk97

set_option Elab.async false
set_option linter.all false
set_option maxRecDepth 100000
set_option maxHeartbeats 4000000
namespace Lk97
open PySem PySem.Spec PyProof.Rows L2 PD Tx TL
/-! lines that are wrong -/
def unitN (n : Nat) : List (List Nat) := (List.range n).map fun i => (List.range n).map fun j => if i == j then 1 else 0
def uT (n : Nat) : Str := rowsT (unitN n)
def wr1 : List D := [.non, .int 0, .tup [], .lst [.str "take 1"], .str "", .str "take", .str "take ", .str "take 01", .str "take -1", .str "take 1000000001", .str "take 1 ", .str "Take 1", .str " take 1"]
def wr2 (u : Str) : List D := [.str "put", .str "put ", .str (("put  " : Str) ++ u), .str (("put " : Str) ++ u ++ (" " : Str)), .str (("put " : Str) ++ u ++ ("\n" : Str)), .str (("give " : Str) ++ u)]
def wr3 (u f : Str) : List D := [.str (("put " : Str) ++ Txt.replace u ("1" : Str) f), .str (("put " : Str) ++ Txt.replace u ("1" : Str) ("01" : Str)), .str (("put " : Str) ++ u ++ (" / 1" : Str))]
def long1 (u : Str) : Str := ("turn " : Str) ++ Txt.replace u ("1" : Str) (mulS "1" 5000)
def long2 : Str := ("take " : Str) ++ mulS "1" 5000
def wr4 : List D := [.str "put None", .str "turn 1 1 1 1", .str "undo"]
def wr5 (u v : Str) : List D := [.str (("put " : Str) ++ v), .str (("put " : Str) ++ Txt.replace u (" / " : Str) ("/" : Str) ++ (" /" : Str))]
def wrongL (u v f : Str) : List D := wr1 ++ wr2 u ++ wr3 u f ++ (.str (long1 u) :: .str long2 :: wr4) ++ wr5 u v
def nonB : D → Bool
  | .non => true
  | _ => false
theorem nonB_eq {d : D} (h : nonB d = true) : d = .non := by cases d <;> first | rfl | cases h
def wrongB (p : Int) (w : Nat) (d : D) : Bool := tyB d && (okT d && nonB (readD p w d))
def shortL (p : Nat) (w : Nat) : List D := wr1 ++ wr2 (uT w) ++ wr3 (uT w) (numT p) ++ wr4 ++ wr5 (uT w) (uT (w % 3 + 1))
def fields : List Nat := [2, 3, 5, 7, 11, 13, 97]
theorem short_wrong : (fields.all fun p => [1, 2, 3].all fun w => (shortL p w).all (wrongB (p : Nat) w)) = true := by decide +kernel
theorem replace_grows (x y z : Str) (h : ((Builtin.Str.occurrences x y 0 x.length (x.length + 1)).isEmpty || (y.length == 0 && z.length == 0)) = false) : z.length ≤ (Txt.replace x y z).length := by
  have h1 : (Builtin.Str.occurrences x y 0 x.length (x.length + 1)).length ≠ 0 := fun e => by
    rw [List.length_eq_zero_iff.mp e] at h; simp at h
  unfold Txt.replace
  rw [if_neg (by rw [h]; exact Bool.false_ne_true), size_glued, length_partsBetween, Nat.add_sub_cancel]
  obtain ⟨n, hn⟩ := Nat.exists_eq_succ_of_ne_zero h1
  rw [hn, Nat.succ_mul]; omega
theorem unit_occ : ([1, 2, 3].all fun w => !((Builtin.Str.occurrences (uT w) ("1" : Str) 0 (uT w).length ((uT w).length + 1)).isEmpty || (("1" : Str).length == 0 && (mulS "1" 5000).length == 0))) = true := by
  have e : (mulS "1" 5000).length = 5000 := by rw [mulS_len]; decide +kernel
  rw [e]; decide +kernel
theorem unit_len : ([1, 2, 3].all fun w => decide ((uT w).length ≤ 21)) = true := by decide +kernel
theorem mul5 : (mulS "1" 5000).length = 5000 := by rw [mulS_len]; decide +kernel
theorem wide_in {w : Nat} (h1 : 1 ≤ w) (h3 : w ≤ 3) : w ∈ [1, 2, 3] := by simp; omega
theorem uT_len {w : Nat} (h1 : 1 ≤ w) (h3 : w ≤ 3) : (uT w).length ≤ 21 := of_decide_eq_true (List.all_eq_true.mp unit_len w (wide_in h1 h3))
theorem long1_len {w : Nat} (h1 : 1 ≤ w) (h3 : w ≤ 3) : 5000 ≤ (long1 (uT w)).length ∧ (long1 (uT w)).length ≤ 200000 := by
  have a := replace_grows (uT w) ("1" : Str) (mulS "1" 5000) ((Bool.not_eq_true' _).mp (List.all_eq_true.mp unit_occ w (wide_in h1 h3)))
  have b := TK.replace_len (uT w) ("1" : Str) (mulS "1" 5000)
  have c := uT_len h1 h3
  rw [mul5] at a b
  have e : (long1 (uT w)).length = 5 + (Txt.replace (uT w) ("1" : Str) (mulS "1" 5000)).length := by
    unfold long1
    rw [len_tl, tl_append, List.length_append, ← len_tl, ← len_tl]
    have : ("turn " : Str).length = 5 := by decide +kernel
    rw [this]
  have : ((uT w).length + 1) * 5000 ≤ 22 * 5000 := Nat.mul_le_mul_right _ (by omega)
  omega
theorem long2_len : long2.length = 5005 := by
  unfold long2
  rw [len_tl, tl_append, List.length_append, ← len_tl, ← len_tl, mul5]
  have : ("take " : Str).length = 5 := by decide +kernel
  rw [this]
theorem turn_sp : ("turn " : Str) = wTurn ++ sp := by decide +kernel
theorem long1_ok {w : Nat} (h1 : 1 ≤ w) (h3 : w ≤ 3) : okT (.str (long1 (uT w))) = true := by
  have := long1_len h1 h3
  show (decide ((long1 (uT w)).length ≤ 999999) && PyData.strOk (Txt.partition (long1 (uT w)) sp).1) = true
  rw [decide_eq_true (by omega), Bool.true_and]
  unfold long1
  rw [turn_sp, partition_app tl_sp (by decide +kernel)]
  exact ok_turn
theorem long2_ok : okT (.str long2) = true := by
  show (decide (long2.length ≤ 999999) && PyData.strOk (Txt.partition long2 sp).1) = true
  rw [long2_len]
  unfold long2
  rw [take_sp, partition_app tl_sp (by decide +kernel)]
  show (true && PyData.strOk wTake) = true
  rw [ok_take]; rfl
/-- none of them is read -/
theorem wrong_all {p w : Nat} (hp : p ∈ fields) (h1 : 1 ≤ w) (h3 : w ≤ 3) : ∀ d ∈ wrongL (uT w) (uT (w % 3 + 1)) (numT p), wrongB p w d = true := by
  have s := List.all_eq_true.mp (List.all_eq_true.mp (List.all_eq_true.mp short_wrong p hp) w (wide_in h1 h3))
  have p97 : p ≤ 97 := by
    have : ∀ p ∈ fields, p ≤ 97 := by decide
    exact this p hp
  intro d hd
  unfold wrongL at hd
  unfold shortL at s
  simp only [List.mem_append, List.mem_cons] at hd s
  rcases hd with (((hd | hd) | hd) | hd) | hd
  · exact s d (by simp [hd])
  · exact s d (by simp [hd])
  · exact s d (by simp [hd])
  · rcases hd with rfl | rfl | hd
    · have := long1_len h1 h3
      show (true && (okT _ && nonB (foundD p w (long1 (uT w))))) = true
      rw [long1_ok h1 h3, found_long (by omega) h1 h3 (by omega)]; rfl
    · show (true && (okT _ && nonB (foundD p w long2))) = true
      rw [long2_ok, found_long (by omega) h1 h3 (by rw [long2_len]; decide)]; rfl
    · exact s d (by simp [hd])
  · exact s d (by simp [hd])
end Lk97

set_option Elab.async false
set_option linter.all false
set_option maxRecDepth 100000
set_option maxHeartbeats 4000000
namespace Lk97
open PySem PySem.Spec PyProof.Rows L2 PD Tx TL
/-! ### the draw -/
theorem d_mixed (ds : List D) (R : D → Bool → Prop) (E : Nat → List D → Prop) (_ : ds.length = 1) (h : mixedF ds R E) : F0_law_mixed ds R E := by
  obtain ⟨e, h⟩ := h
  subst e
  refine ⟨rfl, fun z hz => ⟨z + 1, rfl, by omega, rfl, rfl, fun t ht => ⟨rfl, ?_⟩⟩⟩
  unfold wFor
  refine ⟨by decide, ?_⟩
  refine ⟨fun _ δ => ∃ (f : Int) (a1 a4 a5 : Sl), 0 ≤ f ∧ δ = [.fro .drw, a1, .fro (.int t), .fro (.int f), a4, a5], ⟨0, .no, .no, .no, by decide, rfl⟩, ?_, ?_⟩
  · intro i d δ hi ⟨f, a1, a4, a5, hf, e⟩
    subst e
    have hg : ∃ g : Int, d = .int g ∧ 0 < g ∧ g < 2147483648 := by
      have m := List.mem_of_getElem? hi
      simp only [List.mem_cons, List.not_mem_nil, or_false] at m
      rcases m with rfl | rfl | rfl
      · exact ⟨_, rfl, by decide, by decide⟩
      · exact ⟨_, rfl, by decide, by decide⟩
      · exact ⟨_, rfl, by decide, by decide⟩
    obtain ⟨g, rfl, g0, g1⟩ := hg
    refine ⟨_, rfl, .inr (by decide), ⟨by decide, by decide⟩, g0, ?_⟩
    refine ⟨rfl, fun ns hn hp => ⟨fun _ δ => ∃ (b : Int) (a5 : Sl), 0 ≤ b ∧ b < g ∧ δ = [.fro .drw, .fro (.int g), .fro (.int t), .fro (.int f), .fro (.int b), a5], ⟨_, a5, Int.emod_nonneg _ (by omega), Int.emod_lt_of_pos _ g0, rfl⟩, ?_, ?_⟩⟩
    · intro j d δ hj ⟨b, a5, b0, b1, e⟩
      subst e
      obtain ⟨z, hz, rfl⟩ := List.mem_map.mp (List.mem_of_getElem? hj)
      exact ⟨_, rfl, .inr (by decide), g0, _, _, Int.emod_nonneg _ (by omega), Int.emod_lt_of_pos _ g0, rfl⟩
    · intro δ ⟨b, a5, b0, b1, e⟩
      subst e
      refine ⟨.inr (by decide), ⟨by decide, by decide, by omega⟩, g0, _, _, _, _, ?_, rfl⟩
      have h1 := Int.emod_nonneg (b ^ (5 : Int).toNat) (show g ≠ 0 by omega)
      have h2 : 0 ≤ f * 2147483647 := Int.mul_nonneg hf (by decide)
      omega
  · intro δ ⟨f, a1, a4, a5, hf, e⟩
    subst e
    exact h f hf
theorem d_take (ds : List D) (R : D → Bool → Prop) (E : Nat → List D → Prop) (_ : ds.length = 2) (h : takeF ds R E) : F0_law_take ds R E := by
  obtain ⟨n, e, n0, n1, h⟩ := h
  subst e
  have fin : ∀ z : Int, (wSeq (wSet 2 (wBin modF (wCB intF (wCons (wDg 0) wNil)) (wVar 1))) (wSeq (wDs 0 (wBin fdivF (wCB intF (wCons (wDg 0) wNil)) (wVar 1))) (wRetV 2))) ⟨fun _ => R .non false, R, fun _ => False, fun _ => False⟩ (st0 3 [.drw, .int n]) := fun z => by
    refine ⟨rfl, fun z hz => ⟨n0, rfl, fun y hy => ⟨⟨n0, n1⟩, y / n, rfl, Int.ediv_nonneg hy (by omega), rfl, ?_⟩⟩⟩
    exact h _ (Int.emod_nonneg _ (by omega)) (Int.emod_lt_of_pos _ n0)
  refine ⟨rfl, fun z hz => ⟨rfl, rfl, ?_⟩⟩
  show (match deq (.int z) (.int 0) with | true => _ | false => _)
  cases deq (.int z) (.int 0) with
  | true => exact ⟨rfl, fun y hy => ⟨y, rfl, hy, rfl, fin y⟩, rfl, rfl, fun y hy => ⟨y, rfl, hy, rfl, fin y⟩⟩
  | false => exact fin z
theorem atI_at {α : Type} {xs : List α} {z : Int} (h0 : 0 ≤ z) (h1 : z < xs.length) : ∃ x, atI xs z = some x ∧ x ∈ xs := by
  have hj : z.toNat < xs.length := by omega
  refine ⟨xs[z.toNat], ?_, List.getElem_mem hj⟩
  have k := atI_nat (List.getElem?_eq_getElem hj)
  have e : (z.toNat : Int) = z := by omega
  rw [e] at k
  exact k
theorem d_pick (ds : List D) (R : D → Bool → Prop) (E : Nat → List D → Prop) (hl : ds.length = 2) (h : pickF ds R E) : F0_law_pick ds R E := by
  match ds, hl with
  | [x, d], _ =>
    have hx : x = .drw := by
      unfold pickF at h
      split at h
      · rename_i z e; injection e
      · rename_i d' _ e; injection e
      · exact h.elim
    subst hx
    by_cases hs : ∃ z, d = .str z
    · obtain ⟨z, rfl⟩ := hs
      obtain ⟨p1, p2, h⟩ := h
      refine ⟨_, rfl, _, rfl, _, rfl, ⟨by omega, rfl, ⟨z.length, rfl, by omega, by omega, fun y y0 y1 => ⟨_, rfl, by omega, ?_⟩⟩⟩⟩
      obtain ⟨k, e, hk⟩ := atI_at (xs := z.cps.toList) y0 (by rw [Array.length_toList]; exact y1)
      show (match atI z.cps.toList y with | some k => _ | none => _)
      rw [e]
      exact h k hk
    · have h' : (match seqD d with
        | some xs => 0 < xs.length ∧ xs.length ≤ 1000000 ∧ ∀ x, x ∈ xs → R x false
        | none => False) := by
        cases d <;> first | exact h | exact (hs ⟨_, rfl⟩).elim
      cases q : seqD d with
      | none => rw [q] at h'; exact h'.elim
      | some xs =>
        rw [q] at h'
        obtain ⟨p1, p2, h'⟩ := h'
        have el : ∀ S, S (.int xs.length) false → lenF1 d S := fun S hS => by
          cases d <;> first | (cases q; done) | (cases q; exact hS) | exact (hs ⟨_, rfl⟩).elim
        have ei : ∀ (y : Int) S, (∃ x, atI xs y = some x ∧ S x false) → ixF d (.int y) S := fun y S ⟨x, e, hS⟩ => by
          cases d <;> first | (cases q; done) | (cases q; show (match atI _ y with | some d => S d false | none => False); rw [e]; exact hS) | exact (hs ⟨_, rfl⟩).elim
        refine ⟨d, rfl, d, rfl, d, rfl, el _ ⟨rfl, ⟨xs.length, rfl, by omega, by omega, fun y y0 y1 => ⟨d, rfl, ei y _ ?_⟩⟩⟩⟩
        obtain ⟨x, e, hx⟩ := atI_at (xs := xs) y0 y1
        exact ⟨x, e, h' x hx⟩
theorem abs_nn (z : Int) : 0 ≤ (if z < 0 then -z else z) := by split <;> omega
theorem d_begun1 (ns : List Int) (hn : ns.length ≤ 1000) (Z : DE) (h : ∀ large : List Int, (∀ z ∈ large, 0 ≤ z) → large.length ≤ ns.length → Z.nx (dB1 ns large)) : w1_law_begun Z (dB ns) := by
  unfold w1_law_begun wSet wLc
  refine ⟨fun j acc δ => ∃ large : List Int, acc = large.map D.int ∧ (∀ z ∈ large, 0 ≤ z) ∧ large.length ≤ j ∧ δ = dB ns, ⟨[], rfl, fun z hz => (by cases hz), by decide, rfl⟩, ?_, ?_⟩
  · intro j d acc δ hj ⟨large, ea, hp, hl, ed⟩
    subst ea; subst ed
    have hj2 : j < ns.length := by
      by_cases hc : j < ns.length
      · exact hc
      · rw [List.getElem?_eq_none (by rw [List.length_map]; omega)] at hj; cases hj
    obtain ⟨z, hz, rfl⟩ := List.mem_map.mp (List.mem_of_getElem? hj)
    refine ⟨_, rfl, ⟨by decide, by decide, by decide⟩, ?_⟩
    show (match decide ((10 : Int) ^ (18 : Int).toNat ≤ (if z < 0 then -z else z)) with | true => _ | false => _)
    by_cases hc : (10 : Int) ^ (18 : Int).toNat ≤ (if z < 0 then -z else z)
    · rw [decide_eq_true hc]
      refine ⟨⟨by decide, by decide, by decide⟩, ?_, large ++ [(if z < 0 then -z else z) - (10 : Int) ^ (18 : Int).toNat], ?_, fun y hy => ?_, ?_, rfl⟩
      · rw [List.length_map]; omega
      · rw [List.map_append]; rfl
      · rcases List.mem_append.mp hy with hy | hy
        · exact hp y hy
        · rw [List.mem_singleton.mp hy]; omega
      · rw [List.length_append]; show large.length + 1 ≤ j + 1; omega
    · rw [decide_eq_false hc]
      exact ⟨large, rfl, hp, by omega, rfl⟩
  · intro acc δ ⟨large, ea, hp, hl, ed⟩
    subst ea; subst ed
    exact h large hp (by rw [List.length_map] at hl; exact hl)
theorem d_begun2 (ns : List Int) (hn : ns.length ≤ 1000) (large : List Int) (Q : D → Bool → List Sl → Prop) (h : ∀ cells : List Int, (∀ z ∈ cells, 0 ≤ z) → cells.length ≤ ns.length → Q (.lst (cells.map D.int)) true (dB1 ns large)) : w2_law_begun (dB1 ns large) Q := by
  unfold w2_law_begun wLc
  refine ⟨fun j acc δ => ∃ cells : List Int, acc = cells.map D.int ∧ (∀ z ∈ cells, 0 ≤ z) ∧ cells.length ≤ j ∧ δ = dB1 ns large, ⟨[], rfl, fun z hz => (by cases hz), by decide, rfl⟩, ?_, ?_⟩
  · intro j d acc δ hj ⟨cells, ea, hp, hl, ed⟩
    subst ea; subst ed
    have hj2 : j < ns.length := by
      by_cases hc : j < ns.length
      · exact hc
      · rw [List.getElem?_eq_none (by rw [List.length_map]; omega)] at hj; cases hj
    obtain ⟨z, hz, rfl⟩ := List.mem_map.mp (List.mem_of_getElem? hj)
    refine ⟨_, rfl, ?_, cells ++ [if z < 0 then -z else z], ?_, fun y hy => ?_, ?_, rfl⟩
    · rw [List.length_map]; omega
    · rw [List.map_append]; rfl
    · rcases List.mem_append.mp hy with hy | hy
      · exact hp y hy
      · rw [List.mem_singleton.mp hy]; exact abs_nn z
    · rw [List.length_append]; show cells.length + 1 ≤ j + 1; omega
  · intro acc δ ⟨cells, ea, hp, hl, ed⟩
    subst ea; subst ed
    exact h cells hp (by rw [List.length_map] at hl; exact hl)


/-! ### tables of 1 and 0 -/
def unitE (d e : D) : D := .int (if deq d e then 1 else 0)
def unitR (n : Nat) (d : D) : D := .lst ((rngD 0 n).map (unitE d))
def rowsLD (rs : List (List Nat)) : D := .lst (rs.map fun r => rowD (intL r))
theorem rowsLD_eq (rs : List (List Nat)) : rowsLD rs = .lst ((rs.map intL).map rowD) := by
  unfold rowsLD; rw [List.map_map]; rfl
theorem unit_rows (n : Nat) : (rngD 0 n).map (unitR n) = (unitN n).map fun r => rowD (intL r) := by
  unfold rngD unitN
  rw [List.map_map, List.map_map]
  refine mapE fun i _ => ?_
  show D.lst ((rngD 0 n).map (unitE (.int (0 + (i : Nat))))) = .lst ((intL ((List.range n).map fun j => if i == j then 1 else 0)).map D.int)
  unfold rngD intL
  rw [List.map_map, List.map_map, List.map_map]
  refine congrArg D.lst (mapE fun j _ => ?_)
  show D.int (if ((0 : Int) + (i : Nat) == 0 + (j : Nat)) = true then 1 else 0) = .int (((if i == j then 1 else 0) : Nat) : Int)
  by_cases h : i = j
  · subst h; simp
  · have : ((0 : Int) + (i : Nat) == 0 + (j : Nat)) = false := by simp; omega
    have h2 : (i == j) = false := by simp; exact h
    rw [this, h2]; rfl
theorem int_bl {b : Bool} {R : D → Bool → Prop} (h : R (.int (if b = true then 1 else 0)) false) : intF [.bl b] R := h
theorem unitN_len (n : Nat) : (unitN n).length = n := by unfold unitN; rw [List.length_map, List.length_range]
theorem unitN_wid (n : Nat) : ∀ r ∈ unitN n, r.length = n := by
  intro r hr
  unfold unitN at hr
  obtain ⟨i, _, rfl⟩ := List.mem_map.mp hr
  rw [List.length_map, List.length_range]
theorem unitN_low (n : Nat) : ∀ r ∈ unitN n, ∀ k ∈ r, k ≤ 1 := by
  intro r hr k hk
  unfold unitN at hr
  obtain ⟨i, _, rfl⟩ := List.mem_map.mp hr
  obtain ⟨j, _, rfl⟩ := List.mem_map.mp hk
  split <;> omega
theorem d_unit {n : Nat} {R : D → Bool → Prop} {E : Nat → List D → Prop} (hn : n ≤ 1000) (hR : R (rowsLD (unitN n)) true) : F_law_unit [.int n] R E := by
  refine lc_map (items := rngD 0 n) (δ1 := [.fro (.int n), .no, .no]) (unitR n) (fun R h => ⟨_, rfl, by omega, by omega, h⟩) (by rw [rngD_len]; omega) (fun d hd => ⟨_, rfl, rfl, fun R' hR' => ?_⟩) ?_
  · refine lc_map (items := rngD 0 n) (δ1 := [.fro (.int n), .fro d, .no]) (unitE d) (fun R h => ⟨_, rfl, by omega, by omega, h⟩) (by rw [rngD_len]; omega) (fun e he => ⟨_, rfl, rfl, fun R'' hR'' => ?_⟩) (hR' _)
    unfold rngD at hd he
    obtain ⟨i, _, rfl⟩ := List.mem_map.mp hd
    obtain ⟨j, _, rfl⟩ := List.mem_map.mp he
    exact ⟨rfl, rfl, hR'' _⟩
  · rw [unit_rows]; exact hR
theorem p5 : primeB (.int 5) = true := by decide
theorem d_plain {n : Nat} {R : D → Bool → Prop} {E : Nat → List D → Prop} (hn : n ≤ 60) (hR : R (tabD 5 n n ((unitN n).map intL)) true) : Fplain [.int 5, .int n] R E := by
  refine ⟨rfl, d_need_prime rfl (fun _ => ?_) fun e => by rw [p5] at e; cases e⟩
  refine ⟨rfl, d_is_between rfl ?_⟩
  have b : betB (.int n) 0 60 = true := by show (decide ((0 : Int) ≤ n) && decide ((n : Int) ≤ 60)) = true; simp; omega
  show (match !betB (.int n) 0 60 with | true => _ | false => _)
  rw [b]
  refine lc_map (items := rngD 0 n) (δ1 := [.fro (.int 5), .fro (.int n), .no, .no]) (unitR n) (fun R h => ⟨_, rfl, by omega, by omega, h⟩) (by rw [rngD_len]; omega) (fun d hd => ⟨_, rfl, rfl, fun R' hR' => ?_⟩) ?_
  · refine lc_map (items := rngD 0 n) (δ1 := [.fro (.int 5), .fro (.int n), .fro d, .no]) (unitE d) (fun R h => ⟨_, rfl, by omega, by omega, h⟩) (by rw [rngD_len]; omega) (fun e he => ⟨_, rfl, rfl, fun R'' hR'' => ?_⟩) (hR' _)
    unfold rngD at hd he
    obtain ⟨i, _, rfl⟩ := List.mem_map.mp hd
    obtain ⟨j, _, rfl⟩ := List.mem_map.mp he
    exact ⟨rfl, rfl, hR'' _⟩
  · rw [unit_rows]
    refine ⟨rfl, ?_⟩
    show FTable [.int 5, .int n, .int n, rowsLD (unitN n)] _ _
    rw [rowsLD_eq]
    exact d_Table p5 (by decide) (by rw [List.length_map, unitN_len]) (fun l hl => by
      obtain ⟨r, hr, rfl⟩ := List.mem_map.mp hl
      unfold intL
      rw [List.length_map, unitN_wid n r hr]) (by omega) (by omega) (by omega) hR
/-! ### lines of a table -/
def joinL' : D → D
  | .lst xs => .str (Txt.join sp (xs.map strJ))
  | d => d
theorem d_line_of {rs : List (List Nat)} {R : D → Bool → Prop} {E : Nat → List D → Prop} (hp : ∀ r ∈ rs, ∀ n ∈ r, n < 97) (hl : rs.length ≤ 60) (hl2 : ∀ r ∈ rs, r.length ≤ 60) (hR : R (.str (rowsT rs)) false) : F_law_line_of [rowsLD rs] R E := by
  have small : ∀ r ∈ rs, ∀ n ∈ r, n < 10 ^ 10 := fun r hr n hn => by have := hp r hr n hn; omega
  refine ⟨⟨_, rfl⟩, ?_⟩
  refine lc_map (items := rs.map fun r => rowD (intL r)) (δ1 := [.fro (rowsLD rs), .no, .no]) joinL' (fun R h => h) (by rw [List.length_map]; omega) (fun d hd => ⟨_, rfl, rfl, fun R' hR' => ?_⟩) ?_
  · obtain ⟨r, hr, rfl⟩ := List.mem_map.mp hd
    refine ⟨⟨_, rfl⟩, ?_⟩
    refine lc_map (items := (intL r).map D.int) (δ1 := [.fro (rowsLD rs), .fro (rowD (intL r)), .no]) strI (fun R h => h) (by rw [List.length_map]; unfold intL; rw [List.length_map]; have := hl2 r hr; omega) (fun d hd => ⟨_, rfl, rfl, fun R'' hR'' => ?_⟩) ?_
    · obtain ⟨i, hi, rfl⟩ := List.mem_map.mp hd
      unfold intL at hi
      obtain ⟨n, hn, rfl⟩ := List.mem_map.mp hi
      exact ⟨log_small (small r hr n hn), hR'' _⟩
    · have e1 : ((intL r).map D.int).map strI = (r.map numT).map D.str := by
        unfold intL; rw [List.map_map, List.map_map, List.map_map]; rfl
      have e2 : (((intL r).map D.int).map strJ) = r.map numT := by
        unfold intL; rw [List.map_map, List.map_map]; rfl
      refine ⟨r.map numT, ?_, ?_, ?_⟩
      · show strsD (((intL r).map D.int).map _) = _
        rw [e1]; exact strsD_map _
      · have h1 := sum_le (k := 10) (ys := r.map numT) fun y hy => by
          obtain ⟨n, hn, rfl⟩ := List.mem_map.mp hy; exact numT_len (small r hr n hn)
        rw [List.length_map] at h1 ⊢
        have := hl2 r hr
        have e : (" " : Str).length = 1 := by decide +kernel
        rw [e]; omega
      · show R' (.str (Txt.join sp (r.map numT))) false _
        have : joinL' (rowD (intL r)) = .str (Txt.join sp (r.map numT)) := by
          show D.str (Txt.join sp (((intL r).map D.int).map strJ)) = _
          rw [e2]
        rw [← this]; exact hR' _
  · have e3 : (rs.map fun r => rowD (intL r)).map joinL' = (rs.map rowT).map D.str := by
      rw [List.map_map, List.map_map]
      refine mapE fun r hr => ?_
      show D.str (Txt.join sp (((intL r).map D.int).map strJ)) = .str (rowT r)
      have e2 : (((intL r).map D.int).map strJ) = r.map numT := by
        unfold intL; rw [List.map_map, List.map_map]; rfl
      rw [e2]; rfl
    rw [e3]
    refine ⟨rs.map rowT, strsD_map _, ?_, hR⟩
    have h1 := sum_le (k := 660) (ys := rs.map rowT) fun y hy => by
      obtain ⟨r, hr, rfl⟩ := List.mem_map.mp hy
      have := rowT_len (small r hr)
      have := hl2 r hr
      omega
    rw [List.length_map] at h1 ⊢
    have e : (" / " : Str).length = 3 := by decide +kernel
    rw [e]; omega
theorem d_made_table {p : Int} {w : Nat} {rs : List (List Nat)} {R : D → Bool → Prop} {E : Nat → List D → Prop} (hp : primeB (.int p) = true) (hw : w ≤ 60) (hr : Rows p w rs) (hR : R (tabD p w w (rs.map intL)) true) : F_law_made_table [.int p, rowsLD rs] R E := by
  refine ⟨_, rfl, _, rfl, _, rfl, _, rfl, ?_⟩
  have el : ((rs.map fun r => rowD (intL r)).length : Int) = w := by rw [List.length_map, hr.len]
  refine lc_map (items := rs.map fun r => rowD (intL r)) (δ1 := [.fro (.int p), .fro (rowsLD rs), .no]) id (fun R h => h) (by rw [List.length_map, hr.len]; omega) (fun d hd => ⟨_, rfl, rfl, fun R' hR' => ?_⟩) ?_
  · obtain ⟨r, _, rfl⟩ := List.mem_map.mp hd
    exact hR' _
  · rw [List.map_id]
    refine ⟨rfl, ?_⟩
    show FTable [.int p, .int ((rs.map fun r => rowD (intL r)).length : Nat), .int ((rs.map fun r => rowD (intL r)).length : Nat), rowsLD rs] _ _
    rw [el, rowsLD_eq]
    exact d_Table hp (primes_in hp).1 (by rw [List.length_map, hr.len]) (fun l hl => by
      obtain ⟨r, hr', rfl⟩ := List.mem_map.mp hl
      unfold intL
      rw [List.length_map, hr.wid r hr']) (by omega) (by omega) (by omega) hR
/-! ### deeds -/
inductive Mv (p : Int) (w : Nat) : D → D → Str → Prop
  | take (n : Nat) (h : n ≤ 1000000000) : Mv p w (.tup [.str wTake, .int n]) (.tup [.str wTake, .int n]) (wTake ++ sp ++ numT n)
  | put (a : Str) (rs : List (List Nat)) (ha : a = wPut ∨ a = wTurn) (hr : Rows p w rs) : Mv p w (.tup [.str a, rowsLD rs]) (.tup [.str a, tabD p w w (rs.map intL)]) (a ++ sp ++ rowsT rs)
theorem d_made_deed {p : Int} {w : Nat} {m due : D} {line : Str} {R : D → Bool → Prop} {E : Nat → List D → Prop} (hp : primeB (.int p) = true) (hw : w ≤ 60) (hm : Mv p w m due line) (hR : R due false) : F_law_made_deed [.int p, m] R E := by
  cases hm with
  | take n h =>
    refine ⟨_, rfl, ?_⟩
    refine ⟨ok_take, by decide +kernel, ?_⟩
    rw [k_take]
    exact ⟨two_le, hR⟩
  | put a rs ha hr =>
    refine ⟨_, rfl, ?_⟩
    refine ⟨ok_pt ha, by decide +kernel, ?_⟩
    rw [k_pt ha]
    exact ⟨rfl, d_made_table hp hw hr ⟨two_le, hR⟩⟩
theorem d_move_line {p : Int} {w : Nat} {m due : D} {line : Str} {R : D → Bool → Prop} {E : Nat → List D → Prop} (p97 : p ≤ 97) (hw : w ≤ 3) (hm : Mv p w m due line) (hR : R (.str line) false) : F_law_move_line [m] R E := by
  have e1 : (" " : Str).length = 1 := by decide +kernel
  cases hm with
  | take n h =>
    have et : wTake.length = 4 := by decide +kernel
    have e2 : (wTake ++ (" " : Str)).length = 5 := by decide +kernel
    refine ⟨_, rfl, ?_⟩
    refine ⟨by rw [et, e1]; omega, ?_⟩
    refine ⟨ok_take, by decide +kernel, ?_⟩
    rw [k_take]
    refine ⟨log_small (by omega), ?_, hR⟩
    have : (numT n).length ≤ 10 := numT_len (by omega)
    show (wTake ++ (" " : Str)).length + (numT n).length ≤ 16777216
    omega
  | put a rs ha hr =>
    have la : a.length ≤ 4 := by rcases ha with rfl | rfl <;> decide +kernel
    have e2 : (a ++ (" " : Str)).length = a.length + 1 := by rw [len_tl, tl_append, List.length_append, ← len_tl, ← len_tl, e1]
    refine ⟨_, rfl, ?_⟩
    refine ⟨by rw [e1]; omega, ?_⟩
    refine ⟨ok_pt ha, by decide +kernel, ?_⟩
    rw [k_pt ha]
    refine ⟨rfl, d_line_of (hr.small p97) (by rw [hr.len]; omega) (fun r h => by rw [hr.wid r h]; omega) ⟨?_, hR⟩⟩
    have := hr.tlen p97 hw
    show (a ++ (" " : Str)).length + (rowsT rs).length ≤ 16777216
    omega
end Lk97

set_option Elab.async false
set_option linter.all false
set_option maxRecDepth 100000
set_option maxHeartbeats 4000000
namespace Lk97
open PySem PySem.Spec PyProof.Rows L2 PD Tx TL
/-! ### the wrong lines by the law's def -/
theorem app_len (a b : Str) : (a ++ b).length = a.length + b.length := by
  rw [len_tl, tl_append, List.length_append, ← len_tl, ← len_tl]
theorem field_ne : (fields.all fun p => !(("1" : Str) == numT p)) = true := by decide +kernel
theorem field_len : (fields.all fun p => decide ((numT p).length ≤ 2) && decide (p < 100)) = true := by decide +kernel
theorem l1 : (" " : Str).length = 1 := by decide +kernel
theorem l2 : ("\n" : Str).length = 1 := by decide +kernel
theorem l3 : (" / 1" : Str).length = 4 := by decide +kernel
theorem l4 : (" /" : Str).length = 2 := by decide +kernel
theorem l5 : ("put " : Str).length = 4 := by decide +kernel
theorem l6 : ("put  " : Str).length = 5 := by decide +kernel
theorem l7 : ("give " : Str).length = 5 := by decide +kernel
theorem l8 : ("turn " : Str).length = 5 := by decide +kernel
theorem l9 : ("take " : Str).length = 5 := by decide +kernel
theorem l01 : ("01" : Str).length = 2 := by decide +kernel
theorem lsl : ("/" : Str).length = 1 := by decide +kernel
theorem l11 : ("1" : Str).length = 1 := by decide +kernel
theorem n01 : (("1" : Str) == ("01" : Str)) = false := by decide +kernel
theorem n5 : (("1" : Str) == mulS "1" 5000) = false := by
  refine beq_eq_false_iff_ne.mpr fun e => ?_
  have := congrArg Str.length e
  rw [mul5, l11] at this; cases this
theorem mul5' : (mulS "1" (Int.toNat 5000)).length = 5000 := by rw [mulS_len, l11]; rfl
theorem le5 {a b : Str} (ha : a.length = 5) (hb : b.length = 5000) : a.length + b.length ≤ 16777216 := by omega
theorem nsl : ((" / " : Str) == ("/" : Str)) = false := by decide +kernel
theorem d_unit' {z : Int} {n : Nat} {R : D → Bool → Prop} {E : Nat → List D → Prop} (e : z = n) (hn : n ≤ 1000) (hR : R (rowsLD (unitN n)) true) : F_law_unit [.int z] R E := by
  subst e; exact d_unit hn hR
theorem d_wrong_lines {p w : Nat} {R : D → Bool → Prop} {E : Nat → List D → Prop} (hp : p ∈ fields) (hw : 1 ≤ w) (hw3 : w ≤ 3) (hR : R (.lst (wrongL (uT w) (uT (w % 3 + 1)) (numT p))) true) : F_law_wrong_lines [.int p, .int w] R E := by
  have pl : p ≤ 97 := by
    have : ∀ p ∈ fields, p ≤ 97 := by decide
    exact this p hp
  have fl := He.ba (List.all_eq_true.mp field_len p hp)
  have fl := of_decide_eq_true fl.1
  have fn : (("1" : Str) == numT p) = false := by
    have := List.all_eq_true.mp field_ne p hp
    exact (Bool.not_eq_true' _).mp this
  have ul := uT_len hw hw3
  have w1 : 1 ≤ w % 3 + 1 := by omega
  have w3 : w % 3 + 1 ≤ 3 := by omega
  have vl := uT_len w1 w3
  have lines : ∀ (k : Nat) (R : D → Bool → Prop) (E : Nat → List D → Prop), 1 ≤ k → k ≤ 3 → R (.str (uT k)) false → F_law_line_of [rowsLD (unitN k)] R E := fun k R E h1 h3 hR =>
    d_line_of (fun r hr n hn => by have := unitN_low k r hr n hn; omega) (by rw [unitN_len]; omega) (fun r hr => by rw [unitN_wid k r hr]; omega) hR
  refine ⟨rfl, d_unit (by omega) ⟨rfl, lines w _ _ hw hw3 ?_⟩⟩
  generalize uT w = u at ul hR
  refine ⟨Nat.le_of_ble_eq_true rfl, Nat.le_of_ble_eq_true rfl, Nat.le_of_ble_eq_true rfl, ?_⟩
  refine ⟨rfl, ?_⟩
  refine ⟨by rw [l6]; omega, by rw [l5]; omega, by rw [app_len, l5, l1]; omega, by rw [l5]; omega, by rw [app_len, l5, l2]; omega, by rw [l7]; omega, Nat.le_of_ble_eq_true rfl, Nat.le_of_ble_eq_true rfl, ?_⟩
  refine ⟨rfl, ?_⟩
  refine ⟨_, rfl, log_small (by omega), _, rfl, fn, ?_, ?_⟩
  · show ("put " : Str).length + (u.length + (u.length + 1) * (numT p).length) ≤ 16777216
    have : (u.length + 1) * (numT p).length ≤ 22 * 2 := Nat.mul_le_mul (by omega) fl
    rw [l5]; omega
  refine ⟨_, rfl, _, rfl, n01, by rw [l5, l01]; omega, ?_⟩
  refine ⟨by rw [l5]; omega, by rw [app_len, l5, l3]; omega, Nat.le_of_ble_eq_true rfl, Nat.le_of_ble_eq_true rfl, ?_⟩
  refine ⟨rfl, ?_⟩
  refine ⟨_, rfl, _, rfl, n5, by rw [mul5, l8]; omega, ?_⟩
  refine ⟨by decide, by decide, by rw [l11]; decide, by rw [l11]; decide, ?_⟩
  refine ⟨le5 l9 mul5', Nat.le_of_ble_eq_true rfl, Nat.le_of_ble_eq_true rfl, ?_⟩
  refine ⟨rfl, ?_⟩
  have ew : ((w : Int) % 3 + 1) = ((w % 3 + 1 : Nat) : Int) := by omega
  refine ⟨by decide, rfl, d_unit' ew (by omega) ⟨rfl, lines (w % 3 + 1) _ _ w1 w3 ?_⟩⟩
  generalize uT (w % 3 + 1) = v at vl hR
  refine ⟨by rw [l5]; omega, ?_⟩
  refine ⟨_, rfl, _, rfl, nsl, by rw [l5, lsl]; omega, ?_⟩
  refine ⟨?_, Nat.le_of_ble_eq_true rfl, Nat.le_of_ble_eq_true rfl, hR⟩
  have := TK.replace_len u (" / " : Str) ("/" : Str)
  rw [lsl] at this
  rw [app_len, l5, l4]; omega
end Lk97

set_option Elab.async false
set_option linter.all false
set_option maxRecDepth 100000
set_option maxHeartbeats 4000000
namespace Lk97
open PySem PySem.Spec PyProof.Rows L2 PD Tx TL
/-! ### a drawn deed -/
theorem choose_list {α β : Type} {f : β → α} {P : β → Prop} : ∀ {l : List α}, (∀ a ∈ l, ∃ b, a = f b ∧ P b) → ∃ m : List β, l = m.map f ∧ ∀ b ∈ m, P b
  | [], _ => ⟨[], rfl, fun _ h => by cases h⟩
  | a :: l, h => by
    obtain ⟨b, e, p⟩ := h a (by simp)
    obtain ⟨m, em, pm⟩ := choose_list (f := f) (P := P) (l := l) fun a ha => h a (List.mem_cons_of_mem _ ha)
    exact ⟨b :: m, by rw [e, em]; rfl, fun c hc => by
      rcases List.mem_cons.mp hc with rfl | hc
      · exact p
      · exact pm c hc⟩
theorem mv_take {p : Int} {w : Nat} {i : Int} (h0 : 0 ≤ i) (h1 : i ≤ 1000000000) : ∃ due line, Mv p w (.tup [.str wTake, .int i]) due line := by
  obtain ⟨n, rfl⟩ := Int.eq_ofNat_of_zero_le h0
  exact ⟨_, _, .take n (by omega)⟩
theorem pow9 : (10 : Int) ^ (9 : Int).toNat = 1000000000 := by decide
theorem d_any {p w : Nat} {R : D → Bool → Prop} {E : Nat → List D → Prop} (hp0 : 0 < p) (hp : p ≤ 97) (hw : w ≤ 3) (hR : ∀ m due line, Mv p w m due line → R m false) : F_law_any_deed [.drw, .int p, .int w] R E := by
  refine ⟨rfl, 4, rfl, by decide, by decide, fun z h0 h4 => ?_⟩
  refine ⟨rfl, rfl, ?_⟩
  show (match deq (.int z) (.int 0) with | true => _ | false => _)
  cases deq (.int z) (.int 0) with
  | true =>
    refine ⟨⟨by decide, by decide, by decide⟩, Nat.le_of_ble_eq_true rfl, rfl, Nat.le_of_ble_eq_true rfl, Nat.le_of_ble_eq_true rfl, fun x hx => ⟨two_le, ?_⟩⟩
    have good : ∃ i : Int, x = .int i ∧ 0 ≤ i ∧ i ≤ 1000000000 := by
      rw [pow9] at hx
      simp only [List.mem_cons, List.not_mem_nil, or_false] at hx
      rcases hx with rfl | rfl | rfl | rfl | rfl | rfl | rfl <;> exact ⟨_, rfl, by decide, by decide⟩
    obtain ⟨i, rfl, i0, i1⟩ := good
    obtain ⟨due, line, m⟩ := mv_take (p := p) (w := w) i0 i1
    exact hR _ _ _ m
  | false =>
    refine lc_all (items := rngD 0 w) (δ1 := [.fro .drw, .fro (.int p), .fro (.int w), .fro (.int z), .no, .no, .no]) (fun d => ∃ r : List Nat, d = rowD (intL r) ∧ (r.length = w ∧ ∀ n ∈ r, n < p)) (fun R h => ⟨_, rfl, by omega, by omega, h⟩) (by rw [rngD_len]; omega) (fun d hd => ⟨_, rfl, rfl, fun R' hR' => ?_⟩) fun acc ha hg => ?_
    · refine lc_all (items := rngD 0 w) (δ1 := [.fro .drw, .fro (.int p), .fro (.int w), .fro (.int z), .no, .fro d, .no]) (fun d => ∃ n : Nat, d = .int n ∧ n < p) (fun R h => ⟨_, rfl, by omega, by omega, h⟩) (by rw [rngD_len]; omega) (fun d hd => ⟨_, rfl, rfl, fun R'' hR'' => ?_⟩) fun acc ha hg => ?_
      · refine ⟨rfl, _, rfl, by omega, by omega, fun y y0 y1 => hR'' _ _ ?_⟩
        obtain ⟨n, rfl⟩ := Int.eq_ofNat_of_zero_le y0
        exact ⟨n, rfl, by omega⟩
      · obtain ⟨r, e, hr⟩ := choose_list (f := fun n : Nat => D.int (n : Int)) (P := fun n => n < p) hg
        refine hR' _ _ ⟨r, ?_, ?_, hr⟩
        · show D.lst acc = .lst ((intL r).map D.int)
          unfold intL
          rw [List.map_map, e]; rfl
        · rw [e, List.length_map, rngD_len] at ha; exact ha
    · obtain ⟨rs, e, hr⟩ := choose_list (f := fun r => rowD (intL r)) (P := fun r => r.length = w ∧ ∀ n ∈ r, n < p) hg
      have rows : Rows p w rs := ⟨by rw [e, List.length_map, rngD_len] at ha; exact ha, fun r h => (hr r h).1, fun r h n hn => by have := (hr r h).2 n hn; omega⟩
      refine ⟨Nat.le_of_ble_eq_true rfl, rfl, Nat.le_of_ble_eq_true rfl, Nat.le_of_ble_eq_true rfl, fun x hx => ?_⟩
      have hx : x = .str wPut ∨ x = .str wTurn := by
        simp only [List.mem_cons, List.not_mem_nil, or_false] at hx
        exact hx
      rw [e]
      rcases hx with rfl | rfl
      · exact ⟨rfl, two_le, hR _ _ _ (.put wPut rs (.inl rfl) rows)⟩
      · exact ⟨rfl, two_le, hR _ _ _ (.put wTurn rs (.inr rfl) rows)⟩
/-! ### one deed -/
section
variable {p w : Nat} {m due : D} {line : Str}
theorem Mv.text (h : Mv p w m due line) (hp : p ≤ 97) (hw : 1 ≤ w) (hw3 : w ≤ 3) {R : D → Bool → Prop} {E : Nat → List D → Prop} (hR : R (.str line) false) : Fdeed_text [due] R E := by
  cases h with
  | take n h => exact d_text_take h hR
  | put a rs ha hr => exact d_text_put ha (by omega) hw hw3 hr hR
theorem Mv.read (h : Mv p w m due line) (hp : p ≤ 97) (hw : 1 ≤ w) : foundD p w line = due := by
  cases h with
  | take n h => exact found_take h
  | put a rs ha hr => exact found_put ha (by omega) hw hr
theorem Mv.non (h : Mv p w m due line) : due ≠ .non := by
  cases h <;> (intro z; cases z)
theorem Mv.low (h : Mv p w m due line) : ∀ c ∈ tl line, c < 0x110000 := by
  have hs : ∀ c ∈ tl sp, c < 200 := by rw [tl_sp]; decide
  have ht : ∀ c ∈ tl wTake, c < 200 := by decide +kernel
  have hu : ∀ c ∈ tl wPut, c < 200 := by decide +kernel
  have hv : ∀ c ∈ tl wTurn, c < 200 := by decide +kernel
  intro c hc
  cases h with
  | take n h =>
    rw [tl_append, tl_append, List.mem_append, List.mem_append] at hc
    rcases hc with (hc | hc) | hc
    · have := ht c hc; omega
    · have := hs c hc; omega
    · have := numT_sub hc; omega
  | put a rs ha hr =>
    rw [tl_append, tl_append, List.mem_append, List.mem_append] at hc
    rcases hc with (hc | hc) | hc
    · rcases ha with rfl | rfl
      · have := hu c hc; omega
      · have := hv c hc; omega
    · have := hs c hc; omega
    · have := rowsT_sub hc; omega
theorem Mv.len (h : Mv p w m due line) (hp : p ≤ 97) (hw3 : w ≤ 3) : line.length ≤ 120 := by
  have es : sp.length = 1 := by decide +kernel
  have et : wTake.length = 4 := by decide +kernel
  cases h with
  | take n h =>
    have := numT_len (n := n) (by omega)
    rw [app_len, app_len, es, et]; omega
  | put a rs ha hr =>
    have := hr.tlen (by omega) hw3
    have la : a.length ≤ 4 := by rcases ha with rfl | rfl <;> decide +kernel
    rw [app_len, app_len, es]; omega
end
theorem low_ok {t : Str} (h : ∀ c ∈ tl t, c < 0x110000) : PyData.strOk t = true := by
  show t.cps.all _ = true
  rw [Array.all_eq_true_iff_forall_mem]
  intro c hc
  have := h c (Array.mem_toList_iff.mpr hc)
  simpa using this
theorem okT_of {t : Str} (hl : t.length ≤ 999999) (h : ∀ c ∈ tl t, c < 0x110000) : okT (.str t) = true := by
  show (decide (t.length ≤ 999999) && PyData.strOk (Txt.partition t sp).1) = true
  rw [decide_eq_true hl, part_ok h]; rfl
mutual
theorem deq_self : ∀ (k : Nat) (d : D), shp k d = true → deq d d = true
  | _, .non, _ => by simp [deq]
  | _, .bl _, _ => by simp [deq]
  | _, .int _, _ => by simp [deq]
  | _, .str _, _ => by simp [deq]
  | 0, .lst _, h => by simp [shp] at h
  | 0, .tup _, h => by simp [shp] at h
  | 0, .ktp _, h => by simp [shp] at h
  | k + 1, .lst ds, h => by
    simp only [shp] at h
    simp only [deq]; exact deqs_self k ds h
  | k + 1, .tup ds, h => by
    simp only [shp] at h
    simp only [deq]; exact deqs_self k ds h
  | k + 1, .ktp ds, h => by
    simp only [shp] at h
    simp only [deq]; exact deqs_self k ds h
  | k, .kls _, h => by cases k <;> simp [shp] at h
  | k, .dT _ _, h => by cases k <;> simp [shp] at h
  | k, .dK _ _, h => by cases k <;> simp [shp] at h
  | k, .ins _ _, h => by cases k <;> simp [shp] at h
  | k, .par _ _, h => by cases k <;> simp [shp] at h
  | k, .exc _ _, h => by cases k <;> simp [shp] at h
  | k, .cls _, h => by cases k <;> simp [shp] at h
  | k, .ty _, h => by cases k <;> simp [shp] at h
  | k, .drw, h => by cases k <;> simp [shp] at h
theorem deqs_self : ∀ (k : Nat) (ds : List D), ds.all (shp k) = true → deqs ds ds = true
  | _, [], _ => by simp [deqs]
  | k, d :: ds, h => by
    rw [List.all_cons, Bool.and_eq_true] at h
    simp only [deqs]
    rw [deq_self k d h.1, deqs_self k ds h.2]; rfl
end
theorem shp_ints (k : Nat) (l : List Int) : shp (k + 1) (.tup (l.map D.int)) = true := by
  show (l.map D.int).all (shp k) = true
  rw [List.all_eq_true]
  intro d hd
  obtain ⟨i, _, rfl⟩ := List.mem_map.mp hd
  cases k <;> rfl
theorem ok_tab (p t w : Int) (ls : List (List Int)) : okFld 4 [.int p, .int t, .int w, .tup (ls.map fun l => .tup ((l.map fun i => i % p).map D.int))] [.int p, .int t, .int w, .tup (ls.map fun l => .tup ((l.map fun i => i % p).map D.int))] = true := by
  have h : shp 50 (.tup (ls.map fun l => D.tup ((l.map fun i => i % p).map D.int))) = true := by
    show (ls.map fun l => D.tup ((l.map fun i => i % p).map D.int)).all (shp 49) = true
    rw [List.all_eq_true]
    intro d hd
    obtain ⟨l, _, rfl⟩ := List.mem_map.mp hd
    exact shp_ints 48 _
  have hi : ∀ i : Int, (shp 50 (.int i) && (shp 50 (.int i) && deq (.int i) (.int i))) = true := fun i => by
    rw [deq_self 50 (.int i) rfl]; rfl
  show (true && ((shp 50 (D.int p) && (shp 50 (D.int p) && deq (D.int p) (D.int p))) && ((shp 50 (D.int t) && (shp 50 (D.int t) && deq (D.int t) (D.int t))) && ((shp 50 (D.int w) && (shp 50 (D.int w) && deq (D.int w) (D.int w))) && ((shp 50 _ && (shp 50 _ && deq _ _)) && true))))) = true
  rw [hi, hi, hi, h, deq_self 50 _ h]; rfl
theorem Mv.same {p w : Nat} {m due : D} {line : Str} (h : Mv p w m due line) : ∃ xs, itemsT due = some xs ∧ all2 (eqOk okF 0) xs xs = true := by
  cases h with
  | take n h =>
    refine ⟨_, rfl, ?_⟩
    show ((true && (true && deq (D.str wTake) (.str wTake))) && ((true && (true && deq (D.int n) (.int n))) && true)) = true
    rw [deq_self 1 (.int n) rfl, deq_eq rfl]; rfl
  | put a rs ha hr =>
    refine ⟨_, rfl, ?_⟩
    show ((true && (true && deq (D.str a) (.str a))) && ((decide (40 = 40) && (decide (40 = 40) && okFld 4 _ _)) && true)) = true
    rw [ok_tab, deq_eq rfl]; rfl
end Lk97

set_option Elab.async false
set_option linter.all false
set_option maxRecDepth 100000
set_option maxHeartbeats 4000000
namespace Lk97
open PySem PySem.Spec PyProof.Rows L2 PD Tx TL
theorem f17 {a : D} : fldAt (cFields 17) [a] "at" = some a := by kernel_rfl
theorem f3 {a : D} : fldAt (cFields 3) [a] "part" = some a := by kernel_rfl
/-- what is read has just this text -/
theorem back_text {p w : Nat} {t : Str} (hp : p ≤ 97) (hw : 1 ≤ w) (hw3 : w ≤ 3) (hn : foundD p w t ≠ .non) {R : D → Bool → Prop} {E : Nat → List D → Prop} (hR : R (.str t) false) : Fdeed_text [foundD p w t] R E := by
  rcases found_back (p := (p : Int)) (t := t) hw with e | b
  · exact absurd e hn
  · generalize foundD p w t = d at b
    cases b with
    | take n h e => exact d_text_take h (by rw [← e]; exact hR)
    | put a rs ha hr e => exact d_text_put ha (by omega) hw hw3 hr (by rw [← e]; exact hR)
/-- one changed line -/
theorem d_bent {p w : Nat} {x : Str} {m due : D} {line : Str} {E : Nat → List D → Prop} {Z : DE} {s4 s8 s9 s10 s11 : Sl} (hp : primeB (.int p) = true) (hp97 : p ≤ 97) (hw : 1 ≤ w) (hw3 : w ≤ 3) (hx : x.length ≤ 1000) (hlow : ∀ c ∈ tl x, c < 0x110000)
    (hZ : ∀ s8, Z.nx [.fro .drw, .fro (.int p), .fro (.int w), .fro m, s4, .fro due, .fro (.str line), .fro (.str x), s8, s9, s10, s11]) :
    (wSeq (wSet 8 (wCatch fun E => (wCall 3 (fun ds => ds) Fdeed_of_text (fun _ => E) (wCons (wVar 1) (wCons (wVar 2) (wCons (wVar 7) wNil))))))
      (wIfS (wB (wBin (isNF false) (wVar 8) (wC .non))) (wIfS (wB (wBin neF (wCall 1 (fun ds => ds) Fdeed_text (fun _ => E) (wCons (wCall 3 (fun ds => ds) Fdeed_of_text (fun _ => E) (wCons (wVar 1) (wCons (wVar 2) (wCons (wVar 7) wNil)))) wNil)) (wVar 7))) (wRet (wC (.bl false))) wNx) (wIfS (wOr (wNot (wB (wCB (isiCF 17) (wCons (wVar 8) (wCons (wC (.cls 17)) wNil))))) (wB (wBin neF (wXat "at" (wVar 8)) (wC (.int 0))))) (wRet (wC (.bl false))) wNx)))
      Z [.fro .drw, .fro (.int p), .fro (.int w), .fro m, s4, .fro due, .fro (.str line), .fro (.str x), s8, s9, s10, s11] := by
  have ok := okT_of (t := x) (by omega) hlow
  refine ⟨fun C xs => C = 17 ∧ xs = [.int 0], fun _ _ _ => foundD p w x ≠ .non, ⟨rfl, d_deed_of hp hw hw3 rfl ok (fun _ => ⟨rfl, rfl⟩) fun e => e⟩, ?_, ?_⟩
  · rintro C xs ⟨rfl, rfl⟩
    refine ⟨rfl, true, rfl, ?_⟩
    show (match fldAt (cFields 17) [D.int 0] "at" with | some r => _ | none => False)
    rw [f17]
    refine ⟨rfl, rfl, ?_⟩
    exact hZ _
  · intro d o δ' hn
    refine ⟨rfl, d_deed_of hp hw hw3 rfl ok (fun e => absurd e hn) fun _ => ⟨rfl, back_text hp97 hw hw3 hn ⟨low_ok hlow, low_ok hlow, ?_⟩⟩⟩
    rw [deq_eq rfl]
    exact hZ _
theorem cut_low {z : Str} {lo hi : Option Int} (h : ∀ c ∈ tl z, c < 0x110000) : ∀ c ∈ tl (cutS z lo hi), c < 0x110000 := by
  intro c hc
  unfold cutS at hc
  rw [tl_mk] at hc
  exact h c (List.mem_of_mem_drop (List.mem_of_mem_take hc))
theorem app_low {a b : Str} (ha : ∀ c ∈ tl a, c < 0x110000) (hb : ∀ c ∈ tl b, c < 0x110000) : ∀ c ∈ tl (a ++ b), c < 0x110000 := by
  intro c hc
  rw [tl_append] at hc
  exact (List.mem_append.mp hc).elim (ha c) (hb c)
theorem signs_low : ∀ k ∈ (("0123456789 /tupx-" : Str)).cps.toList, k < 0x110000 := by decide +kernel
theorem d_holds {p w : Nat} {m due : D} {line : Str} {R : D → Bool → Prop} {E : Nat → List D → Prop} (hp : primeB (.int p) = true) (hw : 1 ≤ w) (hw3 : w ≤ 3) (hm : Mv p w m due line) (hR : R (.bl true) false) : F_law_deed_holds [.drw, .int p, .int w, m] R E := by
  have p97 : p ≤ 97 := by have := (primes_in hp).2; omega
  have lo := hm.low
  have ll := hm.len p97 hw3
  have re := hm.read p97 hw
  have okl := okT_of (t := line) (by omega) lo
  refine ⟨rfl, d_made_deed hp (by omega) hm ⟨rfl, d_move_line (by omega) hw3 hm ⟨rfl, ?_⟩⟩⟩
  refine ⟨rfl, rfl, hm.text p97 hw hw3 ⟨low_ok lo, low_ok lo, ?_⟩⟩
  rw [deq_eq rfl]
  obtain ⟨xs, ei, es⟩ := hm.same
  refine ⟨rfl, rfl, d_deed_of hp hw hw3 rfl okl (fun e => absurd (re.symm.trans e) hm.non) fun _ => ⟨⟨xs, xs, by rw [show readD p w (.str line) = due from re]; exact ei, ei, es⟩, ?_⟩⟩
  refine for_inv (items := rngD 0 6) (δ1 := [.fro .drw, .fro (.int p), .fro (.int w), .fro m, .no, .fro due, .fro (.str line), .no, .no, .no, .no, .no]) (fun δ => ∃ s4 s7 s8 s9 s10 s11, δ = [.fro .drw, .fro (.int p), .fro (.int w), .fro m, s4, .fro due, .fro (.str line), s7, s8, s9, s10, s11]) (fun R h => ⟨_, rfl, by decide, by decide, h⟩) ⟨_, _, _, _, _, _, rfl⟩ ?_ ?_
  · rintro d _ δ ⟨s4, s7, s8, s9, s10, s11, rfl⟩
    refine ⟨_, rfl, fun Z' hn _ _ => ?_⟩
    refine ⟨_, rfl, _, rfl, by omega, rfl, _, rfl, by omega, by omega, fun spot s0 s1 => ?_⟩
    refine ⟨rfl, by decide +kernel, by decide +kernel, fun k hk => ?_⟩
    refine ⟨rfl, _, rfl, by decide, by decide, fun way w0 w3' => ⟨rfl, ?_⟩⟩
    have lk : ∀ c ∈ tl (⟨#[k]⟩ : Str), c < 0x110000 := by
      intro c hc
      have : c = k := by simpa [tl] using hc
      rw [this]; exact signs_low k hk
    have le : ∀ c ∈ tl ("" : Str), c < 0x110000 := by decide +kernel
    have e1 : (⟨#[k]⟩ : Str).length = 1 := rfl
    have e0 : ("" : Str).length = 0 := by decide +kernel
    have c1 := fun lo hi => cutS_length line lo hi
    rcases (show way = 0 ∨ way = 1 ∨ way = 2 by omega) with rfl | rfl | rfl
    · refine ⟨_, rfl, by omega, by have := c1 none (some spot); omega, _, rfl, by omega, ?_, d_bent hp p97 hw hw3 ?_ ?_ fun _ => hn _ ⟨_, _, _, _, _, _, rfl⟩⟩
      · have := c1 none (some spot); have := c1 (some (spot + 1)) none
        show (cutS line none (some spot) ++ ("" : Str)).length + (cutS line (some (spot + 1)) none).length ≤ 16777216
        rw [app_len]; omega
      · have := c1 none (some spot); have := c1 (some (spot + 1)) none
        show ((cutS line none (some spot) ++ ("" : Str)) ++ (cutS line (some (spot + 1)) none)).length ≤ 1000
        rw [app_len, app_len]; omega
      · exact app_low (app_low (cut_low lo) le) (cut_low lo)
    · refine ⟨_, rfl, by omega, by have := c1 none (some spot); omega, _, rfl, by omega, ?_, d_bent hp p97 hw hw3 ?_ ?_ fun _ => hn _ ⟨_, _, _, _, _, _, rfl⟩⟩
      · have := c1 none (some spot); have := c1 (some (spot + 1)) none
        show (cutS line none (some spot) ++ (⟨#[k]⟩ : Str)).length + (cutS line (some (spot + 1)) none).length ≤ 16777216
        rw [app_len]; omega
      · have := c1 none (some spot); have := c1 (some (spot + 1)) none
        show ((cutS line none (some spot) ++ (⟨#[k]⟩ : Str)) ++ (cutS line (some (spot + 1)) none)).length ≤ 1000
        rw [app_len, app_len]; omega
      · exact app_low (app_low (cut_low lo) lk) (cut_low lo)
    · refine ⟨_, rfl, by omega, by have := c1 none (some spot); omega, _, rfl, by omega, ?_, d_bent hp p97 hw hw3 ?_ ?_ fun _ => hn _ ⟨_, _, _, _, _, _, rfl⟩⟩
      · have := c1 none (some spot); have := c1 (some (spot + 0)) none
        show (cutS line none (some spot) ++ (⟨#[k]⟩ : Str)).length + (cutS line (some (spot + 0)) none).length ≤ 16777216
        rw [app_len]; omega
      · have := c1 none (some spot); have := c1 (some (spot + 0)) none
        show ((cutS line none (some spot) ++ (⟨#[k]⟩ : Str)) ++ (cutS line (some (spot + 0)) none)).length ≤ 1000
        rw [app_len, app_len]; omega
      · exact app_low (app_low (cut_low lo) lk) (cut_low lo)
  · rintro δ ⟨s4, s7, s8, s9, s10, s11, rfl⟩
    exact hR
end Lk97

set_option Elab.async false
set_option linter.all false
set_option maxRecDepth 100000
set_option maxHeartbeats 4000000
namespace Lk97
open PySem PySem.Spec PyProof.Rows L2 PD Tx TL
def refusedL : List D := [.non, .int 0, .tup [], .tup [.str "put"], .tup [.str "take", .bl true], .tup [.str "take", .int (-1)], .tup [.str "take", .int ((10 : Int) ^ (9 : Int).toNat + 1)], .tup [.str "put", tabD 5 2 1 [[1], [0]]], .tup [.str "turn", tabD 5 (4 : Nat) (4 : Nat) ((unitN 4).map intL)], .tup [.str "put", tabD 5 (0 : Nat) (0 : Nat) ((unitN 0).map intL)], .lst [.str "take", .int 1], .tup [.str "put", .lst [.lst [.int 1]]]]
theorem refused_all (R : D → Bool → Prop) (E : Nat → List D → Prop) (hE : E 11 []) : ∀ d ∈ refusedL, Fdeed_text [d] R E := by
  intro d hd
  unfold refusedL at hd
  simp only [List.mem_cons, List.not_mem_nil, or_false] at hd
  rcases hd with rfl | rfl | rfl | rfl | rfl | rfl | rfl | rfl | rfl | rfl | rfl | rfl
  · exact d_text_no (fun R E h => d_not_tup rfl rfl h) hE
  · exact d_text_no (fun R E h => d_not_tup rfl rfl h) hE
  · exact d_text_no (fun R E h => d_tup0 h) hE
  · exact d_text_no (fun R E h => d_tup1 h) hE
  · exact d_text_no (fun R E h => d_is_deed (w := wTake) ok_take rfl (by rw [deed_take]; exact h)) hE
  · exact d_text_wide (by decide) hE
  · exact d_text_wide (by rw [pow9]; decide) hE
  · exact d_text_tab (a := wPut) (.inl rfl) (by decide) hE
  · exact d_text_tab (a := wTurn) (.inr rfl) (by decide) hE
  · exact d_text_tab (a := wPut) (.inl rfl) (by decide) hE
  · exact d_text_no (fun R E h => d_not_tup rfl rfl h) hE
  · exact d_text_no (fun R E h => d_is_deed (w := wPut) ok_put rfl (by rw [deed_put (.inl rfl)]; exact h)) hE
def widesL : List D := [.int 0, .int 4, .int (-1), .non, .bl true, .str "1"]
def primesN : List D := [.int 1, .int 4, .int 101, .non, .bl true, .str "3"]
theorem wides_all : ∀ d ∈ widesL, tyB d = true ∧ betB d 1 3 = false := by
  intro d hd
  unfold widesL at hd
  simp only [List.mem_cons, List.not_mem_nil, or_false] at hd
  rcases hd with rfl | rfl | rfl | rfl | rfl | rfl <;> exact ⟨rfl, rfl⟩
theorem primesN_all : ∀ d ∈ primesN, tyB d = true ∧ primeB d = false := by
  intro d hd
  unfold primesN at hd
  simp only [List.mem_cons, List.not_mem_nil, or_false] at hd
  rcases hd with rfl | rfl | rfl | rfl | rfl | rfl <;> exact ⟨rfl, by decide⟩
theorem wB_of {p : Int} {w : Nat} {d : D} (h : wrongB p w d = true) : tyB d = true ∧ okT d = true ∧ readD p w d = .non := by
  obtain ⟨a, h⟩ := He.ba (show (tyB d && (okT d && nonB (readD p w d))) = true from h)
  obtain ⟨b, c⟩ := He.ba h
  exact ⟨a, b, nonB_eq c⟩
theorem d_refused {p w : Nat} {R : D → Bool → Prop} {E : Nat → List D → Prop} (hf : p ∈ fields) (hp : primeB (.int p) = true) (hw : 1 ≤ w) (hw3 : w ≤ 3) (hR : R (.bl true) false) : F_law_refused [.drw, .int p, .int w] R E := by
  refine for_inv (items := refusedL) (δ1 := [.fro .drw, .fro (.int p), .fro (.int w), .no, .no, .no, .no]) (fun δ => ∃ s3, δ = [.fro .drw, .fro (.int p), .fro (.int w), s3, .no, .no, .no]) (fun R h => ?_) ⟨_, rfl⟩ ?_ ?_
  · refine ⟨Nat.le_of_ble_eq_true rfl, Nat.le_of_ble_eq_true rfl, two_le, two_le, ⟨by decide, by decide, by decide⟩, two_le, Nat.le_of_ble_eq_true rfl, Nat.le_of_ble_eq_true rfl, Nat.le_of_ble_eq_true rfl, rfl, ?_⟩
    refine d_Table (ls := [[1], [0]]) p5 (by decide) rfl (by decide) (by decide) (by decide) (by decide) ⟨two_le, rfl, ?_⟩
    refine d_plain (n := 4) (by decide) ⟨two_le, rfl, ?_⟩
    refine d_plain (n := 0) (by decide) ⟨two_le, ?_⟩
    exact ⟨two_le, Nat.le_of_ble_eq_true rfl, Nat.le_of_ble_eq_true rfl, two_le, Nat.le_of_ble_eq_true rfl, h⟩
  · rintro d hd δ ⟨s3, rfl⟩
    refine ⟨_, rfl, fun Z' hn _ _ => ?_⟩
    refine ⟨fun C xs => C = 11 ∧ xs = [], fun _ _ _ => False, ⟨rfl, refused_all _ _ ⟨rfl, rfl⟩ d hd⟩, ?_, fun _ _ _ h => h.elim⟩
    rintro C xs ⟨rfl, rfl⟩
    exact ⟨rfl, true, rfl, hn _ ⟨_, rfl⟩⟩
  · rintro δ ⟨s3, rfl⟩
    refine for_inv (items := wrongL (uT w) (uT (w % 3 + 1)) (numT p)) (δ1 := [.fro .drw, .fro (.int p), .fro (.int w), s3, .no, .no, .no]) (fun δ => ∃ s4 s6, δ = [.fro .drw, .fro (.int p), .fro (.int w), s3, s4, .no, s6]) (fun R h => ⟨rfl, d_wrong_lines hf hw hw3 h⟩) ⟨_, _, rfl⟩ ?_ ?_
    · rintro d hd δ ⟨s4, s6, rfl⟩
      refine ⟨_, rfl, fun Z' hn _ _ => ?_⟩
      obtain ⟨h1, h2, h3⟩ := wB_of (wrong_all hf hw hw3 d hd)
      refine ⟨fun C xs => C = 17 ∧ xs = [.int 0], fun _ _ _ => False, ⟨rfl, d_deed_of hp hw hw3 h1 h2 (fun _ => ⟨rfl, rfl⟩) fun e => e h3⟩, ?_, fun _ _ _ h => h.elim⟩
      rintro C xs ⟨rfl, rfl⟩
      refine ⟨rfl, true, rfl, ?_⟩
      show (match fldAt (cFields 17) [D.int 0] "at" with | some r => _ | none => False)
      rw [f17]
      refine ⟨rfl, rfl, ?_⟩
      exact hn _ ⟨_, _, rfl⟩
    · rintro δ ⟨s4, s6, rfl⟩
      refine ⟨Nat.le_of_ble_eq_true rfl, rfl, Nat.le_of_ble_eq_true rfl, Nat.le_of_ble_eq_true rfl, fun x hx => ?_⟩
      obtain ⟨x1, x2⟩ := wides_all x hx
      refine ⟨fun C xs => C = 3 ∧ xs = [.str "wide"], fun _ _ _ => False, ⟨rfl, d_deed_wide hp x1 x2 ⟨rfl, rfl⟩⟩, ?_, fun _ _ _ h => h.elim⟩
      rintro C xs ⟨rfl, rfl⟩
      refine ⟨rfl, true, rfl, ?_⟩
      show (match fldAt (cFields 3) [D.str "wide"] "part" with | some r => _ | none => False)
      rw [f3]
      have ow : PyData.strOk ("wide" : Str) = true := by decide +kernel
      refine ⟨ow, ow, ?_⟩
      rw [deq_eq rfl]
      refine ⟨fun C xs => C = 1 ∧ xs = [], fun _ _ _ => False, ⟨Nat.le_of_ble_eq_true rfl, rfl, Nat.le_of_ble_eq_true rfl, Nat.le_of_ble_eq_true rfl, fun y hy => ?_⟩, ?_, fun _ _ _ h => h.elim⟩
      · obtain ⟨y1, y2⟩ := primesN_all y hy
        exact ⟨rfl, d_deed_prime y1 y2 ⟨rfl, rfl⟩⟩
      · rintro C xs ⟨rfl, rfl⟩
        exact ⟨rfl, true, rfl, hR⟩
theorem fields_prime : ∀ p ∈ fields, primeB (.int p) = true := by decide
theorem d_field {R : D → Bool → Prop} {E : Nat → List D → Prop} (hR : ∀ p ∈ fields, R (.int (p : Nat)) false) : F_law_field [.drw] R E := by
  refine ⟨Nat.le_of_ble_eq_true rfl, rfl, Nat.le_of_ble_eq_true rfl, Nat.le_of_ble_eq_true rfl, fun x hx => ?_⟩
  simp only [List.mem_cons, List.not_mem_nil, or_false] at hx
  have : ∃ p ∈ fields, x = .int (p : Nat) := by
    rcases hx with rfl | rfl | rfl | rfl | rfl | rfl | rfl | rfl | rfl | rfl
    · exact ⟨2, by decide, rfl⟩
    · exact ⟨3, by decide, rfl⟩
    · exact ⟨3, by decide, rfl⟩
    · exact ⟨5, by decide, rfl⟩
    · exact ⟨5, by decide, rfl⟩
    · exact ⟨7, by decide, rfl⟩
    · exact ⟨7, by decide, rfl⟩
    · exact ⟨11, by decide, rfl⟩
    · exact ⟨13, by decide, rfl⟩
    · exact ⟨97, by decide, rfl⟩
  obtain ⟨p, hp, rfl⟩ := this
  exact hR p hp
theorem d_law (ns : List Int) (hl : ns.length ≤ 1000) : wlaw endL (dL Nlaw.length ns) := by
  have hm : (if (4 : Int) < (ns.length : Nat) then (4 : Int) else (ns.length : Nat)) ≤ 4 ∧ 0 ≤ (if (4 : Int) < (ns.length : Nat) then (4 : Int) else (ns.length : Nat)) := by split <;> omega
  have el : ((ns.map D.int).length : Int) = (ns.length : Nat) := by rw [List.length_map]
  refine for_inv (items := rngD 0 ((2 : Int) + (if (4 : Int) < ((ns.map D.int).length : Nat) then (4 : Int) else ((ns.map D.int).length : Nat))).toNat) (δ1 := [.fro (.kls (ns.map D.int)), .fro .drw, .no, .no, .no]) (fun δ => ∃ s2 s3 s4, δ = [.fro (.kls (ns.map D.int)), .fro .drw, s2, s3, s4]) (fun R h => ⟨_, rfl, _, rfl, _, rfl, by rw [el]; omega, by rw [el]; omega, h⟩) ⟨_, _, _, rfl⟩ ?_ ?_
  · rintro d _ δ ⟨s2, s3, s4, rfl⟩
    refine ⟨_, rfl, fun Z' hn _ _ => ?_⟩
    refine ⟨rfl, d_field fun p hp => ?_⟩
    have pp := fields_prime p hp
    have p97 : p ≤ 97 := by have := (primes_in pp).2; omega
    have p0 : 0 < p := by have := (primes_in pp).1; omega
    refine ⟨Nat.le_of_ble_eq_true rfl, rfl, Nat.le_of_ble_eq_true rfl, Nat.le_of_ble_eq_true rfl, fun x hx => ?_⟩
    have : ∃ w : Nat, x = .int w ∧ 1 ≤ w ∧ w ≤ 3 := by
      simp only [List.mem_cons, List.not_mem_nil, or_false] at hx
      rcases hx with rfl | rfl | rfl | rfl
      · exact ⟨1, rfl, by decide, by decide⟩
      · exact ⟨2, rfl, by decide, by decide⟩
      · exact ⟨2, rfl, by decide, by decide⟩
      · exact ⟨3, rfl, by decide, by decide⟩
    obtain ⟨w, rfl, w1, w3⟩ := this
    refine ⟨rfl, ?_⟩
    refine ⟨rfl, d_any p0 p97 w3 fun m due line hm => ⟨rfl, d_holds pp w1 w3 hm ?_⟩⟩
    refine ⟨rfl, d_refused hp pp w1 w3 ?_⟩
    exact hn _ ⟨_, _, _, rfl⟩
  · rintro δ ⟨s2, s3, s4, rfl⟩
    rfl
end Lk97

set_option Elab.async false
set_option linter.all false
set_option maxRecDepth 100000
set_option maxHeartbeats 4000000
namespace Lk97
open PySem PySem.Spec PyProof.Rows L2 PD

def Ncaught : List Str := ["_law_work", "_law_caught_here", "error"]
theorem sc_caught : FnScope Ncaught ["_law_work"] (defScope (top 40)) := C8.fnScope_by (by decide +kernel)
set_option maxHeartbeats 0 in
theorem facts {w : World} {K : PySem.W.Frag} {h : Heap} {mg : Str → Option Value} {f : Addr} (X : K.In h) (G : h.Ns mainGlobals mg) (hfa : mg "law" = some (.ref f)) (c : SaysQ fa fn me tf ex h K) : LawT PySem.Challenge.rw_unswayed_k97_texts_of_deeds w K 12 63 "_law_script" mg f h := by
  have ex_ : ∀ (n : Nat) (b : Bool), (exl K)[n]? = some b → b = true := fun n b e => List.all_eq_true.mp (He.ba c.p.more).2 b (List.mem_of_getElem? e)
  have hD : Hd PySem.Challenge.rw_unswayed_k97_texts_of_deeds.prog K mg fl cs pl ff := hd_of X G c.p (fun K e => He.ba (He.ba e).1) (by kernel_rfl) (fun x hx => by unfold fa; simp only [List.mem_append, List.mem_map]; exact .inl ⟨x, hx, rfl⟩) (by unfold fa; simp) (fun C hC => by
    simp only [ff, List.mem_cons, List.not_mem_nil, or_false] at hC
    rcases hC with rfl | rfl
    · exact ⟨_, mBadNumber, rfl, by simp [me], rfl, rfl, rfl, fun _ => rfl, tBadNumber⟩
    · exact ⟨_, mBadText, rfl, by simp [me], rfl, rfl, rfl, fun _ => rfl, tBadText⟩)
  have ink : InK K 40 := inkB_ok (ex_ 2 _ rfl)
  have na := naB_ok (C := 40) (ex_ 3 _ rfl)
  have tcl : Cls K (cA K 40) := He.cls_ok (c.p.d.facts (f := He.Fa.cls "Table") (by unfold fa; simp))
  have hI : HdI K 40 gs := ⟨ink, na, fun q hq => by
    simp only [gs, List.mem_cons, List.not_mem_nil, or_false] at hq
    rcases hq with rfl | rfl | rfl | rfl
    · exact getD_of (d := gTable_prime) (c.p.meth (by simp [me])) rfl rfl (ex_ 4 _ rfl) scgTable_prime rfl rfl (by exact fun _ _ _ _ _ _ us hl => match us, hl with | [_], _ => rfl) (na _ (by decide +kernel)) tcl
    · exact getD_of (d := gTable_tall) (c.p.meth (by simp [me])) rfl rfl (ex_ 5 _ rfl) scgTable_tall rfl rfl (by exact fun _ _ _ _ _ _ us hl => match us, hl with | [_], _ => rfl) (na _ (by decide +kernel)) tcl
    · exact getD_of (d := gTable_wide) (c.p.meth (by simp [me])) rfl rfl (ex_ 6 _ rfl) scgTable_wide rfl rfl (by exact fun _ _ _ _ _ _ us hl => match us, hl with | [_], _ => rfl) (na _ (by decide +kernel)) tcl
    · exact getD_of (d := gTable_lines) (c.p.meth (by simp [me])) rfl rfl (ex_ 7 _ rfl) scgTable_lines rfl rfl (by exact fun _ _ _ _ _ _ us hl => match us, hl with | [_], _ => rfl) (na _ (by decide +kernel)) tcl⟩
  have hC : HdC K mg ci cst ct := ⟨fun q hq => by
    simp only [ci, List.mem_cons, List.not_mem_nil, or_false] at hq
    rcases hq with rfl | rfl | rfl <;> exact He.int_ok X G (c.p.d.facts (by unfold fa; simp)), fun q hq => by
    simp only [cst, List.mem_cons, List.not_mem_nil, or_false] at hq
    subst hq
    exact He.str_ok X G (c.p.d.facts (by unfold fa; simp)), fun q hq => by
    simp only [ct, List.mem_cons, List.not_mem_nil, or_false] at hq
    subst hq
    exact ⟨He.glo_ok X G (c.p.d.facts (by unfold fa; simp)), kt_of (ex_ 8 _ rfl)⟩⟩
  obtain ⟨fdis_number, Fuis_number⟩ := c.p.d.def_ 0 (d := dis_number) rfl
  have gis_number : mg "is_number" = some (.ref (He.ga K "is_number")) := He.glo_ok X G (c.p.d.facts (by unfold fa; simp))
  obtain ⟨fdis_between, Fuis_between⟩ := c.p.d.def_ 1 (d := dis_between) rfl
  have gis_between : mg "is_between" = some (.ref (He.ga K "is_between")) := He.glo_ok X G (c.p.d.facts (by unfold fa; simp))
  obtain ⟨fdis_list, Fuis_list⟩ := c.p.d.def_ 2 (d := dis_list) rfl
  have gis_list : mg "is_list" = some (.ref (He.ga K "is_list")) := He.glo_ok X G (c.p.d.facts (by unfold fa; simp))
  obtain ⟨fdis_prime, Fuis_prime⟩ := c.p.d.def_ 3 (d := dis_prime) rfl
  have gis_prime : mg "is_prime" = some (.ref (He.ga K "is_prime")) := He.glo_ok X G (c.p.d.facts (by unfold fa; simp))
  obtain ⟨fdneed_prime, Funeed_prime⟩ := c.p.d.def_ 4 (d := dneed_prime) rfl
  have gneed_prime : mg "need_prime" = some (.ref (He.ga K "need_prime")) := He.glo_ok X G (c.p.d.facts (by unfold fa; simp))
  obtain ⟨fdare_lines, Fuare_lines⟩ := c.p.d.def_ 5 (d := dare_lines) rfl
  have gare_lines : mg "are_lines" = some (.ref (He.ga K "are_lines")) := He.glo_ok X G (c.p.d.facts (by unfold fa; simp))
  obtain ⟨fdTable__init__, FuTable__init__⟩ := c.p.d.def_ 6 (d := dTable__init__) rfl
  obtain ⟨fdTable__eq__, FuTable__eq__⟩ := c.p.d.def_ 7 (d := dTable__eq__) rfl
  obtain ⟨fdplain, Fuplain⟩ := c.p.d.def_ 8 (d := dplain) rfl
  have gplain : mg "plain" = some (.ref (He.ga K "plain")) := He.glo_ok X G (c.p.d.facts (by unfold fa; simp))
  obtain ⟨fdis_deed, Fuis_deed⟩ := c.p.d.def_ 9 (d := dis_deed) rfl
  have gis_deed : mg "is_deed" = some (.ref (He.ga K "is_deed")) := He.glo_ok X G (c.p.d.facts (by unfold fa; simp))
  obtain ⟨fdnumber_of_text, Funumber_of_text⟩ := c.p.d.def_ 10 (d := dnumber_of_text) rfl
  have gnumber_of_text : mg "number_of_text" = some (.ref (He.ga K "number_of_text")) := He.glo_ok X G (c.p.d.facts (by unfold fa; simp))
  obtain ⟨fdnumbers_of_text, Funumbers_of_text⟩ := c.p.d.def_ 11 (d := dnumbers_of_text) rfl
  have gnumbers_of_text : mg "numbers_of_text" = some (.ref (He.ga K "numbers_of_text")) := He.glo_ok X G (c.p.d.facts (by unfold fa; simp))
  obtain ⟨fdlines_text, Fulines_text⟩ := c.p.d.def_ 12 (d := dlines_text) rfl
  have glines_text : mg "lines_text" = some (.ref (He.ga K "lines_text")) := He.glo_ok X G (c.p.d.facts (by unfold fa; simp))
  obtain ⟨fdtable_of_lines, Futable_of_lines⟩ := c.p.d.def_ 13 (d := dtable_of_lines) rfl
  have gtable_of_lines : mg "table_of_lines" = some (.ref (He.ga K "table_of_lines")) := He.glo_ok X G (c.p.d.facts (by unfold fa; simp))
  obtain ⟨fddeed_text, Fudeed_text⟩ := c.p.d.def_ 14 (d := ddeed_text) rfl
  have gdeed_text : mg "deed_text" = some (.ref (He.ga K "deed_text")) := He.glo_ok X G (c.p.d.facts (by unfold fa; simp))
  obtain ⟨fdfound_deed, Fufound_deed⟩ := c.p.d.def_ 15 (d := dfound_deed) rfl
  have gfound_deed : mg "found_deed" = some (.ref (He.ga K "found_deed")) := He.glo_ok X G (c.p.d.facts (by unfold fa; simp))
  obtain ⟨fddeed_of_text, Fudeed_of_text⟩ := c.p.d.def_ 16 (d := ddeed_of_text) rfl
  have gdeed_of_text : mg "deed_of_text" = some (.ref (He.ga K "deed_of_text")) := He.glo_ok X G (c.p.d.facts (by unfold fa; simp))
  obtain ⟨fd_law_begun, Fu_law_begun⟩ := c.p.d.def_ 17 (d := d_law_begun) rfl
  have g_law_begun : mg "_law_begun" = some (.ref (He.ga K "_law_begun")) := He.glo_ok X G (c.p.d.facts (by unfold fa; simp))
  obtain ⟨fd_law_mixed, Fu_law_mixed⟩ := c.p.d.def_ 18 (d := d_law_mixed) rfl
  have g_law_mixed : mg "_law_mixed" = some (.ref (He.ga K "_law_mixed")) := He.glo_ok X G (c.p.d.facts (by unfold fa; simp))
  obtain ⟨fd_law_take, Fu_law_take⟩ := c.p.d.def_ 19 (d := d_law_take) rfl
  have g_law_take : mg "_law_take" = some (.ref (He.ga K "_law_take")) := He.glo_ok X G (c.p.d.facts (by unfold fa; simp))
  obtain ⟨fd_law_pick, Fu_law_pick⟩ := c.p.d.def_ 20 (d := d_law_pick) rfl
  have g_law_pick : mg "_law_pick" = some (.ref (He.ga K "_law_pick")) := He.glo_ok X G (c.p.d.facts (by unfold fa; simp))
  obtain ⟨fd_law_unit, Fu_law_unit⟩ := c.p.d.def_ 21 (d := d_law_unit) rfl
  have g_law_unit : mg "_law_unit" = some (.ref (He.ga K "_law_unit")) := He.glo_ok X G (c.p.d.facts (by unfold fa; simp))
  obtain ⟨fd_law_field, Fu_law_field⟩ := c.p.d.def_ 22 (d := d_law_field) rfl
  have g_law_field : mg "_law_field" = some (.ref (He.ga K "_law_field")) := He.glo_ok X G (c.p.d.facts (by unfold fa; simp))
  obtain ⟨fd_law_made_table, Fu_law_made_table⟩ := c.p.d.def_ 23 (d := d_law_made_table) rfl
  have g_law_made_table : mg "_law_made_table" = some (.ref (He.ga K "_law_made_table")) := He.glo_ok X G (c.p.d.facts (by unfold fa; simp))
  obtain ⟨fd_law_caught, Fu_law_caught⟩ := c.p.d.def_ 24 (d := d_law_caught) rfl
  have g_law_caught : mg "_law_caught" = some (.ref (He.ga K "_law_caught")) := He.glo_ok X G (c.p.d.facts (by unfold fa; simp))
  obtain ⟨fd_law_line_of, Fu_law_line_of⟩ := c.p.d.def_ 25 (d := d_law_line_of) rfl
  have g_law_line_of : mg "_law_line_of" = some (.ref (He.ga K "_law_line_of")) := He.glo_ok X G (c.p.d.facts (by unfold fa; simp))
  obtain ⟨fd_law_made_deed, Fu_law_made_deed⟩ := c.p.d.def_ 26 (d := d_law_made_deed) rfl
  have g_law_made_deed : mg "_law_made_deed" = some (.ref (He.ga K "_law_made_deed")) := He.glo_ok X G (c.p.d.facts (by unfold fa; simp))
  obtain ⟨fd_law_move_line, Fu_law_move_line⟩ := c.p.d.def_ 27 (d := d_law_move_line) rfl
  have g_law_move_line : mg "_law_move_line" = some (.ref (He.ga K "_law_move_line")) := He.glo_ok X G (c.p.d.facts (by unfold fa; simp))
  obtain ⟨fd_law_any_deed, Fu_law_any_deed⟩ := c.p.d.def_ 28 (d := d_law_any_deed) rfl
  have g_law_any_deed : mg "_law_any_deed" = some (.ref (He.ga K "_law_any_deed")) := He.glo_ok X G (c.p.d.facts (by unfold fa; simp))
  obtain ⟨fd_law_deed_holds, Fu_law_deed_holds⟩ := c.p.d.def_ 29 (d := d_law_deed_holds) rfl
  have g_law_deed_holds : mg "_law_deed_holds" = some (.ref (He.ga K "_law_deed_holds")) := He.glo_ok X G (c.p.d.facts (by unfold fa; simp))
  obtain ⟨fd_law_wrong_lines, Fu_law_wrong_lines⟩ := c.p.d.def_ 30 (d := d_law_wrong_lines) rfl
  have g_law_wrong_lines : mg "_law_wrong_lines" = some (.ref (He.ga K "_law_wrong_lines")) := He.glo_ok X G (c.p.d.facts (by unfold fa; simp))
  obtain ⟨fd_law_refused, Fu_law_refused⟩ := c.p.d.def_ 31 (d := d_law_refused) rfl
  have g_law_refused : mg "_law_refused" = some (.ref (He.ga K "_law_refused")) := He.glo_ok X G (c.p.d.facts (by unfold fa; simp))
  obtain ⟨fdlaw, Fulaw⟩ := c.p.d.def_ 32 (d := dlaw) rfl
  have glaw : mg "law" = some (.ref (He.ga K "law")) := He.glo_ok X G (c.p.d.facts (by unfold fa; simp))
  have e : f = He.ga K "law" := by rw [hfa] at glaw; injection glaw with z; injection z
  subst e
  obtain ⟨so, hso, hsx⟩ := c.sys
  have catD : CatD PySem.Challenge.rw_unswayed_k97_texts_of_deeds.prog K mg "_law_caught" (cA K 0) := ⟨top 40, _, fd_law_caught, Ncaught, "_law_work", Fu_law_caught, g_law_caught, sc_caught, rfl, .inl rfl, by decide, by decide, by exact fun _ _ _ _ _ _ us hl => match us, hl with | [_], _ => rfl, fun Y cdv q eK em => by
    subst eK; subst em
    exact catch_gives (by decide) rfl rfl rfl (hD.cls 0 (by decide)) (by decide) (by decide) (by decide) (by decide) (by decide) (fun env e => by cases env; cases e; rfl) (fun env e => by cases env; cases e; rfl) (fun env e => by cases env; cases e; rfl)⟩
  have sw : SwK K := swKB_ok (ex_ 0 _ rfl)
  have mem : ∀ p ∈ tfq.map (fun p => He.cT K p.1), ∃ q ∈ tf, p = He.cT K q := fun p hp => by
    obtain ⟨q, hq, e⟩ := List.mem_map.mp hp
    exact ⟨q.1, List.mem_map.mpr ⟨q, hq, rfl⟩, e.symm⟩
  refine ⟨fdlaw, tfq.map (fun p => He.cT K p.1), so, spLaw (tbT K tfq) K so, c.p.no, hso, hsx, fun p hp => ?_, fun p hp => ?_, fun p hp => ?_, fun s u => FunD.bindsA (ps := ["_law_script"]) Fulaw (by exact fun _ _ _ _ _ _ us hl => match us, hl with | [_], _ => rfl) s [u] rfl, fun H a ns hl hS hT hs => ⟨a, ns, rfl, by omega, hs, hS, fun q hq => ?_, fun H' e => ⟨rfl, e⟩⟩, fun base _ _ TB => ?_⟩
  · obtain ⟨q, hq, rfl⟩ := mem p hp; exact c.empty q hq
  · obtain ⟨q, hq, rfl⟩ := mem p hp; exact c.out q hq
  · obtain ⟨q, hq, rfl⟩ := mem p hp; exact PySem.W.codeHd_of_K X (c.hd q hq)
  · obtain ⟨r, hr, rfl⟩ := List.mem_map.mp hq; exact hT _ (List.mem_map.mpr ⟨r, hr, rfl⟩)
  have cis_number : ∀ Ω : Om, DrawT (tbT K tfq) Ω → Cl PySem.Challenge.rw_unswayed_k97_texts_of_deeds.prog w K mg base Ω 1 "is_number" (top 10) ["thing"] Fis_number := fun Ω hT => cl_pd Fuis_number gis_number scis_number (by decide) (by decide) wis_number (bis_number hD hI hC hT.o )
  have cis_between : ∀ Ω : Om, DrawT (tbT K tfq) Ω → Cl PySem.Challenge.rw_unswayed_k97_texts_of_deeds.prog w K mg base Ω 2 "is_between" (top 11) ["thing", "low", "high"] Fis_between := fun Ω hT => cl_pd Fuis_between gis_between scis_between (by decide) (by decide) wis_between (bis_between hD hI hC hT.o (cis_number Ω hT))
  have cis_list : ∀ Ω : Om, DrawT (tbT K tfq) Ω → Cl PySem.Challenge.rw_unswayed_k97_texts_of_deeds.prog w K mg base Ω 1 "is_list" (top 12) ["thing"] Fis_list := fun Ω hT => cl_pd Fuis_list gis_list scis_list (by decide) (by decide) wis_list (bis_list hD hI hC hT.o )
  have cis_prime : ∀ Ω : Om, DrawT (tbT K tfq) Ω → Cl PySem.Challenge.rw_unswayed_k97_texts_of_deeds.prog w K mg base Ω 2 "is_prime" (top 13) ["thing"] Fis_prime := fun Ω hT => cl_pd Fuis_prime gis_prime scis_prime (by decide) (by decide) wis_prime (bis_prime hD hI hC hT.o (cis_number Ω hT))
  have cneed_prime : ∀ Ω : Om, DrawT (tbT K tfq) Ω → Cl PySem.Challenge.rw_unswayed_k97_texts_of_deeds.prog w K mg base Ω 3 "need_prime" (top 14) ["thing"] Fneed_prime := fun Ω hT => cl_pd Funeed_prime gneed_prime scneed_prime (by decide) (by decide) wneed_prime (bneed_prime hD hI hC hT.o (cis_prime Ω hT))
  have care_lines : ∀ Ω : Om, DrawT (tbT K tfq) Ω → Cl PySem.Challenge.rw_unswayed_k97_texts_of_deeds.prog w K mg base Ω 2 "are_lines" (top 15) ["thing", "tall", "wide"] Fare_lines := fun Ω hT => cl_pd Fuare_lines gare_lines scare_lines (by decide) (by decide) ware_lines (bare_lines hD hI hC hT.o (cis_number Ω hT) (cis_list Ω hT))
  have mTable : ∀ Ω : Om, DrawT (tbT K tfq) Ω → ClM PySem.Challenge.rw_unswayed_k97_texts_of_deeds.prog w K mg base Ω 4 40 ["prime", "tall", "wide", "lines"] FTable := fun Ω hT => clM_of (C := 40) (y := "self") (He.mkr_ok (x := "Table") (c.p.d.facts (by unfold fa; simp))) (hD.cls 40 (by decide)) FuTable__init__ scTable__init__ (by decide) hI.ink wTable__init__ (by decide) (bTable__init__ hD hI hC hT.o (cis_between Ω hT) (cneed_prime Ω hT) (care_lines Ω hT)) (by exact fun _ _ _ _ _ _ us hl => match us, hl with | [_,_,_,_,_], _ => rfl)
  have eqC : ∀ Ω : Om, DrawT (tbT K tfq) Ω → ∀ C xs ys, okF C xs ys = true → EqC PySem.Challenge.rw_unswayed_k97_texts_of_deeds.prog w K mg base Ω 1 C xs ys := fun Ω hT C xs ys h => by
    obtain ⟨rfl, h2⟩ := d_eq h
    exact eqC_of (C := 40) (He.meth_ok (x := "Table") (m := "__eq__") (c.p.d.facts (by unfold fa; simp))) FuTable__eq__ scTable__eq__ (by decide) wTable__eq__ (bTable__eq__ hD hI hC hT.o ) (by exact fun _ _ _ _ _ _ us hl => match us, hl with | [_,_], _ => rfl) h2
  have cplain : ∀ Ω : Om, DrawT (tbT K tfq) Ω → Cl PySem.Challenge.rw_unswayed_k97_texts_of_deeds.prog w K mg base Ω 6 "plain" (top 17) ["prime", "size"] Fplain := fun Ω hT => cl_pd Fuplain gplain scplain (by decide) (by decide) wplain (bplain hD hI hC hT.o (cis_between Ω hT) (cneed_prime Ω hT) (mTable Ω hT))
  have cis_deed : ∀ Ω : Om, DrawT (tbT K tfq) Ω → Cl PySem.Challenge.rw_unswayed_k97_texts_of_deeds.prog w K mg base Ω 2 "is_deed" (top 19) ["thing"] Fis_deed := fun Ω hT => cl_pd Fuis_deed gis_deed scis_deed (by decide) (by decide) wis_deed (bis_deed hD hI hC hT.o (cis_number Ω hT))
  have cnumber_of_text : ∀ Ω : Om, DrawT (tbT K tfq) Ω → Cl PySem.Challenge.rw_unswayed_k97_texts_of_deeds.prog w K mg base Ω 1 "number_of_text" (top 23) ["word", "low", "high"] Fnumber_of_text := fun Ω hT => cl_pd Funumber_of_text gnumber_of_text scnumber_of_text (by decide) (by decide) wnumber_of_text (bnumber_of_text hD hI hC hT.o )
  have cnumbers_of_text : ∀ Ω : Om, DrawT (tbT K tfq) Ω → Cl PySem.Challenge.rw_unswayed_k97_texts_of_deeds.prog w K mg base Ω 2 "numbers_of_text" (top 24) ["text", "low", "high"] Fnumbers_of_text := fun Ω hT => cl_pd Funumbers_of_text gnumbers_of_text scnumbers_of_text (by decide) (by decide) wnumbers_of_text (bnumbers_of_text hD hI hC hT.o (cnumber_of_text Ω hT))
  have clines_text : ∀ Ω : Om, DrawT (tbT K tfq) Ω → Cl PySem.Challenge.rw_unswayed_k97_texts_of_deeds.prog w K mg base Ω 3 "lines_text" (top 25) ["table"] Flines_text := fun Ω hT => cl_pd Fulines_text glines_text sclines_text (by decide) (by decide) wlines_text (blines_text hD hI hC hT.o )
  have ctable_of_lines : ∀ Ω : Om, DrawT (tbT K tfq) Ω → Cl PySem.Challenge.rw_unswayed_k97_texts_of_deeds.prog w K mg base Ω 6 "table_of_lines" (top 26) ["prime", "wide", "text"] Ftable_of_lines := fun Ω hT => cl_pd Futable_of_lines gtable_of_lines sctable_of_lines (by decide) (by decide) wtable_of_lines (btable_of_lines hD hI hC hT.o (cnumbers_of_text Ω hT) (mTable Ω hT))
  have cdeed_text : ∀ Ω : Om, DrawT (tbT K tfq) Ω → Cl PySem.Challenge.rw_unswayed_k97_texts_of_deeds.prog w K mg base Ω 4 "deed_text" (top 29) ["deed"] Fdeed_text := fun Ω hT => cl_pd Fudeed_text gdeed_text scdeed_text (by decide) (by decide) wdeed_text (bdeed_text hD hI hC hT.o (cis_between Ω hT) (cis_deed Ω hT) (clines_text Ω hT))
  have cfound_deed : ∀ Ω : Om, DrawT (tbT K tfq) Ω → Cl PySem.Challenge.rw_unswayed_k97_texts_of_deeds.prog w K mg base Ω 7 "found_deed" (top 30) ["prime", "wide", "line"] Ffound_deed := fun Ω hT => cl_pd Fufound_deed gfound_deed scfound_deed (by decide) (by decide) wfound_deed (bfound_deed hD hI hC hT.o (cnumber_of_text Ω hT) (ctable_of_lines Ω hT))
  have cdeed_of_text : ∀ Ω : Om, DrawT (tbT K tfq) Ω → Cl PySem.Challenge.rw_unswayed_k97_texts_of_deeds.prog w K mg base Ω 8 "deed_of_text" (top 31) ["prime", "wide", "text"] Fdeed_of_text := fun Ω hT => cl_pd Fudeed_of_text gdeed_of_text scdeed_of_text (by decide) (by decide) wdeed_of_text (bdeed_of_text hD hI hC hT.o (cis_between Ω hT) (cneed_prime Ω hT) (cfound_deed Ω hT))
  have c_law_mixed : ∀ Ω : Om, DrawT (tbT K tfq) Ω → Cl PySem.Challenge.rw_unswayed_k97_texts_of_deeds.prog w K mg base Ω 1 "_law_mixed" (top 34) ["_law_draw"] F_law_mixed := fun Ω hT => (cl_pd Fu_law_mixed g_law_mixed sc_law_mixed (by decide) (by decide) w_law_mixed (b_law_mixed hD hI hC hT.o )).imp mo_mixed d_mixed
  have c_law_take : ∀ Ω : Om, DrawT (tbT K tfq) Ω → Cl PySem.Challenge.rw_unswayed_k97_texts_of_deeds.prog w K mg base Ω 2 "_law_take" (top 35) ["_law_draw", "_law_amount"] F_law_take := fun Ω hT => (cl_pd Fu_law_take g_law_take sc_law_take (by decide) (by decide) w_law_take (b_law_take hD hI hC hT.o (c_law_mixed Ω hT))).imp mo_take d_take
  have c_law_pick : ∀ Ω : Om, DrawT (tbT K tfq) Ω → Cl PySem.Challenge.rw_unswayed_k97_texts_of_deeds.prog w K mg base Ω 3 "_law_pick" (top 36) ["_law_draw", "_law_some"] F_law_pick := fun Ω hT => (cl_pd Fu_law_pick g_law_pick sc_law_pick (by decide) (by decide) w_law_pick (b_law_pick hD hI hC hT.o (c_law_take Ω hT))).imp mo_pick d_pick
  have c_law_unit : ∀ Ω : Om, DrawT (tbT K tfq) Ω → Cl PySem.Challenge.rw_unswayed_k97_texts_of_deeds.prog w K mg base Ω 1 "_law_unit" (top 37) ["_law_size"] F_law_unit := fun Ω hT => cl_pd Fu_law_unit g_law_unit sc_law_unit (by decide) (by decide) w_law_unit (b_law_unit hD hI hC hT.o )
  have c_law_field : ∀ Ω : Om, DrawT (tbT K tfq) Ω → Cl PySem.Challenge.rw_unswayed_k97_texts_of_deeds.prog w K mg base Ω 4 "_law_field" (top 38) ["_law_draw"] F_law_field := fun Ω hT => cl_pd Fu_law_field g_law_field sc_law_field (by decide) (by decide) w_law_field (b_law_field hD hI hC hT.o (c_law_pick Ω hT))
  have c_law_made_table : ∀ Ω : Om, DrawT (tbT K tfq) Ω → Cl PySem.Challenge.rw_unswayed_k97_texts_of_deeds.prog w K mg base Ω 6 "_law_made_table" (top 39) ["_law_field_here", "_law_lines_here"] F_law_made_table := fun Ω hT => cl_pd Fu_law_made_table g_law_made_table sc_law_made_table (by decide) (by decide) w_law_made_table (b_law_made_table hD hI hC hT.o (mTable Ω hT))
  have c_law_line_of : ∀ Ω : Om, DrawT (tbT K tfq) Ω → Cl PySem.Challenge.rw_unswayed_k97_texts_of_deeds.prog w K mg base Ω 1 "_law_line_of" (top 41) ["_law_lines_here"] F_law_line_of := fun Ω hT => cl_pd Fu_law_line_of g_law_line_of sc_law_line_of (by decide) (by decide) w_law_line_of (b_law_line_of hD hI hC hT.o )
  have c_law_made_deed : ∀ Ω : Om, DrawT (tbT K tfq) Ω → Cl PySem.Challenge.rw_unswayed_k97_texts_of_deeds.prog w K mg base Ω 7 "_law_made_deed" (top 42) ["_law_field_here", "_law_move_here"] F_law_made_deed := fun Ω hT => cl_pd Fu_law_made_deed g_law_made_deed sc_law_made_deed (by decide) (by decide) w_law_made_deed (b_law_made_deed hD hI hC hT.o (c_law_made_table Ω hT))
  have c_law_move_line : ∀ Ω : Om, DrawT (tbT K tfq) Ω → Cl PySem.Challenge.rw_unswayed_k97_texts_of_deeds.prog w K mg base Ω 2 "_law_move_line" (top 43) ["_law_move_here"] F_law_move_line := fun Ω hT => cl_pd Fu_law_move_line g_law_move_line sc_law_move_line (by decide) (by decide) w_law_move_line (b_law_move_line hD hI hC hT.o (c_law_line_of Ω hT))
  have c_law_any_deed : ∀ Ω : Om, DrawT (tbT K tfq) Ω → Cl PySem.Challenge.rw_unswayed_k97_texts_of_deeds.prog w K mg base Ω 4 "_law_any_deed" (top 44) ["_law_draw", "_law_field_here", "_law_wide_here"] F_law_any_deed := fun Ω hT => cl_pd Fu_law_any_deed g_law_any_deed sc_law_any_deed (by decide) (by decide) w_law_any_deed (b_law_any_deed hD hI hC hT.o (c_law_take Ω hT) (c_law_pick Ω hT))
  have c_law_deed_holds : ∀ Ω : Om, DrawT (tbT K tfq) Ω → Cl PySem.Challenge.rw_unswayed_k97_texts_of_deeds.prog w K mg base Ω 11 "_law_deed_holds" (top 45) ["_law_draw", "_law_field_here", "_law_wide_here", "_law_move_here"] F_law_deed_holds := fun Ω hT => cl_pd Fu_law_deed_holds g_law_deed_holds sc_law_deed_holds (by decide) (by decide) w_law_deed_holds (b_law_deed_holds hD hI hC hT.o (cdeed_text Ω hT) (cdeed_of_text Ω hT) (c_law_take Ω hT) (c_law_pick Ω hT) (c_law_made_deed Ω hT) (c_law_move_line Ω hT) (eqC Ω hT) catD sw (code_ref (p := ("_law_deed_holds", none)) Fu_law_deed_holds) (lamW_of (l := tfq) (p := ("_law_deed_holds", none)) (q := "_law_deed_holds.<locals>.<lambda>") (ex_ 1 _ rfl) hT TB (by simp [tfq])))
  have c_law_wrong_lines : ∀ Ω : Om, DrawT (tbT K tfq) Ω → Cl PySem.Challenge.rw_unswayed_k97_texts_of_deeds.prog w K mg base Ω 2 "_law_wrong_lines" (top 46) ["_law_field_here", "_law_wide_here"] F_law_wrong_lines := fun Ω hT => cl_pd Fu_law_wrong_lines g_law_wrong_lines sc_law_wrong_lines (by decide) (by decide) w_law_wrong_lines (b_law_wrong_lines hD hI hC hT.o (c_law_unit Ω hT) (c_law_line_of Ω hT))
  have c_law_refused : ∀ Ω : Om, DrawT (tbT K tfq) Ω → Cl PySem.Challenge.rw_unswayed_k97_texts_of_deeds.prog w K mg base Ω 11 "_law_refused" (top 47) ["_law_draw", "_law_field_here", "_law_wide_here"] F_law_refused := fun Ω hT => cl_pd Fu_law_refused g_law_refused sc_law_refused (by decide) (by decide) w_law_refused (b_law_refused hD hI hC hT.o (cplain Ω hT) (cdeed_text Ω hT) (cdeed_of_text Ω hT) (c_law_pick Ω hT) (c_law_wrong_lines Ω hT) (mTable Ω hT) catD sw (code_ref (p := ("_law_refused", none)) Fu_law_refused) (lamW_of (l := tfq) (p := ("_law_refused", none)) (q := "_law_refused.<locals>.<lambda>") (ex_ 1 _ rfl) hT TB (by simp [tfq])))
  have okB : FnG PySem.Challenge.rw_unswayed_k97_texts_of_deeds.prog w K mg base (L2.CX PySem.Challenge.rw_unswayed_k97_texts_of_deeds.prog w) 1 (He.ga K "_law_begun") fd_law_begun ["_law_script"] (spBegun K) := fn_begun (st := top 33) Fu_law_begun sc_law_begun rfl rfl d_begun1 d_begun2 (b_law_begun hD)
  exact fn_law (T := tbT K tfq) (tb := fun _ _ _ => True) (fB := 0) (fdB := fdlaw) (st := top 48) (rest := rest) (s0 := s0) Fulaw sclaw (by decide) rfl rfl (b0law hD okB g_law_begun Fu_law_begun) (fun A outer s H E c hT hS hg hr => blaw hD A outer s H E c hT.o hS hg hr (c_law_pick c.Om hT) (c_law_field c.Om hT) (c_law_any_deed c.Om hT) (c_law_deed_holds c.Om hT) (c_law_refused c.Om hT)) fun ns hl => d_law ns hl
end Lk97
open PySem PySem.W PySem.Calls PyProof.Rows
theorem PySem.Challenge.cw_unswayed_k97_texts_of_deeds_holds : PySem.Challenge.rw_unswayed_k97_texts_of_deeds.Holds := by
  w_on; o_law
  refine HandSHeadRun.head_any (r := OpenLaw.row PySem.Challenge.rw_unswayed_k97_texts_of_deeds) (q := Lk97.qv) (H := Lk97.hk) (ob := Lk97.ob) (M := 20000) (loose := Lk97.loose) (d := HandSHeadRun.topDef (OpenLaw.row PySem.Challenge.rw_unswayed_k97_texts_of_deeds).prog 48) (kwd := []) Lk97.ob_eq
    (by kernel_rfl) (fun s => by kernel_rfl) Lk97.run (by kernel_rfl) (by kernel_rfl) (by kernel_rfl) (by rfl) (by first | assumption | decide +kernel) (by decide +kernel) ⟨rfl, rfl, rfl, rfl, rfl, by decide +kernel⟩ ?hw ?hc
  case hw => w_witness2
  case hc =>
    refine PD.walk_T (l := PySem.Challenge.rw_unswayed_k97_texts_of_deeds) (n := 63) (k := 12) (x := "_law_script") rfl (by decide) (by kernel_rfl) ⟨rfl, by decide, by decide⟩ ?F
    intro w mg fa h Y G hmg0
    obtain ⟨K, KX, c⟩ := Y
    have hmg : mg ("law" : PySem.Str) = some (.ref fa) := by
      have e : (HandSHeadRun.topDef (OpenLaw.row PySem.Challenge.rw_unswayed_k97_texts_of_deeds).prog 48).name = ("law" : PySem.Str) := by kernel_rfl
      rw [← e]
      exact hmg0
    exact ⟨K, KX, Lk97.facts KX G hmg c⟩

