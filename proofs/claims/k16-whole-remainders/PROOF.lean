import PyProof.Rows.All
import Wide.All
import OpenK.AllK
import Wide.FinOn
import HandS.ForMost
import HandS.Exc
import HandS.ExcOwn
import HandS.WordsExc
import HandS.Defaults
import HandS.Wide
import HandS.Lambda
import HandS.TupAny
import HandS.TupMul
import HandS.Deep
import HandS.Star
import HandS.IsInst
import HandS.Gcd
import HandS.RaiseMore
import HandS.SortInts
import HandS.Walk
import HandS.Zip
import HandS.Rev
import HandS.Dict
import HandS.ExcInit
import KE.KExcInit
import KE.KExcStr
import HandS.MakeKw
import HandS.ExcIs
import HandS.ExcField
import HandS.Ends
import HandS.HeadEnd
import HandS.EndTab
import PyProof.StrBlock2
import HandS.HeadHook1
import HandS.HeadHook2
import HandS.HeadHook3
import HandS.HeadHook4
import HandS.Style
import HandS.Set
import PyProof.Rows.RegFStrParts
import PyProof.FitsInt
import HandS.Head0
import HandS.Head1
import HandS.Head2
import HandS.Head3
import HandS.HeadWalk
import HandS.Words
import PySem.Challenge.RW_runsbelieved_k16_whole_remainders_orders
set_option Elab.async false
set_option linter.all false
set_option maxRecDepth 100000
set_option maxHeartbeats 0
/-! The value layer, 1: data, what bears it, the list of what is held. -/
namespace VL
open PySem PySem.Spec PyProof.Rows L2

/-- the program's own exceptions -/
inductive Cl where
  | BadPrime | BadNumber | BadName | BadRemainder | BadExpression | BadProgram | BadInput | BadNet | BadLayers | BadPoint | BadLine | BadTable | BadClaim
  | BadTalk | BadCheat | BadCode | BadWord | BadTree | BadMachine | BadBatch | BadText | BadBytes | BadPaper | BadDeed | TooMany | NoSuch
  deriving DecidableEq

/-- data: what a value is, all through -/
inductive D where
  | non | bl (b : Bool) | int (i : Int) | str (x : Str) | tup (xs : List D) | lst (xs : List D)
  /-- an own exception with its field; raw: just made, not raised yet -/
  | exc (c : Cl) (raw : Bool) (v : D)
instance : Inhabited D := ⟨.non⟩

def Cl.nm : Cl → Str
  | .BadPrime => "BadPrime" | .BadNumber => "BadNumber" | .BadName => "BadName" | .BadRemainder => "BadRemainder" | .BadExpression => "BadExpression" | .BadProgram => "BadProgram"
  | .BadInput => "BadInput" | .BadNet => "BadNet" | .BadLayers => "BadLayers" | .BadPoint => "BadPoint" | .BadLine => "BadLine" | .BadTable => "BadTable" | .BadClaim => "BadClaim"
  | .BadTalk => "BadTalk" | .BadCheat => "BadCheat" | .BadCode => "BadCode" | .BadWord => "BadWord" | .BadTree => "BadTree" | .BadMachine => "BadMachine" | .BadBatch => "BadBatch"
  | .BadText => "BadText" | .BadBytes => "BadBytes" | .BadPaper => "BadPaper" | .BadDeed => "BadDeed" | .TooMany => "TooMany" | .NoSuch => "NoSuch"
/-- its one field -/
def Cl.fld : Cl → Str
  | .BadPrime | .BadNumber | .BadName | .BadRemainder | .NoSuch => "value"
  | .TooMany => "most"
  | _ => "place"
/-- its text -/
def Cl.msg : Cl → Str
  | .BadPrime => "no such prime" | .BadNumber => "no such number" | .BadName => "no such name" | .BadRemainder => "no such remainder" | .BadExpression => "no such expression" | .BadProgram => "no such program"
  | .BadInput => "no such input" | .BadNet => "no such net" | .BadLayers => "no such layers" | .BadPoint => "no such point" | .BadLine => "no such polynomial" | .BadTable => "no such table" | .BadClaim => "no such claim"
  | .BadTalk => "no such talk" | .BadCheat => "no such cheat" | .BadCode => "no such row" | .BadWord => "no such word" | .BadTree => "no such tree" | .BadMachine => "no such machine" | .BadBatch => "no such batch"
  | .BadText => "no such text" | .BadBytes => "no such bytes" | .BadPaper => "no such paper" | .BadDeed => "no such deed" | .TooMany => "too many" | .NoSuch => "nothing so called"

/-- where the module's name x leads -/
def adr (K : PySem.W.Frag) (x : Str) : Addr := match PySem.W.nsIn K mainGlobals x with
  | some (some (.ref a)) => a
  | _ => 0
def Cl.ad (K : PySem.W.Frag) (c : Cl) : Addr := adr K c.nm

/-- at a: an exception of the class at C, its dict at dx -/
def ExV (a C dx : Addr) : HO := .ext fun h => ∃ oe : Obj, h.get? a = some oe ∧ oe.cls = .ref C ∧ oe.dict = some dx ∧ ∃ vs, oe.data = .fields vs
/-- .. just made, its arguments at t -/
def ExR (a C dx t : Addr) : HO := .ext fun h => h.get? a = some ({ cls := .ref C, dict := some dx, data := .fields #[.ref t, .none, .none, .none, .bool false, .none] } : Obj)

/-- a list that does not change any more -/
def LkL (Fz : Addr → Prop) (H : Hp) (a : Addr) (xs : List V) : Prop := Fz a ∧ H a = some (.lst xs)
theorem LkL.sql {K : PySem.W.Frag} {Fz : Addr → Prop} {H : Hp} {a : Addr} {xs : List V} (h : LkL Fz H a xs) : SqL K H a xs := .inl (.inl h.2)

mutual
/-- v bears d -/
def Rp (K : PySem.W.Frag) (Fz : Addr → Prop) (H : Hp) : D → V → Prop
  | .non, v => v = .non
  | .bl b, v => v = .bl b
  | .int i, v => v = .int i
  | .str x, v => v = .str x
  | .tup ds, v => ∃ a vs, v = .ref a ∧ SqT K H a vs ∧ RpL K Fz H ds vs
  | .lst ds, v => ∃ a vs, v = .ref a ∧ LkL Fz H a vs ∧ RpL K Fz H ds vs
  | .exc c raw d, v => ∃ a dx y, v = .ref a ∧ Fz a ∧ Fz dx ∧ H dx = some (exd0 c y) ∧ Rp K Fz H d y ∧
      if raw then ∃ t, Fz t ∧ H t = some (.tup [.str c.msg]) ∧ H a = some (ExR a (c.ad K) dx t) else H a = some (ExV a (c.ad K) dx)
def RpL (K : PySem.W.Frag) (Fz : Addr → Prop) (H : Hp) : List D → List V → Prop
  | [], vs => vs = []
  | d :: ds, vs => ∃ v r, vs = v :: r ∧ Rp K Fz H d v ∧ RpL K Fz H ds r
/-- the own dict of an exception -/
def exd0 (c : Cl) (y : V) : HO := .xd [(c.fld, y)]
end

/-- what is frozen, locked or a tuple stays -/

def Std (o : HO) : Prop := (∃ ob u, o = .frz ob u) ∨ ∃ φ, o = .ext φ
def Kp (Fz : Addr → Prop) (H H' : Hp) : Prop := ∀ a o, H a = some o → (Fz a ∨ (∃ xs, o = .tup xs) ∨ Std o) → H' a = some o
theorem Kp.refl {Fz : Addr → Prop} {H : Hp} : Kp Fz H H := fun _ _ e _ => e
theorem Kp.rd {K : PySem.W.Frag} {Fz : Addr → Prop} {H H' : Hp} (k : Kp Fz H H') {a : Addr} {xs : List V} (h : SqT K H a xs) : SqT K H' a xs := by
  rcases h with (h | ⟨o, h⟩) | h
  · exact .inl (.inl (k _ _ h (.inr (.inl ⟨_, rfl⟩))))
  · exact .inl (.inr ⟨o, k _ _ h (.inr (.inr (.inl ⟨_, _, rfl⟩)))⟩)
  · exact .inr h
theorem Kp.lk {Fz Fz' : Addr → Prop} {H H' : Hp} (k : Kp Fz H H') (f : ∀ a, Fz a → Fz' a) {a : Addr} {xs : List V} (h : LkL Fz H a xs) : LkL Fz' H' a xs := ⟨f _ h.1, k _ _ h.2 (.inl h.1)⟩
mutual
theorem Rp.keep {K : PySem.W.Frag} {Fz Fz' : Addr → Prop} {H H' : Hp} (k : Kp Fz H H') (f : ∀ a, Fz a → Fz' a) : ∀ (d : D) {v : V}, Rp K Fz H d v → Rp K Fz' H' d v
  | .non, _, h => h
  | .bl _, _, h => h
  | .int _, _, h => h
  | .str _, _, h => h
  | .tup ds, _, ⟨a, vs, e, s, r⟩ => ⟨a, vs, e, k.rd s, RpL.keep k f ds r⟩
  | .lst ds, _, ⟨a, vs, e, s, r⟩ => ⟨a, vs, e, k.lk f s, RpL.keep k f ds r⟩
  | .exc c raw d, _, ⟨a, dx, y, e, fa, fd, hd, r, z⟩ => ⟨a, dx, y, e, f _ fa, f _ fd, k _ _ hd (.inl fd), Rp.keep k f d r, by
      cases raw with
      | true =>
        obtain ⟨t, ft, ht, ha⟩ := z
        exact ⟨t, f _ ft, k _ _ ht (.inl ft), k _ _ ha (.inl fa)⟩
      | false => exact k _ _ z (.inl fa)⟩
theorem RpL.keep {K : PySem.W.Frag} {Fz Fz' : Addr → Prop} {H H' : Hp} (k : Kp Fz H H') (f : ∀ a, Fz a → Fz' a) : ∀ (ds : List D) {vs : List V}, RpL K Fz H ds vs → RpL K Fz' H' ds vs
  | [], _, h => h
  | d :: ds, _, ⟨v, r, e, h1, h2⟩ => ⟨v, r, e, Rp.keep k f d h1, RpL.keep k f ds h2⟩
end
section
variable {K : PySem.W.Frag} {Fz : Addr → Prop} {H : Hp}
theorem RpL.len : ∀ {ds : List D} {vs : List V}, RpL K Fz H ds vs → ds.length = vs.length
  | [], _, h => by rw [show _ = [] from h] <;> rfl
  | d :: ds, _, ⟨v, r, e, _, h⟩ => by rw [e, List.length_cons, List.length_cons, RpL.len h]
theorem RpL.cons {d : D} {ds : List D} {v : V} {vs : List V} (h : Rp K Fz H d v) (r : RpL K Fz H ds vs) : RpL K Fz H (d :: ds) (v :: vs) := ⟨v, vs, rfl, h, r⟩
theorem RpL.nil : RpL K Fz H [] [] := rfl
theorem RpL.get : ∀ {ds : List D} {vs : List V} {i : Nat} {d : D}, RpL K Fz H ds vs → ds[i]? = some d → ∃ v, vs[i]? = some v ∧ Rp K Fz H d v
  | [], _, _, _, _, e => by simp at e
  | d :: ds, _, 0, x, ⟨v, r, e, h, _⟩, e2 => by
    simp at e2
    subst e e2
    exact ⟨v, rfl, h⟩
  | d :: ds, _, i + 1, x, ⟨v, r, e, _, h⟩, e2 => by
    subst e
    simpa using RpL.get (i := i) h (by simpa using e2)
theorem RpL.app : ∀ {ds es : List D} {vs us : List V}, RpL K Fz H ds vs → RpL K Fz H es us → RpL K Fz H (ds ++ es) (vs ++ us)
  | [], _, _, _, h, q => by rw [show _ = [] from h]; exact q
  | d :: ds, _, _, _, ⟨v, r, e, h, t⟩, q => by
    subst e
    exact ⟨v, r ++ _, rfl, h, RpL.app t q⟩
theorem RpL.take : ∀ {ds : List D} {vs : List V} (n : Nat), RpL K Fz H ds vs → RpL K Fz H (ds.take n) (vs.take n)
  | _, _, 0, _ => rfl
  | [], _, n + 1, h => by rw [show _ = [] from h]; exact rfl
  | d :: ds, _, n + 1, ⟨v, r, e, h, t⟩ => by
    subst e
    exact ⟨v, r.take n, rfl, h, RpL.take n t⟩
theorem RpL.drop : ∀ {ds : List D} {vs : List V} (n : Nat), RpL K Fz H ds vs → RpL K Fz H (ds.drop n) (vs.drop n)
  | _, _, 0, h => h
  | [], _, n + 1, h => by rw [show _ = [] from h]; exact rfl
  | d :: ds, _, n + 1, ⟨v, r, e, h, t⟩ => by
    subst e
    exact RpL.drop n t
theorem RpL.set {x : D} {u : V} (hx : Rp K Fz H x u) : ∀ {ds : List D} {vs : List V} (n : Nat), RpL K Fz H ds vs → RpL K Fz H (ds.set n x) (vs.set n u)
  | [], _, _, h => by rw [show _ = [] from h]; exact rfl
  | d :: ds, _, 0, ⟨v, r, e, _, t⟩ => by
    subst e
    exact ⟨u, r, rfl, hx, t⟩
  | d :: ds, _, n + 1, ⟨v, r, e, h, t⟩ => by
    subst e
    exact ⟨v, _, rfl, h, RpL.set hx n t⟩
theorem RpL.rev {ds : List D} {vs : List V} (h : RpL K Fz H ds vs) : RpL K Fz H ds.reverse vs.reverse := by
  induction ds generalizing vs with
  | nil => rw [show vs = [] from h]; exact rfl
  | cons d ds ih =>
    obtain ⟨v, r, rfl, h1, h2⟩ := h
    rw [List.reverse_cons, List.reverse_cons]
    exact (ih h2).app (.cons h1 .nil)
theorem RpL.rep {ds : List D} {vs : List V} (h : RpL K Fz H ds vs) : ∀ n : Nat, RpL K Fz H (List.replicate n ds).flatten (List.replicate n vs).flatten
  | 0 => rfl
  | n + 1 => by
    rw [List.replicate_succ, List.replicate_succ, List.flatten_cons, List.flatten_cons]
    exact h.app (RpL.rep h n)
theorem RpL.ints : ∀ {ns : List Int}, RpL K Fz H (ns.map D.int) (ns.map V.int)
  | [] => rfl
  | n :: ns => ⟨.int n, ns.map V.int, rfl, rfl, RpL.ints⟩
theorem RpL.ints_inv : ∀ {ns : List Int} {vs : List V}, RpL K Fz H (ns.map D.int) vs → vs = ns.map V.int
  | [], _, h => h
  | n :: ns, _, ⟨v, r, e, h, t⟩ => by
    have h1 : v = .int n := h
    rw [e, h1, RpL.ints_inv t]
    rfl
end

/-! ### what a name, or the evaluation of the moment, holds -/
/-- nothing; data (frozen); an own list; an own dict (some j: the caller's, handed in to be changed) -/
inductive Sl where
  | no | dat (d : D) | ol (xs : List D) | od (t : Option Nat) (kvs : List (Key × D))
  /-- a list that is locked (the script) -/
  | lk (xs : List D)
  /-- a function that was handed in, its code object, what it holds of its maker's names -/
  | cl (f c : Addr) (q : Str) (cap : List (Nat × D × V))
abbrev It' := Sl × Option V
/-- the address that it owns -/
def ownA : It' → Option Addr
  | (.ol _, some (.ref a)) => some a
  | (.od _ _, some (.ref a)) => some a
  | _ => none
def RpK (K : PySem.W.Frag) (Fz : Addr → Prop) (H : Hp) : List (Key × D) → List (Key × V) → Prop
  | [], vs => vs = []
  | (k, d) :: ds, vs => ∃ v r, vs = (k, v) :: r ∧ Rp K Fz H d v ∧ RpK K Fz H ds r
theorem RpK.keep {K : PySem.W.Frag} {Fz Fz' : Addr → Prop} {H H' : Hp} (k : Kp Fz H H') (f : ∀ a, Fz a → Fz' a) : ∀ {ds : List (Key × D)} {vs : List (Key × V)}, RpK K Fz H ds vs → RpK K Fz' H' ds vs
  | [], _, h => h
  | (x, d) :: ds, _, ⟨v, r, e, h1, h2⟩ => ⟨v, r, e, Rp.keep k f d h1, RpK.keep k f h2⟩
/-- a list that is locked: frozen by the caller, or one of the module's own -/
def LkS (K : PySem.W.Frag) (H : Hp) (a : Addr) (xs : List V) : Prop := (∃ ob, H a = some (.frz ob (.lst xs))) ∨
  ∃ (o : Obj) (its : Array Value) (n : Nat), K.lookup a = some o ∧ o.cls = .type "list" ∧ o.dict = none ∧ o.data = .seq its n ∧ its.size ≤ sizeLine ∧ Vals xs its.toList
theorem LkS.sql {K : PySem.W.Frag} {H : Hp} {a : Addr} {xs : List V} (h : LkS K H a xs) : SqL K H a xs := h.elim (fun z => .inl (.inr z)) .inr
theorem LkS.keep {K : PySem.W.Frag} {Fz : Addr → Prop} {H H' : Hp} (k : Kp Fz H H') {a : Addr} {xs : List V} (h : LkS K H a xs) : LkS K H' a xs := h.elim (fun ⟨ob, z⟩ => .inl ⟨ob, k _ _ z (.inr (.inr (.inl ⟨_, _, rfl⟩)))⟩) .inr
def RS (K : PySem.W.Frag) (Fz : Addr → Prop) (H : Hp) (io : List Addr) : It' → Prop
  | (.no, _) => True
  | (.dat d, o) => ∃ v, o = some v ∧ Rp K Fz H d v
  | (.ol ds, o) => ∃ a vs, o = some (.ref a) ∧ H a = some (.lst vs) ∧ RpL K Fz H ds vs
  | (.od t ds, o) => ∃ a vs, o = some (.ref a) ∧ H a = some (.dK vs) ∧ RpK K Fz H ds vs ∧ ∀ j, t = some j → io[j]? = some a
  | (.lk ds, o) => ∃ a vs, o = some (.ref a) ∧ LkS K H a vs ∧ RpL K Fz H ds vs
  | (.cl f c q cap, o) => o = some (.ref f) ∧ H c = some (LamX.CodeO c q) ∧ ∀ p ∈ cap, Rp K Fz H p.2.1 p.2.2
/-- two things own different addresses -/
def Apart (p q : It') : Prop := ∀ a, ownA p = some a → ownA q = some a → False
theorem Apart.symm {p q : It'} (h : Apart p q) : Apart q p := fun a h1 h2 => h a h2 h1

/-! ### the tables of the law's code objects -/
/-- names that the tables are kept of -/
def lawN (n : Str) : Bool := n == ("law" : Str) || (n.cps.toList.take 4 == ("_law" : Str).cps.toList)
/-- the tables of the law's code objects, and the name of what they hold -/
def tabOne (o : Obj) : Option (Addr × Str) := match o.data with
  | .fields vs => (match (vs[1]? : Option Value), (vs[11]? : Option Value) with
    | some (.str n _), some (.ref P) => if lawN n then some (P, n ++ ".<locals>." ++ "<lambda>") else none
    | _, _ => none)
  | _ => none
def tabsK (K : PySem.W.Frag) : List (Addr × Str) := K.filterMap fun p => tabOne p.2
theorem tabs_next {T : List (Addr × Str)} {H H' : Hp} (t : LamX.Tabs T H) (k : ∀ a o, H a = some o → (∃ ps, o = .tbl ps) ∨ (∃ φ, o = .ext φ) → H' a = some o) : LamX.Tabs T H' := fun p hp => by
  obtain ⟨ps, h1, h2, h3⟩ := t p hp
  refine ⟨ps, k _ _ h1 (.inl ⟨_, rfl⟩), h2, fun pos cv hc => ?_⟩
  obtain ⟨c, e1, e2⟩ := h3 pos cv hc
  exact ⟨c, e1, k _ _ e2 (.inr ⟨_, rfl⟩)⟩
theorem tabs_upd {T : List (Addr × Str)} {H : Hp} {a : Addr} {u : HO} (t : LamX.Tabs T H) (n : ∀ o, H a = some o → (∀ ps, o ≠ .tbl ps) ∧ ∀ φ, o ≠ .ext φ) : LamX.Tabs T (upd H a u) := tabs_next t fun b o e z => by
  by_cases hb : b = a
  · subst hb
    obtain ⟨n1, n2⟩ := n o e
    rcases z with ⟨ps, z⟩ | ⟨φ, z⟩
    · exact absurd z (n1 ps)
    · exact absurd z (n2 φ)
  · rw [upd_ne hb]
    exact e
/-- the state's account: B the heap at the entry, io what was handed in to be changed, Fz what is frozen, L all that is held -/
structure Gd (K : PySem.W.Frag) (B : Hp) (F0 : Addr → Prop) (io : List Addr) (Fz : Addr → Prop) (H : Hp) (L : List It') : Prop where
  rs : ∀ p ∈ L, RS K Fz H io p
  sep : L.Pairwise Apart
  own : ∀ p ∈ L, ∀ a, ownA p = some a → ¬ Fz a ∧ (a ∈ io ∨ ∀ o, B a = some o → ∃ ps, o = .tbl ps)
  dom : ∀ a, Fz a → ∃ o, H a = some o ∧ ∀ ps, o ≠ .tbl ps
  frm : ∀ a o, B a = some o → a ∉ io → (∀ ps, o ≠ .tbl ps) → H a = some o
  f0 : ∀ a, F0 a → Fz a
  fz : ∀ a, Fz a → F0 a ∨ a ∈ io ∨ ∀ o, B a = some o → ∃ ps, o = .tbl ps
  tab : LamX.Tabs (tabsK K) H
section
variable {K : PySem.W.Frag} {B : Hp} {F0 : Addr → Prop} {io : List Addr} {Fz Fz' : Addr → Prop} {H H' : Hp} {L L' : List It'} {p q : It'}
theorem RS.keep (k : Kp Fz H H') (f : ∀ a, Fz a → Fz' a) (ho : ∀ a o, ownA p = some a → H a = some o → H' a = some o) (h : RS K Fz H io p) : RS K Fz' H' io p := by
  obtain ⟨s, o⟩ := p
  cases s with
  | no => trivial
  | dat d =>
    obtain ⟨v, e, r⟩ := h
    exact ⟨v, e, r.keep k f d⟩
  | ol ds =>
    obtain ⟨a, vs, e, ha, r⟩ := h
    exact ⟨a, vs, e, ho a _ (by rw [e]; rfl) ha, r.keep k f ds⟩
  | od t ds =>
    obtain ⟨a, vs, e, ha, r, ht⟩ := h
    exact ⟨a, vs, e, ho a _ (by rw [e]; rfl) ha, r.keep k f, ht⟩
  | lk ds =>
    obtain ⟨a, vs, e, ha, r⟩ := h
    exact ⟨a, vs, e, ha.keep k, r.keep k f ds⟩
  | cl g c q cap =>
    obtain ⟨e, hc, hp⟩ := h
    exact ⟨e, k _ _ hc (.inr (.inr (.inr ⟨_, rfl⟩))), fun p z => (hp p z).keep k f p.2.1⟩
theorem Gd.perm (g : Gd K B F0 io Fz H L) (e : L.Perm L') : Gd K B F0 io Fz H L' :=
  ⟨fun p hp => g.rs p (e.mem_iff.mpr hp), (e.pairwise_iff (fun h => Apart.symm h)).mp g.sep, fun p hp => g.own p (e.mem_iff.mpr hp), g.dom, g.frm, g.f0, g.fz, g.tab⟩
theorem Gd.tail (g : Gd K B F0 io Fz H (p :: L)) : Gd K B F0 io Fz H L :=
  ⟨fun q hq => g.rs q (List.mem_cons_of_mem _ hq), (List.pairwise_cons.mp g.sep).2, fun q hq => g.own q (List.mem_cons_of_mem _ hq), g.dom, g.frm, g.f0, g.fz, g.tab⟩
theorem Gd.head (g : Gd K B F0 io Fz H (p :: L)) : RS K Fz H io p := g.rs p List.mem_cons_self
theorem Gd.sub (g : Gd K B F0 io Fz H L) (e : L'.Sublist L) : Gd K B F0 io Fz H L' :=
  ⟨fun q hq => g.rs q (e.subset hq), g.sep.sublist e, fun q hq => g.own q (e.subset hq), g.dom, g.frm, g.f0, g.fz, g.tab⟩
/-- one more that owns nothing -/
theorem Gd.push (g : Gd K B F0 io Fz H L) (h : RS K Fz H io p) (hn : ownA p = none) : Gd K B F0 io Fz H (p :: L) :=
  ⟨fun q hq => (List.mem_cons.mp hq).elim (fun e => e ▸ h) (g.rs q), List.pairwise_cons.mpr ⟨fun q hq a e _ => (by rw [hn] at e; cases e), g.sep⟩,
    fun q hq a e => (List.mem_cons.mp hq).elim (fun z => (by rw [z, hn] at e; cases e)) (fun z => g.own q z a e), g.dom, g.frm, g.f0, g.fz, g.tab⟩
theorem Gd.dat {d : D} {v : V} (g : Gd K B F0 io Fz H L) (h : Rp K Fz H d v) : Gd K B F0 io Fz H ((.dat d, some v) :: L) := g.push ⟨v, rfl, h⟩ rfl
theorem Gd.datI {d : D} {o : Option V} (g : Gd K B F0 io Fz H ((.dat d, o) :: L)) : ∃ v, o = some v ∧ Rp K Fz H d v := g.head
/-- the heap goes on: what is frozen, a tuple, locked, owned stays; the entry's heap too -/
theorem Gd.next (g : Gd K B F0 io Fz H L) (k : Kp Fz H H') (ho : ∀ p ∈ L, ∀ a o, ownA p = some a → H a = some o → H' a = some o) (hf : ∀ a o, B a = some o → a ∉ io → (∀ ps, o ≠ .tbl ps) → H' a = some o) (t : LamX.Tabs (tabsK K) H → LamX.Tabs (tabsK K) H') : Gd K B F0 io Fz H' L :=
  ⟨fun p hp => (g.rs p hp).keep k (fun _ z => z) (ho p hp), g.sep, g.own, fun a z => by
    obtain ⟨o, e, n⟩ := g.dom a z
    exact ⟨o, k a o e (.inl z), n⟩, hf, g.f0, g.fz, t g.tab⟩
/-- what an owner owns is no table -/
theorem RS.not_tbl {a : Addr} {o : HO} (h : RS K Fz H io p) (e : ownA p = some a) (ha : H a = some o) : ∀ ps, o ≠ .tbl ps := fun ps z => by
  subst z
  obtain ⟨s, w⟩ := p
  cases s with
  | no => cases e
  | dat d => cases e
  | ol ds =>
    obtain ⟨b, vs, e2, hb, _⟩ := h
    subst e2
    have e3 : b = a := Option.some.inj e
    rw [← e3, hb] at ha
    cases ha
  | od t ds =>
    obtain ⟨b, vs, e2, hb, _⟩ := h
    subst e2
    have e3 : b = a := Option.some.inj e
    rw [← e3, hb] at ha
    cases ha
  | lk ds => cases e
  | cl _ _ _ _ => cases e
/-- all that was tracked stays (tables aside) -/
theorem Gd.extN (g : Gd K B F0 io Fz H L) (k : ∀ a o, H a = some o → (∀ ps, o ≠ .tbl ps) → H' a = some o) (tt : LamX.Tabs (tabsK K) H → LamX.Tabs (tabsK K) H') : Gd K B F0 io Fz H' L := by
  refine g.next (fun a o e z => k a o e ?_) (fun p hp a o e ha => k a o ha ((g.rs p hp).not_tbl e ha)) (fun a o e n t => k a o (g.frm a o e n t) t) tt
  rcases z with z | ⟨xs, z⟩ | ⟨ob, u, z⟩ | ⟨φ, z⟩
  · obtain ⟨o', e', n⟩ := g.dom a z
    rw [e] at e'
    cases e'
    exact n
  · subst z
    exact fun ps q => nomatch q
  · subst z
    exact fun ps q => nomatch q
  · subst z
    exact fun ps q => nomatch q
theorem Gd.ext (g : Gd K B F0 io Fz H L) (k : ∀ a o, H a = some o → H' a = some o) : Gd K B F0 io Fz H' L := g.extN (fun a o e _ => k a o e) fun t => tabs_next t fun a o e _ => k a o e
/-- a new thing -/
theorem Gd.grow {a : Addr} {o : HO} (g : Gd K B F0 io Fz H L) (n : H a = none) : Gd K B F0 io Fz (upd H a o) L :=
  g.ext fun b u e => by rw [upd_ne (ne_of_none e n)]; exact e
/-- more is frozen: what nobody owns -/
theorem Gd.freeze {Fz' : Addr → Prop} (g : Gd K B F0 io Fz H L) (f : ∀ a, Fz a → Fz' a) (hn : ∀ a, Fz' a → Fz a ∨ ((∀ p ∈ L, ownA p ≠ some a) ∧ (∃ o, H a = some o ∧ ∀ ps, o ≠ .tbl ps) ∧ (a ∈ io ∨ ∀ o, B a = some o → ∃ ps, o = .tbl ps))) : Gd K B F0 io Fz' H L :=
  ⟨fun p hp => (g.rs p hp).keep Kp.refl f (fun _ _ _ e => e), g.sep, fun p hp a e => ⟨fun z => (hn a z).elim (fun q => (g.own p hp a e).1 q) (fun q => q.1 p hp e), (g.own p hp a e).2⟩,
    fun a z => (hn a z).elim (g.dom a) (fun q => q.2.1), g.frm, fun a z => f a (g.f0 a z), fun a z => (hn a z).elim (g.fz a) (fun q => .inr q.2.2), g.tab⟩
/-- the head's list is frozen -/
theorem Gd.frzL {ds : List D} {o : Option V} (g : Gd K B F0 io Fz H ((.ol ds, o) :: L)) : ∃ Fz', (∀ a, Fz a → Fz' a) ∧ Gd K B F0 io Fz' H ((.dat (.lst ds), o) :: L) := by
  obtain ⟨a, vs, e, ha, r⟩ := g.head
  subst e
  refine ⟨fun b => Fz b ∨ b = a, fun b z => .inl z, ?_⟩
  have g2 : Gd K B F0 io (fun b => Fz b ∨ b = a) H L := g.tail.freeze (fun b z => .inl z) fun b z => z.elim .inl fun e => .inr ⟨fun p hp q => (List.pairwise_cons.mp g.sep).1 p hp b (by rw [e]; rfl) q, ⟨HO.lst vs, by subst e; exact ha, fun ps q => by cases q⟩, by subst e; exact (g.own _ List.mem_cons_self b rfl).2⟩
  exact g2.dat ⟨a, vs, rfl, ⟨.inr rfl, ha⟩, r.keep Kp.refl (fun b z => .inl z) ds⟩
/-- a new owned thing -/
theorem Gd.new {a : Addr} {o : HO} {s : Sl} (g : Gd K B F0 io Fz H L) (n : H a = none) (h : RS K Fz (upd H a o) io (s, some (.ref a))) : Gd K B F0 io Fz (upd H a o) ((s, some (.ref a)) :: L) := by
  have g2 : Gd K B F0 io Fz (upd H a o) L := g.grow n
  have noA : ∀ p ∈ L, ownA p ≠ some a := fun p hp e => by
    have r := g.rs p hp
    obtain ⟨s, w⟩ := p
    cases s with
    | no => cases e
    | dat d => cases e
    | ol ds =>
      obtain ⟨b, vs, e2, hb, _⟩ := r
      subst e2
      rw [Option.some.inj e, n] at hb
      cases hb
    | od t ds =>
      obtain ⟨b, vs, e2, hb, _⟩ := r
      subst e2
      rw [Option.some.inj e, n] at hb
      cases hb
      | lk ds => cases e
      | cl _ _ _ _ => cases e
  have nF : ¬ Fz a := fun z => by
    obtain ⟨o, e, _⟩ := g.dom a z
    rw [n] at e
    cases e
  have hA : ∀ b, ownA (s, some (.ref a)) = some b → b = a := fun b e => by
    cases s with
    | ol ds => exact (Option.some.inj e).symm
    | od t ds => exact (Option.some.inj e).symm
    | _ => cases e
  have hB : a ∈ io ∨ ∀ o, B a = some o → ∃ ps, o = .tbl ps := by
    by_cases hi : a ∈ io
    · exact .inl hi
    · refine .inr fun o e => ?_
      cases o with
      | tbl ps => exact ⟨ps, rfl⟩
      | _ =>
        have z := g.frm a _ e hi (fun ps q => nomatch q)
        rw [n] at z
        cases z
  refine ⟨fun p hp => (List.mem_cons.mp hp).elim (fun e => e ▸ h) (g2.rs p), List.pairwise_cons.mpr ⟨fun p hp b e1 e2 => noA p hp (by rw [hA b e1] at e2; exact e2), g2.sep⟩, fun p hp b e => ?_, g2.dom, g2.frm, g2.f0, g2.fz, g2.tab⟩
  rcases List.mem_cons.mp hp with z | z
  · rw [z] at e
    rw [hA b e]
    exact ⟨nF, hB⟩
  · exact g2.own p z b e
/-- the head's own thing is changed -/
theorem Gd.put {a : Addr} {o o0 : HO} {s s0 : Sl} (g : Gd K B F0 io Fz H ((s0, some (.ref a)) :: L)) (h0 : ownA (s0, some (.ref a)) = some a) (ha : H a = some o0) (hn : (∀ xs, o0 ≠ .tup xs) ∧ ¬ Std o0)
    (h : RS K Fz (upd H a o) io (s, some (.ref a))) (hs : ownA (s, some (.ref a)) = some a) : Gd K B F0 io Fz (upd H a o) ((s, some (.ref a)) :: L) := by
  obtain ⟨nF, hB⟩ := g.own _ List.mem_cons_self a h0
  have noA : ∀ p ∈ L, ownA p ≠ some a := fun p hp e => (List.pairwise_cons.mp g.sep).1 p hp a h0 e
  have g2 : Gd K B F0 io Fz (upd H a o) L := by
    refine g.tail.next (fun b u e z => ?_) (fun p hp b u e hb => ?_) (fun b u e n t => ?_) fun t => tabs_upd t fun u e => ⟨fun ps z => g.head.not_tbl h0 e ps z, fun φ z => hn.2 (by rw [ha] at e; cases e; exact .inr ⟨φ, z⟩)⟩
    · have hb : b ≠ a := fun q => by
        rw [q] at z e
        rw [ha] at e
        cases e
        rcases z with z | ⟨xs, z⟩ | z
        · exact nF z
        · exact hn.1 xs z
        · exact hn.2 z
      rw [upd_ne hb]
      exact e
    · rw [upd_ne (fun q => noA p hp (by rw [← q]; exact e))]
      exact hb
    · have hb : b ≠ a := fun q => by
        rw [q] at e n
        rcases hB with z | z
        · exact n z
        · obtain ⟨ps, z⟩ := z u e
          exact t ps z
      rw [upd_ne hb]
      exact g.frm b u e n t
  refine ⟨fun p hp => (List.mem_cons.mp hp).elim (fun e => e ▸ h) (g2.rs p), List.pairwise_cons.mpr ⟨fun p hp b e1 e2 => ?_, g2.sep⟩, fun p hp b e => ?_, g2.dom, g2.frm, g2.f0, g2.fz, g2.tab⟩
  · rw [hs] at e1
    rw [← Option.some.inj e1] at e2
    exact noA p hp e2
  · rcases List.mem_cons.mp hp with z | z
    · rw [z, hs] at e
      rw [← Option.some.inj e]
      exact ⟨nF, hB⟩
    · exact g2.own p z b e
end
end VL

/-! The value layer, 2: what expressions and statements do to data, and that they do it. -/
namespace VL
open PySem PySem.Spec PyProof.Rows L2

/-- the names' things by slot -/
abbrev Env := List Sl
/-- an end: a value, a raised exception, nothing known -/
inductive RR (α : Type) where
  | ok (x : α) | exc (e : D) (E : Env) | bad
def RR.bind {α β : Type} (x : RR α) (f : α → RR β) : RR β := match x with
  | .ok a => f a
  | .exc e E => .exc e E
  | .bad => .bad
def RR.opt {α : Type} : Option α → RR α
  | some a => .ok a
  | none => .bad
abbrev EF := Env → RR (Sl × Env)
abbrev AF := Env → RR (List Sl × Env)
/-- a statement's end -/
inductive FL where
  | nx (E : Env) | rt (r : Sl) (E : Env) | bk (E : Env) | ct (E : Env) | exc (e : D) (E : Env) | bad
abbrev SF := Env → FL

structure Gh where
  B : Hp
  F0 : Addr → Prop
  io : List Addr
  T : List It'
structure OK (K : PySem.W.Frag) (G : Gh) (Fz : Addr → Prop) (H : Hp) (E : Env) (σ : L2.St) : Prop where
  gd : Gd K G.B G.F0 G.io Fz H (G.T ++ E.zip σ)
  lv : E.length = σ.length
abbrev Gh.p (G : Gh) (s : Sl) (v : V) : Gh := { G with T := (s, some v) :: G.T }

section
variable {K : PySem.W.Frag} {G : Gh} {Fz : Addr → Prop} {H H' : Hp} {E : Env} {σ : L2.St} {s s2 : Sl} {v v2 : V}
theorem OK.pop (k : OK K (G.p s v) Fz H E σ) : OK K G Fz H E σ := ⟨k.gd.tail, k.lv⟩
theorem OK.top (k : OK K (G.p s v) Fz H E σ) : RS K Fz H G.io (s, some v) := k.gd.head
theorem OK.swap (k : OK K ((G.p s v).p s2 v2) Fz H E σ) : OK K ((G.p s2 v2).p s v) Fz H E σ := ⟨k.gd.perm (List.Perm.swap _ _ _), k.lv⟩
/-- the second is dropped -/
theorem OK.drop2 (k : OK K ((G.p s v).p s2 v2) Fz H E σ) : OK K (G.p s2 v2) Fz H E σ := k.swap.pop
theorem OK.dat {d : D} (k : OK K G Fz H E σ) (h : Rp K Fz H d v) : OK K (G.p (.dat d) v) Fz H E σ := ⟨k.gd.dat h, k.lv⟩
theorem OK.datI {d : D} (k : OK K (G.p (.dat d) v) Fz H E σ) : Rp K Fz H d v := by
  obtain ⟨w, e, r⟩ := k.top
  cases e
  exact r
theorem OK.grow {p : Addr} {o : HO} (k : OK K G Fz H E σ) (n : H p = none) : OK K G Fz (upd H p o) E σ := ⟨k.gd.grow n, k.lv⟩
theorem kp_grow {p : Addr} {o : HO} (n : H p = none) : Kp Fz H (upd H p o) := fun b u e _ => by rw [upd_ne (ne_of_none e n)]; exact e
theorem OK.newL {p : Addr} {ds : List D} {vs : List V} (k : OK K G Fz H E σ) (n : H p = none) (h : RpL K Fz H ds vs) : OK K (G.p (.ol ds) (.ref p)) Fz (upd H p (.lst vs)) E σ :=
  ⟨k.gd.new n ⟨p, vs, rfl, upd_same, h.keep (kp_grow n) (fun _ z => z) ds⟩, k.lv⟩
theorem RpK.keepI {ds : List (Key × D)} {vs : List (Key × V)} (k : Kp Fz H H') (h : RpK K Fz H ds vs) : RpK K Fz H' ds vs := RpK.keep k (fun _ z => z) h
theorem OK.newD {p : Addr} {ds : List (Key × D)} {vs : List (Key × V)} (k : OK K G Fz H E σ) (n : H p = none) (h : RpK K Fz H ds vs) : OK K (G.p (.od none ds) (.ref p)) Fz (upd H p (.dK vs)) E σ :=
  ⟨k.gd.new n ⟨p, vs, rfl, upd_same, h.keepI (kp_grow n), fun _ z => by cases z⟩, k.lv⟩
theorem OK.newT {p : Addr} {ds : List D} {vs : List V} (k : OK K G Fz H E σ) (n : H p = none) (h : RpL K Fz H ds vs) : OK K (G.p (.dat (.tup ds)) (.ref p)) Fz (upd H p (.tup vs)) E σ :=
  (k.grow n).dat ⟨p, vs, rfl, .of upd_same, h.keep (kp_grow n) (fun _ z => z) ds⟩
theorem OK.frz {ds : List D} (k : OK K (G.p (.ol ds) v) Fz H E σ) : ∃ Fz', (∀ a, Fz a → Fz' a) ∧ OK K (G.p (.dat (.lst ds)) v) Fz' H E σ := by
  obtain ⟨Fz', f, g⟩ := k.gd.frzL
  exact ⟨Fz', f, g, k.lv⟩

theorem set_perm {α : Type} : ∀ {l : List α} {i : Nat} {x : α}, i < l.length → (l.set i x).Perm (x :: l.eraseIdx i)
  | a :: l, 0, x, _ => List.Perm.refl _
  | a :: l, i + 1, x, h => by
    rw [List.set_cons_succ, List.eraseIdx_cons_succ]
    exact ((set_perm (by simpa using h)).cons a).trans (List.Perm.swap _ _ _)
theorem zip_set {α β : Type} : ∀ (l : List α) (m : List β) (i : Nat) (x : α) (y : β), (l.set i x).zip (m.set i y) = (l.zip m).set i (x, y)
  | [], _, _, _, _ => rfl
  | a :: l, [], i, x, y => by cases i <;> simp
  | a :: l, b :: m, 0, x, y => rfl
  | a :: l, b :: m, i + 1, x, y => by
    rw [List.set_cons_succ, List.set_cons_succ, List.zip_cons_cons, List.zip_cons_cons, List.set_cons_succ, zip_set l m i x y]
def Env.st (E : Env) (i : Nat) (s : Sl) : Env := E.set i s
/-- the slot i is stored -/
theorem OK.set {i : Nat} (k : OK K (G.p s v) Fz H E σ) : OK K G Fz H (E.st i s) (σ.set i (some v)) := by
  by_cases hi : i < (E.zip σ).length
  · refine ⟨?_, by show (E.set i s).length = _; rw [List.length_set, List.length_set]; exact k.lv⟩
    have e : (E.st i s).zip (σ.set i (some v)) = (E.zip σ).set i (s, some v) := zip_set E σ i s (some v)
    rw [e]
    have g := k.gd
    have p1 : ((E.zip σ).set i (s, some v)).Perm ((s, some v) :: (E.zip σ).eraseIdx i) := set_perm hi
    have g2 : Gd K G.B G.F0 G.io Fz H ((s, some v) :: (G.T ++ (E.zip σ).eraseIdx i)) := g.sub (((List.Sublist.refl _).append (List.eraseIdx_sublist _ _)).cons_cons _)
    refine g2.perm (List.Perm.trans ?_ (List.Perm.append_left _ p1.symm))
    exact List.perm_middle.symm
  · have h2 : ¬ i < E.length := fun z => hi (by rw [List.length_zip, ← k.lv, Nat.min_self]; exact z)
    have e1 : E.set i s = E := List.set_eq_of_length_le (by omega)
    have e2 : σ.set i (some v) = σ := List.set_eq_of_length_le (by have := k.lv; omega)
    have e3 : E.st i s = E := e1
    rw [e2, e3]
    exact k.pop
theorem lay_mem {i : Nat} (h : E[i]? = some s) {o : Option V} (ho : σ[i]? = some o) : (s, o) ∈ E.zip σ :=
  List.mem_of_getElem? (i := i) (by rw [List.getElem?_zip_eq_some]; exact ⟨h, ho⟩)
/-- the slot i is read -/
theorem OK.slot {i : Nat} (k : OK K G Fz H E σ) (h : E[i]? = some s) : ∃ o, σ[i]? = some o ∧ RS K Fz H G.io (s, o) := by
  have hi : i < σ.length := by
    rw [← k.lv]
    exact (List.getElem?_eq_some_iff.mp h).1
  refine ⟨σ[i], List.getElem?_eq_getElem hi, k.gd.rs _ (List.mem_append_right _ (lay_mem h (List.getElem?_eq_getElem hi)))⟩
theorem eraseIdx_get {α : Type} : ∀ {l : List α} {i : Nat} {x : α}, l[i]? = some x → l.Perm (x :: l.eraseIdx i)
  | a :: l, 0, x, h => by
    simp at h
    subst h
    exact List.Perm.refl _
  | a :: l, i + 1, x, h => by
    rw [List.eraseIdx_cons_succ]
    exact ((eraseIdx_get (by simpa using h)).cons a).trans (List.Perm.swap _ _ _)
  | [], _, _, h => by simp at h
theorem set_same {i : Nat} (hv : σ[i]? = some (some v)) : σ.set i (some v) = σ := by
  apply List.ext_getElem?
  intro j
  by_cases hj : j = i
  · subst hj
    rw [hv, List.getElem?_set_self (List.getElem?_eq_some_iff.mp hv).1]
  · rw [List.getElem?_set_ne (Ne.symm hj)]
/-- the slot i is taken out: its thing is the evaluation's own now -/
theorem OK.take {i : Nat} (k : OK K G Fz H E σ) (h : E[i]? = some s) (hv : σ[i]? = some (some v)) : OK K (G.p s v) Fz H (E.st i .no) σ := by
  have hz : (E.zip σ)[i]? = some (s, some v) := by rw [List.getElem?_zip_eq_some]; exact ⟨h, hv⟩
  have hi : i < (E.zip σ).length := (List.getElem?_eq_some_iff.mp hz).1
  refine ⟨?_, by show (E.set i .no).length = _; rw [List.length_set]; exact k.lv⟩
  have e : (E.st i .no).zip σ = (E.zip σ).set i (.no, some v) := by
    show (E.set i .no).zip σ = _
    rw [← zip_set, set_same hv]
  rw [e]
  have g2 : Gd K G.B G.F0 G.io Fz H ((.no, some v) :: (s, some v) :: (G.T ++ (E.zip σ).eraseIdx i)) := by
    refine Gd.push (k.gd.perm ?_) trivial rfl
    exact (List.Perm.append_left _ (eraseIdx_get hz)).trans List.perm_middle
  refine g2.perm ((List.Perm.swap _ _ _).trans (List.Perm.cons _ (List.Perm.trans List.perm_middle.symm (List.Perm.append_left _ ?_))))
  exact (set_perm hi).symm
/-- .. and back -/
theorem set_st {i : Nat} : (E.st i s).st i s2 = E.st i s2 := List.set_set ..
theorem OK.back {i : Nat} (k : OK K (G.p s v) Fz H E σ) (hv : σ[i]? = some (some v)) : OK K G Fz H (E.st i s) σ := by
  have h := k.set (i := i)
  rw [set_same hv] at h
  exact h
end

/-! ### the readings -/
/-- what lies behind a raised exception -/
def RX (K : PySem.W.Frag) (Fz : Addr → Prop) (H : Hp) (x : D) (cls : Value) (d : Option Addr) : Prop :=
  ∃ c raw y dx w, x = .exc c raw y ∧ cls = .ref (c.ad K) ∧ d = some dx ∧ Fz dx ∧ H dx = some (exd0 c w) ∧ Rp K Fz H y w
def EndX (W : WX) (K : PySem.W.Frag) (G : Gh) (x : D) (E : Env) (σ : L2.St) : Prop := ∀ cls d H' Fz', OK K G Fz' H' E σ → RX K Fz' H' x cls d → W cls d σ H'
def EndE (W : WX) (K : PySem.W.Frag) (G : Gh) (σ : L2.St) (Q : VK) : RR (Sl × Env) → Prop
  | .ok p => ∀ v H' Fz', OK K (G.p p.1 v) Fz' H' p.2 σ → Q v H'
  | .exc x E => EndX W K G x E σ
  | .bad => False
def EndT (W : WX) (K : PySem.W.Frag) (G : Gh) (σ : L2.St) (Q : Bool → Hp → Prop) : RR (Bool × Env) → Prop
  | .ok p => ∀ H' Fz', OK K G Fz' H' p.2 σ → Q p.1 H'
  | .exc x E => EndX W K G x E σ
  | .bad => False
/-- many at once: the last one on top -/
def Gh.ps (G : Gh) : List Sl → List V → Gh
  | s :: ss, v :: vs => (G.p s v).ps ss vs
  | _, _ => G
def EndA (W : WX) (K : PySem.W.Frag) (G : Gh) (σ : L2.St) (Q : List V → Hp → Prop) : RR (List Sl × Env) → Prop
  | .ok p => ∀ vs H' Fz', vs.length = p.1.length → OK K (G.ps p.1 vs) Fz' H' p.2 σ → Q vs H'
  | .exc x E => EndX W K G x E σ
  | .bad => False
def EndS (W : WX) (K : PySem.W.Frag) (G : Gh) (D : Ends) : FL → Prop
  | .nx E => ∀ σ' H' Fz', OK K G Fz' H' E σ' → D.nx σ' H'
  | .rt r E => ∀ v σ' H' Fz', OK K (G.p r v) Fz' H' E σ' → D.rt v H'
  | .bk E => ∀ σ' H' Fz', OK K G Fz' H' E σ' → D.bk σ' H'
  | .ct E => ∀ σ' H' Fz', OK K G Fz' H' E σ' → D.ct σ' H'
  | .exc x E => ∀ σ', EndX W K G x E σ'
  | .bad => False
abbrev TF := Env → RR (Bool × Env)
def tE (W : WX) (K : PySem.W.Frag) (f : EF) : TE := fun σ H Q => ∃ (G : Gh) (E : Env) (Fz : Addr → Prop), OK K G Fz H E σ ∧ EndE W K G σ Q (f E)
def tT (W : WX) (K : PySem.W.Frag) (f : TF) : TT := fun σ H Q => ∃ (G : Gh) (E : Env) (Fz : Addr → Prop), OK K G Fz H E σ ∧ EndT W K G σ Q (f E)
def tA (W : WX) (K : PySem.W.Frag) (f : AF) : TA := fun σ H Q => ∃ (G : Gh) (E : Env) (Fz : Addr → Prop), OK K G Fz H E σ ∧ EndA W K G σ Q (f E)
def tS (W : WX) (K : PySem.W.Frag) (f : SF) : TS := fun D σ H => ∃ (G : Gh) (E : Env) (Fz : Addr → Prop), OK K G Fz H E σ ∧ EndS W K G D (f E)
def SE (X : Cx) (W : WX) (e : Expr) (f : EF) : Prop := PE X e (tE W X.K f)
def ST (X : Cx) (W : WX) (e : Expr) (f : TF) : Prop := PT X e (tT W X.K f)
def SA (X : Cx) (W : WX) (es : List Expr) (f : AF) : Prop := PA X es (tA W X.K f)
def SS (X : Cx) (W : WX) (st : Stmt) (f : SF) : Prop := PS X st (tS W X.K f)
def SSs (X : Cx) (W : WX) (sts : List Stmt) (f : SF) : Prop := PSs X sts (tS W X.K f)

theorem PE.imp {X : Cx} {e : Expr} {t t' : TE} (h : PE X e t) (i : ∀ σ H Q, t' σ H Q → t σ H Q) : PE X e t' := ⟨fun pins s σ H Q I q => h.run pins s σ H Q I (i σ H Q q)⟩
theorem PT.imp {X : Cx} {e : Expr} {t t' : TT} (h : PT X e t) (i : ∀ σ H Q, t' σ H Q → t σ H Q) : PT X e t' := ⟨fun pins s σ H Q I q => h.run pins s σ H Q I (i σ H Q q)⟩
theorem PA.imp {X : Cx} {es : List Expr} {t t' : TA} (h : PA X es t) (i : ∀ σ H Q, t' σ H Q → t σ H Q) : PA X es t' := ⟨fun pos pins s σ H Q I q => h.run pos pins s σ H Q I (i σ H Q q)⟩
theorem PS.imp {X : Cx} {st : Stmt} {t t' : TS} (h : PS X st t) (i : ∀ D σ H, t' D σ H → t D σ H) : PS X st t' := ⟨fun pins s σ H D I q => h.run pins s σ H D I (i D σ H q)⟩
theorem PSs.imp {X : Cx} {st : List Stmt} {t t' : TS} (h : PSs X st t) (i : ∀ D σ H, t' D σ H → t D σ H) : PSs X st t' := ⟨fun pins s σ H D I q => h.run pins s σ H D I (i D σ H q)⟩

section
variable {W : WX} {K : PySem.W.Frag} {G : Gh} {Fz : Addr → Prop} {H : Hp} {E : Env} {σ : L2.St} {Q : VK}
theorem EndE.bind {x : RR (Sl × Env)} {k : Sl × Env → RR (Sl × Env)} (h : EndE W K G σ Q (x.bind k)) : EndE W K G σ (fun v H' => ∃ r E1 Fz1, OK K (G.p r v) Fz1 H' E1 σ ∧ EndE W K G σ Q (k (r, E1))) x := by
  cases x with
  | ok p => exact fun v H1 Fz1 k1 => ⟨p.1, p.2, Fz1, k1, h⟩
  | exc x E' => exact h
  | bad => exact h
theorem tE_of {f : EF} (k : OK K G Fz H E σ) (h : EndE W K G σ Q (f E)) : tE W K f σ H Q := ⟨G, E, Fz, k, h⟩
theorem tE_mono {f : EF} {Q' : VK} (h : tE W K f σ H Q) (i : ∀ v H', Q v H' → Q' v H') : tE W K f σ H Q' := by
  obtain ⟨G, E, Fz, k, h⟩ := h
  refine ⟨G, E, Fz, k, ?_⟩
  cases hf : f E with
  | ok p =>
    rw [hf] at h
    exact fun v H1 Fz1 k1 => i _ _ (h v H1 Fz1 k1)
  | exc x E' =>
    rw [hf] at h
    exact h
  | bad =>
    rw [hf] at h
    exact h
/-- the temporaries below do not matter for an exception -/
theorem EndX.pop {x : D} {s : Sl} {v : V} (h : EndX W K G x E σ) : EndX W K (G.p s v) x E σ := fun cls d H' Fz' k r => h cls d H' Fz' k.pop r
end
end VL

/-! The value layer, 3: names, constants, operators, comparisons, tests. -/
namespace VL
open PySem PySem.Spec PyProof.Rows L2

/-! ### data as the library's data -/
mutual
def D.py : D → PyData
  | .non => .none
  | .bl b => .bool b
  | .int i => .int i
  | .str x => .str x
  | .tup ds => .tuple (pyL ds)
  | .lst ds => .list (pyL ds)
  | .exc _ _ _ => .none
def pyL : List D → List PyData
  | [] => []
  | d :: ds => d.py :: pyL ds
end
mutual
/-- no exception within -/
def D.plain : D → Bool
  | .tup ds => plainL ds
  | .lst ds => plainL ds
  | .exc _ _ _ => false
  | _ => true
def plainL : List D → Bool
  | [] => true
  | d :: ds => d.plain && plainL ds
end
mutual
theorem Rp.dp {K : PySem.W.Frag} {Fz : Addr → Prop} {H : Hp} : ∀ (d : D) {v : V}, d.plain = true → Rp K Fz H d v → Dp K H v d.py
  | .non, _, _, h => by rw [show _ = V.non from h]; exact .non
  | .bl b, _, _, h => by rw [show _ = V.bl b from h]; exact .bl b
  | .int i, _, _, h => by rw [show _ = V.int i from h]; exact .int i
  | .str x, _, _, h => by rw [show _ = V.str x from h]; exact .str x
  | .tup ds, _, p, ⟨a, vs, e, s, r⟩ => by
    subst e
    exact .tup s (RpL.dp ds p r)
  | .lst ds, _, p, ⟨a, vs, e, s, r⟩ => by
    subst e
    exact .lst s.sql (RpL.dp ds p r)
  | .exc _ _ _, _, p, _ => by cases p
theorem RpL.dp {K : PySem.W.Frag} {Fz : Addr → Prop} {H : Hp} : ∀ (ds : List D) {vs : List V}, plainL ds = true → RpL K Fz H ds vs → DpAll K H vs (pyL ds)
  | [], _, _, h => by rw [show _ = [] from h]; exact .nil
  | d :: ds, _, p, ⟨v, r, e, h1, h2⟩ => by
    subst e
    obtain ⟨p1, p2⟩ := Bool.and_eq_true_iff.mp (show (d.plain && plainL ds) = true from p)
    exact .cons (Rp.dp d p1 h1) (RpL.dp ds p2 h2)
end
/-- the data of a thing -/
def Sl.d? : Sl → Option D
  | .dat d => some d
  | .ol ds => some (.lst ds)
  | _ => none
def D.fine (d : D) : Bool := d.plain && SeqAt.shaped d.py
def eqD (a b : D) : Bool := PyData.eqv a.py b.py
theorem RS.datI {K : PySem.W.Frag} {Fz : Addr → Prop} {H : Hp} {io : List Addr} {v : V} {d : D} (h : RS K Fz H io (.dat d, some v)) : Rp K Fz H d v := by
  obtain ⟨w, e, r⟩ := h
  cases e
  exact r
theorem RS.dp {K : PySem.W.Frag} {Fz : Addr → Prop} {H : Hp} {io : List Addr} {s : Sl} {v : V} {d : D} (h : RS K Fz H io (s, some v)) (e : s.d? = some d) (p : d.plain = true) : Dp K H v d.py := by
  cases s with
  | dat d' =>
    cases e
    obtain ⟨w, e2, r⟩ := h
    cases e2
    exact r.dp _ p
  | ol ds =>
    cases e
    obtain ⟨a, vs, e2, ha, r⟩ := h
    cases e2
    exact .lst (.of ha) (r.dp ds p)
  | _ => cases e

/-! ### names, constants -/
/-- a name read: an own list is frozen -/
def eVar (i : Nat) : EF := fun E => match E[i]? with
  | some (.dat d) => .ok (.dat d, E)
  | some (.ol ds) => .ok (.dat (.lst ds), E.st i (.dat (.lst ds)))
  | some (.lk ds) => .ok (.lk ds, E)
  | _ => .bad
/-- a name read for the last time: its thing goes -/
def eMove (i : Nat) : EF := fun E => match E[i]? with
  | some .no => .bad
  | some s => .ok (s, E.st i .no)
  | none => .bad
def eC (d : D) : EF := fun E => .ok (.dat d, E)
section
variable {X : Cx} {W : WX} {pos : Pos}
theorem se_var {i : Nat} {x : Str} (hN : X.N[i]? = some x) (hv : Vis X.env.scope x) (hd : (x == ("__debug__" : Str)) = false := by decide) (hcd : (x == ("__classdict__" : Str)) = false := by decide) : SE X W (.Name x pos) (eVar i) := by
  refine PE.imp (pe_var hN hv hd hcd) fun σ H Q ⟨G, E, Fz, k, h⟩ => ?_
  unfold eVar at h
  cases e : E[i]? with
  | none => rw [e] at h; exact h.elim
  | some s =>
    obtain ⟨o, ho, r⟩ := k.slot e
    cases s with
    | no => rw [e] at h; exact h.elim
    | od _ _ => rw [e] at h; exact h.elim
    | dat d =>
      obtain ⟨v, rfl, r⟩ := r
      rw [e] at h
      exact ⟨v, ho, h v H Fz (k.dat r)⟩
    | ol ds =>
      obtain ⟨a, vs, rfl, ha, r⟩ := r
      rw [e] at h
      refine ⟨_, ho, ?_⟩
      obtain ⟨Fz', f, k2⟩ := (k.take e ho).frz
      have r2 := k2.datI
      have k3 := k2.back (i := i) ho
      rw [set_st] at k3
      exact h _ H Fz' (k3.dat r2)
    | lk ds =>
      obtain ⟨a, vs, rfl, ha, r⟩ := r
      rw [e] at h
      exact ⟨_, ho, h _ H Fz ⟨k.gd.push ⟨a, vs, rfl, ha, r⟩ rfl, k.lv⟩⟩
    | cl _ _ _ _ => rw [e] at h; exact h.elim
theorem se_move {i : Nat} {x : Str} (hN : X.N[i]? = some x) (hv : Vis X.env.scope x) (hd : (x == ("__debug__" : Str)) = false := by decide) (hcd : (x == ("__classdict__" : Str)) = false := by decide) : SE X W (.Name x pos) (eMove i) := by
  refine PE.imp (pe_var hN hv hd hcd) fun σ H Q ⟨G, E, Fz, k, h⟩ => ?_
  unfold eMove at h
  cases e : E[i]? with
  | none => rw [e] at h; exact h.elim
  | some s =>
    obtain ⟨o, ho, r⟩ := k.slot e
    have fin : ∀ v, o = some v → (match (some s : Option Sl) with | some .no => RR.bad | some s => .ok (s, E.st i .no) | none => .bad) = RR.ok (s, E.st i .no) → ∃ v, σ[i]? = some (some v) ∧ Q v H := fun v ev em => by
      subst ev
      rw [e, em] at h
      exact ⟨v, ho, h v H Fz (k.take e ho)⟩
    cases s with
    | no => rw [e] at h; exact h.elim
    | dat d =>
      obtain ⟨v, ev, _⟩ := r
      exact fin v ev rfl
    | ol ds =>
      obtain ⟨a, vs, ev, _⟩ := r
      exact fin _ ev rfl
    | od t ds =>
      obtain ⟨a, vs, ev, _⟩ := r
      exact fin _ ev rfl
    | lk ds =>
      obtain ⟨a, vs, ev, _⟩ := r
      exact fin _ ev rfl
    | cl _ _ _ _ =>
      obtain ⟨ev, _⟩ := r
      exact fin _ ev rfl
theorem se_int {i : Int} {j : Nat} : SE X W (.Constant (.int i) j pos) (eC (.int i)) := PE.imp pe_int fun σ H Q ⟨G, E, Fz, k, h⟩ => h _ H Fz (k.dat rfl)
theorem se_bl {b : Bool} {j : Nat} : SE X W (.Constant (.bool b) j pos) (eC (.bl b)) := PE.imp pe_bl fun σ H Q ⟨G, E, Fz, k, h⟩ => h _ H Fz (k.dat rfl)
theorem se_non {j : Nat} : SE X W (.Constant .none j pos) (eC .non) := PE.imp pe_non fun σ H Q ⟨G, E, Fz, k, h⟩ => h _ H Fz (k.dat rfl)
theorem se_str {x : Str} {j : Nat} : SE X W (.Constant (.str x) j pos) (eC (.str x)) := PE.imp pe_str fun σ H Q ⟨G, E, Fz, k, h⟩ => h _ H Fz (k.dat rfl)
end

/-! ### operators by values -/
theorem EndE.bind1 {W : WX} {K : PySem.W.Frag} {G : Gh} {σ : L2.St} {Q : VK} {s : Sl} {u : V} {x : RR (Sl × Env)} {k : Sl × Env → RR (Sl × Env)} (h : EndE W K G σ Q (x.bind k)) :
    EndE W K (G.p s u) σ (fun v H' => ∃ r E1 Fz1, OK K ((G.p s u).p r v) Fz1 H' E1 σ ∧ EndE W K G σ Q (k (r, E1))) x := by
  cases x with
  | ok p => exact fun v H1 Fz1 k1 => ⟨p.1, p.2, Fz1, k1, h⟩
  | exc x E' => exact EndX.pop h
  | bad => exact h
/-- what a rule by values asks is met by what g does to data -/
def GR (K : PySem.W.Frag) (r : R2) (g : Sl → Sl → Option Sl) : Prop := ∀ {G : Gh} {Fz : Addr → Prop} {H : Hp} {E : Env} {σ : L2.St} {x y s : Sl} {v w : V} {Q : VK}, OK K G Fz H E σ → RS K Fz H G.io (x, some v) → RS K Fz H G.io (y, some w) → g x y = some s →
  (∀ u H' Fz', OK K (G.p s u) Fz' H' E σ → Q u H') → r v w H Q
def eOp (g : Sl → Sl → Option Sl) (fa fb : EF) : EF := fun E => (fa E).bind fun p => (fb p.2).bind fun q => (RR.opt (g p.1 q.1)).bind fun s => .ok (s, q.2)
theorem tOp_of {K : PySem.W.Frag} {W : WX} {r : R2} {g : Sl → Sl → Option Sl} {fa fb : EF} (hg : GR K r g) (σ : L2.St) (H : Hp) (Q : VK) (h : tE W K (eOp g fa fb) σ H Q) : tOp r (tE W K fa) (tE W K fb) σ H Q := by
  obtain ⟨G, E, Fz, k, h⟩ := h
  refine tE_mono (tE_of k (EndE.bind h)) fun v H1 ⟨x, E1, Fz1, k1, h1⟩ => ?_
  refine tE_mono (tE_of k1 (EndE.bind1 h1)) fun w H2 ⟨y, E2, Fz2, k2, h2⟩ => ?_
  cases e : g x y with
  | none => rw [e] at h2; exact h2.elim
  | some s =>
    rw [e] at h2
    exact hg k2.pop.pop k2.pop.top k2.top e fun u H' Fz' k3 => h2 u H' Fz' k3
section
variable {X : Cx} {W : WX} {pos : Pos} {a b : Expr} {fa fb : EF}
theorem se_op {op : Operator} {r : R2} {g : Sl → Sl → Option Sl} (ho : OpR X (binaryOp op) r) (hg : GR X.K r g) (ha : SE X W a fa) (hb : SE X W b fb) : SE X W (.BinOp a op b pos) (eOp g fa fb) :=
  PE.imp (pe_op ho ha hb) (tOp_of hg)
theorem se_cmp {op : CmpOp} {r : R2} {g : Sl → Sl → Option Sl} (ho : OpR X (compareOp op) r) (hg : GR X.K r g) (ha : SE X W a fa) (hb : SE X W b fb) (hm : behindInMarks op b = false) : SE X W (.Compare a [op] [b] pos) (eOp g fa fb) :=
  PE.imp (pe_cmpR ho ha hb hm) (tOp_of hg)
end
theorem OpR.or {X : Cx} {f : Value → Value → Sem Value} {r1 r2 : R2} (h1 : OpR X f r1) (h2 : OpR X f r2) : OpR X f (fun x y H Q => r1 x y H Q ∨ r2 x y H Q) := fun pins s σ H x y v u Q I rx ry h =>
  h.elim (h1 pins s σ H x y v u Q I rx ry) (h2 pins s σ H x y v u Q I rx ry)
theorem OpR.never {X : Cx} {f : Value → Value → Sem Value} : OpR X f (fun _ _ _ _ => False) := fun _ _ _ _ _ _ _ _ _ _ _ _ h => h.elim
/-- g of two ints -/
def gI (g : Int → Int → Option D) : Sl → Sl → Option Sl
  | .dat (.int i), .dat (.int j) => (g i j).map .dat
  | _, _ => none
theorem gI_inv {g : Int → Int → Option D} {x y s : Sl} (h : gI g x y = some s) : ∃ i j d, x = .dat (.int i) ∧ y = .dat (.int j) ∧ g i j = some d ∧ s = .dat d := by
  unfold gI at h
  split at h
  · obtain ⟨d, e1, e2⟩ := Option.map_eq_some_iff.mp h
    exact ⟨_, _, d, rfl, rfl, e1, e2.symm⟩
  · cases h
/-- a rule of two ints -/
theorem gr_int {K : PySem.W.Frag} {C : Int → Int → Prop} {f : Int → Int → V} {g : Int → Int → Option D} (h : ∀ i j d, g i j = some d → C i j ∧ ∀ Fz H, Rp K Fz H d (f i j)) : GR K (rI C f) (gI g) := by
  intro G Fz H E σ x y s v w Q k kx ky e q
  obtain ⟨i, j, d, rfl, rfl, eg, rfl⟩ := gI_inv e
  obtain ⟨hc, hr⟩ := h i j d eg
  have h1 : v = .int i := kx.datI
  have h2 : w = .int j := ky.datI
  exact ⟨i, j, h1, h2, hc, q _ H Fz (k.dat (hr Fz H))⟩
theorem gr_int0 {K : PySem.W.Frag} {f : Int → Int → V} {g : Int → Int → D} (h : ∀ i j Fz H, Rp K Fz H (g i j) (f i j)) : GR K (rI0 f) (gI fun i j => some (g i j)) := by
  intro G Fz H E σ x y s v w Q k kx ky e q
  obtain ⟨i, j, d, rfl, rfl, eg, rfl⟩ := gI_inv e
  cases eg
  have h1 : v = .int i := kx.datI
  have h2 : w = .int j := ky.datI
  exact ⟨i, j, h1, h2, q _ H Fz (k.dat (h i j Fz H))⟩
/-- either of two -/
def gOr (g1 g2 : Sl → Sl → Option Sl) : Sl → Sl → Option Sl := fun x y => match g1 x y with
  | some s => some s
  | none => g2 x y
theorem gr_or {K : PySem.W.Frag} {r1 r2 : R2} {g1 g2 : Sl → Sl → Option Sl} (h1 : GR K r1 g1) (h2 : GR K r2 g2) : GR K (fun x y H Q => r1 x y H Q ∨ r2 x y H Q) (gOr g1 g2) := by
  intro G Fz H E σ x y s v w Q k kx ky e q
  unfold gOr at e
  cases e1 : g1 x y with
  | some s1 =>
    rw [e1] at e
    cases e
    exact .inl (h1 k kx ky e1 q)
  | none =>
    rw [e1] at e
    exact .inr (h2 k kx ky e q)
def SZ : Nat := 16777216
theorem SZ_eq : SZ = sizeLine := by rw [sizeLine_eq]; rfl
/-! + -/
def gAddS : Sl → Sl → Option Sl
  | .dat (.str x), .dat (.str y) => if x.length + y.length ≤ SZ then some (.dat (.str (x ++ y))) else none
  | _, _ => none
def gAddT : Sl → Sl → Option Sl
  | .dat (.tup x), .dat (.tup y) => if x.length + y.length ≤ SZ then some (.dat (.tup (x ++ y))) else none
  | _, _ => none
def Sl.l? : Sl → Option (List D)
  | .dat (.lst ds) => some ds
  | .ol ds => some ds
  | _ => none
def gAddL : Sl → Sl → Option Sl := fun a b => match a.l?, b.l? with
  | some x, some y => if x.length + y.length ≤ SZ then some (.ol (x ++ y)) else none
  | _, _ => none
theorem RS.l {K : PySem.W.Frag} {Fz : Addr → Prop} {H : Hp} {io : List Addr} {s : Sl} {v : V} {ds : List D} (h : RS K Fz H io (s, some v)) (e : s.l? = some ds) : ∃ a vs, v = .ref a ∧ H a = some (.lst vs) ∧ RpL K Fz H ds vs := by
  unfold Sl.l? at e
  split at e
  · cases e
    obtain ⟨w, e2, a, vs, rfl, z, r⟩ := h
    cases e2
    exact ⟨a, vs, rfl, z.2, r⟩
  · cases e
    obtain ⟨a, vs, e2, z, r⟩ := h
    cases e2
    exact ⟨a, vs, rfl, z, r⟩
  · cases e
section
variable {K : PySem.W.Frag}
theorem gr_addS : GR K (fun x y H Q => ∃ i j, x = .str i ∧ y = .str j ∧ i.length + j.length ≤ sizeLine ∧ Q (.str (i ++ j)) H) gAddS := by
  intro G Fz H E σ x y s v w Q k kx ky e q
  unfold gAddS at e
  split at e
  · rename_i i j
    split at e
    · rename_i hl
      cases e
      have h1 : v = .str i := kx.datI
      have h2 : w = .str j := ky.datI
      exact ⟨i, j, h1, h2, by rw [← SZ_eq]; exact hl, q _ H Fz (k.dat rfl)⟩
    · cases e
  · cases e
theorem gr_addT : GR K (rCatA K) gAddT := by
  intro G Fz H E σ x y s v w Q k kx ky e q
  unfold gAddT at e
  split at e
  · rename_i i j
    split at e
    · rename_i hl
      cases e
      obtain ⟨a, us, rfl, h1, r1⟩ := kx.datI
      obtain ⟨b, ws, rfl, h2, r2⟩ := ky.datI
      have l1 := r1.len
      have l2 := r2.len
      refine ⟨a, b, us, ws, rfl, rfl, h1, h2, by rw [← SZ_eq, ← l1, ← l2]; exact hl, fun z => ?_, fun z1 z2 => ?_, fun z1 z2 p np => ?_⟩
      · subst z
        have e1 : i = [] := List.eq_nil_of_length_eq_zero l1
        subst e1
        exact q _ H Fz (k.dat ⟨b, ws, rfl, h2, r2⟩)
      · subst z2
        have e1 : j = [] := List.eq_nil_of_length_eq_zero l2
        subst e1
        rw [List.append_nil] at q
        exact q _ H Fz (k.dat ⟨a, us, rfl, h1, r1⟩)
      · exact q _ _ Fz (k.newT np (r1.app r2))
    · cases e
  · cases e
theorem gr_addL : GR K rCat gAddL := by
  intro G Fz H E σ x y s v w Q k kx ky e q
  unfold gAddL at e
  cases e1 : x.l? with
  | none => rw [e1] at e; cases e
  | some i =>
    cases e2 : y.l? with
    | none => rw [e1, e2] at e; cases e
    | some j =>
      rw [e1, e2] at e
      simp only at e
      split at e
      · rename_i hl
        cases e
        obtain ⟨a, us, rfl, h1, r1⟩ := kx.l e1
        obtain ⟨b, ws, rfl, h2, r2⟩ := ky.l e2
        exact ⟨a, b, us, ws, rfl, rfl, h1, h2, by rw [← SZ_eq, ← r1.len, ← r2.len]; exact hl, fun p np => q _ _ Fz (k.newL np (r1.app r2))⟩
      · cases e
end
def gAdd : Sl → Sl → Option Sl := gOr (gI fun i j => some (.int (i + j))) (gOr gAddL (gOr gAddT gAddS))
def eAdd : EF → EF → EF := eOp gAdd
def gSub : Sl → Sl → Option Sl := gI fun i j => some (.int (i - j))
def eSub : EF → EF → EF := eOp gSub
def mulFits (i j : Int) : Bool := (decide (-18446744073709551616 < i) && decide (i < 18446744073709551616)) || (decide (-18446744073709551616 < j) && decide (j < 18446744073709551616)) || decide (i.natAbs.log2 + j.natAbs.log2 < 1000000)
def gMulI : Sl → Sl → Option Sl := gI fun i j => if mulFits i j then some (.int (i * j)) else none
def gMulL : Sl → Sl → Option Sl := fun a b => match a.l?, b with
  | some x, .dat (.int k) => if -9223372036854775808 ≤ k ∧ k < 9223372036854775808 ∧ x.length * k.toNat ≤ SZ then some (.ol (List.replicate k.toNat x).flatten) else none
  | _, _ => none
def gMulT : Sl → Sl → Option Sl
  | .dat (.tup x), .dat (.int k) => if x ≠ [] ∧ 2 ≤ k ∧ k ≤ 1000 ∧ x.length ≤ 1000 then some (.dat (.tup (List.replicate k.toNat x).flatten)) else none
  | _, _ => none
def divFits (j : Int) : Bool := decide (0 < j) && decide (j.natAbs.log2 < 9000)
def gDiv : Sl → Sl → Option Sl := gI fun i j => if divFits j then some (.int (i / j)) else none
def gMod : Sl → Sl → Option Sl := gI fun i j => if 0 < j then some (.int (i % j)) else none
section
variable {X : Cx} {W : WX} {pos : Pos} {a b : Expr} {fa fb : EF}
theorem se_add (ha : SE X W a fa) (hb : SE X W b fb) : SE X W (.BinOp a .Add b pos) (eAdd fa fb) :=
  se_op (OpR.or op_add (OpR.or op_cat (OpR.or op_catA op_add_str))) (gr_or (gr_int0 (f := fun i j => .int (i + j)) (g := fun i j => .int (i + j)) fun _ _ _ _ => rfl) (gr_or gr_addL (gr_or gr_addT gr_addS))) ha hb
theorem se_sub (ha : SE X W a fa) (hb : SE X W b fb) : SE X W (.BinOp a .Sub b pos) (eSub fa fb) := se_op op_sub (gr_int0 (f := fun i j => .int (i - j)) (g := fun i j => .int (i - j)) fun _ _ _ _ => rfl) ha hb
end
section
variable {K : PySem.W.Frag}
theorem gr_mulI : GR K (fun x y H Q => rI CMul (fun i j => .int (i * j)) x y H Q ∨ rI CMulW (fun i j => .int (i * j)) x y H Q) gMulI := by
  intro G Fz H E σ x y s v w Q k kx ky e q
  obtain ⟨i, j, d, rfl, rfl, eg, rfl⟩ := gI_inv e
  have h1 : v = .int i := kx.datI
  have h2 : w = .int j := ky.datI
  have eg : (if mulFits i j = true then some (D.int (i * j)) else none) = some d := eg
  split at eg
  · rename_i hm
    cases eg
    have fin : ∀ {C : Int → Int → Prop}, C i j → rI C (fun i j => .int (i * j)) v w H Q := fun hc => ⟨i, j, h1, h2, hc, q _ H Fz (k.dat rfl)⟩
    unfold mulFits at hm
    simp only [Bool.or_eq_true, Bool.and_eq_true, decide_eq_true_eq] at hm
    rcases hm with (h | h) | h
    · exact .inl (fin (.inl ⟨h.1, h.2⟩))
    · exact .inl (fin (.inr ⟨h.1, h.2⟩))
    · exact .inr (fin h)
  · cases eg
theorem gr_mulL : GR K rRep gMulL := by
  intro G Fz H E σ x y s v w Q k kx ky e q
  unfold gMulL at e
  cases e1 : x.l? with
  | none => rw [e1] at e; simp at e
  | some i =>
    rw [e1] at e
    split at e
    · rename_i x' kk ex
      cases ex
      split at e
      · rename_i hl
        cases e
        obtain ⟨a, us, rfl, h1, r1⟩ := kx.l e1
        have h2 : w = .int kk := ky.datI
        exact ⟨a, kk, us, rfl, h2, h1, hl.1, hl.2.1, by rw [← SZ_eq, ← r1.len]; exact hl.2.2, fun p np => q _ _ Fz (k.newL np (r1.rep _))⟩
      · cases e
    · cases e
theorem gr_mulT : GR K (rRepT K) gMulT := by
  intro G Fz H E σ x y s v w Q k kx ky e q
  unfold gMulT at e
  split at e
  · rename_i i kk
    split at e
    · rename_i hl
      cases e
      obtain ⟨a, us, rfl, h1, r1⟩ := kx.datI
      have h2 : w = .int kk := ky.datI
      exact ⟨a, kk, us, rfl, h2, h1, fun z => hl.1 (List.eq_nil_of_length_eq_zero (by rw [r1.len, z]; rfl)), hl.2.1, hl.2.2.1, by rw [← r1.len]; exact hl.2.2.2, fun p np => q _ _ Fz (k.newT np (r1.rep _))⟩
    · cases e
  · cases e
end
def gMul : Sl → Sl → Option Sl := gOr gMulI (gOr gMulL gMulT)
def eMul : EF → EF → EF := eOp gMul
def eDiv : EF → EF → EF := eOp gDiv
def eMod : EF → EF → EF := eOp gMod
section
variable {X : Cx} {W : WX} {pos : Pos} {a b : Expr} {fa fb : EF}
theorem se_mul (ha : SE X W a fa) (hb : SE X W b fb) : SE X W (.BinOp a .Mult b pos) (eMul fa fb) :=
  se_op (OpR.or (OpR.or op_mul op_mulW) (OpR.or op_rep op_repT)) (gr_or gr_mulI (gr_or gr_mulL gr_mulT)) ha hb
theorem se_div (ha : SE X W a fa) (hb : SE X W b fb) : SE X W (.BinOp a .FloorDiv b pos) (eDiv fa fb) :=
  se_op op_fdivW (gr_int fun i j d e => by
    split at e
    · rename_i h
      cases e
      unfold divFits at h
      simp only [Bool.and_eq_true, decide_eq_true_eq] at h
      exact ⟨h, fun _ _ => rfl⟩
    · cases e) ha hb
theorem se_mod (ha : SE X W a fa) (hb : SE X W b fb) : SE X W (.BinOp a .Mod b pos) (eMod fa fb) :=
  se_op op_mod (gr_int fun i j d e => by
    split at e
    · rename_i h
      cases e
      exact ⟨h, fun _ _ => rfl⟩
    · cases e) ha hb
end
end VL

/-! The value layer, 4: powers, comparisons, tests, choices, subscripts, slices. -/
namespace VL
open PySem PySem.Spec PyProof.Rows L2

/-! ### ** and - -/
def CPowW (i j : Int) : Prop := 0 ≤ j ∧ (Builtin.Int.intBits i : Int) * j ≤ 2 ^ 27
def powFits (i j : Int) : Bool := decide (0 ≤ j) && decide ((Builtin.Int.intBits i : Int) * j ≤ 134217728)
def gPow : Sl → Sl → Option Sl := gI fun i j => if powFits i j then some (.int (i ^ j.toNat)) else none
def ePow : EF → EF → EF := eOp gPow
def eUn (g : Sl → Option Sl) (f : EF) : EF := fun E => (f E).bind fun p => (RR.opt (g p.1)).bind fun s => .ok (s, p.2)
def gNeg : Sl → Option Sl
  | .dat (.int i) => some (.dat (.int (-i)))
  | _ => none
/-- what a one-place rule by values asks -/
def GU (K : PySem.W.Frag) (r : V → Hp → VK → Prop) (g : Sl → Option Sl) : Prop := ∀ {G : Gh} {Fz : Addr → Prop} {H : Hp} {E : Env} {σ : L2.St} {x s : Sl} {v : V} {Q : VK}, OK K G Fz H E σ → RS K Fz H G.io (x, some v) → g x = some s →
  (∀ u H' Fz', OK K (G.p s u) Fz' H' E σ → Q u H') → r v H Q
theorem tUn_of {K : PySem.W.Frag} {W : WX} {r : V → Hp → VK → Prop} {g : Sl → Option Sl} {f : EF} (hg : GU K r g) (σ : L2.St) (H : Hp) (Q : VK) (h : tE W K (eUn g f) σ H Q) : tUn r (tE W K f) σ H Q := by
  obtain ⟨G, E, Fz, k, h⟩ := h
  refine tE_mono (tE_of k (EndE.bind h)) fun v H1 ⟨x, E1, Fz1, k1, h1⟩ => ?_
  cases e : g x with
  | none => rw [e] at h1; exact h1.elim
  | some s =>
    rw [e] at h1
    exact hg k1.pop k1.top e fun u H' Fz' k3 => h1 u H' Fz' k3
section
variable {X : Cx} {W : WX} {pos : Pos} {a b c : Expr} {fa fb fc : EF}
theorem op_powW : OpR X (binaryOp .Pow) (rI CPowW fun i j => .int (i ^ j.toNat)) := opI fun _ _ _ _ _ _ _ hc q => PyProof.Rows.pow_int hc.1 hc.2 q
theorem se_pow (ha : SE X W a fa) (hb : SE X W b fb) : SE X W (.BinOp a .Pow b pos) (ePow fa fb) :=
  se_op op_powW (gr_int fun i j d e => by
    split at e
    · rename_i h
      cases e
      unfold powFits at h
      simp only [Bool.and_eq_true, decide_eq_true_eq] at h
      exact ⟨h, fun _ _ => rfl⟩
    · cases e) ha hb
theorem se_neg (ha : SE X W a fa) : SE X W (.UnaryOp .USub a pos) (eUn gNeg fa) :=
  PE.imp (pe_un un_neg ha) (tUn_of (K := X.K) (r := rU fun i => .int (-i)) fun {G Fz H E σ x s v Q} k kx e q => by
    unfold gNeg at e
    split at e
    · cases e
      exact ⟨_, kx.datI, q _ H Fz (k.dat rfl)⟩
    · cases e)

/-! ### comparisons -/
def gLt : Sl → Sl → Option Sl := gI fun i j => some (.bl (decide (i < j)))
def gLe : Sl → Sl → Option Sl := gI fun i j => some (.bl (decide (i ≤ j)))
def gGt : Sl → Sl → Option Sl := gI fun i j => some (.bl (decide (j < i)))
def gGe : Sl → Sl → Option Sl := gI fun i j => some (.bl (decide (j ≤ i)))
def gEq (neg : Bool) : Sl → Sl → Option Sl := fun x y => match x.d?, y.d? with
  | some d, some e => if d.fine && e.fine then some (.dat (.bl (if neg then !eqD d e else eqD d e))) else none
  | _, _ => none
theorem gEq_inv {neg : Bool} {x y s : Sl} (h : gEq neg x y = some s) : ∃ d e, x.d? = some d ∧ y.d? = some e ∧ d.fine = true ∧ e.fine = true ∧ s = .dat (.bl (if neg then !eqD d e else eqD d e)) := by
  unfold gEq at h
  cases e1 : x.d? with
  | none => rw [e1] at h; cases h
  | some d =>
    cases e2 : y.d? with
    | none => rw [e1, e2] at h; cases h
    | some e =>
      rw [e1, e2] at h
      have h : (if (d.fine && e.fine) = true then some (Sl.dat (.bl (if neg then !eqD d e else eqD d e))) else none) = some s := h
      split at h
      · rename_i hf
        obtain ⟨f1, f2⟩ := Bool.and_eq_true_iff.mp hf
        cases h
        exact ⟨d, e, rfl, rfl, f1, f2, rfl⟩
      · cases h
/-- two texts, two ints -/
def gEqS (neg : Bool) : Sl → Sl → Option Sl
  | .dat (.str x), .dat (.str y) => some (.dat (.bl (if neg then !decide (x = y) else decide (x = y))))
  | .dat (.int x), .dat (.int y) => some (.dat (.bl (if neg then !decide (x = y) else decide (x = y))))
  | _, _ => none
def gEqA (neg : Bool) : Sl → Sl → Option Sl := gOr (gEqS neg) (gEq neg)
theorem gr_eqS {K : PySem.W.Frag} : GR K rEq (gEqS false) := by
  intro G Fz H E σ x y s v w Q k kx ky e q
  unfold gEqS at e
  split at e
  · rename_i a b
    cases e
    rw [show v = .str a from kx.datI, show w = .str b from ky.datI]
    refine ⟨rfl, q _ H Fz (k.dat ?_)⟩
    show V.bl _ = V.bl _
    simp
  · rename_i a b
    cases e
    rw [show v = .int a from kx.datI, show w = .int b from ky.datI]
    refine ⟨rfl, q _ H Fz (k.dat ?_)⟩
    show V.bl _ = V.bl _
    simp
  · cases e
theorem gr_neS {K : PySem.W.Frag} : GR K rNe (gEqS true) := by
  intro G Fz H E σ x y s v w Q k kx ky e q
  unfold gEqS at e
  split at e
  · rename_i a b
    cases e
    rw [show v = .str a from kx.datI, show w = .str b from ky.datI]
    refine ⟨rfl, q _ H Fz (k.dat ?_)⟩
    show V.bl _ = V.bl _
    simp
  · rename_i a b
    cases e
    rw [show v = .int a from kx.datI, show w = .int b from ky.datI]
    refine ⟨rfl, q _ H Fz (k.dat ?_)⟩
    show V.bl _ = V.bl _
    simp
  · cases e
theorem gr_eqD {K : PySem.W.Frag} : GR K (rEqD K) (gEq false) := by
  intro G Fz H E σ x y s v w Q k kx ky e q
  obtain ⟨d, e', h1, h2, f1, f2, rfl⟩ := gEq_inv e
  obtain ⟨p1, s1⟩ := Bool.and_eq_true_iff.mp f1
  obtain ⟨p2, s2⟩ := Bool.and_eq_true_iff.mp f2
  exact ⟨_, _, kx.dp h1 p1, ky.dp h2 p2, s1, s2, q _ H Fz (k.dat rfl)⟩
theorem gr_neD {K : PySem.W.Frag} : GR K (rNeD K) (gEq true) := by
  intro G Fz H E σ x y s v w Q k kx ky e q
  obtain ⟨d, e', h1, h2, f1, f2, rfl⟩ := gEq_inv e
  obtain ⟨p1, s1⟩ := Bool.and_eq_true_iff.mp f1
  obtain ⟨p2, s2⟩ := Bool.and_eq_true_iff.mp f2
  exact ⟨_, _, kx.dp h1 p1, ky.dp h2 p2, s1, s2, q _ H Fz (k.dat rfl)⟩
def rEqA (K : PySem.W.Frag) : R2 := fun x y H Q => rEq x y H Q ∨ rEqD K x y H Q
def rNeA (K : PySem.W.Frag) : R2 := fun x y H Q => rNe x y H Q ∨ rNeD K x y H Q
theorem op_eqA (hu : X.A.units + 64 < cLine) : OpR X (compareOp .Eq) (rEqA X.K) := OpR.or op_eq (op_eqD hu)
theorem op_neA (hu : X.A.units + 64 < cLine) : OpR X (compareOp .NotEq) (rNeA X.K) := OpR.or op_ne (op_neD hu)
theorem gr_eq {K : PySem.W.Frag} : GR K (rEqA K) (gEqA false) := gr_or gr_eqS gr_eqD
theorem gr_ne {K : PySem.W.Frag} : GR K (rNeA K) (gEqA true) := gr_or gr_neS gr_neD
theorem se_lt (ha : SE X W a fa) (hb : SE X W b fb) : SE X W (.Compare a [.Lt] [b] pos) (eOp gLt fa fb) := se_cmp op_lt (gr_int0 (f := fun i j => .bl (decide (i < j))) (g := fun i j => .bl (decide (i < j))) fun _ _ _ _ => rfl) ha hb (nobehind b (by decide) (by decide))
theorem se_le (ha : SE X W a fa) (hb : SE X W b fb) : SE X W (.Compare a [.LtE] [b] pos) (eOp gLe fa fb) := se_cmp op_le (gr_int0 (f := fun i j => .bl (decide (i ≤ j))) (g := fun i j => .bl (decide (i ≤ j))) fun _ _ _ _ => rfl) ha hb (nobehind b (by decide) (by decide))
theorem se_gt (ha : SE X W a fa) (hb : SE X W b fb) : SE X W (.Compare a [.Gt] [b] pos) (eOp gGt fa fb) := se_cmp op_gt (gr_int0 (f := fun i j => .bl (decide (j < i))) (g := fun i j => .bl (decide (j < i))) fun _ _ _ _ => rfl) ha hb (nobehind b (by decide) (by decide))
theorem se_ge (ha : SE X W a fa) (hb : SE X W b fb) : SE X W (.Compare a [.GtE] [b] pos) (eOp gGe fa fb) := se_cmp op_ge (gr_int0 (f := fun i j => .bl (decide (j ≤ i))) (g := fun i j => .bl (decide (j ≤ i))) fun _ _ _ _ => rfl) ha hb (nobehind b (by decide) (by decide))
theorem se_eq (hu : X.A.units + 64 < cLine) (ha : SE X W a fa) (hb : SE X W b fb) : SE X W (.Compare a [.Eq] [b] pos) (eOp (gEqA false) fa fb) := se_cmp (op_eqA hu) gr_eq ha hb (nobehind b (by decide) (by decide))
theorem se_ne (hu : X.A.units + 64 < cLine) (ha : SE X W a fa) (hb : SE X W b fb) : SE X W (.Compare a [.NotEq] [b] pos) (eOp (gEqA true) fa fb) := se_cmp (op_neA hu) gr_ne ha hb (nobehind b (by decide) (by decide))
end

theorem RS.is {K : PySem.W.Frag} {Fz : Addr → Prop} {H : Hp} {io : List Addr} {s : Sl} {o : Option V} (h : RS K Fz H io (s, o)) (n : s ≠ .no) : ∃ v, o = some v := by
  cases s with
  | no => exact absurd rfl n
  | dat d => obtain ⟨v, e, _⟩ := h; exact ⟨v, e⟩
  | ol d => obtain ⟨a, _, e, _⟩ := h; exact ⟨_, e⟩
  | od t d => obtain ⟨a, _, e, _⟩ := h; exact ⟨_, e⟩
  | lk d => obtain ⟨a, _, e, _⟩ := h; exact ⟨_, e⟩
  | cl _ _ _ _ => exact ⟨_, h.1⟩
/-- a name's thing looked at where it stands -/
def Env.at (E : Env) (i : Nat) : Option Sl := match E[i]? with
  | some .no => none
  | r => r
theorem Env.at_some {E : Env} {i : Nat} {s : Sl} (h : E.at i = some s) : E[i]? = some s ∧ s ≠ .no := by
  unfold Env.at at h
  split at h
  · cases h
  · rename_i hn
    exact ⟨h, fun z => hn (by rw [h, z])⟩
theorem OK.at {K : PySem.W.Frag} {G : Gh} {Fz : Addr → Prop} {H : Hp} {E : Env} {σ : L2.St} {i : Nat} {s : Sl} (k : OK K G Fz H E σ) (h : E.at i = some s) : ∃ v, σ[i]? = some (some v) ∧ RS K Fz H G.io (s, some v) := by
  obtain ⟨e, n⟩ := Env.at_some h
  obtain ⟨o, ho, r⟩ := k.slot e
  obtain ⟨v, rfl⟩ := r.is n
  exact ⟨v, ho, r⟩
/-- x op e: x looked at where it stands, behind e -/
def ePk (g : Sl → Sl → Option Sl) (i : Nat) (fb : EF) : EF := fun E => (RR.opt (E.at i)).bind fun _ => (fb E).bind fun q => (RR.opt (q.2.at i)).bind fun s => (RR.opt (g s q.1)).bind fun r => .ok (r, q.2)
theorem tPk_of {W : WX} {K : PySem.W.Frag} {r : R2} {g : Sl → Sl → Option Sl} {i : Nat} {fb : EF} (hg : GR K r g) (σ : L2.St) (H : Hp) (Q : VK) (h : tE W K (ePk g i fb) σ H Q) : tOp r (tVar i) (tE W K fb) σ H Q := by
  obtain ⟨G, E, Fz, k, h⟩ := h
  unfold ePk at h
  cases ea : E.at i with
  | none => rw [ea] at h; exact h.elim
  | some s0 =>
    rw [ea] at h
    obtain ⟨v, hv, _⟩ := k.at ea
    refine ⟨v, hv, tE_mono (tE_of k (EndE.bind (show EndE W K G σ Q ((fb E).bind _) from h))) fun w H1 ⟨y, E1, Fz1, k1, h1⟩ => ?_⟩
    cases eb : E1.at i with
    | none => simp only [eb] at h1; exact h1.elim
    | some s =>
      simp only [eb] at h1
      cases e : g s y with
      | none => simp only [RR.opt, RR.bind, e] at h1; exact h1.elim
      | some t =>
        simp only [RR.opt, RR.bind, e] at h1
        obtain ⟨v', hv', r'⟩ := k1.at eb
        rw [hv] at hv'
        cases hv'
        exact hg k1.pop r' k1.top e fun u H' Fz' k3 => h1 u H' Fz' k3
section
variable {X : Cx} {W : WX} {pos p1 : Pos} {a b c : Expr} {fa fb fc : EF} {i : Nat} {x : Str}
theorem se_eqN (hu : X.A.units + 64 < cLine) (hN : X.N[i]? = some x) (hv : Vis X.env.scope x) (hb : SE X W b fb) (hd : (x == ("__debug__" : Str)) = false := by decide) (hcd : (x == ("__classdict__" : Str)) = false := by decide) :
    SE X W (.Compare (.Name x p1) [.Eq] [b] pos) (ePk (gEqA false) i fb) := PE.imp (pe_cmpR (op_eqA hu) (pe_var hN hv hd hcd) hb (nobehind b (by decide) (by decide))) (tPk_of gr_eq)
theorem se_neN (hu : X.A.units + 64 < cLine) (hN : X.N[i]? = some x) (hv : Vis X.env.scope x) (hb : SE X W b fb) (hd : (x == ("__debug__" : Str)) = false := by decide) (hcd : (x == ("__classdict__" : Str)) = false := by decide) :
    SE X W (.Compare (.Name x p1) [.NotEq] [b] pos) (ePk (gEqA true) i fb) := PE.imp (pe_cmpR (op_neA hu) (pe_var hN hv hd hcd) hb (nobehind b (by decide) (by decide))) (tPk_of gr_ne)
/-! ### in, not in, of flat things -/
def D.flat : D → Bool
  | .non => true
  | .bl _ => true
  | .int _ => true
  | .str _ => true
  | _ => false
def Sl.q? : Sl → Option (List D)
  | .dat (.lst ds) => some ds
  | .dat (.tup ds) => some ds
  | .ol ds => some ds
  | _ => none
def gIn (neg : Bool) : Sl → Sl → Option Sl
  | .dat d, y => match y.q? with
    | some ds => if d.flat && ds.all D.flat then some (.dat (.bl (if neg then !ds.any fun z => eqD z d else ds.any fun z => eqD z d))) else none
    | none => none
  | _, _ => none
theorem RS.q {K : PySem.W.Frag} {Fz : Addr → Prop} {H : Hp} {io : List Addr} {s : Sl} {v : V} {ds : List D} (h : RS K Fz H io (s, some v)) (e : s.q? = some ds) : ∃ a vs, v = .ref a ∧ (SqL K H a vs ∨ SqT K H a vs) ∧ RpL K Fz H ds vs := by
  unfold Sl.q? at e
  split at e
  · cases e
    obtain ⟨a, vs, rfl, z, r⟩ := h.datI
    exact ⟨a, vs, rfl, .inl z.sql, r⟩
  · cases e
    obtain ⟨a, vs, rfl, z, r⟩ := h.datI
    exact ⟨a, vs, rfl, .inr z, r⟩
  · cases e
    obtain ⟨a, vs, e2, z, r⟩ := h
    cases e2
    exact ⟨a, vs, rfl, .inl (.of z), r⟩
  · cases e
theorem flat_v {K : PySem.W.Frag} {Fz : Addr → Prop} {H : Hp} : ∀ {d : D} {v : V}, d.flat = true → Rp K Fz H d v → flatV v = true
  | .non, _, _, h => by rw [show _ = V.non from h]; rfl
  | .bl b, _, _, h => by rw [show _ = V.bl b from h]; rfl
  | .int i, _, _, h => by rw [show _ = V.int i from h]; rfl
  | .str x, _, _, h => by rw [show _ = V.str x from h]; rfl
theorem eq_v {K : PySem.W.Frag} {Fz : Addr → Prop} {H : Hp} {d e : D} {v u : V} (f1 : d.flat = true) (f2 : e.flat = true) (h1 : Rp K Fz H d v) (h2 : Rp K Fz H e u) : eqV v u = eqD d e := by
  have g1 := fun (z : V) => z
  cases d <;> first | (cases f1; done) | skip
  all_goals
    cases e <;> first | (cases f2; done) | skip
  all_goals
    rw [show v = _ from h1, show u = _ from h2]
    simp [eqV, eqD, D.py, PyData.eqv]
theorem flat_vs {K : PySem.W.Frag} {Fz : Addr → Prop} {H : Hp} : ∀ {ds : List D} {vs : List V}, ds.all D.flat = true → RpL K Fz H ds vs → vs.all flatV = true
  | [], _, _, h => by rw [show _ = [] from h]; rfl
  | d :: ds, _, f, ⟨v, r, e, h1, h2⟩ => by
    subst e
    rw [List.all_cons, Bool.and_eq_true] at f ⊢
    exact ⟨flat_v f.1 h1, flat_vs f.2 h2⟩
theorem in_v {K : PySem.W.Frag} {Fz : Addr → Prop} {H : Hp} {d : D} {v : V} (fd : d.flat = true) (hd : Rp K Fz H d v) : ∀ {ds : List D} {vs : List V}, ds.all D.flat = true → RpL K Fz H ds vs → inV v vs = ds.any fun z => eqD z d
  | [], _, _, h => by rw [show _ = [] from h]; rfl
  | e :: ds, _, f, ⟨u, r, q, h1, h2⟩ => by
    subst q
    rw [List.all_cons, Bool.and_eq_true] at f
    show ((u :: r).any fun y => eqV y v) = _
    rw [List.any_cons, List.any_cons, eq_v f.1 fd h1 hd]
    congr 1
    exact in_v fd hd f.2 h2
theorem gr_in {K : PySem.W.Frag} {neg : Bool} : GR K (rIn K neg) (gIn neg) := by
  intro G Fz H E σ x y s v w Q k kx ky e q
  unfold gIn at e
  split at e
  · rename_i d
    cases e1 : y.q? with
    | none => rw [e1] at e; cases e
    | some ds =>
      rw [e1] at e
      have e : (if (d.flat && ds.all D.flat) = true then some (Sl.dat (.bl (if neg then !ds.any fun z => eqD z d else ds.any fun z => eqD z d))) else none) = some s := e
      split at e
      · rename_i hf
        cases e
        obtain ⟨f1, f2⟩ := Bool.and_eq_true_iff.mp hf
        obtain ⟨a, vs, rfl, hs, r⟩ := ky.q e1
        have hd := kx.datI
        refine ⟨a, vs, rfl, hs, flat_v f1 hd, flat_vs f2 r, ?_⟩
        rw [in_v f1 hd f2 r]
        exact q _ H Fz (k.dat (by cases neg <;> rfl))
      · cases e
  · cases e
theorem se_in (ha : SE X W a fa) (hb : SE X W b fb) (hm : behindInMarks .In b = false := by rfl) : SE X W (.Compare a [.In] [b] pos) (eOp (gIn false) fa fb) := se_cmp op_in_seq gr_in ha hb hm
theorem se_notIn (ha : SE X W a fa) (hb : SE X W b fb) (hm : behindInMarks .NotIn b = false := by rfl) : SE X W (.Compare a [.NotIn] [b] pos) (eOp (gIn true) fa fb) := se_cmp op_notIn_seq gr_in ha hb hm
/-! ### is None -/
def D.isNon : D → Bool
  | .non => true
  | _ => false
def gIsN (neg : Bool) : Sl → Option Sl
  | .dat d => some (.dat (.bl (if neg then !d.isNon else d.isNon)))
  | .ol _ => some (.dat (.bl neg))
  | _ => none
theorem isNon_v {K : PySem.W.Frag} {Fz : Addr → Prop} {H : Hp} {d : D} {v : V} (h : Rp K Fz H d v) : decide (v = .non) = d.isNon := by
  cases d with
  | non => rw [show v = _ from h]; rfl
  | bl b => rw [show v = _ from h]; rfl
  | int b => rw [show v = _ from h]; rfl
  | str b => rw [show v = _ from h]; rfl
  | tup ds => obtain ⟨a, vs, rfl, _⟩ := h; rfl
  | lst ds => obtain ⟨a, vs, rfl, _⟩ := h; rfl
  | exc c r d => obtain ⟨a, dx, y, rfl, _⟩ := h; rfl
theorem se_isN {j : Nat} (ha : SE X W a fa) : SE X W (.Compare a [.Is] [.Constant .none j p1] pos) (eUn (gIsN false) fa) :=
  PE.imp (t := tIsN (tE W X.K fa)) (pe_cmp (pc_isN ha) rfl) fun σ H Q h => tUn_of (K := X.K) (r := fun x H1 Q => Q (.bl (decide (x = .non))) H1) (fun {G Fz H E σ x s v Q} k kx e q => by
    unfold gIsN at e
    split at e
    · cases e
      rw [isNon_v kx.datI]
      exact q _ H Fz (k.dat rfl)
    · cases e
      obtain ⟨a, vs, e2, _⟩ := kx
      cases e2
      exact q _ H Fz (k.dat rfl)
    · cases e) σ H Q h
theorem se_notN {j : Nat} (ha : SE X W a fa) : SE X W (.Compare a [.IsNot] [.Constant .none j p1] pos) (eUn (gIsN true) fa) :=
  PE.imp (t := tNotN (tE W X.K fa)) (pe_cmp (pc_notN ha) rfl) fun σ H Q h => tUn_of (K := X.K) (r := fun x H1 Q => Q (.bl (!decide (x = .non))) H1) (fun {G Fz H E σ x s v Q} k kx e q => by
    unfold gIsN at e
    split at e
    · cases e
      rw [isNon_v kx.datI]
      exact q _ H Fz (k.dat rfl)
    · cases e
      obtain ⟨a, vs, e2, _⟩ := kx
      cases e2
      exact q _ H Fz (k.dat rfl)
    · cases e) σ H Q h
end
end VL

/-! The value layer, 5: tests, choices, arguments, displays, subscripts, slices. -/
namespace VL
open PySem PySem.Spec PyProof.Rows L2

section
variable {W : WX} {K : PySem.W.Frag} {G : Gh} {Fz : Addr → Prop} {H : Hp} {E : Env} {σ : L2.St} {Q : VK} {QT : Bool → Hp → Prop} {QA : List V → Hp → Prop}
theorem EndE.bindT {x : RR (Bool × Env)} {k : Bool × Env → RR (Sl × Env)} (h : EndE W K G σ Q (x.bind k)) : EndT W K G σ (fun b H' => ∃ E1 Fz1, OK K G Fz1 H' E1 σ ∧ EndE W K G σ Q (k (b, E1))) x := by
  cases x with
  | ok p => exact fun H1 Fz1 k1 => ⟨p.2, Fz1, k1, h⟩
  | exc x E' => exact h
  | bad => exact h
theorem EndT.bindE {x : RR (Sl × Env)} {k : Sl × Env → RR (Bool × Env)} (h : EndT W K G σ QT (x.bind k)) : EndE W K G σ (fun v H' => ∃ r E1 Fz1, OK K (G.p r v) Fz1 H' E1 σ ∧ EndT W K G σ QT (k (r, E1))) x := by
  cases x with
  | ok p => exact fun v H1 Fz1 k1 => ⟨p.1, p.2, Fz1, k1, h⟩
  | exc x E' => exact h
  | bad => exact h
theorem EndT.bindT {x : RR (Bool × Env)} {k : Bool × Env → RR (Bool × Env)} (h : EndT W K G σ QT (x.bind k)) : EndT W K G σ (fun b H' => ∃ E1 Fz1, OK K G Fz1 H' E1 σ ∧ EndT W K G σ QT (k (b, E1))) x := by
  cases x with
  | ok p => exact fun H1 Fz1 k1 => ⟨p.2, Fz1, k1, h⟩
  | exc x E' => exact h
  | bad => exact h
theorem tT_of {f : TF} (k : OK K G Fz H E σ) (h : EndT W K G σ QT (f E)) : tT W K f σ H QT := ⟨G, E, Fz, k, h⟩
theorem tT_mono {f : TF} {Q' : Bool → Hp → Prop} (h : tT W K f σ H QT) (i : ∀ v H', QT v H' → Q' v H') : tT W K f σ H Q' := by
  obtain ⟨G, E, Fz, k, h⟩ := h
  refine ⟨G, E, Fz, k, ?_⟩
  cases hf : f E with
  | ok p =>
    rw [hf] at h
    exact fun H1 Fz1 k1 => i _ _ (h H1 Fz1 k1)
  | exc x E' =>
    rw [hf] at h
    exact h
  | bad =>
    rw [hf] at h
    exact h
end
/-! ### tests -/
def tfV (f : EF) : TF := fun E => (f E).bind fun p => match p.1 with
  | .dat (.bl b) => .ok (b, p.2)
  | _ => .bad
def tfAnd (f g : TF) : TF := fun E => (f E).bind fun p => if p.1 then g p.2 else .ok (false, p.2)
def tfOr (f g : TF) : TF := fun E => (f E).bind fun p => if p.1 then .ok (true, p.2) else g p.2
def tfNot (f : TF) : TF := fun E => (f E).bind fun p => .ok (!p.1, p.2)
def SW (X : Cx) (W : WX) (e : Expr) (f : TF) : Prop := PW X e (tT W X.K f)
theorem PW.imp {X : Cx} {e : Expr} {t t' : TT} (h : PW X e t) (i : ∀ σ H Q, t' σ H Q → t σ H Q) : PW X e t' := ⟨fun wh pins s σ H Q I q => h.run wh pins s σ H Q I (i σ H Q q)⟩
section
variable {X : Cx} {W : WX} {pos : Pos} {a b c : Expr} {rest : List Expr} {f g : TF} {fa fb fc : EF}
theorem tfV_of {K : PySem.W.Frag} (σ : L2.St) (H : Hp) (Q : Bool → Hp → Prop) (h : tT W K (tfV fa) σ H Q) : tE W K fa σ H fun x H1 => ∃ c, x = .bl c ∧ Q c H1 := by
  obtain ⟨G, E, Fz, k, h⟩ := h
  refine tE_mono (tE_of k (EndT.bindE h)) fun v H1 ⟨r, E1, Fz1, k1, h1⟩ => ?_
  split at h1
  · rename_i b er
    cases er
    exact ⟨b, k1.datI, h1 H1 Fz1 k1.pop⟩
  · exact h1.elim
theorem st_val (ha : SE X W a fa) (he : ∀ whole, isTrue a X.env whole = (do let v ← whole; standAt a.pos; holding [v] (truthy v)) := by intro _; rfl) : ST X W a (tfV fa) := PT.imp (pt_val ha he) tfV_of
theorem st_not (ha : ST X W a f) : ST X W (.UnaryOp .Not a pos) (tfNot f) := PT.imp (pt_not ha) fun σ H Q ⟨G, E, Fz, k, h⟩ => tT_mono (tT_of k (EndT.bindT h)) fun v H1 ⟨E1, Fz1, k1, h1⟩ => h1 H1 Fz1 k1
theorem sw_and1 (ha : ST X W a f) : SW X W (.BoolOp .And [a] pos) f := pw_and1 ha
theorem sw_or1 (ha : ST X W a f) : SW X W (.BoolOp .Or [a] pos) f := pw_or1 ha
theorem sw_and (ha : ST X W a f) (hb : SW X W (.BoolOp .And (b :: rest) pos) g) : SW X W (.BoolOp .And (a :: b :: rest) pos) (tfAnd f g) := PW.imp (pw_and ha hb) fun σ H Q ⟨G, E, Fz, k, h⟩ => by
  refine tT_mono (tT_of k (EndT.bindT h)) fun v H1 ⟨E1, Fz1, k1, h1⟩ => ?_
  cases v with
  | true => exact tT_of k1 h1
  | false => exact h1 H1 Fz1 k1
theorem sw_or (ha : ST X W a f) (hb : SW X W (.BoolOp .Or (b :: rest) pos) g) : SW X W (.BoolOp .Or (a :: b :: rest) pos) (tfOr f g) := PW.imp (pw_or ha hb) fun σ H Q ⟨G, E, Fz, k, h⟩ => by
  refine tT_mono (tT_of k (EndT.bindT h)) fun v H1 ⟨E1, Fz1, k1, h1⟩ => ?_
  cases v with
  | true => exact h1 H1 Fz1 k1
  | false => exact tT_of k1 h1
theorem SW.st (h : SW X W a f) : ST X W a f := PW.pt h
/-! ### a comparison as a test -/
theorem st_of_cmp {op : CmpOp} {r : R2} {g : Sl → Sl → Option Sl} (ho : OpR X (compareOp op) r) (hg : GR X.K r g) (ha : SE X W a fa) (hb : SE X W b fb) (hm : behindInMarks op b = false) : ST X W (.Compare a [op] [b] pos) (tfV (eOp g fa fb)) :=
  PT.imp (pt_cmpR ho ha hb hm) fun σ H Q h => tOp_of hg σ H _ (tfV_of σ H Q h)
theorem st_of_pk {op : CmpOp} {r : R2} {g : Sl → Sl → Option Sl} {i : Nat} {x : Str} {p1 : Pos} (ho : OpR X (compareOp op) r) (hg : GR X.K r g) (hN : X.N[i]? = some x) (hv : Vis X.env.scope x) (hb : SE X W b fb) (hm : behindInMarks op b = false) (hd : (x == ("__debug__" : Str)) = false) (hcd : (x == ("__classdict__" : Str)) = false) :
    ST X W (.Compare (.Name x p1) [op] [b] pos) (tfV (ePk g i fb)) :=
  PT.imp (pt_cmpR ho (pe_var hN hv hd hcd) hb hm) fun σ H Q h => tPk_of hg σ H _ (tfV_of σ H Q h)
theorem st_lt (ha : SE X W a fa) (hb : SE X W b fb) : ST X W (.Compare a [.Lt] [b] pos) (tfV (eOp gLt fa fb)) := st_of_cmp op_lt (gr_int0 (f := fun i j => .bl (decide (i < j))) (g := fun i j => .bl (decide (i < j))) fun _ _ _ _ => rfl) ha hb (nobehind b (by decide) (by decide))
theorem st_le (ha : SE X W a fa) (hb : SE X W b fb) : ST X W (.Compare a [.LtE] [b] pos) (tfV (eOp gLe fa fb)) := st_of_cmp op_le (gr_int0 (f := fun i j => .bl (decide (i ≤ j))) (g := fun i j => .bl (decide (i ≤ j))) fun _ _ _ _ => rfl) ha hb (nobehind b (by decide) (by decide))
theorem st_gt (ha : SE X W a fa) (hb : SE X W b fb) : ST X W (.Compare a [.Gt] [b] pos) (tfV (eOp gGt fa fb)) := st_of_cmp op_gt (gr_int0 (f := fun i j => .bl (decide (j < i))) (g := fun i j => .bl (decide (j < i))) fun _ _ _ _ => rfl) ha hb (nobehind b (by decide) (by decide))
theorem st_ge (ha : SE X W a fa) (hb : SE X W b fb) : ST X W (.Compare a [.GtE] [b] pos) (tfV (eOp gGe fa fb)) := st_of_cmp op_ge (gr_int0 (f := fun i j => .bl (decide (j ≤ i))) (g := fun i j => .bl (decide (j ≤ i))) fun _ _ _ _ => rfl) ha hb (nobehind b (by decide) (by decide))
theorem st_eq (hu : X.A.units + 64 < cLine) (ha : SE X W a fa) (hb : SE X W b fb) : ST X W (.Compare a [.Eq] [b] pos) (tfV (eOp (gEqA false) fa fb)) := st_of_cmp (op_eqA hu) gr_eq ha hb (nobehind b (by decide) (by decide))
theorem st_ne (hu : X.A.units + 64 < cLine) (ha : SE X W a fa) (hb : SE X W b fb) : ST X W (.Compare a [.NotEq] [b] pos) (tfV (eOp (gEqA true) fa fb)) := st_of_cmp (op_neA hu) gr_ne ha hb (nobehind b (by decide) (by decide))
theorem st_eqN {i : Nat} {x : Str} {p1 : Pos} (hu : X.A.units + 64 < cLine) (hN : X.N[i]? = some x) (hv : Vis X.env.scope x) (hb : SE X W b fb) (hd : (x == ("__debug__" : Str)) = false := by decide) (hcd : (x == ("__classdict__" : Str)) = false := by decide) :
    ST X W (.Compare (.Name x p1) [.Eq] [b] pos) (tfV (ePk (gEqA false) i fb)) := st_of_pk (op_eqA hu) gr_eq hN hv hb (nobehind b (by decide) (by decide)) hd hcd
theorem st_neN {i : Nat} {x : Str} {p1 : Pos} (hu : X.A.units + 64 < cLine) (hN : X.N[i]? = some x) (hv : Vis X.env.scope x) (hb : SE X W b fb) (hd : (x == ("__debug__" : Str)) = false := by decide) (hcd : (x == ("__classdict__" : Str)) = false := by decide) :
    ST X W (.Compare (.Name x p1) [.NotEq] [b] pos) (tfV (ePk (gEqA true) i fb)) := st_of_pk (op_neA hu) gr_ne hN hv hb (nobehind b (by decide) (by decide)) hd hcd
theorem st_in (ha : SE X W a fa) (hb : SE X W b fb) (hm : behindInMarks .In b = false := by rfl) : ST X W (.Compare a [.In] [b] pos) (tfV (eOp (gIn false) fa fb)) := st_of_cmp op_in_seq gr_in ha hb hm
theorem st_notIn (ha : SE X W a fa) (hb : SE X W b fb) (hm : behindInMarks .NotIn b = false := by rfl) : ST X W (.Compare a [.NotIn] [b] pos) (tfV (eOp (gIn true) fa fb)) := st_of_cmp op_notIn_seq gr_in ha hb hm
theorem st_isN {j : Nat} {p1 : Pos} (ha : SE X W a fa) : ST X W (.Compare a [.Is] [.Constant .none j p1] pos) (tfV (eUn (gIsN false) fa)) := PT.imp (pt_cmp (pc_isN ha) rfl) fun σ H Q h => tUn_of (K := X.K) (r := fun x H1 Q => Q (.bl (decide (x = .non))) H1) (fun {G Fz H E σ x s v Q} k kx e q => by
    unfold gIsN at e
    split at e
    · cases e
      rw [isNon_v kx.datI]
      exact q _ H Fz (k.dat rfl)
    · cases e
      obtain ⟨a, vs, e2, _⟩ := kx
      cases e2
      exact q _ H Fz (k.dat rfl)
    · cases e) σ H _ (tfV_of σ H Q h)
theorem st_notN {j : Nat} {p1 : Pos} (ha : SE X W a fa) : ST X W (.Compare a [.IsNot] [.Constant .none j p1] pos) (tfV (eUn (gIsN true) fa)) := PT.imp (pt_cmp (pc_notN ha) rfl) fun σ H Q h => tUn_of (K := X.K) (r := fun x H1 Q => Q (.bl (!decide (x = .non))) H1) (fun {G Fz H E σ x s v Q} k kx e q => by
    unfold gIsN at e
    split at e
    · cases e
      rw [isNon_v kx.datI]
      exact q _ H Fz (k.dat rfl)
    · cases e
      obtain ⟨a, vs, e2, _⟩ := kx
      cases e2
      exact q _ H Fz (k.dat rfl)
    · cases e) σ H _ (tfV_of σ H Q h)
/-- a < b < c of ints -/
def eChain (p q : Int → Int → Bool) (fa fb fc : EF) : EF := fun E => (fa E).bind fun x => (fb x.2).bind fun y => match x.1, y.1 with
  | .dat (.int i), .dat (.int j) => if p i j then (fc y.2).bind fun z => match z.1 with
      | .dat (.int l) => .ok (.dat (.bl (q j l)), z.2)
      | _ => .bad
    else .ok (.dat (.bl false), y.2)
  | _, _ => .bad
theorem tChain_of {K : PySem.W.Frag} {p q : Int → Int → Bool} (σ : L2.St) (H : Hp) (Q : VK) (h : tE W K (eChain p q fa fb fc) σ H Q) : tChain (rI0 fun i j => .bl (p i j)) (rI0 fun i j => .bl (q i j)) (tE W K fa) (tE W K fb) (tE W K fc) σ H Q := by
  obtain ⟨G, E, Fz, k, h⟩ := h
  refine tE_mono (tE_of k (EndE.bind h)) fun v H1 ⟨x, E1, Fz1, k1, h1⟩ => ?_
  refine tE_mono (tE_of k1 (EndE.bind1 h1)) fun w H2 ⟨y, E2, Fz2, k2, h2⟩ => ?_
  split at h2
  · rename_i x' y' i j e1 e2
    cases e1
    cases e2
    have hv : v = .int i := k2.pop.datI
    have hw : w = .int j := k2.datI
    refine ⟨i, j, hv, hw, _, rfl, ?_⟩
    by_cases hp : p i j = true
    · rw [if_pos hp] at h2 ⊢
      refine tE_mono (tE_of k2.pop.pop (EndE.bind h2)) fun u H3 ⟨z, E3, Fz3, k3, h3⟩ => ?_
      split at h3
      · rename_i l e3
        cases e3
        exact ⟨j, l, hw, k3.datI, h3 _ H3 Fz3 (k3.pop.dat rfl)⟩
      · exact h3.elim
    · rw [if_neg hp] at h2 ⊢
      exact h2 _ H2 Fz2 (k2.pop.pop.dat rfl)
  · exact h2.elim
def leB (i j : Int) : Bool := decide (i ≤ j)
def ltB (i j : Int) : Bool := decide (i < j)
theorem se_leLe (ha : SE X W a fa) (hb : SE X W b fb) (hc : SE X W c fc) (hm : lastMarks [.LtE, .LtE] [b, c] = false := by with_unfolding_all rfl) : SE X W (.Compare a [.LtE, .LtE] [b, c] pos) (eChain leB leB fa fb fc) := PE.imp (pe_chain op_le op_le ha hb hc hm) tChain_of
theorem se_leLt (ha : SE X W a fa) (hb : SE X W b fb) (hc : SE X W c fc) (hm : lastMarks [.LtE, .Lt] [b, c] = false := by with_unfolding_all rfl) : SE X W (.Compare a [.LtE, .Lt] [b, c] pos) (eChain leB ltB fa fb fc) := PE.imp (pe_chain op_le op_lt ha hb hc hm) tChain_of
theorem st_leLe (ha : SE X W a fa) (hb : SE X W b fb) (hc : SE X W c fc) (hm : lastMarks [.LtE, .LtE] [b, c] = false := by with_unfolding_all rfl) : ST X W (.Compare a [.LtE, .LtE] [b, c] pos) (tfV (eChain leB leB fa fb fc)) := PT.imp (pt_chain op_le op_le ha hb hc hm) fun σ H Q h => by
  have h2 := tChain_of σ H _ (tfV_of σ H Q h)
  exact h2
/-! ### and, or, not as values; choices -/
def eAnd (fa fb : EF) : EF := fun E => (fa E).bind fun p => match p.1 with
  | .dat (.bl true) => fb p.2
  | .dat (.bl false) => .ok (.dat (.bl false), p.2)
  | _ => .bad
def eOr (fa fb : EF) : EF := fun E => (fa E).bind fun p => match p.1 with
  | .dat (.bl false) => fb p.2
  | .dat (.bl true) => .ok (.dat (.bl true), p.2)
  | _ => .bad
def eNot (fa : EF) : EF := eUn (fun s => match s with | .dat (.bl b) => some (.dat (.bl (!b))) | _ => none) fa
def eIf (f : TF) (fa fb : EF) : EF := fun E => (f E).bind fun p => if p.1 then fa p.2 else fb p.2
theorem se_one {op : BoolOp} (ha : SE X W a fa) : SE X W (.BoolOp op [a] pos) fa := pe_one ha
theorem se_and (ha : SE X W a fa) (hb : SE X W (.BoolOp .And (b :: rest) pos) fb) : SE X W (.BoolOp .And (a :: b :: rest) pos) (eAnd fa fb) := PE.imp (pe_and ha hb) fun σ H Q ⟨G, E, Fz, k, h⟩ => by
  refine tE_mono (tE_of k (EndE.bind h)) fun v H1 ⟨x, E1, Fz1, k1, h1⟩ => ?_
  split at h1
  · rename_i e1
    cases e1
    exact ⟨true, k1.datI, tE_of k1.pop h1⟩
  · rename_i e1
    cases e1
    exact ⟨false, k1.datI, h1 _ H1 Fz1 (k1.pop.dat rfl)⟩
  · exact h1.elim
theorem se_or (ha : SE X W a fa) (hb : SE X W (.BoolOp .Or (b :: rest) pos) fb) : SE X W (.BoolOp .Or (a :: b :: rest) pos) (eOr fa fb) := PE.imp (pe_or ha hb) fun σ H Q ⟨G, E, Fz, k, h⟩ => by
  refine tE_mono (tE_of k (EndE.bind h)) fun v H1 ⟨x, E1, Fz1, k1, h1⟩ => ?_
  split at h1
  · rename_i e1
    cases e1
    exact ⟨false, k1.datI, tE_of k1.pop h1⟩
  · rename_i e1
    cases e1
    exact ⟨true, k1.datI, h1 _ H1 Fz1 (k1.pop.dat rfl)⟩
  · exact h1.elim
theorem se_not (ha : SE X W a fa) : SE X W (.UnaryOp .Not a pos) (eNot fa) := PE.imp (pe_not ha) fun σ H Q h => by
  refine tE_mono (tUn_of (K := X.K) (r := fun x H1 Q => ∃ c, x = .bl c ∧ Q (.bl (!c)) H1) (fun {G Fz H E σ x s v Q} k kx e q => ?_) σ H Q h) fun v H1 h1 => h1
  split at e
  · cases e
    exact ⟨_, kx.datI, q _ H Fz (k.dat rfl)⟩
  · cases e
theorem se_if (hc : ST X W c f) (ha : SE X W a fa) (hb : SE X W b fb) : SE X W (.IfExp c a b pos) (eIf f fa fb) := PE.imp (pe_ifExp hc ha hb) fun σ H Q ⟨G, E, Fz, k, h⟩ => by
  refine tT_mono (tT_of k (EndE.bindT h)) fun v H1 ⟨E1, Fz1, k1, h1⟩ => ?_
  cases v with
  | true => exact tE_of k1 h1
  | false => exact tE_of k1 h1
end
end VL

/-! The value layer, 6: arguments, displays, subscripts, slices. -/
namespace VL
open PySem PySem.Spec PyProof.Rows L2

section
variable {W : WX} {K : PySem.W.Frag} {G : Gh} {Fz : Addr → Prop} {H : Hp} {E : Env} {σ : L2.St} {Q : VK} {QA : List V → Hp → Prop}
theorem EndX.ps {x : D} : ∀ {rs : List Sl} {vs : List V} {G : Gh}, EndX W K G x E σ → EndX W K (G.ps rs vs) x E σ
  | [], _, _, h => h
  | _ :: _, [], _, h => h
  | s :: ss, v :: vs, G, h => EndX.ps (rs := ss) (vs := vs) (h.pop (s := s) (v := v))
theorem EndA.bindE {x : RR (Sl × Env)} {k : Sl × Env → RR (List Sl × Env)} (h : EndA W K G σ QA (x.bind k)) : EndE W K G σ (fun v H' => ∃ r E1 Fz1, OK K (G.p r v) Fz1 H' E1 σ ∧ EndA W K G σ QA (k (r, E1))) x := by
  cases x with
  | ok p => exact fun v H1 Fz1 k1 => ⟨p.1, p.2, Fz1, k1, h⟩
  | exc x E' => exact h
  | bad => exact h
theorem EndE.bindA {x : RR (List Sl × Env)} {k : List Sl × Env → RR (Sl × Env)} (h : EndE W K G σ Q (x.bind k)) : EndA W K G σ (fun vs H' => ∃ rs E1 Fz1, vs.length = rs.length ∧ OK K (G.ps rs vs) Fz1 H' E1 σ ∧ EndE W K G σ Q (k (rs, E1))) x := by
  cases x with
  | ok p => exact fun v H1 Fz1 hl k1 => ⟨p.1, p.2, Fz1, hl, k1, h⟩
  | exc x E' => exact h
  | bad => exact h
theorem tA_of {f : AF} (k : OK K G Fz H E σ) (h : EndA W K G σ QA (f E)) : tA W K f σ H QA := ⟨G, E, Fz, k, h⟩
theorem tA_mono {f : AF} {Q' : List V → Hp → Prop} (h : tA W K f σ H QA) (i : ∀ v H', QA v H' → Q' v H') : tA W K f σ H Q' := by
  obtain ⟨G, E, Fz, k, h⟩ := h
  refine ⟨G, E, Fz, k, ?_⟩
  cases hf : f E with
  | ok p =>
    rw [hf] at h
    exact fun v H1 Fz1 hl k1 => i _ _ (h v H1 Fz1 hl k1)
  | exc x E' =>
    rw [hf] at h
    exact h
  | bad =>
    rw [hf] at h
    exact h
/-- with more below -/
theorem EndA.bindA1 {rs0 : List Sl} {us : List V} {x : RR (List Sl × Env)} {k : List Sl × Env → RR (List Sl × Env)} (h : EndA W K G σ QA (x.bind k)) :
    EndA W K (G.ps rs0 us) σ (fun vs H' => ∃ rs E1 Fz1, vs.length = rs.length ∧ OK K ((G.ps rs0 us).ps rs vs) Fz1 H' E1 σ ∧ EndA W K G σ QA (k (rs, E1))) x := by
  cases x with
  | ok p => exact fun v H1 Fz1 hl k1 => ⟨p.1, p.2, Fz1, hl, k1, h⟩
  | exc x E' => exact EndX.ps h
  | bad => exact h
theorem ps_app : ∀ {rs rs2 : List Sl} {vs vs2 : List V} {G : Gh}, vs.length = rs.length → (G.ps rs vs).ps rs2 vs2 = G.ps (rs ++ rs2) (vs ++ vs2)
  | [], _, [], _, _, _ => rfl
  | [], _, _ :: _, _, _, h => by simp at h
  | _ :: _, _, [], _, _, h => by simp at h
  | s :: ss, rs2, v :: vs, vs2, G, h => ps_app (rs := ss) (vs := vs) (G := G.p s v) (by simpa using h)
theorem OK.pushL : ∀ {ds : List D} {vs : List V} {G : Gh}, OK K G Fz H E σ → RpL K Fz H ds vs → OK K (G.ps (ds.map .dat) vs) Fz H E σ
  | [], _, _, k, h => by rw [show _ = [] from h]; exact k
  | d :: ds, _, G, k, ⟨v, r, e, h1, h2⟩ => by
    subst e
    exact OK.pushL (G := G.p (.dat d) v) (k.dat h1) h2
/-- all frozen, and taken off -/
def dAll : List Sl → Option (List D)
  | [] => some []
  | s :: ss => match s.d?, dAll ss with
    | some d, some ds => some (d :: ds)
    | _, _ => none
theorem OK.all : ∀ {rs : List Sl} {vs : List V} {ds : List D} {G : Gh}, vs.length = rs.length → OK K (G.ps rs vs) Fz H E σ → dAll rs = some ds → ∃ Fz', (∀ a, Fz a → Fz' a) ∧ OK K G Fz' H E σ ∧ RpL K Fz' H ds vs
  | [], [], ds, G, _, k, h => by
    cases h
    exact ⟨Fz, fun _ z => z, k, .nil⟩
  | [], _ :: _, _, _, hl, _, _ => by simp at hl
  | _ :: _, [], _, _, hl, _, _ => by simp at hl
  | s :: ss, v :: vs, ds, G, hl, k, h => by
    unfold dAll at h
    cases e1 : s.d? with
    | none => rw [e1] at h; cases h
    | some d =>
      cases e2 : dAll ss with
      | none => rw [e1, e2] at h; cases h
      | some ds' =>
        rw [e1, e2] at h
        cases h
        obtain ⟨Fz1, f1, k1, r1⟩ := OK.all (rs := ss) (vs := vs) (ds := ds') (G := G.p s v) (by simpa using hl) k e2
        cases s with
        | dat d' =>
          cases e1
          exact ⟨Fz1, f1, k1.pop, .cons k1.datI r1⟩
        | ol xs =>
          cases e1
          obtain ⟨Fz2, f2, k2⟩ := k1.frz
          exact ⟨Fz2, fun a z => f2 a (f1 a z), k2.pop, .cons k2.datI (r1.keep Kp.refl f2 _)⟩
        | _ => cases e1
end
/-! ### arguments -/
def aNil : AF := fun E => .ok ([], E)
def aCons (f : EF) (g : AF) : AF := fun E => (f E).bind fun p => (g p.2).bind fun q => .ok (p.1 :: q.1, q.2)
def aStar (f : EF) (g : AF) : AF := fun E => (f E).bind fun p => (RR.opt p.1.q?).bind fun ds => (g p.2).bind fun q => .ok (ds.map Sl.dat ++ q.1, q.2)
section
variable {X : Cx} {W : WX} {e : Expr} {es : List Expr} {f : EF} {g : AF} {p pos : Pos}
theorem sa_nil : SA X W [] aNil := PA.imp pa_nil fun σ H Q ⟨G, E, Fz, k, h⟩ => h [] H Fz rfl k
theorem sa_cons (he : SE X W e f) (hr : SA X W es g) (hs : starEach (e :: es) X.env = (false, eval e X.env) :: starEach es X.env := by rfl) : SA X W (e :: es) (aCons f g) := PA.imp (pa_cons he hr hs) fun σ H Q ⟨G, E, Fz, k, h⟩ => by
  refine tE_mono (tE_of k (EndA.bindE h)) fun v H1 ⟨r, E1, Fz1, k1, h1⟩ => ?_
  refine tA_mono (tA_of (G := G.ps [r] [v]) k1 (EndA.bindA1 h1)) fun vs H2 ⟨rs, E2, Fz2, hl, k2, h2⟩ => ?_
  exact h2 (v :: vs) H2 Fz2 (by simpa using hl) k2
theorem sa_star (he : SE X W e f) (hr : SA X W es g) (hs : starEach (.Starred e p :: es) X.env = (true, eval e X.env) :: starEach es X.env := by rfl) : SA X W (.Starred e p :: es) (aStar f g) := PA.imp (StX.pa_star he hr hs) fun σ H Q ⟨G, E, Fz, k, h⟩ => by
  refine tE_mono (tE_of k (EndA.bindE h)) fun v H1 ⟨r, E1, Fz1, k1, h1⟩ => ?_
  cases eq : r.q? with
  | none => rw [eq] at h1; exact h1.elim
  | some ds =>
    rw [eq] at h1
    obtain ⟨a, vs, rfl, hs, rl⟩ := k1.top.q eq
    refine ⟨a, vs, rfl, hs.symm, ?_⟩
    have hl : vs.length = (ds.map Sl.dat).length := by rw [List.length_map, rl.len]
    refine tA_mono (tA_of (G := G.ps (ds.map .dat) vs) (k1.pop.pushL rl) (EndA.bindA1 h1)) fun us H2 ⟨rs, E2, Fz2, hl2, k2, h2⟩ => ?_
    rw [ps_app hl] at k2
    exact h2 (vs ++ us) H2 Fz2 (by simp only [List.length_append, hl, hl2]) k2
/-! ### displays -/
def eTup (g : AF) : EF := fun E => (g E).bind fun p => (RR.opt (dAll p.1)).bind fun ds => if ds.length ≤ SZ then .ok (.dat (.tup ds), p.2) else .bad
def eLst (g : AF) : EF := fun E => (g E).bind fun p => (RR.opt (dAll p.1)).bind fun ds => if ds.length ≤ SZ then .ok (.ol ds, p.2) else .bad
theorem se_tup {x1} (h : SA X W es g) : SE X W (.Tuple es x1 pos) (eTup g) := PE.imp (pe_tup h) fun σ H Q ⟨G, E, Fz, k, h⟩ => by
  refine tA_mono (tA_of k (EndE.bindA h)) fun vs H1 ⟨rs, E1, Fz1, hl, k1, h1⟩ => ?_
  cases ed : dAll rs with
  | none => simp only [ed] at h1; exact h1.elim
  | some ds =>
    simp only [ed, RR.opt, RR.bind] at h1
    split at h1
    · rename_i hz
      obtain ⟨Fz2, f2, k2, r2⟩ := k1.all hl ed
      exact ⟨by rw [← SZ_eq, ← r2.len]; exact hz, fun p np => h1 _ _ Fz2 (k2.newT np r2)⟩
    · exact h1.elim
theorem se_lst (h : SA X W es g) : SE X W (.List es pos) (eLst g) := PE.imp (pe_lst h) fun σ H Q ⟨G, E, Fz, k, h⟩ => by
  refine tA_mono (tA_of k (EndE.bindA h)) fun vs H1 ⟨rs, E1, Fz1, hl, k1, h1⟩ => ?_
  cases ed : dAll rs with
  | none => simp only [ed] at h1; exact h1.elim
  | some ds =>
    simp only [ed, RR.opt, RR.bind] at h1
    split at h1
    · rename_i hz
      obtain ⟨Fz2, f2, k2, r2⟩ := k1.all hl ed
      exact ⟨by rw [← SZ_eq, ← r2.len]; exact hz, fun p np => h1 _ _ Fz2 (k2.newL np r2)⟩
    · exact h1.elim
end
/-! ### subscripts -/
def gIx : Sl → Sl → Option Sl
  | .dat (.str z), .dat (.int i) => if z.length ≤ SZ then (atI z.cps.toList i).map fun c => .dat (.str ⟨#[c]⟩) else none
  | x, .dat (.int i) => x.q?.bind fun ds => (atI ds i).map .dat
  | _, _ => none
theorem atI_rp {K : PySem.W.Frag} {Fz : Addr → Prop} {H : Hp} {ds : List D} {vs : List V} {i : Int} {d : D} (r : RpL K Fz H ds vs) (h : atI ds i = some d) : ∃ v, atI vs i = some v ∧ Rp K Fz H d v := by
  unfold atI at h ⊢
  rw [← r.len]
  cases e : ixN ds.length i with
  | none => rw [e] at h; cases h
  | some j =>
    rw [e] at h
    exact r.get h
theorem gr_ix {K : PySem.W.Frag} : GR K (rIx K) gIx := by
  intro G Fz H E σ x y s v w Q k kx ky e q
  have seq : ∀ {i : Int}, w = .int i → (x.q?.bind fun ds => (atI ds i).map Sl.dat) = some s → rIx K v w H Q := fun {i} hw e => by
    obtain ⟨ds, e1, e2⟩ := Option.bind_eq_some_iff.mp e
    obtain ⟨d, e3, e4⟩ := Option.map_eq_some_iff.mp e2
    subst e4
    obtain ⟨a, vs, rfl, hs, r⟩ := kx.q e1
    obtain ⟨u, hu, ru⟩ := atI_rp r e3
    rcases hs with hs | hs
    · exact .inl ⟨a, vs, i, u, rfl, hw, hs, hu, q _ H Fz (k.dat ru)⟩
    · exact .inr (.inl ⟨a, vs, i, u, rfl, hw, hs, hu, q _ H Fz (k.dat ru)⟩)
  unfold gIx at e
  split at e
  · rename_i z i
    split at e
    · rename_i hz
      obtain ⟨c, e1, e2⟩ := Option.map_eq_some_iff.mp e
      subst e2
      exact .inr (.inr ⟨z, i, c, kx.datI, ky.datI, by rw [← SZ_eq]; exact hz, e1, q _ H Fz (k.dat rfl)⟩)
    · cases e
  · rename_i i _
    exact seq ky.datI e
  · cases e
section
variable {X : Cx} {W : WX} {a b : Expr} {fa fb : EF} {pos p1 p2 : Pos} {i : Nat} {x : Str}
theorem se_ix (ha : SE X W a fa) (hb : SE X W b fb) (hs : PlainIx b := by intro _ _; rfl) : SE X W (.Subscript a b pos) (eOp gIx fa fb) := PE.imp (pe_ix ix_seq ha hb hs) (tOp_of gr_ix)
theorem se_ixN (hN : X.N[i]? = some x) (hv : Vis X.env.scope x) (hb : SE X W b fb) (hs : PlainIx b := by intro _ _; rfl) (hd : (x == ("__debug__" : Str)) = false := by decide) (hcd : (x == ("__classdict__" : Str)) = false := by decide) :
    SE X W (.Subscript (.Name x p1) b pos) (ePk gIx i fb) := PE.imp (pe_ix ix_seq (pe_var hN hv hd hcd) hb hs) (tPk_of gr_ix)
/-! ### slices -/
abbrev OF := Env → RR (Option Int × Env)
def EndO (W : WX) (K : PySem.W.Frag) (G : Gh) (σ : L2.St) (Q : Option Int → Hp → Prop) : RR (Option Int × Env) → Prop
  | .ok p => ∀ H' Fz', OK K G Fz' H' p.2 σ → Q p.1 H'
  | .exc x E => EndX W K G x E σ
  | .bad => False
def tO (W : WX) (K : PySem.W.Frag) (f : OF) : TO := fun σ H Q => ∃ (G : Gh) (E : Env) (Fz : Addr → Prop), OK K G Fz H E σ ∧ EndO W K G σ Q (f E)
def SO (X : Cx) (W : WX) (e : Option Expr) (f : OF) : Prop := PO X e (tO W X.K f)
def oNone : OF := fun E => .ok (none, E)
def oSome (f : EF) : OF := fun E => (f E).bind fun p => match p.1 with
  | .dat (.int i) => .ok (some i, p.2)
  | _ => .bad
theorem so_none : SO X W none oNone := ⟨fun pins s σ H Q I ⟨G, E, Fz, k, h⟩ => po_none.run pins s σ H Q I (h H Fz k)⟩
theorem so_some (ha : SE X W a fa) : SO X W (some a) (oSome fa) := ⟨fun pins s σ H Q I ⟨G, E, Fz, k, h⟩ => by
  refine (po_some ha).run pins s σ H Q I ?_
  have h1 : EndE W X.K G σ (fun v H' => ∃ r E1 Fz1, OK X.K (G.p r v) Fz1 H' E1 σ ∧ EndO W X.K G σ Q (match r with | .dat (.int i) => .ok (some i, E1) | _ => .bad)) (fa E) := by
    unfold oSome at h
    cases ef : fa E with
    | ok p => rw [ef] at h; exact fun v H1 Fz1 k1 => ⟨p.1, p.2, Fz1, k1, h⟩
    | exc x E' => rw [ef] at h; exact h
    | bad => rw [ef] at h; exact h
  refine tE_mono (tE_of k h1) fun v H1 ⟨r, E1, Fz1, k1, h2⟩ => ?_
  split at h2
  · exact ⟨_, k1.datI, h2 H1 Fz1 k1.pop⟩
  · exact h2.elim⟩
def cutD (ds : List D) (lo hi : Option Int) : List D := (ds.drop (HT.sIx ds.length 0 lo)).take (HT.sIx ds.length ds.length hi - HT.sIx ds.length 0 lo)
theorem cut_rp {K : PySem.W.Frag} {Fz : Addr → Prop} {H : Hp} {ds : List D} {vs : List V} (lo hi : Option Int) (r : RpL K Fz H ds vs) : RpL K Fz H (cutD ds lo hi) (cutV vs lo hi) := by
  unfold cutD cutV
  rw [← r.len]
  exact (r.drop _).take _
def gCut (s : Sl) (lo hi : Option Int) : Option Sl := match s with
  | .dat (.str z) => if z.length ≤ SZ then some (.dat (.str (cutS z lo hi))) else none
  | .dat (.tup ds) => some (.dat (.tup (cutD ds lo hi)))
  | .dat (.lst ds) => some (.ol (cutD ds lo hi))
  | .ol ds => some (.ol (cutD ds lo hi))
  | .lk ds => some (.ol (cutD ds lo hi))
  | _ => none
def eCut (f : EF) (lo hi : OF) : EF := fun E => (f E).bind fun p => (lo p.2).bind fun l => (hi l.2).bind fun u => (RR.opt (gCut p.1 l.1 u.1)).bind fun r => .ok (r, u.2)
theorem SlR.or {r1 r2 : V → Option Int → Option Int → Hp → VK → Prop} (h1 : SlR X r1) (h2 : SlR X r2) : SlR X (fun x l u H Q => r1 x l u H Q ∨ r2 x l u H Q) := fun pins s σ H x v vl vu lo hi sl Q I rx hs pl pu h =>
  h.elim (h1 pins s σ H x v vl vu lo hi sl Q I rx hs pl pu) (h2 pins s σ H x v vl vu lo hi sl Q I rx hs pl pu)
theorem cutD_all {α : Type} (ds : List α) (lo hi : Option Int) (h : HT.sIx ds.length 0 lo = 0 ∧ HT.sIx ds.length ds.length hi = ds.length) : (ds.drop (HT.sIx ds.length 0 lo)).take (HT.sIx ds.length ds.length hi - HT.sIx ds.length 0 lo) = ds := by
  rw [h.1, h.2]
  simp
theorem slice_of {K : PySem.W.Frag} {G : Gh} {Fz : Addr → Prop} {H : Hp} {E : Env} {σ : L2.St} {x s : Sl} {v : V} {lo hi : Option Int} {Q : VK} (k : OK K G Fz H E σ) (kx : RS K Fz H G.io (x, some v)) (e : gCut x lo hi = some s)
    (q : ∀ u H' Fz', OK K (G.p s u) Fz' H' E σ → Q u H') : rSlL K v lo hi H Q ∨ rSlA K v lo hi H Q ∨ rSlS v lo hi H Q := by
  unfold gCut at e
  split at e
  · split at e
    · rename_i z hz
      cases e
      exact .inr (.inr ⟨z, kx.datI, by rw [← SZ_eq]; exact hz, q _ H Fz (k.dat rfl)⟩)
    · cases e
  · rename_i ds
    cases e
    obtain ⟨a, vs, rfl, hs, r⟩ := kx.datI
    refine .inr (.inl ⟨a, vs, rfl, hs, fun hw => ?_, fun _ p np => q _ _ Fz (k.newT np (cut_rp lo hi r))⟩)
    have e1 : cutD ds lo hi = ds := cutD_all ds lo hi (by rw [r.len]; exact hw)
    rw [e1] at q
    exact q _ H Fz (k.dat ⟨a, vs, rfl, hs, r⟩)
  · cases e
    obtain ⟨a, vs, rfl, hs, r⟩ := kx.datI
    exact .inl ⟨a, vs, rfl, hs.sql, fun p np => q _ _ Fz (k.newL np (cut_rp lo hi r))⟩
  · cases e
    obtain ⟨a, vs, e2, hs, r⟩ := kx
    cases e2
    exact .inl ⟨a, vs, rfl, .of hs, fun p np => q _ _ Fz (k.newL np (cut_rp lo hi r))⟩
  · cases e
    obtain ⟨a, vs, e2, hs, r⟩ := kx
    cases e2
    exact .inl ⟨a, vs, rfl, hs.sql, fun p np => q _ _ Fz (k.newL np (cut_rp lo hi r))⟩
  · cases e
theorem EndE.bindO {W : WX} {K : PySem.W.Frag} {G : Gh} {σ : L2.St} {Q : VK} {r : Sl} {v : V} {x : RR (Option Int × Env)} {k : Option Int × Env → RR (Sl × Env)} (h : EndE W K G σ Q (x.bind k)) :
    EndO W K (G.p r v) σ (fun o H' => ∃ E1 Fz1, OK K (G.p r v) Fz1 H' E1 σ ∧ EndE W K G σ Q (k (o, E1))) x := by
  cases x with
  | ok p => exact fun H1 Fz1 k1 => ⟨p.2, Fz1, k1, h⟩
  | exc x E' => exact EndX.pop h
  | bad => exact h
theorem tO_mono {W : WX} {K : PySem.W.Frag} {f : OF} {σ : L2.St} {H : Hp} {Q Q' : Option Int → Hp → Prop} (h : tO W K f σ H Q) (i : ∀ v H', Q v H' → Q' v H') : tO W K f σ H Q' := by
  obtain ⟨G, E, Fz, k, h⟩ := h
  refine ⟨G, E, Fz, k, ?_⟩
  cases hf : f E with
  | ok p =>
    rw [hf] at h
    exact fun H1 Fz1 k1 => i _ _ (h H1 Fz1 k1)
  | exc x E' =>
    rw [hf] at h
    exact h
  | bad =>
    rw [hf] at h
    exact h
theorem se_cut {lo hi : Option Expr} {fl fu : OF} (ha : SE X W a fa) (hl : SO X W lo fl) (hu : SO X W hi fu) : SE X W (.Subscript a (.Slice lo hi none p2) pos) (eCut fa fl fu) :=
  PE.imp (pe_slice (SlR.or sl_list (SlR.or sl_tupA sl_str)) ha hl hu) fun σ H Q ⟨G, E, Fz, k, h⟩ => by
    refine tE_mono (tE_of k (EndE.bind h)) fun v H1 ⟨r, E1, Fz1, k1, h1⟩ => ?_
    refine tO_mono ⟨G.p r v, E1, Fz1, k1, EndE.bindO h1⟩ fun o H2 ⟨E2, Fz2, k2, h2⟩ => ?_
    refine tO_mono ⟨G.p r v, E2, Fz2, k2, EndE.bindO h2⟩ fun o2 H3 ⟨E3, Fz3, k3, h3⟩ => ?_
    cases e : gCut r o o2 with
    | none => simp only [e] at h3; exact h3.elim
    | some s =>
      simp only [e, RR.opt, RR.bind] at h3
      exact slice_of k3.pop k3.top e fun u H' Fz' k4 => h3 u H' Fz' k4
end
end VL

/-! The value layer, 7: built-in functions and types, called. -/
namespace VL
open PySem PySem.Spec PyProof.Rows L2

/-- what a call's rule asks is met -/
def GC (K : PySem.W.Frag) (r : List V → Hp → VK → Prop) (g : List Sl → Option Sl) : Prop := ∀ {G : Gh} {Fz : Addr → Prop} {H : Hp} {E : Env} {σ : L2.St} {xs : List Sl} {vs : List V} {s : Sl} {Q : VK}, vs.length = xs.length → OK K (G.ps xs vs) Fz H E σ → g xs = some s →
  (∀ u H' Fz', OK K (G.p s u) Fz' H' E σ → Q u H') → r vs H Q
def eCall (g : List Sl → Option Sl) (fa : AF) : EF := fun E => (fa E).bind fun p => (RR.opt (g p.1)).bind fun s => .ok (s, p.2)
theorem tCB_of {K : PySem.W.Frag} {W : WX} {r : List V → Hp → VK → Prop} {g : List Sl → Option Sl} {fa : AF} (hg : GC K r g) (σ : L2.St) (H : Hp) (Q : VK) (h : tE W K (eCall g fa) σ H Q) : tCB r (tA W K fa) σ H Q := by
  obtain ⟨G, E, Fz, k, h⟩ := h
  refine tA_mono (tA_of k (EndE.bindA h)) fun vs H1 ⟨xs, E1, Fz1, hl, k1, h1⟩ => ?_
  cases e : g xs with
  | none => simp only [e] at h1; exact h1.elim
  | some s =>
    simp only [e, RR.opt, RR.bind] at h1
    exact hg hl k1 e fun u H' Fz' k2 => h1 u H' Fz' k2
/-- one argument -/
def g1 (g : Sl → Option Sl) : List Sl → Option Sl
  | [x] => g x
  | _ => none
theorem gc1 {K : PySem.W.Frag} {r : V → Hp → VK → Prop} {g : Sl → Option Sl} (h : GU K r g) : GC K (fun vs H Q => ∃ v, vs = [v] ∧ r v H Q) (g1 g) := by
  intro G Fz H E σ xs vs s Q hl k e q
  unfold g1 at e
  split at e
  · rename_i x
    cases vs with
    | nil => simp at hl
    | cons v r =>
      cases r with
      | cons _ _ => simp at hl
      | nil =>
        have k' : OK K (G.p x v) Fz H E σ := k
        exact ⟨v, rfl, h k'.pop k'.top e q⟩
  · cases e
def g2 (g : Sl → Sl → Option Sl) : List Sl → Option Sl
  | [x, y] => g x y
  | _ => none
theorem gc2 {K : PySem.W.Frag} {r : R2} {g : Sl → Sl → Option Sl} (h : GR K r g) : GC K (fun vs H Q => ∃ v w, vs = [v, w] ∧ r v w H Q) (g2 g) := by
  intro G Fz H E σ xs vs s Q hl k e q
  unfold g2 at e
  split at e
  · rename_i x y
    match vs, hl with
    | [v, w], _ =>
      have k' : OK K ((G.p x v).p y w) Fz H E σ := k
      exact ⟨v, w, rfl, h k'.pop.pop k'.pop.top k'.top e q⟩
  · cases e
section
variable {X : Cx} {W : WX} {x : Str} {p pos : Pos} {e : Expr} {es : List Expr} {fa : AF} {id T : String}
theorem CallR.imp {f : Value} {r r' : List V → Hp → VK → Prop} (h : CallR X f r) (i : ∀ vs H Q, r' vs H Q → r vs H Q) : CallR X f r' := fun pins s σ H xs us Q I rs q => h pins s σ H xs us Q I rs (i _ _ _ q)
theorem CallR.or {f : Value} {r1 r2 : List V → Hp → VK → Prop} (h1 : CallR X f r1) (h2 : CallR X f r2) : CallR X f (fun vs H Q => r1 vs H Q ∨ r2 vs H Q) := fun pins s σ H xs us Q I rs q =>
  q.elim (h1 pins s σ H xs us Q I rs) (h2 pins s σ H xs us Q I rs)
theorem gc_or {K : PySem.W.Frag} {r1 r2 : List V → Hp → VK → Prop} {g1 g2 : List Sl → Option Sl} (h1 : GC K r1 g1) (h2 : GC K r2 g2) : GC K (fun vs H Q => r1 vs H Q ∨ r2 vs H Q) (fun xs => match g1 xs with | some s => some s | none => g2 xs) := by
  intro G Fz H E σ xs vs s Q hl k e q
  cases e1 : g1 xs with
  | some s1 =>
    simp only [e1] at e
    cases e
    exact .inl (h1 hl k e1 q)
  | none =>
    simp only [e1] at e
    exact .inr (h2 hl k e q)
theorem se_callB {r : List V → Hp → VK → Prop} {g : List Sl → Option Sl} (hc : CallR X (.builtin id) r) (hgc : GC X.K r g) (hg : Gl X x) (hm : X.mg x = none) (hv : bootBuiltins x = some (.builtin id)) (ha : SA X W (e :: es) fa) (hn : x ≠ "__name__" := by decide) (hdb : (x == ("__debug__" : Str)) = false := by decide)
    (he : starEach (e :: es) X.env = (false, eval e X.env) :: starEach es X.env := by rfl) (hpl : (backTo pos (starEach es X.env)).any (·.1) = false := by rfl) : SE X W (.Call (.Name x p) (e :: es) [] pos) (eCall g fa) :=
  PE.imp (pe_callB hc hg hm hv ha hn hdb he hpl) (tCB_of hgc)
theorem se_callTy {r : List V → Hp → VK → Prop} {g : List Sl → Option Sl} (hc : CallR X (.type T) r) (hgc : GC X.K r g) (hg : Gl X x) (hm : X.mg x = none) (hv : bootBuiltins x = some (.type T)) (ha : SA X W (e :: es) fa) (hn : x ≠ "__name__" := by decide) (hdb : (x == ("__debug__" : Str)) = false := by decide)
    (he : starEach (e :: es) X.env = (false, eval e X.env) :: starEach es X.env := by rfl) (hpl : (backTo pos (starEach es X.env)).any (·.1) = false := by rfl) : SE X W (.Call (.Name x p) (e :: es) [] pos) (eCall g fa) :=
  PE.imp (pe_callTy hc hg hm hv ha hn hdb he hpl) (tCB_of hgc)
end
/-! ### len -/
def Sl.n? : Sl → Option Nat
  | .dat (.lst ds) => some ds.length
  | .dat (.tup ds) => some ds.length
  | .dat (.str z) => if z.length ≤ SZ then some z.length else none
  | .ol ds => some ds.length
  | .od _ kvs => none
  | _ => none
def gLen : Sl → Option Sl := fun s => s.n?.map fun n => .dat (.int n)
def rLenA (K : PySem.W.Frag) : V → Hp → VK → Prop := fun v H Q => (∃ p ys, v = .ref p ∧ (SqL K H p ys ∨ SqT K H p ys) ∧ Q (.int ys.length) H) ∨ ∃ z, v = .str z ∧ z.length ≤ sizeLine ∧ Q (.int z.length) H
theorem call_lenA {X : Cx} : CallR X (.builtin "len") (fun vs H Q => ∃ v, vs = [v] ∧ rLenA X.K v H Q) := CallR.imp (CallR.or call_len_seq call_len_str) fun vs H Q ⟨v, e, h⟩ => by
  subst e
  rcases h with ⟨p, ys, rfl, hs, q⟩ | ⟨z, rfl, hz, q⟩
  · exact .inl ⟨p, ys, rfl, hs, q⟩
  · exact .inr ⟨z, rfl, hz, q⟩
theorem gu_len {K : PySem.W.Frag} : GU K (rLenA K) gLen := by
  intro G Fz H E σ x s v Q k kx e q
  obtain ⟨n, e1, e2⟩ := Option.map_eq_some_iff.mp (show x.n?.map (fun n => Sl.dat (.int n)) = some s from e)
  subst e2
  have sq : ∀ ds, x.q? = some ds → n = ds.length → rLenA K v H Q := fun ds hq hn => by
    obtain ⟨a, vs, rfl, hs, r⟩ := kx.q hq
    refine .inl ⟨a, vs, rfl, hs, ?_⟩
    rw [← r.len, ← hn]
    exact q _ H Fz (k.dat rfl)
  unfold Sl.n? at e1
  split at e1
  · cases e1; exact sq _ rfl rfl
  · cases e1; exact sq _ rfl rfl
  · split at e1
    · rename_i z hz
      cases e1
      exact .inr ⟨z, kx.datI, by rw [← SZ_eq]; exact hz, q _ H Fz (k.dat rfl)⟩
    · cases e1
  · cases e1; exact sq _ rfl rfl
  · cases e1
  · cases e1
/-! ### isinstance of data -/
inductive Ty where
  | int | bool | str | tuple | list
def Ty.nm : Ty → String
  | .int => "int" | .bool => "bool" | .str => "str" | .tuple => "tuple" | .list => "list"
def D.ty : D → String
  | .non => "NoneType" | .bl _ => "bool" | .int _ => "int" | .str _ => "str" | .tup _ => "tuple" | .lst _ => "list" | .exc _ _ _ => ""
def D.is : Ty → D → Bool
  | .int, .int _ => true
  | .int, .bl _ => true
  | .bool, .bl _ => true
  | .str, .str _ => true
  | .tuple, .tup _ => true
  | .list, .lst _ => true
  | _, _ => false
def D.isX : D → Bool
  | .exc _ _ _ => true
  | _ => false
theorem kit_is {K : PySem.W.Frag} (T : Ty) (d : D) (h : d.isX = false) : PySem.W.kitOne K (.type d.ty) (.type T.nm) = some (d.is T) := by
  cases d <;> first | (cases h; done) | skip
  all_goals cases T <;> exact kit_ty (by dsimp only [D.ty, Ty.nm, D.is]; decide +kernel)
theorem RS.tyx {K : PySem.W.Frag} {Fz : Addr → Prop} {H : Hp} {io : List Addr} {s : Sl} {v : V} {d : D} (h : RS K Fz H io (s, some v)) (e : s.d? = some d) (n : d.isX = false) : TyX K H v (.type d.ty) := by
  cases s with
  | dat d' =>
    cases e
    have r := h.datI
    cases d with
    | non => rw [show v = _ from r]; exact .base .non
    | bl b => rw [show v = _ from r]; exact .base (.bl b)
    | int b => rw [show v = _ from r]; exact .base (.int b)
    | str b => rw [show v = _ from r]; exact .base (.str b)
    | tup ds =>
      obtain ⟨a, vs, rfl, hs, _⟩ := r
      rcases hs with (hs | ⟨o, hs⟩) | ⟨o, its, n, e1, e2, _⟩
      · exact .base (.tup hs)
      · exact .fTuple hs
      · exact .kTuple e1 e2
    | lst ds =>
      obtain ⟨a, vs, rfl, hs, _⟩ := r
      exact .base (.lst hs.2)
    | exc _ _ _ => cases n
  | ol ds =>
    cases e
    obtain ⟨a, vs, e2, ha, _⟩ := h
    cases e2
    exact .base (.lst ha)
  | _ => cases e
def gIsi (T : Ty) : Sl → Option Sl := fun s => match s.d? with
  | some d => if d.isX then none else some (.dat (.bl (d.is T)))
  | none => none
def eIsi (T : Ty) (fa : EF) : EF := eUn (gIsi T) fa
section
variable {X : Cx} {W : WX} {p p1 pos : Pos} {e : Expr} {fa : EF}
theorem se_isi (T : Ty) {n : Str} (hg : Gl X "isinstance") (hm : X.mg "isinstance" = none) (hgT : Gl X n) (hmT : X.mg n = none) (hT : bootBuiltins n = some (.type T.nm)) (ha : SE X W e fa) (hn : n ≠ "__name__" := by decide) (hdb : (n == ("__debug__" : Str)) = false := by decide)
    (he : starEach (e :: [.Name n p1]) X.env = (false, eval e X.env) :: starEach [.Name n p1] X.env := by rfl) (he2 : starEach [.Name n p1] X.env = (false, eval (.Name n p1) X.env) :: starEach [] X.env := by rfl) :
    SE X W (.Call (.Name "isinstance" p) [e, .Name n p1] [] pos) (eIsi T fa) :=
  PE.imp (pe_callB call_isi hg hm boot_isinstance (pa_cons ha (pa_cons (pe_bltn (v := .ty T.nm) hgT hmT hT rfl hn hdb) pa_nil he2) he) (by decide) (by decide) he (by rw [he2]; rfl)) fun σ H Q h => by
    refine tUn_of (K := X.K) (W := W) (r := fun v H1 Q => rIsi X.K [v, .ty T.nm] H1 Q) (g := gIsi T) (f := fa) (fun {G Fz H E σ x s v Q} k kx e q => ?_) σ H Q h
    unfold gIsi at e
    cases ed : x.d? with
    | none => rw [ed] at e; cases e
    | some d =>
      rw [ed] at e
      have e : (if d.isX = true then none else some (Sl.dat (.bl (d.is T)))) = some s := e
      split at e
      · cases e
      · rename_i hx
        cases e
        have hx : d.isX = false := by simpa using hx
        exact ⟨v, .ty T.nm, .type d.ty, .type T.nm, d.is T, rfl, .ty _, kx.tyx ed hx, kit_is T d hx, q _ H Fz (k.dat rfl)⟩
end
/-! ### tuple(x), list(x) -/
def gTuple : Sl → Option Sl := fun s => s.q?.map fun ds => .dat (.tup ds)
def gList : Sl → Option Sl := fun s => s.q?.map fun ds => .ol ds
def rTupleA (K : PySem.W.Frag) : V → Hp → VK → Prop := fun v H Q => ∃ p ys, v = .ref p ∧ ((SqL K H p ys ∧ ∀ l, H l = none → Q (.ref l) (upd H l (.tup ys))) ∨ (SqT K H p ys ∧ Q (.ref p) H))
theorem call_tupleA {X : Cx} : CallR X (.type "tuple") (fun vs H Q => ∃ v, vs = [v] ∧ rTupleA X.K v H Q) := CallR.imp call_tuple_of fun vs H Q ⟨v, e, p, ys, e2, h⟩ => ⟨p, ys, by rw [e, e2], h⟩
theorem gu_tuple {K : PySem.W.Frag} : GU K (rTupleA K) gTuple := by
  intro G Fz H E σ x s v Q k kx e q
  obtain ⟨ds, e1, e2⟩ := Option.map_eq_some_iff.mp (show x.q?.map (fun ds => Sl.dat (.tup ds)) = some s from e)
  subst e2
  obtain ⟨a, vs, rfl, hs, r⟩ := kx.q e1
  rcases hs with hs | hs
  · exact ⟨a, vs, rfl, .inl ⟨hs, fun l nl => q _ _ Fz (k.newT nl r)⟩⟩
  · exact ⟨a, vs, rfl, .inr ⟨hs, q _ H Fz (k.dat ⟨a, vs, rfl, hs, r⟩)⟩⟩
def rListA (K : PySem.W.Frag) : V → Hp → VK → Prop := fun v H Q => ∃ p ys, v = .ref p ∧ (SqL K H p ys ∨ SqT K H p ys) ∧ ∀ l, H l = none → Q (.ref l) (upd H l (.lst ys))
theorem call_listA {X : Cx} : CallR X (.type "list") (fun vs H Q => ∃ v, vs = [v] ∧ rListA X.K v H Q) := CallR.imp call_list_of fun vs H Q ⟨v, e, p, ys, e2, h⟩ => ⟨p, ys, by rw [e, e2], h⟩
theorem gu_list {K : PySem.W.Frag} : GU K (rListA K) gList := by
  intro G Fz H E σ x s v Q k kx e q
  obtain ⟨ds, e1, e2⟩ := Option.map_eq_some_iff.mp (show x.q?.map (fun ds => Sl.ol ds) = some s from e)
  subst e2
  obtain ⟨a, vs, rfl, hs, r⟩ := kx.q e1
  exact ⟨a, vs, rfl, hs, fun l nl => q _ _ Fz (k.newL nl r)⟩
/-! ### sum of ints, any, all -/
def ints? : List D → Option (List Int)
  | [] => some []
  | .int i :: ds => (ints? ds).map (i :: ·)
  | _ :: _ => none
theorem ints_eq : ∀ {ds : List D} {ns : List Int}, ints? ds = some ns → ds = ns.map D.int
  | [], ns, h => by cases h; rfl
  | d :: ds, ns, h => by
    unfold ints? at h
    split at h
    · rename_i e0; cases e0
    · rename_i i ds' e
      cases e
      obtain ⟨r, e1, e2⟩ := Option.map_eq_some_iff.mp h
      subst e2
      rw [ints_eq e1]
      rfl
    · cases h
def Sl.ql? : Sl → Option (List D)
  | .dat (.lst ds) => some ds
  | .ol ds => some ds
  | .lk ds => some ds
  | _ => none
theorem RS.ql {K : PySem.W.Frag} {Fz : Addr → Prop} {H : Hp} {io : List Addr} {s : Sl} {v : V} {ds : List D} (h : RS K Fz H io (s, some v)) (e : s.ql? = some ds) : ∃ a vs, v = .ref a ∧ SqL K H a vs ∧ RpL K Fz H ds vs := by
  unfold Sl.ql? at e
  split at e
  · cases e
    obtain ⟨a, vs, rfl, z, r⟩ := h.datI
    exact ⟨a, vs, rfl, z.sql, r⟩
  · cases e
    obtain ⟨a, vs, e2, z, r⟩ := h
    cases e2
    exact ⟨a, vs, rfl, .of z, r⟩
  · cases e
    obtain ⟨a, vs, e2, z, r⟩ := h
    cases e2
    exact ⟨a, vs, rfl, z.sql, r⟩
  · cases e
def gSum : Sl → Option Sl := fun s => (s.ql?.bind ints?).map fun ns => .dat (.int ns.sum)
def rSumA (K : PySem.W.Frag) : V → Hp → VK → Prop := fun v H Q => ∃ (a : Addr) (ns : List Int), v = V.ref a ∧ SqL K H a (ns.map V.int) ∧ Q (.int ns.sum) H
theorem gu_sum {K : PySem.W.Frag} : GU K (rSumA K) gSum := by
  intro G Fz H E σ x s v Q k kx e q
  obtain ⟨ns, e1, e2⟩ := Option.map_eq_some_iff.mp (show (x.ql?.bind ints?).map (fun ns => Sl.dat (.int ns.sum)) = some s from e)
  subst e2
  obtain ⟨ds, e3, e4⟩ := Option.bind_eq_some_iff.mp e1
  obtain ⟨a, vs, rfl, hs, r⟩ := kx.ql e3
  rw [ints_eq e4] at r
  rw [r.ints_inv] at hs
  exact ⟨a, ns, rfl, hs, q _ H Fz (k.dat rfl)⟩
def bls? : List D → Option (List Bool)
  | [] => some []
  | .bl i :: ds => (bls? ds).map (i :: ·)
  | _ :: _ => none
theorem bls_v {K : PySem.W.Frag} {Fz : Addr → Prop} {H : Hp} : ∀ {ds : List D} {bs : List Bool} {vs : List V}, bls? ds = some bs → RpL K Fz H ds vs → vs = bs.map V.bl
  | [], bs, vs, h, r => by cases h; exact r
  | d :: ds, bs, vs, h, ⟨v, r, e, h1, h2⟩ => by
    unfold bls? at h
    split at h
    · rename_i e0; cases e0
    · rename_i i ds' eq
      cases eq
      obtain ⟨t, e1, e2⟩ := Option.map_eq_some_iff.mp h
      subst e2 e
      rw [bls_v e1 h2, show v = .bl i from h1]
      rfl
    · cases h
def gAny : Sl → Option Sl := fun s => (s.ql?.bind bls?).map fun bs => .dat (.bl (bs.any id))
def gAll : Sl → Option Sl := fun s => (s.ql?.bind bls?).map fun bs => .dat (.bl (bs.all id))
def rAnyA (K : PySem.W.Frag) (f : List Bool → Bool) : V → Hp → VK → Prop := fun v H Q => ∃ (a : Addr) (bs : List Bool), v = V.ref a ∧ SqL K H a (bs.map V.bl) ∧ Q (.bl (f bs)) H
theorem gu_anyf {K : PySem.W.Frag} (f : List Bool → Bool) : GU K (rAnyA K f) (fun s => (s.ql?.bind bls?).map fun bs => .dat (.bl (f bs))) := by
  intro G Fz H E σ x s v Q k kx e q
  obtain ⟨ns, e1, e2⟩ := Option.map_eq_some_iff.mp e
  subst e2
  obtain ⟨ds, e3, e4⟩ := Option.bind_eq_some_iff.mp e1
  obtain ⟨a, vs, rfl, hs, r⟩ := kx.ql e3
  rw [bls_v e4 r] at hs
  exact ⟨a, ns, rfl, hs, q _ H Fz (k.dat rfl)⟩
/-! ### two ints: max, min; int(), str() -/
def gMax2 : Sl → Sl → Option Sl := gI fun i j => some (.int (if j > i then j else i))
def gMin2 : Sl → Sl → Option Sl := gI fun i j => some (.int (if j < i then j else i))
def gInt : Sl → Option Sl
  | .dat (.int i) => some (.dat (.int i))
  | .dat (.bl b) => some (.dat (.int (if b then 1 else 0)))
  | _ => none
def rIntA : V → Hp → VK → Prop := fun v H Q => (∃ i, v = .int i ∧ Q (.int i) H) ∨ ∃ b, v = .bl b ∧ Q (.int (if b then 1 else 0)) H
theorem gu_int {K : PySem.W.Frag} : GU K rIntA gInt := by
  intro G Fz H E σ x s v Q k kx e q
  unfold gInt at e
  split at e
  · cases e
    exact .inl ⟨_, kx.datI, q _ H Fz (k.dat rfl)⟩
  · cases e
    exact .inr ⟨_, kx.datI, q _ H Fz (k.dat rfl)⟩
  · cases e
/-! ### repr -/
def gRepr : Sl → Option Sl := fun s => match s.d? with
  | some d => if d.plain && PyData.showable d.py && decide (d.py.depth ≤ 64) && decide (d.py.shown.length ≤ SZ) then some (.dat (.str d.py.shown)) else none
  | none => none
def rReprA (K : PySem.W.Frag) : V → Hp → VK → Prop := fun v H Q => ∃ d, Dp K H v d ∧ d.showable = true ∧ d.hasDict = false ∧ d.depth ≤ 64 ∧ d.shown.length ≤ sizeLine ∧ Q (.str d.shown) H
mutual
theorem py_noDict : ∀ d : D, d.py.hasDict = false
  | .non => by simp only [D.py, PyData.hasDict]
  | .bl _ => by simp only [D.py, PyData.hasDict]
  | .int _ => by simp only [D.py, PyData.hasDict]
  | .str _ => by simp only [D.py, PyData.hasDict]
  | .tup ds => by simp only [D.py, PyData.hasDict]; exact pyL_noDict ds
  | .lst ds => by simp only [D.py, PyData.hasDict]; exact pyL_noDict ds
  | .exc _ _ _ => by simp only [D.py, PyData.hasDict]
theorem pyL_noDict : ∀ ds : List D, PyData.hasDictAll (pyL ds) = false
  | [] => by simp only [pyL, PyData.hasDictAll]
  | d :: ds => by simp only [pyL, PyData.hasDictAll, py_noDict d, pyL_noDict ds, Bool.or_self]
end
theorem gu_repr {K : PySem.W.Frag} : GU K (rReprA K) gRepr := by
  intro G Fz H E σ x s v Q k kx e q
  unfold gRepr at e
  cases ed : x.d? with
  | none => rw [ed] at e; cases e
  | some d =>
    rw [ed] at e
    have e : (if (d.plain && PyData.showable d.py && decide (d.py.depth ≤ 64) && decide (d.py.shown.length ≤ SZ)) = true then some (Sl.dat (.str d.py.shown)) else none) = some s := e
    split at e
    · rename_i hc
      simp only [Bool.and_eq_true, decide_eq_true_eq] at hc
      cases e
      exact ⟨d.py, kx.dp ed hc.1.1.1, hc.1.1.2, py_noDict d, hc.1.2, by rw [← SZ_eq]; exact hc.2, q _ H Fz (k.dat rfl)⟩
    · cases e
theorem call_reprA {X : Cx} (hg : X.A.guards = some []) (hu : X.A.units + 80 < cLine) : CallR X (.builtin "repr") (fun vs H Q => ∃ v, vs = [v] ∧ rReprA X.K v H Q) := by
  intro pins s σ H xs us Q I r ⟨v, e, d, hd, hsh, hnd, hdp, hz, q⟩
  subst e
  cases r with
  | cons r1 r2 =>
    rename_i u us'
    cases r2
    obtain ⟨as, rd⟩ := Dp.reads I d v u hd r1
    have fin : ∀ h' tk, (∀ b o, s.heap.get? b = some o → h'.get? b = some o) → ∀ t, EP X pins σ Q (.str d.shown t) { s with heap := h', toks := tk } := fun h' tk hk t => ⟨.str d.shown, H, I.kept (t' := tk) hk, ⟨t, rfl⟩, q⟩
    cases v with
    | ref a =>
      cases r1
      exact repr_of_reads' rd hsh (fun z => by rw [hnd] at z; cases z) hg (by omega) (fun _ _ e => e) (fun h' t tk hk => fin h' tk hk t) hz
    | non =>
      cases r1
      cases hd
      exact PySem.P.repr_of_none ⟨.str "None", H, I.tok _, ⟨_, rfl⟩, by simpa only [PyData.shown] using q⟩
    | bl b =>
      cases r1
      cases hd
      exact PySem.P.repr_of_bool ⟨.str (if b then "True" else "False"), H, I.tok _, ⟨_, rfl⟩, by simpa only [PyData.shown] using q⟩
    | int i =>
      obtain ⟨t, rfl⟩ := r1
      cases hd
      exact PySem.P.repr_of_int (by simpa [PyData.showable] using hsh) ⟨.str (toString i), H, I.tok _, ⟨_, rfl⟩, by simpa only [PyData.shown] using q⟩
    | str x =>
      obtain ⟨t, rfl⟩ := r1
      cases hd
      exact PySem.P.repr_of_str ⟨.str (reprText x), H, I.tok _, ⟨_, rfl⟩, by simpa only [PyData.shown] using q⟩ (by simpa only [PyData.shown] using hz)
    | _ => cases hd
end VL

/-! The value layer, 8: statements. -/
namespace VL
open PySem PySem.Spec PyProof.Rows L2

/-- what a place in the text knows of its surroundings -/
structure Kx (X : Cx) (W : WX) : Prop where
  hp : PassesOwn (model X.prog X.w) X.A X.env X.xe
  tk : Takes X W
  hc : X.calm = true
  hu : X.A.units + 100 < cLine
  hg : X.A.guards = some []
  nd : X.N.Nodup
theorem Kx.hu64 {X : Cx} {W : WX} (c : Kx X W) : X.A.units + 64 < cLine := by have := c.hu; omega
theorem Kx.hu80 {X : Cx} {W : WX} (c : Kx X W) : X.A.units + 80 < cLine := by have := c.hu; omega

def RR.fl {α : Type} (x : RR α) (k : α → FL) : FL := match x with
  | .ok a => k a
  | .exc e E => .exc e E
  | .bad => .bad
section
variable {W : WX} {K : PySem.W.Frag} {G : Gh} {Fz : Addr → Prop} {H : Hp} {E : Env} {σ : L2.St} {D' : Ends}
theorem EndS.flE {x : RR (Sl × Env)} {k : Sl × Env → FL} (h : EndS W K G D' (x.fl k)) (σ : L2.St) : EndE W K G σ (fun v H' => ∃ r E1 Fz1, OK K (G.p r v) Fz1 H' E1 σ ∧ EndS W K G D' (k (r, E1))) x := by
  cases x with
  | ok p => exact fun v H1 Fz1 k1 => ⟨p.1, p.2, Fz1, k1, h⟩
  | exc x E' => exact h σ
  | bad => exact h
theorem EndS.flT {x : RR (Bool × Env)} {k : Bool × Env → FL} (h : EndS W K G D' (x.fl k)) (σ : L2.St) : EndT W K G σ (fun b H' => ∃ E1 Fz1, OK K G Fz1 H' E1 σ ∧ EndS W K G D' (k (b, E1))) x := by
  cases x with
  | ok p => exact fun H1 Fz1 k1 => ⟨p.2, Fz1, k1, h⟩
  | exc x E' => exact h σ
  | bad => exact h
theorem tS_of {f : SF} (k : OK K G Fz H E σ) (h : EndS W K G D' (f E)) : tS W K f D' σ H := ⟨G, E, Fz, k, h⟩
end
def sNx : SF := fun E => .nx E
def sSeq (f g : SF) : SF := fun E => match f E with
  | .nx E' => g E'
  | r => r
def sSet (i : Nat) (f : EF) : SF := fun E => (f E).fl fun p => .nx (p.2.st i p.1)
def sExpr (f : EF) : SF := fun E => (f E).fl fun p => .nx p.2
def sRet (f : EF) : SF := fun E => (f E).fl fun p => .rt p.1 p.2
def sRetN : SF := fun E => .rt (.dat .non) E
def sIf (c : TF) (f g : SF) : SF := fun E => (c E).fl fun p => if p.1 then f p.2 else g p.2
def sBk : SF := fun E => .bk E
def sCt : SF := fun E => .ct E
section
variable {X : Cx} {W : WX} {pos : Pos} {st : Stmt} {rest sa sb : List Stmt} {e c : Expr} {f g : SF} {fe : EF} {fc : TF}
theorem ss_nil : SSs X W [] sNx := PSs.imp pss_nil fun D σ H ⟨G, E, Fz, k, h⟩ => h σ H Fz k
theorem ss_cons (h1 : SS X W st f) (h2 : SSs X W rest g) : SSs X W (st :: rest) (sSeq f g) := PSs.imp (pss_cons h1 h2) fun D σ H ⟨G, E, Fz, k, h⟩ => by
  refine ⟨G, E, Fz, k, ?_⟩
  unfold sSeq at h
  cases e : f E with
  | nx E' =>
    rw [e] at h
    exact fun σ' H' Fz' k' => ⟨G, E', Fz', k', h⟩
  | rt r E' => rw [e] at h; exact h
  | bk E' => rw [e] at h; exact h
  | ct E' => rw [e] at h; exact h
  | exc x E' => rw [e] at h; exact h
  | bad => rw [e] at h; exact h
theorem ss_one (h : SS X W st f) : SSs X W [st] f := pss_one h
theorem ss_pass : SS X W (.Pass pos) sNx := PS.imp ps_pass fun D σ H ⟨G, E, Fz, k, h⟩ => h σ H Fz k
theorem ss_bk : SS X W (.Break pos) sBk := PS.imp ps_break fun D σ H ⟨G, E, Fz, k, h⟩ => h σ H Fz k
theorem ss_ct : SS X W (.Continue pos) sCt := PS.imp ps_continue fun D σ H ⟨G, E, Fz, k, h⟩ => h σ H Fz k
theorem ss_set {i : Nat} {x : Str} {pos' : Pos} (c : Kx X W) (hi : X.N[i]? = some x) (hx : Loc X.env.scope x) (he : SE X W e fe) (hs : swapsWith e (some (.Name x pos')) pos.line X.env = pure false := by rfl)
    (hf : X.fn x = true ∨ X.env.scope.names.lookup x = some .local := by first | exact .inl rfl | exact .inr rfl | assumption) : SS X W (.Assign [.Name x pos'] e pos) (sSet i fe) :=
  PS.imp (ps_set c.nd hi hx he hs hf) fun D σ H ⟨G, E, Fz, k, h⟩ => by
    refine tE_mono (tE_of k (EndS.flE h σ)) fun v H1 ⟨r, E1, Fz1, k1, h1⟩ => ?_
    exact h1 _ H1 Fz1 k1.set
theorem ss_expr (he : SE X W e fe) (hs : swapsWith e none pos.line X.env = pure false := by rfl) : SS X W (.Expr e pos) (sExpr fe) := PS.imp (ps_expr he hs) fun D σ H ⟨G, E, Fz, k, h⟩ => by
  refine tE_mono (tE_of k (EndS.flE h σ)) fun v H1 ⟨r, E1, Fz1, k1, h1⟩ => ?_
  exact h1 σ H1 Fz1 k1.pop
theorem ss_ret (he : SE X W e fe) : SS X W (.Return (some e) pos) (sRet fe) := PS.imp (ps_ret he) fun D σ H ⟨G, E, Fz, k, h⟩ => by
  refine tE_mono (tE_of k (EndS.flE h σ)) fun v H1 ⟨r, E1, Fz1, k1, h1⟩ => ?_
  exact h1 v σ H1 Fz1 k1
theorem ss_retN : SS X W (.Return none pos) sRetN := PS.imp ps_retN fun D σ H ⟨G, E, Fz, k, h⟩ => h _ σ H Fz (k.dat rfl)
theorem ss_if (hc : ST X W c fc) (ha : SSs X W sa f) (hb : SSs X W sb g) : SS X W (.If c sa sb pos) (sIf fc f g) := PS.imp (ps_if hc ha hb) fun D σ H ⟨G, E, Fz, k, h⟩ => by
  refine tT_mono (tT_of k (EndS.flT h σ)) fun v H1 ⟨E1, Fz1, k1, h1⟩ => ?_
  cases v with
  | true => exact tS_of k1 h1
  | false => exact tS_of k1 h1
end
/-! ### while -/
def sWhN (c : TF) (b : SF) : Nat → SF
  | 0 => fun _ => .bad
  | n + 1 => fun E => (c E).fl fun p => if p.1 then (match b p.2 with
    | .nx E' => sWhN c b n E'
    | .ct E' => sWhN c b n E'
    | .bk E' => .nx E'
    | r => r) else .nx p.2
def fuel : Nat := 1000000000
def sWh (c : TF) (b : SF) : SF := sWhN c b fuel
section
variable {X : Cx} {W : WX} {pos : Pos} {body : List Stmt} {c : Expr} {b : SF} {fc : TF}
theorem ss_while (kx : Kx X W) (hc : ST X W c fc) (hb : SSs X W body b) : SS X W (.While c body [] pos) (sWh fc b) := PS.imp (ps_while kx.hp hc hb) fun D σ H ⟨G, E, Fz, k, h⟩ => by
  refine ⟨fun m σ H => ∃ E Fz, OK X.K G Fz H E σ ∧ EndS W X.K G D (sWhN fc b m E), ⟨fuel, E, Fz, k, h⟩, fun m σ H ⟨E, Fz, k, h⟩ => ?_⟩
  cases m with
  | zero => exact h.elim
  | succ m =>
    refine tT_mono (tT_of k (EndS.flT h σ)) fun v H1 ⟨E1, Fz1, k1, h1⟩ => ?_
    cases v with
    | false => exact h1 σ H1 Fz1 k1
    | true =>
      refine ⟨fun σ' H' => ∃ E Fz, OK X.K G Fz H' E σ' ∧ EndS W X.K G D (sWhN fc b m E), fun σ' H' z => ⟨m, Nat.lt_succ_self _, z⟩, G, E1, Fz1, k1, ?_⟩
      have h1 : EndS W X.K G D (match b E1 with
        | .nx E' => sWhN fc b m E'
        | .ct E' => sWhN fc b m E'
        | .bk E' => .nx E'
        | r => r) := h1
      cases e : b E1 with
      | nx E' => rw [e] at h1; exact fun σ' H' Fz' k' => ⟨E', Fz', k', h1⟩
      | ct E' => rw [e] at h1; exact fun σ' H' Fz' k' => ⟨E', Fz', k', h1⟩
      | bk E' => rw [e] at h1; exact h1
      | rt r E' => rw [e] at h1; exact h1
      | exc x E' => rw [e] at h1; exact h1
      | bad => rw [e] at h1; exact h1
end
/-! ### targets -/
abbrev GF := D → Env → Option Env
abbrev GFs := List D → Env → Option Env
def gNm (i : Nat) : GF := fun d E => some (E.st i (.dat d))
def gTp (n : Nat) (g : GFs) : GF := fun d E => match d with
  | .tup ds => if ds.length = n then g ds E else none
  | _ => none
def gsNil : GFs := fun _ E => some E
def gsCons (g : GF) (gs : GFs) : GFs := fun ds E => match ds with
  | d :: r => (g d E).bind fun E1 => gs r E1
  | [] => none
/-- the slots us emptied, pointwise -/
theorem wipe_get : ∀ {us : List Nat} {σ : L2.St} {j : Nat}, (wipe σ us)[j]? = if j ∈ us then (σ[j]?).map fun _ => none else σ[j]?
  | [], σ, j => by simp [wipe]
  | u :: us, σ, j => by
    unfold wipe
    by_cases h : u = j
    · subst h
      rw [List.getElem?_set_self', wipe_get, if_pos List.mem_cons_self]
      split <;> cases σ[u]? <;> rfl
    · rw [List.getElem?_set_ne h, wipe_get]
      have e : j ∈ u :: us ↔ j ∈ us := by simp [Ne.symm h]
      simp only [e]
theorem wipe_set {us : List Nat} {σ : L2.St} {i : Nat} {o : Option V} (h : i ∈ us) : wipe (σ.set i o) us = wipe σ us := by
  apply List.ext_getElem?
  intro j
  rw [wipe_get, wipe_get]
  by_cases hj : i = j
  · subst hj
    rw [if_pos h, if_pos h, List.getElem?_set_self']
    cases σ[i]? <;> rfl
  · rw [List.getElem?_set_ne hj]
/-- a target's promise; vs: the slots that it stores to -/
def Stp (vs : List Nat) (σ σ' : L2.St) : Prop := ∀ us : List Nat, (∀ i ∈ vs, i ∈ us) → wipe σ' us = wipe σ us
theorem Stp.mono {vs vs' : List Nat} {σ σ' : L2.St} (h : Stp vs σ σ') (hs : ∀ i ∈ vs, i ∈ vs') : Stp vs' σ σ' := fun us hu => h us fun i hi => hu i (hs i hi)
theorem Stp.trans {vs : List Nat} {σ σ' σ'' : L2.St} (h : Stp vs σ σ') (h' : Stp vs σ' σ'') : Stp vs σ σ'' := fun us hu => (h' us hu).trans (h us hu)
def tG (K : PySem.W.Frag) (vs : List Nat) (g : GF) : TG := fun v σ H Q => ∃ (G : Gh) (E : Env) (Fz : Addr → Prop) (d : D), OK K G Fz H E σ ∧ Rp K Fz H d v ∧ ∃ E', g d E = some E' ∧ ∀ σ', OK K G Fz H E' σ' → Stp vs σ σ' → Q σ' H
def tGs (K : PySem.W.Frag) (ws : List Nat) (g : GFs) : TGs := fun vs σ H Q => ∃ (G : Gh) (E : Env) (Fz : Addr → Prop) (ds : List D), OK K G Fz H E σ ∧ RpL K Fz H ds vs ∧ ∃ E', g ds E = some E' ∧ ∀ σ', OK K G Fz H E' σ' → Stp ws σ σ' → Q σ' H
def SG (X : Cx) (tg : Expr) (vs : List Nat) (g : GF) : Prop := PG X tg (tG X.K vs g)
def SGs (X : Cx) (tgs : List Expr) (n : Nat) (ws : List Nat) (g : GFs) : Prop := PGs X tgs (fun vs σ H Q => vs.length = n ∧ tGs X.K ws g vs σ H Q)
theorem PG.imp {X : Cx} {tg : Expr} {t t' : TG} (h : PG X tg t) (i : ∀ v σ H Q, t' v σ H Q → t v σ H Q) : PG X tg t' := ⟨fun pins s σ H v u Q I r q => h.run pins s σ H v u Q I r (i v σ H Q q)⟩
theorem PGs.imp {X : Cx} {tg : List Expr} {t t' : TGs} (h : PGs X tg t) (i : ∀ v σ H Q, t' v σ H Q → t v σ H Q) : PGs X tg t' := ⟨fun pins s σ H v u Q I r q => h.run pins s σ H v u Q I r (i v σ H Q q)⟩
section
variable {X : Cx} {pos : Pos} {e : Expr} {es : List Expr}
theorem sg_name {i : Nat} {x : Str} (nd : X.N.Nodup) (hi : X.N[i]? = some x) (hx : Loc X.env.scope x) (hf : X.fn x = true ∨ X.env.scope.names.lookup x = some .local := by first | exact .inl rfl | exact .inr rfl | assumption) : SG X (.Name x pos) [i] (gNm i) :=
  PG.imp (pg_name nd hi hx hf) fun v σ H Q ⟨G, E, Fz, d, k, r, E', e, h⟩ => by
    cases e
    exact h _ (k.dat r).set fun us hu => wipe_set (hu i List.mem_cons_self)
theorem sgs_nil : SGs X [] 0 [] gsNil := PGs.imp pgs_nil fun vs σ H Q ⟨hl, G, E, Fz, ds, k, r, E', e, h⟩ => by
  cases e
  exact ⟨List.eq_nil_of_length_eq_zero hl, h σ k fun _ _ => rfl⟩
theorem sgs_cons {n : Nat} {us ws : List Nat} {g : GF} {gs : GFs} (h1 : SG X e us g) (h2 : SGs X es n ws gs) (hs : (assignEach (e :: es) X.env).map (·.2) = assign e X.env :: (assignEach es X.env).map (·.2) := by rfl) : SGs X (e :: es) (n + 1) (us ++ ws) (gsCons g gs) := PGs.imp (pgs_cons h1 h2 hs) fun vs σ H Q ⟨hl, G, E, Fz, ds, k, r, E', e, h⟩ => by
  cases ds with
  | nil => cases e
  | cons d ds =>
    obtain ⟨v, vs', rfl, r1, r2⟩ := r
    obtain ⟨E1, e1, e2⟩ := Option.bind_eq_some_iff.mp (show (g d E).bind (fun E1 => gs ds E1) = some E' from e)
    exact ⟨v, vs', rfl, G, E, Fz, d, k, r1, E1, e1, fun σ' k' t' => ⟨by simpa using hl, G, E1, Fz, ds, k', r2, E', e2, fun σ2 k2 t2 => h σ2 k2 ((t'.mono fun i hi => List.mem_append_left _ hi).trans (t2.mono fun i hi => List.mem_append_right _ hi))⟩⟩
theorem sg_tup {n : Nat} {k : Nat} {ws : List Nat} {gs : GFs} (hc : X.calm = true) (h : SGs X es n ws gs) (hn : (assignEach es X.env).length = n := by rfl) (hst : (assignEach es X.env).findIdx? (·.1) = none := by rfl) : SG X (.Tuple es k pos) ws (gTp n gs) :=
  PG.imp (pg_tup hc h hn hst) fun v σ H Q ⟨G, E, Fz, d, k, r, E', e, hh⟩ => by
    cases d with
    | tup ds =>
      obtain ⟨a, vs, rfl, hs, rl⟩ := r
      have e : (if ds.length = n then gs ds E else none) = some E' := e
      split at e
      · rename_i hl
        exact ⟨a, vs, rfl, hs, by rw [← rl.len]; exact hl, by rw [← rl.len]; exact hl, G, E, Fz, ds, k, rl, E', e, hh⟩
      · cases e
    | _ => cases e
end
end VL

/-! The value layer, 9: loops. -/
namespace VL
open PySem PySem.Spec PyProof.Rows L2 RZ RT

abbrev EI := Env → RR (List D × Env)
/-- what an iterator yields for d: d's own value, or a new tuple -/
def Yd (K : PySem.W.Frag) (Fz : Addr → Prop) (H : Hp) (d : D) (x : V) (H' : Hp) : Prop :=
  (H' = H ∧ Rp K Fz H d x) ∨ ∃ p us es, d = .tup es ∧ x = .ref p ∧ H p = none ∧ H' = upd H p (.tup us) ∧ RpL K Fz H es us
theorem OK.yd {K : PySem.W.Frag} {G : Gh} {Fz : Addr → Prop} {H H' : Hp} {E : Env} {σ : L2.St} {d : D} {x : V} (k : OK K G Fz H E σ) (y : Yd K Fz H d x H') : OK K (G.p (.dat d) x) Fz H' E σ := by
  rcases y with ⟨e, r⟩ | ⟨p, us, es, e1, e2, n, e3, r⟩
  · subst e
    exact k.dat r
  · subst e1 e2 e3
    exact k.newT n r
/-- an iterator over ds, as long as T' is held -/
structure Wk (K : PySem.W.Frag) (io : List Addr) (J : L2.It) (T' : List It') (ds : List D) : Prop where
  goes : ∀ {i : Nat} {Fz : Addr → Prop} {H : Hp}, (∀ p ∈ T', RS K Fz H io p) → i < ds.length → J.go i H
  stops : ∀ {Fz : Addr → Prop} {H : Hp}, (∀ p ∈ T', RS K Fz H io p) → J.stop ds.length H
  yields : ∀ {i : Nat} {Fz : Addr → Prop} {H H' : Hp} {x : V} {d : D}, (∀ p ∈ T', RS K Fz H io p) → ds[i]? = some d → J.yld i H x H' → Yd K Fz H d x H'
/-- further things held -/
abbrev Gh.w (G : Gh) (T' : List It') : Gh := { G with T := T' ++ G.T }
section
variable {K : PySem.W.Frag} {G : Gh} {Fz : Addr → Prop} {H : Hp} {E : Env} {σ : L2.St} {T' : List It'} {W : WX} {Q : VK} {D' : Ends} {s : Sl} {v : V}
theorem OK.lessT {G2 : Gh} {T1 T2 : List It'} (k : OK K { G2 with T := T1 } Fz H E σ) (h : T2.Sublist T1) : OK K { G2 with T := T2 } Fz H E σ := ⟨k.gd.sub (h.append (List.Sublist.refl _)), k.lv⟩
theorem OK.unw (k : OK K (G.w T') Fz H E σ) : OK K G Fz H E σ := OK.lessT (G2 := G) k (List.sublist_append_right _ _)
theorem OK.unw1 (k : OK K ((G.w T').p s v) Fz H E σ) : OK K (G.p s v) Fz H E σ := OK.lessT (G2 := G) k ((List.sublist_append_right _ _).cons_cons _)
theorem OK.held (k : OK K (G.w T') Fz H E σ) : ∀ p ∈ T', RS K Fz H G.io p := fun p hp => k.gd.rs p (List.mem_append_left _ (List.mem_append_left _ hp))
theorem EndX.w {x : D} (h : EndX W K G x E σ) : EndX W K (G.w T') x E σ := fun cls d H' Fz' k r => h cls d H' Fz' k.unw r
theorem EndS.w : ∀ {f : FL}, EndS W K G D' f → EndS W K (G.w T') D' f
  | .nx E, h => fun σ' H' Fz' k => h σ' H' Fz' k.unw
  | .rt r E, h => fun v σ' H' Fz' k => h v σ' H' Fz' k.unw1
  | .bk E, h => fun σ' H' Fz' k => h σ' H' Fz' k.unw
  | .ct E, h => fun σ' H' Fz' k => h σ' H' Fz' k.unw
  | .exc x E, h => fun σ' => (h σ').w
  | .bad, h => h
theorem EndE.w : ∀ {f : RR (Sl × Env)}, EndE W K G σ Q f → EndE W K (G.w T') σ Q f
  | .ok p, h => fun v H' Fz' k => h v H' Fz' k.unw1
  | .exc x E, h => EndX.w h
  | .bad, h => h
end
def EndI (W : WX) (K : PySem.W.Frag) (G : Gh) (σ : L2.St) (R : L2.It → Hp → Prop) : RR (List D × Env) → Prop
  | .ok p => ∀ J T' H' Fz', OK K (G.w T') Fz' H' p.2 σ → Wk K G.io J T' p.1 → R J H'
  | .exc x E => EndX W K G x E σ
  | .bad => False
def tI (W : WX) (K : PySem.W.Frag) (f : EI) : TI := fun σ H R => ∃ (G : Gh) (E : Env) (Fz : Addr → Prop), OK K G Fz H E σ ∧ EndI W K G σ R (f E)
def SI (X : Cx) (W : WX) (tg iter : Expr) (f : EI) : Prop := PI X tg iter (tI W X.K f)
theorem PI.imp {X : Cx} {tg iter : Expr} {t t' : TI} (h : PI X tg iter t) (i : ∀ σ H R, t' σ H R → t σ H R) : PI X tg iter t' := ⟨fun pins s σ H R I q => h.run pins s σ H R I (i σ H R q)⟩
section
variable {W : WX} {K : PySem.W.Frag} {G : Gh} {Fz : Addr → Prop} {H : Hp} {E : Env} {σ : L2.St} {R : L2.It → Hp → Prop} {D' : Ends}
theorem EndS.flI {x : RR (List D × Env)} {k : List D × Env → FL} (h : EndS W K G D' (x.fl k)) (σ : L2.St) : EndI W K G σ (fun J H' => ∃ ds E1 Fz1 T', OK K (G.w T') Fz1 H' E1 σ ∧ Wk K G.io J T' ds ∧ EndS W K G D' (k (ds, E1))) x := by
  cases x with
  | ok p => exact fun J T' H1 Fz1 k1 w => ⟨p.1, p.2, Fz1, T', k1, w, h⟩
  | exc x E' => exact h σ
  | bad => exact h
theorem tI_of {f : EI} (k : OK K G Fz H E σ) (h : EndI W K G σ R (f E)) : tI W K f σ H R := ⟨G, E, Fz, k, h⟩
theorem EndI.bindE {x : RR (Sl × Env)} {k : Sl × Env → RR (List D × Env)} (h : EndI W K G σ R (x.bind k)) : EndE W K G σ (fun v H' => ∃ r E1 Fz1, OK K (G.p r v) Fz1 H' E1 σ ∧ EndI W K G σ R (k (r, E1))) x := by
  cases x with
  | ok p => exact fun v H1 Fz1 k1 => ⟨p.1, p.2, Fz1, k1, h⟩
  | exc x E' => exact h
  | bad => exact h
theorem EndI.bindA {x : RR (List Sl × Env)} {k : List Sl × Env → RR (List D × Env)} (h : EndI W K G σ R (x.bind k)) : EndA W K G σ (fun vs H' => ∃ rs E1 Fz1, vs.length = rs.length ∧ OK K (G.ps rs vs) Fz1 H' E1 σ ∧ EndI W K G σ R (k (rs, E1))) x := by
  cases x with
  | ok p => exact fun v H1 Fz1 hl k1 => ⟨p.1, p.2, Fz1, hl, k1, h⟩
  | exc x E' => exact h
  | bad => exact h
end
/-! ### the walks -/
section
variable {K : PySem.W.Frag} {io : List Addr} {a b : Addr} {s s2 : Sl}
/-- a thing that reads as a list, as a tuple -/
def Sl.ls? : Sl → Option (List D)
  | .ol ds => some ds
  | .lk ds => some ds
  | .dat (.lst ds) => some ds
  | _ => none
def Sl.ts? : Sl → Option (List D)
  | .dat (.tup ds) => some ds
  | _ => none
theorem RS.ls {Fz : Addr → Prop} {H : Hp} {ds : List D} {v : V} (r : RS K Fz H io (s, some v)) (h : s.ls? = some ds) : ∃ a vs, v = .ref a ∧ SqL K H a vs ∧ RpL K Fz H ds vs := by
  match s, h, r with
  | .ol _, h, ⟨a, vs, e, q, rr⟩ =>
    cases h
    cases e
    exact ⟨a, vs, rfl, .inl (.inl q), rr⟩
  | .lk _, h, ⟨a, vs, e, q, rr⟩ =>
    cases h
    cases e
    exact ⟨a, vs, rfl, q.sql, rr⟩
  | .dat (.lst _), h, ⟨w, e, a, vs, e2, q, r⟩ =>
    cases h
    cases e
    exact ⟨a, vs, e2, q.sql, r⟩
theorem RS.ts {Fz : Addr → Prop} {H : Hp} {ds : List D} {v : V} (r : RS K Fz H io (s, some v)) (h : s.ts? = some ds) : ∃ a vs, v = .ref a ∧ SqT K H a vs ∧ RpL K Fz H ds vs := by
  match s, h, r with
  | .dat (.tup _), h, ⟨w, e, a, vs, e2, q, r⟩ =>
    cases h
    cases e
    exact ⟨a, vs, e2, q, r⟩
theorem RS.lsA {Fz : Addr → Prop} {H : Hp} {ds : List D} (r : RS K Fz H io (s, some (.ref a))) (h : s.ls? = some ds) : ∃ vs, SqL K H a vs ∧ RpL K Fz H ds vs := by
  obtain ⟨b, vs, e, q, r⟩ := r.ls h
  cases e
  exact ⟨vs, q, r⟩
theorem RS.tsA {Fz : Addr → Prop} {H : Hp} {ds : List D} (r : RS K Fz H io (s, some (.ref a))) (h : s.ts? = some ds) : ∃ vs, SqT K H a vs ∧ RpL K Fz H ds vs := by
  obtain ⟨b, vs, e, q, r⟩ := r.ts h
  cases e
  exact ⟨vs, q, r⟩
theorem RpL.getV {Fz : Addr → Prop} {H : Hp} {ds : List D} {vs : List V} {i : Nat} {d : D} {x : V} (r : RpL K Fz H ds vs) (hd : ds[i]? = some d) (hx : vs[i]? = some x) : Rp K Fz H d x := by
  obtain ⟨v, e, h⟩ := r.get hd
  rw [e] at hx
  cases hx
  exact h
theorem wk_list {ds : List D} (h : s.ls? = some ds) : Wk K io (Itl K a) [(s, some (.ref a))] ds where
  goes := fun hp hi => by
    obtain ⟨vs, q, r⟩ := (hp _ List.mem_cons_self).lsA h
    exact walk_list.goes _ _ (by rw [← r.len]; exact hi) q
  stops := fun hp => by
    obtain ⟨vs, q, r⟩ := (hp _ List.mem_cons_self).lsA h
    rw [r.len]
    exact walk_list.stops _ q
  yields := fun hp hd y => by
    obtain ⟨vs, q, r⟩ := (hp _ List.mem_cons_self).lsA h
    have hi := (List.getElem?_eq_some_iff.mp hd).1
    obtain ⟨e, hx⟩ := walk_list.yields _ _ _ _ (by rw [← r.len]; exact hi) q y
    exact .inl ⟨e, r.getV hd hx⟩
theorem wk_tup {ds : List D} (h : s.ts? = some ds) : Wk K io (Itt K a) [(s, some (.ref a))] ds where
  goes := fun hp hi => by
    obtain ⟨vs, q, r⟩ := (hp _ List.mem_cons_self).tsA h
    exact walk_tup.goes _ _ (by rw [← r.len]; exact hi) q
  stops := fun hp => by
    obtain ⟨vs, q, r⟩ := (hp _ List.mem_cons_self).tsA h
    rw [r.len]
    exact walk_tup.stops _ q
  yields := fun hp hd y => by
    obtain ⟨vs, q, r⟩ := (hp _ List.mem_cons_self).tsA h
    have hi := (List.getElem?_eq_some_iff.mp hd).1
    obtain ⟨e, hx⟩ := walk_tup.yields _ _ _ _ (by rw [← r.len]; exact hi) q y
    exact .inl ⟨e, r.getV hd hx⟩
def rngD (lo c : Int) (n : Nat) : List D := (List.range n).map fun i => .int (lo + (i : Nat) * c)
theorem rngD_len {lo c : Int} {n : Nat} : (rngD lo c n).length = n := by simp [rngD]
theorem rngD_get {lo c : Int} {n i : Nat} {d : D} (h : (rngD lo c n)[i]? = some d) : i < n ∧ d = .int (lo + (i : Nat) * c) := by
  unfold rngD at h
  rw [List.getElem?_map] at h
  by_cases hi : i < n
  · rw [List.getElem?_range hi] at h
    cases h
    exact ⟨hi, rfl⟩
  · rw [List.getElem?_eq_none (by simpa using hi)] at h
    cases h
theorem wk_range {lo : Int} {n : Nat} : Wk K io (Itr lo n) [] (rngD lo 1 n) where
  goes := fun _ hi => by rw [rngD_len] at hi; exact hi
  stops := fun _ => by rw [rngD_len]; exact Nat.le_refl _
  yields := fun _ hd y => by
    obtain ⟨hi, rfl⟩ := rngD_get hd
    obtain ⟨e, e2⟩ := y
    exact .inl ⟨e, by rw [e2, Int.mul_one]; rfl⟩
theorem wk_rangeC {lo c : Int} {n : Nat} : Wk K io (Itc lo c n) [] (rngD lo c n) where
  goes := fun _ hi => by rw [rngD_len] at hi; exact hi
  stops := fun _ => by rw [rngD_len]; exact Nat.le_refl _
  yields := fun _ hd y => by
    obtain ⟨hi, rfl⟩ := rngD_get hd
    obtain ⟨e, e2⟩ := y
    exact .inl ⟨e, by rw [e2]; rfl⟩
def enumD : Nat → List D → List D
  | _, [] => []
  | i, d :: ds => .tup [.int (i : Nat), d] :: enumD (i + 1) ds
theorem enumD_len : ∀ {n : Nat} {ds : List D}, (enumD n ds).length = ds.length
  | _, [] => rfl
  | n, d :: ds => congrArg (· + 1) (enumD_len (n := n + 1) (ds := ds))
theorem enumD_get : ∀ {n i : Nat} {ds : List D} {d : D}, (enumD n ds)[i]? = some d → ∃ x, ds[i]? = some x ∧ d = .tup [.int ((n + i : Nat) : Int), x]
  | n, 0, x :: ds, d, h => by
    cases h
    exact ⟨x, rfl, rfl⟩
  | n, i + 1, x :: ds, d, h => by
    obtain ⟨y, e, e2⟩ := enumD_get (n := n + 1) (i := i) (ds := ds) (d := d) h
    exact ⟨y, e, by rw [e2, show n + 1 + i = n + (i + 1) by omega]⟩
theorem wk_enum {ds : List D} (h : s.ls? = some ds) : Wk K io (Ite K a) [(s, some (.ref a))] (enumD 0 ds) where
  goes := fun hp hi => by
    obtain ⟨vs, q, r⟩ := (hp _ List.mem_cons_self).lsA h
    rw [enumD_len] at hi
    exact walk_enum.goes _ _ (by rw [← r.len]; exact hi) q
  stops := fun hp => by
    obtain ⟨vs, q, r⟩ := (hp _ List.mem_cons_self).lsA h
    rw [enumD_len, r.len]
    exact walk_enum.stops _ q
  yields := fun hp hd y => by
    obtain ⟨vs, q, r⟩ := (hp _ List.mem_cons_self).lsA h
    obtain ⟨x, hx, rfl⟩ := enumD_get hd
    have hi := (List.getElem?_eq_some_iff.mp hx).1
    obtain ⟨p, u, w, e1, e2, e3, e4, e5⟩ := walk_enum.yields _ _ _ _ (by rw [← r.len]; exact hi) q y
    cases e4
    exact .inr ⟨p, _, _, rfl, e1, e2, e3, .cons (by rw [Nat.zero_add]; rfl) (.cons (r.getV hx e5) .nil)⟩
def zipD (xs ys : List D) : List D := List.zipWith (fun x y => .tup [x, y]) xs ys
theorem zipD_get {i : Nat} {xs ys : List D} {d : D} (h : (zipD xs ys)[i]? = some d) : ∃ x y, xs[i]? = some x ∧ ys[i]? = some y ∧ d = .tup [x, y] := by
  unfold zipD at h
  rw [List.getElem?_zipWith] at h
  split at h
  · rename_i x y e1 e2
    cases h
    exact ⟨x, y, e1, e2, rfl⟩
  · cases h
theorem wk_zip {ds es : List D} (h : s.ls? = some ds) (h2 : s2.ls? = some es) : Wk K io (Itz K a b) [(s, some (.ref a)), (s2, some (.ref b))] (zipD ds es) where
  goes := fun hp hi => by
    obtain ⟨vs, q, r⟩ := (hp _ List.mem_cons_self).lsA h
    obtain ⟨us, q2, r2⟩ := (hp _ (List.mem_cons_of_mem _ List.mem_cons_self)).lsA h2
    refine (walk_zip (n := min vs.length us.length) rfl).goes _ _ ?_ ⟨q, q2⟩
    rw [← r.len, ← r2.len]
    simpa [zipD] using hi
  stops := fun hp => by
    obtain ⟨vs, q, r⟩ := (hp _ List.mem_cons_self).lsA h
    obtain ⟨us, q2, r2⟩ := (hp _ (List.mem_cons_of_mem _ List.mem_cons_self)).lsA h2
    have e : (zipD ds es).length = min vs.length us.length := by simp [zipD, r.len, r2.len]
    rw [e]
    exact (walk_zip (n := min vs.length us.length) rfl).stops _ ⟨q, q2⟩
  yields := fun hp hd y => by
    obtain ⟨vs, q, r⟩ := (hp _ List.mem_cons_self).lsA h
    obtain ⟨us, q2, r2⟩ := (hp _ (List.mem_cons_of_mem _ List.mem_cons_self)).lsA h2
    obtain ⟨x, z, hx, hz, rfl⟩ := zipD_get hd
    have hi := (List.getElem?_eq_some_iff.mp hx).1
    have hj := (List.getElem?_eq_some_iff.mp hz).1
    obtain ⟨p, u, w, e1, e2, e3, e4, e5⟩ := (walk_zip (n := min vs.length us.length) rfl).yields _ _ _ _ (by rw [← r.len, ← r2.len]; omega) ⟨q, q2⟩ y
    exact .inr ⟨p, _, _, rfl, e1, e2, e3, .cons (r.getV hx e4) (.cons (r2.getV hz e5) .nil)⟩
theorem wk_zipT {ds es : List D} (h : s.ts? = some ds) (h2 : s2.ts? = some es) : Wk K io (ItzT K a b) [(s, some (.ref a)), (s2, some (.ref b))] (zipD ds es) where
  goes := fun {i} {Fz} {H} hp hi => by
    obtain ⟨vs, q, r⟩ := (hp _ List.mem_cons_self).tsA h
    obtain ⟨us, q2, r2⟩ := (hp _ (List.mem_cons_of_mem _ List.mem_cons_self)).tsA h2
    have hi : i < min ds.length es.length := by simpa [zipD] using hi
    have l1 := r.len
    have l2 := r2.len
    have h1 : i < vs.length := by omega
    have h3 : i < us.length := by omega
    exact ⟨vs, us, vs[i], us[i], q, q2, by simp [h1], by simp [h3]⟩
  stops := fun hp => by
    obtain ⟨vs, q, r⟩ := (hp _ List.mem_cons_self).tsA h
    obtain ⟨us, q2, r2⟩ := (hp _ (List.mem_cons_of_mem _ List.mem_cons_self)).tsA h2
    have e : (zipD ds es).length = min vs.length us.length := by simp [zipD, r.len, r2.len]
    exact ⟨vs, us, q, q2, by omega⟩
  yields := fun hp hd y => by
    obtain ⟨vs, q, r⟩ := (hp _ List.mem_cons_self).tsA h
    obtain ⟨us, q2, r2⟩ := (hp _ (List.mem_cons_of_mem _ List.mem_cons_self)).tsA h2
    obtain ⟨x, z, hx, hz, rfl⟩ := zipD_get hd
    obtain ⟨p, u, w, e1, e2, e3, e4, e5⟩ := y
    exact .inr ⟨p, _, _, rfl, e1, e2, e3, .cons (r.getV hx (e4 vs q)) (.cons (r2.getV hz (e5 us q2)) .nil)⟩
theorem wk_rev {ds : List D} {n : Nat} (h : s.ls? = some ds) (hn : n = ds.length) : Wk K io (Itv K a n) [(s, some (.ref a))] ds.reverse where
  goes := fun {i} {Fz} {H} hp hi => by
    obtain ⟨vs, q, r⟩ := (hp _ List.mem_cons_self).lsA h
    have l := r.len
    have hi : i < ds.length := by simpa using hi
    exact ⟨by omega, vs, vs[n - 1 - i]'(by omega), q, by rw [List.getElem?_eq_getElem]⟩
  stops := fun hp => by show n ≤ ds.reverse.length; simp [hn]
  yields := fun hp hd y => by
    obtain ⟨vs, q, r⟩ := (hp _ List.mem_cons_self).lsA h
    obtain ⟨e, hx⟩ := y
    have hi := (List.getElem?_eq_some_iff.mp hd).1
    rw [List.getElem?_reverse (by simpa using hi)] at hd
    rw [← hn] at hd
    exact .inl ⟨e, r.getV hd (hx vs q)⟩
theorem wk_revT {ds : List D} {n : Nat} (h : s.ts? = some ds) (hn : n = ds.length) : Wk K io (ItvT K a n) [(s, some (.ref a))] ds.reverse where
  goes := fun {i} {Fz} {H} hp hi => by
    obtain ⟨vs, q, r⟩ := (hp _ List.mem_cons_self).tsA h
    have l := r.len
    have hi : i < ds.length := by simpa using hi
    exact ⟨by omega, vs, vs[n - 1 - i]'(by omega), q, by rw [List.getElem?_eq_getElem]⟩
  stops := fun hp => by show n ≤ ds.reverse.length; simp [hn]
  yields := fun hp hd y => by
    obtain ⟨vs, q, r⟩ := (hp _ List.mem_cons_self).tsA h
    obtain ⟨e, hx⟩ := y
    have hi := (List.getElem?_eq_some_iff.mp hd).1
    rw [List.getElem?_reverse (by simpa using hi)] at hd
    rw [← hn] at hd
    exact .inl ⟨e, r.getV hd (hx vs q)⟩
end
end VL

/-! The value layer, 10: the sources of loops, for. -/
namespace VL
open PySem PySem.Spec PyProof.Rows L2 RZ RT

section
variable {X : Cx} {tg : Expr}
/-- a list or a tuple -/
def iSeq (K : PySem.W.Frag) (tl : TE) : TI := fun σ H R => tl σ H fun x H1 => ∃ a, x = .ref a ∧ (((∃ xs, SqL K H1 a xs) ∧ R (Itl K a) H1) ∨ ((∃ xs, SqT K H1 a xs) ∧ R (Itt K a) H1))
theorem pi_seq {e : Expr} {te : TE} (he : PE X e te) : PI X tg e (iSeq X.K te) := ⟨fun pins s σ H R I h => thn (he.run pins s σ H _ I h) fun v s1 ⟨x, H1, I1, r1, q1⟩ => by
  obtain ⟨a, rfl, q1⟩ := q1
  obtain rfl : v = Value.ref a := r1
  have fresh : ∀ b ∈ [s1.heap.objs.size], FpOk X pins H1 b := fun b hb => by
    rw [List.mem_singleton.mp hb]
    exact I1.fpOk (Nat.le_refl _) (I1.hok.fresh (Nat.le_refl _))
  rcases q1 with ⟨⟨xs, hq⟩, q⟩ | ⟨⟨xs, hq⟩, q⟩
  · obtain ⟨its, _, p, _⟩ := I1.list hq
    refine wpAny_pyIter_list p.isList ⟨_, [s1.heap.objs.size], _, _, H1, rfl, I1.kept (t' := s1.toks) fun b o e => Heap.get?_push_of_some _ e, turn_list a _, ?_, fresh, q⟩
    exact ⟨_, Heap.get?_push_size _ rfl, rfl, rfl⟩
  · obtain ⟨its, _, p, _⟩ := I1.tuple hq
    refine wpAny_pyIter_tuple (show s1.heap.IsTuple a its.toArray from p) ⟨_, [s1.heap.objs.size], _, _, H1, rfl, I1.kept (t' := s1.toks) fun b o e => Heap.get?_push_of_some _ e, turn_tuple a _, ?_, fresh, q⟩
    exact ⟨_, Heap.get?_push_size _ rfl, rfl, rfl⟩⟩
end
/-! ### sources -/
def iVal (f : EF) : EI := fun E => (f E).bind fun p => match p.1.ls? with
  | some ds => .ok (ds, p.2)
  | none => match p.1.ts? with
    | some ds => .ok (ds, p.2)
    | none => .bad
def iEn (g : AF) : EI := fun E => (g E).bind fun p => match p.1 with
  | [s] => match s.ls? with
    | some ds => .ok (enumD 0 ds, p.2)
    | none => .bad
  | _ => .bad
def iZip (g : AF) : EI := fun E => (g E).bind fun p => match p.1 with
  | [s, s2] => match s.ls?, s2.ls? with
    | some ds, some es => .ok (zipD ds es, p.2)
    | _, _ => match s.ts?, s2.ts? with
      | some ds, some es => .ok (zipD ds es, p.2)
      | _, _ => .bad
  | _ => .bad
def iRevd (f : EF) : EI := fun E => (f E).bind fun p => match p.1.ls? with
  | some ds => .ok (ds.reverse, p.2)
  | none => match p.1.ts? with
    | some ds => .ok (ds.reverse, p.2)
    | none => .bad
def smallI (i : Int) : Bool := decide (-(2 ^ 62) ≤ i) && decide (i < 2 ^ 62)
theorem smallI_ok {i : Int} (h : smallI i = true) : -(2 ^ 62) ≤ i ∧ i < 2 ^ 62 := by
  unfold smallI at h
  rw [Bool.and_eq_true] at h
  exact ⟨of_decide_eq_true h.1, of_decide_eq_true h.2⟩
def iRg1 (g : AF) : EI := fun E => (g E).bind fun p => match p.1 with
  | [.dat (.int j)] => if smallI j then .ok (rngD 0 1 j.toNat, p.2) else .bad
  | _ => .bad
def iRg2 (g : AF) : EI := fun E => (g E).bind fun p => match p.1 with
  | [.dat (.int i), .dat (.int j)] => if smallI i && smallI j then .ok (rngD i 1 (j - i).toNat, p.2) else .bad
  | _ => .bad
/-- range(i, j, -1), or a step between 1 and 2^30 -/
def iRg3 (g : AF) : EI := fun E => (g E).bind fun p => match p.1 with
  | [.dat (.int i), .dat (.int j), .dat (.int c)] => if decide (c ≠ 0) && decide (c.natAbs < 1073741824) && Builtin.Range.small i j c && decide (0 ≤ Builtin.Range.rangeSize i j c) then .ok (rngD i c (Builtin.Range.rangeSize i j c).toNat, p.2) else .bad
  | _ => .bad
section
variable {X : Cx} {W : WX} {tg : Expr} {e e2 : Expr} {es : List Expr} {f : EF} {g : AF} {p pos tpos : Pos} {elts : List Expr} {kk : Nat}
theorem si_val (h : SE X W e f) : SI X W tg e (iVal f) := PI.imp (pi_seq h) fun σ H R ⟨G, E, Fz, k, z⟩ => by
  refine tE_mono (tE_of k (EndI.bindE z)) fun v H1 ⟨r, E1, Fz1, k1, h1⟩ => ?_
  cases hl : r.ls? with
  | some ds =>
    obtain ⟨a, vs, rfl, q, rr⟩ := RS.ls k1.top hl
    refine ⟨a, rfl, .inl ⟨⟨vs, q⟩, ?_⟩⟩
    simp only [hl] at h1
    exact h1 _ [(r, some (.ref a))] _ _ k1 (wk_list hl)
  | none =>
    simp only [hl] at h1
    cases ht : r.ts? with
    | some ds =>
      obtain ⟨a, vs, rfl, q, rr⟩ := RS.ts k1.top ht
      refine ⟨a, rfl, .inr ⟨⟨vs, q⟩, ?_⟩⟩
      simp only [ht] at h1
      exact h1 _ [(r, some (.ref a))] _ _ k1 (wk_tup ht)
    | none =>
      simp only [ht] at h1
      exact h1.elim
theorem len1 {α : Type} {vs : List α} {a : Sl} (h : vs.length = [a].length) : ∃ v, vs = [v] := by
  match vs, h with
  | [v], _ => exact ⟨v, rfl⟩
theorem len2 {α : Type} {vs : List α} {a b : Sl} (h : vs.length = [a, b].length) : ∃ v w, vs = [v, w] := by
  match vs, h with
  | [v, w], _ => exact ⟨v, w, rfl⟩
theorem len3 {α : Type} {vs : List α} {a b c : Sl} (h : vs.length = [a, b, c].length) : ∃ v w u, vs = [v, w, u] := by
  match vs, h with
  | [v, w, u], _ => exact ⟨v, w, u, rfl⟩
theorem si_enum (ha : SA X W [e] g) (hg : Gl X "enumerate") (hm : X.mg "enumerate" = none) (hs : starEach [e] X.env = [(false, eval e X.env)] := by rfl) : SI X W (.Tuple elts kk tpos) (.Call (.Name "enumerate" p) [e] [] pos) (iEn g) := PI.imp (pi_enum hg hm ha hs) fun σ H R ⟨G, E, Fz, k, z⟩ => by
  refine tA_mono (tA_of k (EndI.bindA z)) fun vs H1 ⟨rs, E1, Fz1, hl, k1, h1⟩ => ?_
  match rs, hl, k1, h1 with
  | [s], hl, k1, h1 =>
    obtain ⟨v, rfl⟩ := len1 hl
    have k1 : OK X.K (G.p s v) Fz1 H1 E1 σ := k1
    cases ht : s.ls? with
    | some ds =>
      obtain ⟨a, us, rfl, q, rr⟩ := RS.ls k1.top ht
      simp only [ht] at h1
      exact ⟨a, us, rfl, q, h1 _ [(s, some (.ref a))] _ _ k1 (wk_enum ht)⟩
    | none =>
      simp only [ht] at h1
      exact h1.elim
  | [], _, _, h1 => exact h1.elim
  | _ :: _ :: _, _, _, h1 => exact h1.elim
theorem Wk.perm {K : PySem.W.Frag} {io : List Addr} {J : L2.It} {T T' : List It'} {ds : List D} (w : Wk K io J T ds) (h : ∀ p ∈ T, p ∈ T') : Wk K io J T' ds :=
  ⟨fun hp hi => w.goes (fun p z => hp p (h p z)) hi, fun hp => w.stops fun p z => hp p (h p z), fun hp hd y => w.yields (fun p z => hp p (h p z)) hd y⟩
theorem si_zip (ha : SA X W [e, e2] g) (hg : Gl X "zip") (hm : X.mg "zip" = none) (hs : starEach [e, e2] X.env = (false, eval e X.env) :: starEach [e2] X.env := by rfl) (hpl : (backTo pos (starEach [e2] X.env)).any (·.1) = false := by rfl) :
    SI X W (.Tuple elts kk tpos) (.Call (.Name "zip" p) [e, e2] [] pos) (iZip g) := PI.imp (pi_zipA hg hm ha hs hpl) fun σ H R ⟨G, E, Fz, k, z⟩ => by
  refine tA_mono (tA_of k (EndI.bindA z)) fun vs H1 ⟨rs, E1, Fz1, hl, k1, h1⟩ => ?_
  match rs, hl, k1, h1 with
  | [s, s2], hl, k1, h1 =>
    obtain ⟨v, w, rfl⟩ := len2 hl
    have k1 : OK X.K ((G.p s v).p s2 w) Fz1 H1 E1 σ := k1
    have m : ∀ {a b : It'}, ∀ p ∈ [a, b], p ∈ [b, a] := fun p h => by simp at h ⊢; exact h.symm
    by_cases hc : (∃ ds es, s.ls? = some ds ∧ s2.ls? = some es)
    · obtain ⟨ds, es, h3, h4⟩ := hc
      obtain ⟨a, us, rfl, q, rr⟩ := RS.ls k1.pop.top h3
      obtain ⟨b, us2, rfl, q2, rr2⟩ := RS.ls k1.top h4
      simp only [h3, h4] at h1
      exact ⟨a, b, us, us2, rfl, .inl ⟨q, q2, h1 _ [(s2, some (.ref b)), (s, some (.ref a))] _ _ k1 ((wk_zip h3 h4).perm m)⟩⟩
    · have h1 : EndI W X.K G σ R (match s.ts?, s2.ts? with
        | some ds, some es => .ok (zipD ds es, E1)
        | _, _ => .bad) := by
        dsimp only at h1
        split at h1
        · rename_i ds es h3 h4
          exact absurd ⟨ds, es, h3, h4⟩ hc
        · exact h1
      split at h1
      · rename_i ds es h3 h4
        obtain ⟨a, us, rfl, q, rr⟩ := RS.ts k1.pop.top h3
        obtain ⟨b, us2, rfl, q2, rr2⟩ := RS.ts k1.top h4
        exact ⟨a, b, us, us2, rfl, .inr ⟨q, q2, h1 _ [(s2, some (.ref b)), (s, some (.ref a))] _ _ k1 ((wk_zipT h3 h4).perm m)⟩⟩
      · exact h1.elim
  | [], _, _, h1 => exact h1.elim
  | [_], _, _, h1 => exact h1.elim
  | _ :: _ :: _ :: _, _, _, h1 => exact h1.elim
theorem si_rev (h : SE X W e f) (hg : Gl X "reversed") (hm : X.mg "reversed" = none) (hs : starEach [e] X.env = (false, eval e X.env) :: starEach [] X.env := by rfl) : SI X W tg (.Call (.Name "reversed" p) [e] [] pos) (iRevd f) := PI.imp (pi_revA hg hm h hs) fun σ H R ⟨G, E, Fz, k, z⟩ => by
  refine tE_mono (tE_of k (EndI.bindE z)) fun v H1 ⟨r, E1, Fz1, k1, h1⟩ => ?_
  cases hl : r.ls? with
  | some ds =>
    obtain ⟨a, vs, rfl, q, rr⟩ := RS.ls k1.top hl
    refine ⟨a, vs, rfl, .inl ⟨q, ?_⟩⟩
    simp only [hl] at h1
    exact h1 _ [(r, some (.ref a))] _ _ k1 (wk_rev hl rr.len.symm)
  | none =>
    simp only [hl] at h1
    cases ht : r.ts? with
    | some ds =>
      obtain ⟨a, vs, rfl, q, rr⟩ := RS.ts k1.top ht
      refine ⟨a, vs, rfl, .inr ⟨q, ?_⟩⟩
      simp only [ht] at h1
      exact h1 _ [(r, some (.ref a))] _ _ k1 (wk_revT ht rr.len.symm)
    | none =>
      simp only [ht] at h1
      exact h1.elim
theorem OK.int1 {K : PySem.W.Frag} {G : Gh} {Fz : Addr → Prop} {H : Hp} {E : Env} {σ : L2.St} {j : Int} {v : V} (k : OK K (G.p (.dat (.int j)) v) Fz H E σ) : v = .int j := k.datI
theorem si_range1 (ha : SA X W [e] g) (hg : Gl X "range") (hm : X.mg "range" = none) (hs : starEach [e] X.env = [(false, eval e X.env)] := by rfl) : SI X W tg (.Call (.Name "range" p) [e] [] pos) (iRg1 g) := PI.imp (pi_range1 hg hm ha hs) fun σ H R ⟨G, E, Fz, k, z⟩ => by
  refine tA_mono (tA_of k (EndI.bindA z)) fun vs H1 ⟨rs, E1, Fz1, hl, k1, h1⟩ => ?_
  dsimp only at h1
  split at h1
  · rename_i j
    obtain ⟨v, rfl⟩ := len1 hl
    have k1 : OK X.K (G.p (.dat (.int j)) v) Fz1 H1 E1 σ := k1
    split at h1
    · rename_i hj
      obtain ⟨j1, j2⟩ := smallI_ok hj
      exact ⟨j, by rw [k1.int1], j1, j2, h1 _ [] _ _ k1.pop wk_range⟩
    · exact h1.elim
  · exact h1.elim
theorem si_range2 (ha : SA X W [e, e2] g) (hg : Gl X "range") (hm : X.mg "range" = none) (hs : starEach [e, e2] X.env = [(false, eval e X.env), (false, eval e2 X.env)] := by rfl) (hs2 : starEach [e2] X.env = [(false, eval e2 X.env)] := by rfl) :
    SI X W tg (.Call (.Name "range" p) [e, e2] [] pos) (iRg2 g) := PI.imp (pi_range2 hg hm ha hs hs2) fun σ H R ⟨G, E, Fz, k, z⟩ => by
  refine tA_mono (tA_of k (EndI.bindA z)) fun vs H1 ⟨rs, E1, Fz1, hl, k1, h1⟩ => ?_
  dsimp only at h1
  split at h1
  · rename_i i j
    obtain ⟨v, w, rfl⟩ := len2 hl
    have k1 : OK X.K ((G.p (.dat (.int i)) v).p (.dat (.int j)) w) Fz1 H1 E1 σ := k1
    split at h1
    · rename_i hj
      rw [Bool.and_eq_true] at hj
      obtain ⟨i1, i2⟩ := smallI_ok hj.1
      obtain ⟨j1, j2⟩ := smallI_ok hj.2
      exact ⟨i, j, by rw [k1.int1, k1.pop.int1], ⟨i1, i2, j1, j2⟩, h1 _ [] _ _ k1.pop.pop wk_range⟩
    · exact h1.elim
  · exact h1.elim
theorem si_range3 {e3 : Expr} (ha : SA X W [e, e2, e3] g) (hg : Gl X "range") (hm : X.mg "range" = none) (hs : starEach [e, e2, e3] X.env = (false, eval e X.env) :: starEach [e2, e3] X.env := by rfl) (hpl : (backTo pos (starEach [e2, e3] X.env)).any (·.1) = false := by rfl) :
    SI X W tg (.Call (.Name "range" p) [e, e2, e3] [] pos) (iRg3 g) := PI.imp (pi_range3 hg hm ha hs hpl) fun σ H R ⟨G, E, Fz, k, z⟩ => by
  refine tA_mono (tA_of k (EndI.bindA z)) fun vs H1 ⟨rs, E1, Fz1, hl, k1, h1⟩ => ?_
  dsimp only at h1
  split at h1
  · rename_i i j c
    obtain ⟨v, w, u, rfl⟩ := len3 hl
    have k1 : OK X.K (((G.p (.dat (.int i)) v).p (.dat (.int j)) w).p (.dat (.int c)) u) Fz1 H1 E1 σ := k1
    split at h1
    · rename_i hj
      rw [Bool.and_eq_true, Bool.and_eq_true, Bool.and_eq_true] at hj
      obtain ⟨⟨⟨c1, c2⟩, c3⟩, c4⟩ := hj
      have c4 := of_decide_eq_true c4
      exact ⟨i, j, c, _, by rw [k1.int1, k1.pop.int1, k1.pop.pop.int1], ⟨of_decide_eq_true c1, of_decide_eq_true c2, c3, by omega⟩, h1 _ [] _ _ k1.pop.pop.pop wk_rangeC⟩
    · exact h1.elim
  · exact h1.elim
end
/-! ### for -/
def loopS (g : GF) (b : SF) : List D → Env → FL
  | [], E => .nx E
  | d :: ds, E => match g d E with
    | none => .bad
    | some E1 => match b E1 with
      | .nx E2 => loopS g b ds E2
      | .ct E2 => loopS g b ds E2
      | .bk E2 => .nx E2
      | r => r
def sFor (f : EI) (g : GF) (b : SF) : SF := fun E => (f E).fl fun p => loopS g b p.1 p.2
section
variable {X : Cx} {W : WX} {tg iter : Expr} {f : EI} {g : GF} {b : SF} {vs : List Nat} {body : List Stmt} {pos : Pos}
theorem ss_for (kx : Kx X W) (hi : SI X W tg iter f) (hg : SG X tg vs g) (hb : SSs X W body b) (hs : ∀ x, foldedSetIterable iter X.env x = pure x := by intro _; rfl) : SS X W (.For tg iter body [] pos) (sFor f g b) :=
  PS.imp (ps_for kx.hp kx.hc hi hg hb hs) fun D' σ H ⟨G, E, Fz, k, h⟩ => by
    obtain ⟨G0, E0, Fz0, k0, h0⟩ : tI W X.K f σ H _ := tI_of k (EndS.flI h σ)
    refine ⟨G0, E0, Fz0, k0, ?_⟩
    cases hf : f E0 with
    | bad => rw [hf] at h0; exact h0
    | exc x E' => rw [hf] at h0; exact h0
    | ok p =>
      rw [hf] at h0
      intro J T0 H1 Fz1 k1 w1
      obtain ⟨ds, E1, Fz2, T', k2, w, h1⟩ := h0 J T0 H1 Fz1 k1 w1
      have h1 : EndS W X.K (G.w T') D' (loopS g b ds E1) := EndS.w h1
      refine ⟨fun i m σ H => m = ds.length - i ∧ i ≤ ds.length ∧ ∃ E Fz, OK X.K (G.w T') Fz H E σ ∧ EndS W X.K (G.w T') D' (loopS g b (ds.drop i) E), ⟨ds.length, rfl, Nat.zero_le _, E1, Fz2, k2, h1⟩, ?_⟩
      rintro i m σ H ⟨rfl, hi, E, Fz, k, h⟩
      by_cases hlt : i < ds.length
      · refine .inr ⟨w.goes k.held hlt, fun σ' H' => i + 1 ≤ ds.length ∧ ∃ E Fz, OK X.K (G.w T') Fz H' E σ' ∧ EndS W X.K (G.w T') D' (loopS g b (ds.drop (i + 1)) E), fun σ' H' z => ⟨_, ?_, rfl, z.1, z.2⟩, fun x H' y => ?_⟩
        · omega
        have hd : ds[i]? = some ds[i] := List.getElem?_eq_getElem hlt
        have k3 := k.yd (w.yields k.held hd y)
        rw [List.drop_eq_getElem_cons hlt] at h
        unfold loopS at h
        refine ⟨G.w T', E, Fz, ds[i], k3.pop, k3.datI, ?_⟩
        cases hge : g ds[i] E with
        | none => rw [hge] at h; exact h.elim
        | some E1 =>
          rw [hge] at h
          refine ⟨E1, rfl, fun σ' k4 _ => ⟨G.w T', E1, Fz, k4, ?_⟩⟩
          dsimp only at h
          cases hbe : b E1 with
          | nx E2 => rw [hbe] at h; exact fun σ' H' Fz' k' => ⟨hlt, E2, Fz', k', h⟩
          | ct E2 => rw [hbe] at h; exact fun σ' H' Fz' k' => ⟨hlt, E2, Fz', k', h⟩
          | bk E2 => rw [hbe] at h; exact h
          | rt r E2 => rw [hbe] at h; exact h
          | exc x E2 => rw [hbe] at h; exact h
          | bad => rw [hbe] at h; exact h
      · have e : i = ds.length := by omega
        subst e
        rw [List.drop_length] at h
        exact .inl ⟨w.stops k.held, h σ H Fz k⟩
end
end VL

/-! The value layer, 11: list comprehensions. -/
namespace VL
open PySem PySem.Spec PyProof.Rows L2 RZ RT

/-- nothing is let out -/
def wF : WX := fun _ _ _ _ => False
def wipeE (E : Env) : List Nat → Env
  | [] => E
  | v :: vs => (wipeE E vs).st v .no
def Env.get (E : Env) (i : Nat) : Sl := (E[i]?).getD .no
def stGet (σ : L2.St) (i : Nat) : Option V := (σ[i]?).getD none
def restE (E : Env) : List Nat → Env → Env
  | [], E2 => E2
  | v :: vs, E2 => restE E vs (E2.st v ((wipeE E vs).get v))
def svd (E : Env) (σ : L2.St) : List Nat → List It'
  | [] => []
  | v :: vs => ((wipeE E vs).get v, stGet (wipe σ vs) v) :: svd E σ vs
section
variable {K : PySem.W.Frag} {G : Gh} {Fz : Addr → Prop} {H : Hp} {E E2 : Env} {σ : L2.St} {s : Sl} {v : V} {o : Option V} {T : List It'}
theorem OK.setO {i : Nat} (k : OK K { G with T := (s, o) :: T } Fz H E σ) : OK K { G with T := T } Fz H (E.st i s) (σ.set i o) := by
  by_cases hi : i < (E.zip σ).length
  · refine ⟨?_, by show (E.set i s).length = _; rw [List.length_set, List.length_set]; exact k.lv⟩
    have e : (E.st i s).zip (σ.set i o) = (E.zip σ).set i (s, o) := zip_set E σ i s o
    rw [e]
    have g2 : Gd K G.B G.F0 G.io Fz H ((s, o) :: (T ++ (E.zip σ).eraseIdx i)) := k.gd.sub (((List.Sublist.refl _).append (List.eraseIdx_sublist _ _)).cons_cons _)
    exact g2.perm (List.Perm.trans List.perm_middle.symm (List.Perm.append_left _ (set_perm hi).symm))
  · have h2 : ¬ i < E.length := fun z => hi (by rw [List.length_zip, ← k.lv, Nat.min_self]; exact z)
    have e1 : E.st i s = E := List.set_eq_of_length_le (by omega)
    have e2 : σ.set i o = σ := List.set_eq_of_length_le (by have := k.lv; omega)
    rw [e1, e2]
    exact ⟨k.gd.tail, k.lv⟩
/-- a slot's thing is held aside, the slot emptied -/
theorem OK.away {i : Nat} (k : OK K { G with T := T } Fz H E σ) : OK K { G with T := (E.get i, stGet σ i) :: T } Fz H (E.st i .no) (σ.set i none) := by
  by_cases hi : i < (E.zip σ).length
  · have hE : i < E.length := by rw [List.length_zip, ← k.lv, Nat.min_self] at hi; exact hi
    have hσ : i < σ.length := by rw [← k.lv]; exact hE
    have e1 : E.get i = E[i] := by unfold Env.get; rw [List.getElem?_eq_getElem hE]; rfl
    have e2 : stGet σ i = σ[i] := by unfold stGet; rw [List.getElem?_eq_getElem hσ]; rfl
    have hz : (E.zip σ)[i]? = some (E.get i, stGet σ i) := by
      rw [List.getElem?_zip_eq_some, e1, e2]
      exact ⟨List.getElem?_eq_getElem hE, List.getElem?_eq_getElem hσ⟩
    have g : Gd K G.B G.F0 G.io Fz H ((.no, none) :: (E.get i, stGet σ i) :: (T ++ (E.zip σ).eraseIdx i)) :=
      Gd.push (k.gd.perm ((List.Perm.append_left _ (eraseIdx_get hz)).trans List.perm_middle)) trivial rfl
    refine ⟨?_, by show (E.set i .no).length = _; rw [List.length_set, List.length_set]; exact k.lv⟩
    have e : (E.st i .no).zip (σ.set i none) = (E.zip σ).set i (.no, none) := zip_set E σ i .no none
    rw [e]
    exact g.perm ((List.Perm.swap _ _ _).trans (List.Perm.cons _ (List.Perm.trans List.perm_middle.symm (List.Perm.append_left _ (set_perm hi).symm))))
  · have h2 : ¬ i < E.length := fun z => hi (by rw [List.length_zip, ← k.lv, Nat.min_self]; exact z)
    have h3 : ¬ i < σ.length := by rw [← k.lv]; exact h2
    have e1 : E.st i .no = E := List.set_eq_of_length_le (by omega)
    have e2 : σ.set i none = σ := List.set_eq_of_length_le (by omega)
    have e3 : E.get i = .no := by unfold Env.get; rw [List.getElem?_eq_none (by omega)]; rfl
    have e4 : stGet σ i = none := by unfold stGet; rw [List.getElem?_eq_none (by omega)]; rfl
    rw [e1, e2, e3, e4]
    exact ⟨Gd.push k.gd trivial rfl, k.lv⟩
theorem OK.wipe1 {i : Nat} (k : OK K G Fz H E σ) : OK K G Fz H (E.st i .no) (σ.set i none) := OK.lessT (G2 := G) (OK.away (G := G) (T := G.T) k) (List.sublist_cons_self _ _)
theorem OK.wipe : ∀ {us : List Nat}, OK K G Fz H E σ → OK K G Fz H (wipeE E us) (L2.wipe σ us)
  | [], k => k
  | u :: us, k => (OK.wipe (us := us) k).wipe1
theorem OK.wipeS : ∀ {us : List Nat}, OK K { G with T := T } Fz H E σ → OK K { G with T := svd E σ us ++ T } Fz H (wipeE E us) (L2.wipe σ us)
  | [], k => k
  | u :: us, k => OK.away (G := G) (T := svd E σ us ++ T) (OK.wipeS (us := us) k)
theorem set_stGet {i : Nat} : (σ.set i none).set i (stGet σ i) = σ := by
  rw [List.set_set]
  apply List.ext_getElem?
  intro j
  by_cases hj : i = j
  · subst hj
    rw [List.getElem?_set_self']
    unfold stGet
    cases h : σ[i]? <;> rfl
  · rw [List.getElem?_set_ne hj]
theorem OK.rest : ∀ {us : List Nat} {E2 : Env}, OK K { G with T := svd E σ us ++ T } Fz H E2 (L2.wipe σ us) → OK K { G with T := T } Fz H (restE E us E2) σ
  | [], E2, k => k
  | u :: us, E2, k => by
    have h := OK.setO (G := G) (T := svd E σ us ++ T) (i := u) k
    have e : (L2.wipe σ (u :: us)).set u (stGet (L2.wipe σ us) u) = L2.wipe σ us := set_stGet
    rw [e] at h
    exact OK.rest (us := us) h
/-- an item goes to the end of an own list that is held -/
theorem OK.addL {ds : List D} {d : D} {xs : List V} {p : Addr} {u : V} (k : OK K ((G.p (.ol ds) (.ref p)).p (.dat d) u) Fz H E σ) (hp : H p = some (.lst xs)) : OK K (G.p (.ol (ds ++ [d])) (.ref p)) Fz (upd H p (.lst (xs ++ [u]))) E σ := by
  have r := k.datI
  obtain ⟨a, ys, e, ha, rr⟩ := k.pop.top
  cases e
  rw [hp] at ha
  cases ha
  have nF : ¬ Fz p := (k.pop.gd.own _ List.mem_cons_self p rfl).1
  have kp : Kp Fz H (upd H p (.lst (xs ++ [u]))) := fun b o e z => by
    by_cases hb : b = p
    · subst hb
      rw [hp] at e
      cases e
      rcases z with z | ⟨_, z⟩ | ⟨_, _, z⟩ | ⟨_, z⟩
      · exact absurd z nF
      · cases z
      · cases z
      · cases z
    · rw [upd_ne hb]
      exact e
  refine ⟨Gd.put k.pop.gd rfl hp ⟨fun _ z => by (cases z), fun z => by (rcases z with ⟨_, _, z⟩ | ⟨_, z⟩ <;> cases z)⟩ ⟨p, xs ++ [u], rfl, upd_same, ?_⟩ rfl, k.lv⟩
  exact RpL.keep kp (fun _ z => z) (ds ++ [d]) (rr.app (.cons r .nil))
end
theorem OK.permT {K : PySem.W.Frag} {G : Gh} {Fz : Addr → Prop} {H : Hp} {E : Env} {σ : L2.St} {T1 T2 : List It'} (k : OK K { G with T := T1 } Fz H E σ) (h : T1.Perm T2) : OK K { G with T := T2 } Fz H E σ := ⟨k.gd.perm (h.append_right _), k.lv⟩
/-! ### the loop -/
def loopL (g : GF) (t : TF) (f : EF) (us : List Nat) : List D → Env → RR (List D × Env)
  | [], E => .ok ([], wipeE E us)
  | d :: ds, E => match g d (wipeE E us) with
    | none => .bad
    | some E1 => match t E1 with
      | .ok (true, E2) => match f E2 with
        | .ok (r, E3) => match r.d? with
          | some y => match loopL g t f us ds E3 with
            | .ok (ys, E4) => .ok (y :: ys, E4)
            | _ => .bad
          | none => .bad
        | _ => .bad
      | .ok (false, E2) => loopL g t f us ds E2
      | _ => .bad
def eYes : TF := fun E => .ok (true, E)
def SP (X : Cx) (W : WX) (ifs : List Expr) (t : TF) : Prop := PTs X ifs (tT W X.K t)
theorem sp_nil {X : Cx} {W : WX} : SP X W [] eYes := ⟨fun pins s σ H Q I ⟨G, E, Fz, k, h⟩ => pts_nil.run pins s σ H Q I (h H Fz k)⟩
theorem sp_one {X : Cx} {W : WX} {c : Expr} {t : TF} (h : ST X W c t) : SP X W [c] t := pts_one h
section
variable {K : PySem.W.Frag} {G : Gh} {Fz : Addr → Prop} {H : Hp} {E : Env} {σ : L2.St} {T' : List It'} {ds : List D} {J : L2.It} {g : GF} {t : TF} {f : EF} {ws us : List Nat} {W : WX} {Q : VK}
theorem OK.d1 {G : Gh} {Fz : Addr → Prop} {H : Hp} {E : Env} {σ : L2.St} {r : Sl} {v : V} {d : D} (k : OK K (G.p r v) Fz H E σ) (h : r.d? = some d) : ∃ Fz', OK K (G.p (.dat d) v) Fz' H E σ := by
  match r, h with
  | .dat _, h =>
    cases h
    exact ⟨Fz, k⟩
  | .ol ds, h =>
    cases h
    obtain ⟨Fz', _, k'⟩ := k.frz
    exact ⟨Fz', k'⟩
theorem wipe_wipe : L2.wipe (L2.wipe σ us) us = L2.wipe σ us := by
  apply List.ext_getElem?
  intro j
  rw [wipe_get, wipe_get]
  split
  · cases σ[j]? <;> rfl
  · rfl
theorem loopL_noexc : ∀ (ds : List D) (E : Env) (x : D) (E' : Env), loopL g t f us ds E ≠ .exc x E'
  | [], E, x, E', h => by cases h
  | d :: ds, E, x, E', h => by
    unfold loopL at h
    split at h
    · cases h
    · split at h
      · split at h
        · split at h
          · split at h
            · cases h
            · cases h
          · cases h
        · cases h
      · exact loopL_noexc ds _ x E' h
      · cases h
theorem loopL_ok (k : OK K G Fz H E σ) (w : Wk K G.io J T' ds) (hT : ∀ p ∈ T', p ∈ G.T) (hz : ds.length ≤ SZ) (hu : ∀ i ∈ ws, i ∈ us)
    (h : EndE W K G σ Q ((loopL g t f us ds E).bind fun p => .ok (.ol p.1, restE E us p.2))) : ∀ P, H P = none → ∃ Wv : Nat → Nat → Hp → Prop, (∃ m, Wv 0 m (upd H P (.lst []))) ∧ ∀ i m H, Wv i m H →
  (J.stop i H ∧ Q (.ref P) H) ∨ (J.go i H ∧ ∃ Nx : Hp → Prop, (∀ H', Nx H' → ∃ m', m' < m ∧ Wv (i + 1) m' H') ∧ ∀ x H', J.yld i H x H' → tG K ws g x (wipe σ us) H' fun σ2 H2 => wipe σ2 us = wipe σ us ∧ tT wF K t σ2 H2 fun b H3 =>
    if b = true then tE wF K f σ2 H3 fun y H4 => ∃ acc, H4 P = some (.lst acc) ∧ acc.length < sizeLine ∧ Nx (upd H4 P (.lst (acc ++ [y]))) else Nx H3) := by
  intro P hD
  -- the state within: the new list, the slots aside
  let Gl : List D → Gh := fun acc => Gh.p { G with T := svd E σ us ++ G.T } (.ol acc) (.ref P)
  have held : ∀ {acc : List D} {Fz' : Addr → Prop} {H' : Hp} {E' : Env} {σ' : L2.St}, OK K (Gl acc) Fz' H' E' σ' → ∀ p ∈ T', RS K Fz' H' G.io p := fun k' p hp =>
    k'.gd.rs p (List.mem_append_left _ (List.mem_cons_of_mem _ (List.mem_append_right _ (hT p hp))))
  let Go : List D → Nat → Env → Prop := fun acc i E' => ∃ r, loopL g t f us (ds.drop i) E' = .ok r ∧ ∀ v H' Fz', OK K (G.p (.ol (acc ++ r.1)) v) Fz' H' (restE E us r.2) σ → Q v H'
  have go0 : Go [] 0 E := by
    rw [show Go [] 0 E = ∃ r, loopL g t f us ds E = .ok r ∧ ∀ v H' Fz', OK K (G.p (.ol r.1) v) Fz' H' (restE E us r.2) σ → Q v H' from rfl]
    cases hl : loopL g t f us ds E with
    | ok r =>
      rw [hl] at h
      exact ⟨r, rfl, h⟩
    | exc x E' => exact absurd hl (loopL_noexc ds E x E')
    | bad =>
      rw [hl] at h
      exact h.elim
  have k0 : OK K (Gl []) Fz (upd H P (.lst [])) (wipeE E us) (wipe σ us) := OK.newL (G := { G with T := svd E σ us ++ G.T }) (OK.wipeS (G := G) (T := G.T) k) hD .nil
  refine ⟨fun i m H => m = ds.length - i ∧ i ≤ ds.length ∧ ∃ acc E' Fz', acc.length ≤ i ∧ OK K (Gl acc) Fz' H (wipeE E' us) (wipe σ us) ∧ Go acc i E', ⟨ds.length, rfl, Nat.zero_le _, [], E, Fz, Nat.le_refl _, k0, go0⟩, ?_⟩
  rintro i m H ⟨rfl, hi, acc, E', Fz', ha, kk, r, hr, hq⟩
  by_cases hlt : i < ds.length
  · refine .inr ⟨w.goes (held kk) hlt, fun H' => i + 1 ≤ ds.length ∧ ∃ acc E' Fz', acc.length ≤ i + 1 ∧ OK K (Gl acc) Fz' H' (wipeE E' us) (wipe σ us) ∧ Go acc (i + 1) E', fun H' z => ⟨_, ?_, rfl, z.1, z.2⟩, fun x H' y => ?_⟩
    · omega
    have hd : ds[i]? = some ds[i] := List.getElem?_eq_getElem hlt
    have k3 := kk.yd (w.yields (held kk) hd y)
    rw [List.drop_eq_getElem_cons hlt] at hr
    unfold loopL at hr
    refine ⟨Gl acc, _, Fz', ds[i], k3.pop, k3.datI, ?_⟩
    cases hg : g ds[i] (wipeE E' us) with
    | none => rw [hg] at hr; cases hr
    | some E1 =>
      rw [hg] at hr
      refine ⟨E1, rfl, fun σ' k4 st => ?_⟩
      have hσ : wipe σ' us = wipe σ us := (st us hu).trans wipe_wipe
      refine ⟨hσ, Gl acc, E1, Fz', k4, ?_⟩
      dsimp only at hr
      cases ht : t E1 with
      | bad => rw [ht] at hr; cases hr
      | exc x E2 => rw [ht] at hr; cases hr
      | ok p =>
        obtain ⟨b, E2⟩ := p
        rw [ht] at hr
        intro H2 Fz2 k5
        cases b with
        | false =>
          rw [if_neg Bool.false_ne_true]
          refine ⟨hlt, acc, E2, Fz2, Nat.le_succ_of_le ha, ?_, r, hr, hq⟩
          have k6 := k5.wipe (us := us)
          rw [hσ] at k6
          exact k6
        | true =>
          rw [if_pos rfl]
          refine ⟨Gl acc, E2, Fz2, k5, ?_⟩
          dsimp only at hr
          cases hf : f E2 with
          | bad => rw [hf] at hr; cases hr
          | exc x E3 => rw [hf] at hr; cases hr
          | ok q =>
            obtain ⟨s, E3⟩ := q
            rw [hf] at hr
            dsimp only at hr
            cases hs : s.d? with
            | none => rw [hs] at hr; cases hr
            | some yd =>
              rw [hs] at hr
              dsimp only at hr
              cases hl : loopL g t f us (ds.drop (i + 1)) E3 with
              | bad => rw [hl] at hr; cases hr
              | exc x E4 => rw [hl] at hr; cases hr
              | ok rr =>
                rw [hl] at hr
                cases hr
                intro v H4 Fz4 k6
                obtain ⟨Fz5, k7⟩ := k6.d1 hs
                obtain ⟨a, xs, ea, hx, rx⟩ := k7.pop.top
                cases ea
                have hlen := rx.len
                refine ⟨xs, hx, ?_, hlt, acc ++ [yd], E3, Fz5, by simp; omega, ?_, rr, hl, fun v H' Fz' k' => hq v H' Fz' (by simpa using k')⟩
                · have e : SZ = sizeLine := rfl
                  omega
                · have k8 := (OK.addL k7 hx).wipe (us := us)
                  rw [hσ] at k8
                  exact k8
  · have e : i = ds.length := by omega
    subst e
    rw [List.drop_length] at hr
    cases hr
    refine .inl ⟨w.stops (held kk), hq _ _ Fz' ?_⟩
    simp only [List.append_nil]
    exact OK.rest (G := G) (T := (.ol acc, some (.ref P)) :: G.T) (us := us) (OK.permT (G := G) kk List.perm_middle.symm)
end
/-! ### the rules -/
def eLc (f : EI) (g : GF) (t : TF) (e : EF) (us : List Nat) : EF := fun E => (f E).bind fun p => if p.1.length ≤ SZ then (loopL g t e us p.1 p.2).bind fun q => .ok (.ol q.1, restE p.2 us q.2) else .bad
/-- .. over a name's own list that stays its own -/
def eLcN (i : Nat) (g : GF) (t : TF) (e : EF) (us : List Nat) : EF := fun E => match E.at i with
  | some (.ol ds) => if ds.length ≤ SZ then (loopL g t e us ds (E.st i .no)).bind fun q => .ok (.ol q.1, (restE (E.st i .no) us q.2).st i (.ol ds)) else .bad
  | _ => .bad
section
variable {X : Cx} {W : WX} {tg iter elt : Expr} {ifs : List Expr} {f : EI} {g : GF} {t : TF} {e : EF} {ws : List Nat} {scope : Scope} {own : List (Str × Nat)} {pos : Pos}
theorem tLc_of {G : Gh} {E : Env} {Fz : Addr → Prop} {H : Hp} {σ : L2.St} {Q : VK} {us : List Nat} (hu : ∀ i ∈ ws, i ∈ us) (k : OK X.K G Fz H E σ) (h : EndE W X.K G σ Q (eLc f g t e us E)) : tLc (tI W X.K f) (tG X.K ws g) (tT wF X.K t) (tE wF X.K e) us σ H Q := by
  refine ⟨G, E, Fz, k, ?_⟩
  unfold eLc at h
  cases hf : f E with
  | bad => rw [hf] at h; exact h.elim
  | exc x E' => rw [hf] at h; exact h
  | ok p =>
    rw [hf] at h
    intro J T' H1 Fz1 k1 w
    have h : EndE W X.K G σ Q (if p.1.length ≤ SZ then (loopL g t e us p.1 p.2).bind fun q => .ok (.ol q.1, restE p.2 us q.2) else .bad) := h
    split at h
    · rename_i hz
      exact loopL_ok k1 w (fun q hq => List.mem_append_left _ hq) hz hu (EndE.w h)
    · exact h.elim
abbrev BlkAll (X : Cx) (scope : Scope) (P : Cx → Prop) : Prop := ∀ (s : Shared) (H : Hp) (C : Addr) (cl : List (Str × Addr)) (fp : List Addr), P (X.blk s H scope (compEnvC scope cl C X.env) fp)
theorem se_lc (kx : Kx X W) (hi : SI X W tg iter f) (hg : BlkAll X scope fun Y => SG Y tg ws g) (ht : BlkAll X scope fun Y => SP Y wF ifs t) (he : BlkAll X scope fun Y => SE Y wF elt e) (ok : BlkOk X.N X.env.scope scope own) (hu : ∀ i ∈ ws, i ∈ own.map (·.2) := by decide)
    (hs : ∀ x, foldedSetIterable iter X.env x = pure x := by intro _; rfl) : SE X W (.ListComp elt [⟨tg, iter, ifs, 0⟩] scope pos) (eLc f g t e (own.map (·.2))) :=
  PE.imp (pe_lc (g := tG X.K ws g) (tt := tT wF X.K t) (te := tE wF X.K e) kx.hc kx.nd hi ok hg ht he hs) fun σ H Q ⟨G, E, Fz, k, h⟩ => tLc_of hu k h
theorem ss_setLc {i : Nat} {y : Str} {py spos : Pos} (kx : Kx X W) (hy : X.N[i]? = some y) (hi : SI X W tg iter f) (hg : BlkAll X scope fun Y => SG Y tg ws g) (ht : BlkAll X scope fun Y => SP Y wF ifs t) (he : BlkAll X scope fun Y => SE Y wF elt e) (ok : BlkOk X.N X.env.scope scope own)
    (hyl : X.env.scope.names.lookup y = some .local := by rfl) (hsw : swapsWith (.ListComp elt [⟨tg, iter, ifs, 0⟩] scope pos) (some (.Name y py)) spos.line X.env = pure true := by rfl) (hu : ∀ i ∈ ws, i ∈ own.map (·.2) := by decide)
    (hs : ∀ x, foldedSetIterable iter X.env x = pure x := by intro _; rfl) : SS X W (.Assign [.Name y py] (.ListComp elt [⟨tg, iter, ifs, 0⟩] scope pos) spos) (sSet i (eLc f g t e (own.map (·.2)))) :=
  PS.imp (ps_setLc (g := tG X.K ws g) (tt := tT wF X.K t) (te := tE wF X.K e) kx.hc kx.nd hy hyl hsw hi ok hg ht he hs) fun D σ H ⟨G, E, Fz, k, h⟩ => by
    refine tLc_of hu k ?_
    have h2 := EndS.flE h σ
    cases hf : eLc f g t e (own.map (·.2)) E with
    | bad => rw [hf] at h2; exact h2.elim
    | exc x E' => rw [hf] at h2; exact h2
    | ok p =>
      rw [hf] at h2
      intro v H1 Fz1 k1
      obtain ⟨r, E1, Fz2, k2, h3⟩ := h2 v H1 Fz1 k1
      exact h3 _ H1 Fz2 k2.set
end
/-- the places inside a comprehension -/
theorem Kx.blk {X : Cx} {W : WX} {s : Shared} {H : Hp} {scope : Scope} {cenv : PySem.Env} {fp : List Addr} (kx : Kx X W) : Kx (X.blk s H scope cenv fp) wF :=
  ⟨PassesOwn.never, fun u s' ⟨a, B, sI, pins, σ, H, cls, d, e, I, nb, up, sky, na, os, ag, w⟩ => w.elim, kx.hc, kx.hu, kx.hg, kx.nd⟩
section
variable {X : Cx} {W : WX} {tg elt : Expr} {ifs : List Expr} {g : GF} {t : TF} {e : EF} {ws : List Nat} {scope : Scope} {own : List (Str × Nat)} {pos xpos : Pos} {i : Nat} {x : Str}
theorem tLcN_of {G : Gh} {E : Env} {Fz : Addr → Prop} {H : Hp} {σ : L2.St} {Q : VK} {us : List Nat} (hu : ∀ i ∈ ws, i ∈ us) (k : OK X.K G Fz H E σ) (h : EndE W X.K G σ Q (eLcN i g t e us E)) : tLc (iList X.K (tVar i)) (tG X.K ws g) (tT wF X.K t) (tE wF X.K e) us σ H Q := by
  unfold eLcN at h
  cases ha : E.at i with
  | none => rw [ha] at h; exact h.elim
  | some s =>
    rw [ha] at h
    cases s with
    | ol ds =>
      obtain ⟨v, hv, r⟩ := k.at ha
      obtain ⟨a, vs, ea, hx, rx⟩ := id r
      cases ea
      refine ⟨_, hv, a, rfl, ⟨vs, .inl (.inl hx)⟩, ?_⟩
      have k1 := k.take (Env.at_some ha).1 hv
      dsimp only at h
      split at h
      · rename_i hz
        refine loopL_ok (W := W) (T' := [(.ol ds, some (.ref a))]) k1 (wk_list rfl) (fun q hq => by rw [List.mem_singleton.mp hq]; exact List.mem_cons_self) hz hu ?_
        cases hl : loopL g t e us ds (E.st i .no) with
        | bad => rw [hl] at h; exact h.elim
        | exc x E' => exact absurd hl (loopL_noexc _ _ _ _)
        | ok q =>
          rw [hl] at h
          intro v H' Fz' k2
          exact h v H' Fz' (OK.back (OK.swap k2) hv)
      · exact h.elim
    | _ => exact h.elim
theorem se_lcN (kx : Kx X W) (hx : X.N[i]? = some x) (hv : Vis X.env.scope x) (hg : BlkAll X scope fun Y => SG Y tg ws g) (ht : BlkAll X scope fun Y => SP Y wF ifs t) (he : BlkAll X scope fun Y => SE Y wF elt e) (ok : BlkOk X.N X.env.scope scope own) (hu : ∀ i ∈ ws, i ∈ own.map (·.2) := by decide)
    (hd : (x == ("__debug__" : Str)) = false := by decide) (hcd : (x == ("__classdict__" : Str)) = false := by decide) (hs : ∀ z, foldedSetIterable (.Name x xpos) X.env z = pure z := by intro _; rfl) : SE X W (.ListComp elt [⟨tg, .Name x xpos, ifs, 0⟩] scope pos) (eLcN i g t e (own.map (·.2))) :=
  PE.imp (pe_lc (g := tG X.K ws g) (tt := tT wF X.K t) (te := tE wF X.K e) kx.hc kx.nd (pi_list (pe_var hx hv hd hcd)) ok hg ht he hs) fun σ H Q ⟨G, E, Fz, k, h⟩ => tLcN_of (W := W) hu k h
theorem ss_setLcN {j : Nat} {y : Str} {py spos : Pos} (kx : Kx X W) (hy : X.N[j]? = some y) (hx : X.N[i]? = some x) (hv : Vis X.env.scope x) (hg : BlkAll X scope fun Y => SG Y tg ws g) (ht : BlkAll X scope fun Y => SP Y wF ifs t) (he : BlkAll X scope fun Y => SE Y wF elt e) (ok : BlkOk X.N X.env.scope scope own)
    (hyl : X.env.scope.names.lookup y = some .local := by rfl) (hsw : swapsWith (.ListComp elt [⟨tg, .Name x xpos, ifs, 0⟩] scope pos) (some (.Name y py)) spos.line X.env = pure true := by rfl) (hu : ∀ i ∈ ws, i ∈ own.map (·.2) := by decide)
    (hd : (x == ("__debug__" : Str)) = false := by decide) (hcd : (x == ("__classdict__" : Str)) = false := by decide) (hs : ∀ z, foldedSetIterable (.Name x xpos) X.env z = pure z := by intro _; rfl) : SS X W (.Assign [.Name y py] (.ListComp elt [⟨tg, .Name x xpos, ifs, 0⟩] scope pos) spos) (sSet j (eLcN i g t e (own.map (·.2)))) :=
  PS.imp (ps_setLc (g := tG X.K ws g) (tt := tT wF X.K t) (te := tE wF X.K e) kx.hc kx.nd hy hyl hsw (pi_list (pe_var hx hv hd hcd)) ok hg ht he hs) fun D σ H ⟨G, E, Fz, k, h⟩ => by
    refine tLcN_of (W := W) hu k ?_
    have h2 := EndS.flE h σ
    cases hf : eLcN i g t e (own.map (·.2)) E with
    | bad => rw [hf] at h2; exact h2.elim
    | exc x E' => rw [hf] at h2; exact h2
    | ok p =>
      rw [hf] at h2
      intro v H1 Fz1 k1
      obtain ⟨r, E1, Fz2, k2, h3⟩ := h2 v H1 Fz1 k1
      exact h3 _ H1 Fz2 k2.set
end
end VL

/-! The value layer, 12: functions. -/
namespace VL
open PySem PySem.Spec PyProof.Rows L2 RZ RT

/-- what a function's call gives: a value or an exception, and what the dict that was lent holds then -/
inductive RO where
  | ok (r : Sl) (l : Option (List (Key × D))) | exc (x : D) (l : Option (List (Key × D))) | bad
abbrev CF := List Sl → RO
def Sl.lent? : Sl → Option (List (Key × D))
  | .od (some 0) kvs => some kvs
  | _ => none
theorem Sl.lent_eq : ∀ {s : Sl} {kvs : List (Key × D)}, s.lent? = some kvs → s = .od (some 0) kvs
  | .od (some 0) kvs, _, h => by cases h; rfl
  | .od (some (_ + 1)) _, _, h => by cases h
  | .od none _, _, h => by cases h
  | .no, _, h => by cases h
  | .dat _, _, h => by cases h
  | .ol _, _, h => by cases h
  | .lk _, _, h => by cases h
  | .cl _ _ _ _, _, h => by cases h
def lentOf : Env → Option (List (Key × D))
  | [] => none
  | s :: E => match s.lent? with
    | some kvs => some kvs
    | none => lentOf E
def lentL : Option (List (Key × D)) → List Addr → List It'
  | some kvs, a :: _ => [(.od (some 0) kvs, some (.ref a))]
  | _, _ => []
def Sl.ret : Sl → Bool
  | .od (some _) _ => false
  | _ => true
def mfOf (N : Nat) (sf : SF) : CF := fun ss => match sf (ss ++ List.replicate (N - ss.length) .no) with
  | .nx E => .ok (.dat .non) (lentOf E)
  | .rt r E => if r.ret then .ok r (lentOf E) else .bad
  | .exc x E => .exc x (lentOf E)
  | _ => .bad
def RoQ (K : PySem.W.Frag) (Fz : Addr → Prop) (H : Hp) (io : List Addr) (Q : VK) (E : XK) : RO → Prop
  | .ok r l => r.ret = true ∧ ∀ v H' Fz', Gd K H Fz io Fz' H' ((r, some v) :: lentL l io) → Q v H'
  | .exc x l => ∀ cls d H' Fz', Gd K H Fz io Fz' H' (lentL l io) → RX K Fz' H' x cls d → E cls d H'
  | .bad => False
/-- a function's promise -/
def spD (K : PySem.W.Frag) (n : Nat) (mf : CF) : Sp := fun vs H Q E => vs.length = n ∧ ∃ (ss : List Sl) (Fz : Addr → Prop) (io : List Addr), ss.length = n ∧ Gd K H Fz io Fz H (ss.zip (vs.map some)) ∧ RoQ K Fz H io Q E (mf ss)

structure FnG (P : Program) (w : World) (K : PySem.W.Frag) (mg : Str → Option Value) (base : Heap) (k : Nat) (f : Addr) (fd : FuncData) (ps : List Str) (mf : CF) : Prop where
  run : ∀ (A : Around) (outer : List PySem.Env) (s : Shared) (H : Hp) (args : Args) (us : List Value) (vs : List V) (Q : VK) (E : XK), Room k A → A.guards = some [] → Env0 P w K mg base A outer s H → BindsTo s fd args (ps.zip us) → Vals vs us →
    spD K ps.length mf vs H Q E → codeAny (model P w) A (.call (.ref f) args) (CR (L2.CX P w) outer P w H s Q E) s
section
variable {K : PySem.W.Frag} {B : Hp} {F0 : Addr → Prop} {io io0 : List Addr} {Fz Fz' : Addr → Prop} {H H' : Hp} {L Lc : List It'}
/-- the caller's account behind a call -/
theorem Gd.after (g : Gd K B F0 io0 Fz H L) (c : Gd K H Fz io Fz' H' Lc)
    (hio : ∀ b ∈ io, ¬ Fz b ∧ (b ∈ io0 ∨ ∀ o, B b = some o → ∃ ps, o = .tbl ps) ∧ (∀ p ∈ L, ownA p ≠ some b) ∧ ∃ kvs, H b = some (.dK kvs)) : Gd K B F0 io0 Fz' H' L ∧ (∀ p ∈ Lc, ∀ q ∈ L, Apart p q) ∧ ∀ p ∈ Lc, ∀ a, ownA p = some a → ¬ Fz' a ∧ (a ∈ io0 ∨ ∀ o, B a = some o → ∃ ps, o = .tbl ps) := by
  have kp : Kp Fz H H' := fun b o e z => by
    refine c.frm b o e (fun hb => ?_) fun ps q => ?_
    · obtain ⟨n, _, _, kvs, q⟩ := hio b hb
      rw [e] at q
      rcases z with z | ⟨xs, z⟩ | ⟨ob, u, z⟩ | ⟨φ, z⟩
      · exact n z
      · rw [z] at q; cases q
      · rw [z] at q; cases q
      · rw [z] at q; cases q
    · rcases z with z | ⟨xs, z⟩ | ⟨ob, u, z⟩ | ⟨φ, z⟩
      · obtain ⟨o', e', n⟩ := g.dom b z
        rw [e] at e'
        cases e'
        exact n ps q
      · rw [z] at q; cases q
      · rw [z] at q; cases q
      · rw [z] at q; cases q
  have fresh : ∀ b, (∀ o, H b = some o → ∃ ps, o = .tbl ps) → b ∈ io0 ∨ ∀ o, B b = some o → ∃ ps, o = .tbl ps := fun b h => by
    by_cases hb : b ∈ io0
    · exact .inl hb
    · refine .inr fun o e => Classical.byContradiction fun n => ?_
      exact n (h o (g.frm b o e hb fun ps q => n ⟨ps, q⟩))
  have ownL : ∀ p ∈ L, ∀ b, ownA p = some b → ∃ o, H b = some o ∧ ∀ ps, o ≠ .tbl ps := fun p hp b e => by
    have r := g.rs p hp
    obtain ⟨s, w⟩ := p
    cases s with
    | no => cases e
    | dat d => cases e
    | lk ds => cases e
    | cl _ _ _ _ => cases e
    | ol ds =>
      obtain ⟨b', vs, e2, hb, _⟩ := id r
      subst e2
      cases e
      exact ⟨_, hb, r.not_tbl rfl hb⟩
    | od t ds =>
      obtain ⟨b', vs, e2, hb, _⟩ := id r
      subst e2
      cases e
      exact ⟨_, hb, r.not_tbl rfl hb⟩
  have notio : ∀ p ∈ L, ∀ b, ownA p = some b → b ∉ io := fun p hp b e hb => (hio b hb).2.2.1 p hp e
  refine ⟨⟨fun p hp => (g.rs p hp).keep kp c.f0 fun b o e hb => c.frm b o hb (notio p hp b e) ((g.rs p hp).not_tbl e hb), g.sep, fun p hp b e => ⟨fun z => ?_, (g.own p hp b e).2⟩, c.dom, fun b o e n t => ?_, fun b z => c.f0 b (g.f0 b z), fun b z => ?_, c.tab⟩, fun p hp q hq b e1 e2 => ?_, fun p hp b e => ⟨(c.own p hp b e).1, ?_⟩⟩
  · rcases c.fz b z with z | z | z
    · exact (g.own p hp b e).1 z
    · exact notio p hp b e z
    · obtain ⟨o, ho, n⟩ := ownL p hp b e
      obtain ⟨ps, q⟩ := z o ho
      exact n ps q
  · refine c.frm b o (g.frm b o e n t) (fun hb => ?_) t
    rcases (hio b hb).2.1 with z | z
    · exact n z
    · obtain ⟨ps, q⟩ := z o e
      exact t ps q
  · rcases c.fz b z with z | z | z
    · exact g.fz b z
    · exact .inr (hio b z).2.1
    · exact .inr (fresh b z)
  · rcases (c.own p hp b e1).2 with z | z
    · exact notio q hq b e2 z
    · obtain ⟨o, ho, n⟩ := ownL q hq b e2
      obtain ⟨ps, y⟩ := z o ho
      exact n ps y
  · rcases (c.own p hp b e).2 with z | z
    · exact (hio b z).2.1
    · exact fresh b z
theorem RS.toIo {p : It'} (h : RS K Fz H io p) (hr : p.1.ret = true) (io' : List Addr) : RS K Fz H io' p := by
  obtain ⟨s, o⟩ := p
  cases s with
  | no => trivial
  | dat d => exact h
  | ol ds => exact h
  | lk ds => exact h
  | cl _ _ _ _ => exact h
  | od t ds =>
    cases t with
    | none =>
      obtain ⟨a, vs, e, ha, r, _⟩ := h
      exact ⟨a, vs, e, ha, r, fun j z => by cases z⟩
    | some j => cases hr
/-- arguments as they are handed over: nothing owned -/
def Sl.fr? : Sl → Option Sl
  | .dat d => some (.dat d)
  | .ol ds => some (.dat (.lst ds))
  | .lk ds => some (.lk ds)
  | _ => none
def frAll : List Sl → Option (List Sl)
  | [] => some []
  | s :: ss => match s.fr?, frAll ss with
    | some d, some ds => some (d :: ds)
    | _, _ => none
/-- nothing owned, held of any state -/
def Fr (K : PySem.W.Frag) (Fz : Addr → Prop) (H : Hp) (ss : List Sl) (vs : List V) : Prop := ∀ p ∈ ss.zip (vs.map some), RS K Fz H [] p ∧ ownA p = none ∧ p.1.ret = true
variable {G : Gh} {E : Env} {σ : L2.St}
theorem RS.fzUp {p : It'} (h : RS K Fz H io p) (hf : ∀ a, Fz a → Fz' a) : RS K Fz' H io p := h.keep Kp.refl hf fun _ _ _ e => e
theorem OK.frAll : ∀ {rs : List Sl} {vs : List V} {ss : List Sl} {G : Gh}, vs.length = rs.length → OK K (G.ps rs vs) Fz H E σ → frAll rs = some ss → ∃ Fz', (∀ a, Fz a → Fz' a) ∧ OK K G Fz' H E σ ∧ Fr K Fz' H ss vs ∧ ss.length = rs.length
  | [], [], ss, G, _, k, h => by
    cases h
    exact ⟨Fz, fun _ z => z, k, fun p hp => by (cases hp), rfl⟩
  | [], _ :: _, _, _, hl, _, _ => by simp at hl
  | _ :: _, [], _, _, hl, _, _ => by simp at hl
  | s :: rs, v :: vs, ss, G, hl, k, h => by
    unfold VL.frAll at h
    cases e1 : s.fr? with
    | none => rw [e1] at h; cases h
    | some d =>
      cases e2 : VL.frAll rs with
      | none => rw [e1, e2] at h; cases h
      | some ds' =>
        rw [e1, e2] at h
        cases h
        obtain ⟨Fz1, f1, k1, r1, l1⟩ := OK.frAll (rs := rs) (vs := vs) (ss := ds') (G := G.p s v) (by simpa using hl) k e2
        have fin : ∀ {Fz2 : Addr → Prop}, (∀ a, Fz1 a → Fz2 a) → OK K (G.p d v) Fz2 H E σ → ownA (d, some v) = none → d.ret = true → ∃ Fz', (∀ a, Fz a → Fz' a) ∧ OK K G Fz' H E σ ∧ Fr K Fz' H (d :: ds') (v :: vs) ∧ (d :: ds').length = (s :: rs).length := fun {Fz2} f2 k2 ho hr => by
          refine ⟨Fz2, fun a z => f2 a (f1 a z), k2.pop, fun p hp => ?_, by simp [l1]⟩
          rcases List.mem_cons.mp hp with z | z
          · rw [z]
            exact ⟨RS.toIo k2.top hr [], ho, hr⟩
          · exact ⟨(r1 p z).1.fzUp f2, (r1 p z).2⟩
        cases s with
        | dat d' =>
          cases e1
          exact fin (fun _ z => z) k1 rfl rfl
        | ol xs =>
          cases e1
          obtain ⟨Fz2, f2, k2⟩ := k1.frz
          exact fin f2 k2 rfl rfl
        | lk xs =>
          cases e1
          exact fin (fun _ z => z) k1 rfl rfl
        | no => cases e1
        | od _ _ => cases e1
        | cl _ _ _ _ => cases e1
/-- the callee's account at its entry -/
theorem Fr.enter {ss : List Sl} {vs : List V} (k : OK K G Fz H E σ) (f : Fr K Fz H ss vs) : Gd K H Fz [] Fz H (ss.zip (vs.map some)) where
  rs := fun p hp => (f p hp).1
  sep := by
    refine List.pairwise_of_forall_mem_list fun p hp q hq a e => ?_
    rw [(f p hp).2.1] at e
    cases e
  own := fun p hp a e => by
    rw [(f p hp).2.1] at e
    cases e
  dom := k.gd.dom
  frm := fun a o e _ _ => e
  f0 := fun _ z => z
  fz := fun _ z => .inl z
  tab := k.gd.tab
theorem Fr.enterD {ss : List Sl} {vs : List V} {t : Option Nat} {kvs : List (Key × D)} {a : Addr} (k : OK K (G.p (.od t kvs) (.ref a)) Fz H E σ) (f : Fr K Fz H ss vs) : Gd K H Fz [a] Fz H ((Sl.od (some 0) kvs :: ss).zip ((V.ref a :: vs).map some)) where
  rs := fun p hp => by
    rcases List.mem_cons.mp hp with z | z
    · rw [z]
      obtain ⟨b, us, e, hb, r, _⟩ := k.top
      cases e
      exact ⟨a, us, rfl, hb, r, fun j z => by cases z; rfl⟩
    · exact RS.toIo (f p z).1 (f p z).2.2 [a]
  sep := by
    refine List.pairwise_cons.mpr ⟨fun p hp b _ e => ?_, List.pairwise_of_forall_mem_list fun p hp q hq b e => ?_⟩
    · rw [(f p hp).2.1] at e
      cases e
    · rw [(f p hp).2.1] at e
      cases e
  own := fun p hp b e => by
    rcases List.mem_cons.mp hp with z | z
    · rw [z] at e
      cases e
      exact ⟨(k.gd.own _ List.mem_cons_self a rfl).1, .inl List.mem_cons_self⟩
    · rw [(f p z).2.1] at e
      cases e
  dom := k.gd.dom
  frm := fun a o e _ _ => e
  f0 := fun _ z => z
  fz := fun _ z => .inl z
  tab := k.gd.tab
theorem OK.after {r : Sl} {v : V} (k : OK K G Fz H E σ) (c : Gd K H Fz [] Fz' H' [(r, some v)]) (hr : r.ret = true) : OK K (G.p r v) Fz' H' E σ := by
  obtain ⟨g, s, o⟩ := k.gd.after c fun b hb => by cases hb
  refine ⟨⟨fun p hp => ?_, List.pairwise_cons.mpr ⟨fun q hq => s _ List.mem_cons_self q hq, g.sep⟩, fun p hp => ?_, g.dom, g.frm, g.f0, g.fz, g.tab⟩, k.lv⟩
  · rcases List.mem_cons.mp hp with z | z
    · rw [z]
      exact RS.toIo c.head hr _
    · exact g.rs p z
  · rcases List.mem_cons.mp hp with z | z
    · rw [z]
      exact o _ List.mem_cons_self
    · exact g.own p z
theorem OK.afterX (k : OK K G Fz H E σ) (c : Gd K H Fz [] Fz' H' []) : OK K G Fz' H' E σ := ⟨(k.gd.after c fun b hb => by cases hb).1, k.lv⟩
/-- the account with the lent dict as it is now -/
def Gh.lent (G : Gh) (t : Option Nat) (a : Addr) : Option (List (Key × D)) → Gh
  | some kvs => G.p (.od t kvs) (.ref a)
  | none => G
theorem lent_io {t : Option Nat} {kvs : List (Key × D)} {a : Addr} (k : OK K (G.p (.od t kvs) (.ref a)) Fz H E σ) : ∀ b ∈ [a], ¬ Fz b ∧ (b ∈ G.io ∨ ∀ o, G.B b = some o → ∃ ps, o = .tbl ps) ∧ (∀ p ∈ G.T ++ E.zip σ, ownA p ≠ some b) ∧ ∃ kvs, H b = some (.dK kvs) := fun b hb => by
  rw [List.mem_singleton.mp hb]
  obtain ⟨n, h⟩ := k.gd.own _ List.mem_cons_self a rfl
  obtain ⟨c, us, e, hc, _⟩ := k.top
  cases e
  exact ⟨n, h, fun p hp e => (List.pairwise_cons.mp k.gd.sep).1 p hp a rfl e, us, hc⟩
theorem OK.afterD {r : Sl} {v : V} {t : Option Nat} {kvs : List (Key × D)} {a : Addr} {l : Option (List (Key × D))} (k : OK K (G.p (.od t kvs) (.ref a)) Fz H E σ) (c : Gd K H Fz [a] Fz' H' ((r, some v) :: lentL l [a])) (hr : r.ret = true) : OK K ((G.lent t a l).p r v) Fz' H' E σ := by
  obtain ⟨_, _, e0, _, _, ht⟩ := k.top
  cases e0
  obtain ⟨g, s, o⟩ := Gd.after (L := G.T ++ E.zip σ) (k.gd.tail : Gd K G.B G.F0 G.io Fz H (G.T ++ E.zip σ)) c (lent_io k)
  cases l with
  | none =>
    refine ⟨⟨fun p hp => ?_, List.pairwise_cons.mpr ⟨fun q hq => s _ List.mem_cons_self q hq, g.sep⟩, fun p hp => ?_, g.dom, g.frm, g.f0, g.fz, g.tab⟩, k.lv⟩
    · rcases List.mem_cons.mp hp with z | z
      · rw [z]
        exact RS.toIo c.head hr _
      · exact g.rs p z
    · rcases List.mem_cons.mp hp with z | z
      · rw [z]
        exact o _ List.mem_cons_self
      · exact g.own p z
  | some kv =>
    have m2 : ((Sl.od (some 0) kv, some (V.ref a)) : It') ∈ (r, some v) :: lentL (some kv) [a] := List.mem_cons_of_mem _ List.mem_cons_self
    have ap : Apart (r, some v) (Sl.od (some 0) kv, some (V.ref a)) := (List.pairwise_cons.mp c.sep).1 _ List.mem_cons_self
    refine ⟨⟨fun p hp => ?_, List.pairwise_cons.mpr ⟨fun q hq => ?_, List.pairwise_cons.mpr ⟨fun q hq b e1 e2 => ?_, g.sep⟩⟩, fun p hp b e => ?_, g.dom, g.frm, g.f0, g.fz, g.tab⟩, k.lv⟩
    · rcases List.mem_cons.mp hp with z | z
      · rw [z]
        exact RS.toIo c.head hr _
      · rcases List.mem_cons.mp z with z | z
        · rw [z]
          obtain ⟨b, us, e, hb, rr, _⟩ := c.rs _ m2
          cases e
          exact ⟨a, us, rfl, hb, rr, ht⟩
        · exact g.rs p z
    · rcases List.mem_cons.mp hq with z | z
      · rw [z]
        intro b e1 e2
        cases e2
        exact ap a e1 rfl
      · exact s _ List.mem_cons_self q z
    · cases e1
      exact s _ m2 q hq a rfl e2
    · rcases List.mem_cons.mp hp with z | z
      · rw [z] at e
        exact o _ List.mem_cons_self b e
      · rcases List.mem_cons.mp z with z | z
        · rw [z] at e
          cases e
          exact o _ m2 a rfl
        · exact g.own p z b e
theorem OK.afterDX {t : Option Nat} {kvs : List (Key × D)} {a : Addr} {l : Option (List (Key × D))} (k : OK K (G.p (.od t kvs) (.ref a)) Fz H E σ) (c : Gd K H Fz [a] Fz' H' (lentL l [a])) : OK K (G.lent t a l) Fz' H' E σ := by
  have c2 : Gd K H Fz [a] Fz' H' ((.no, some .non) :: lentL l [a]) := c.push trivial rfl
  exact (OK.afterD k c2 rfl).pop
/-! ### the end of a body -/
theorem lentOf_get : ∀ {E : Env} {kvs : List (Key × D)}, lentOf E = some kvs → ∃ i : Nat, E[i]? = some (Sl.od (some 0) kvs)
  | [], _, h => by cases h
  | s :: E, kvs, h => by
    unfold lentOf at h
    cases e : s.lent? with
    | some k' =>
      rw [e] at h
      cases h
      exact ⟨0, by rw [Sl.lent_eq e]; rfl⟩
    | none =>
      rw [e] at h
      obtain ⟨i, hi⟩ := lentOf_get h
      exact ⟨i + 1, hi⟩
theorem singleton_sub {α : Type} {x : α} : ∀ {l : List α}, x ∈ l → [x].Sublist l
  | y :: l, h => by
    rcases List.mem_cons.mp h with z | z
    · rw [z]
      exact (List.nil_sublist _).cons_cons _
    · exact (singleton_sub z).cons _
theorem OK.lentEnd (k : OK K G Fz H E σ) : Gd K G.B G.F0 G.io Fz H (lentL (lentOf E) G.io) := by
  cases h : lentOf E with
  | none => exact k.gd.sub (List.nil_sublist _)
  | some kvs =>
    obtain ⟨i, hi⟩ := lentOf_get h
    obtain ⟨o, ho, r⟩ := k.slot hi
    obtain ⟨a, us, e, hb, rr, ht⟩ := r
    subst e
    have e2 := ht 0 rfl
    cases hio : G.io with
    | nil => rw [hio] at e2; cases e2
    | cons b bs =>
      rw [hio] at e2
      cases e2
      show Gd K G.B G.F0 (a :: bs) Fz H [(.od (some 0) kvs, some (.ref a))]
      rw [← hio]
      exact k.gd.sub (singleton_sub (List.mem_append_right _ (lay_mem hi ho)))
theorem OK.lentEnd1 {r : Sl} {v : V} (k : OK K (G.p r v) Fz H E σ) : Gd K G.B G.F0 G.io Fz H ((r, some v) :: lentL (lentOf E) G.io) := by
  cases h : lentOf E with
  | none => exact k.gd.sub ((List.nil_sublist _).cons_cons _)
  | some kvs =>
    obtain ⟨i, hi⟩ := lentOf_get h
    obtain ⟨o, ho, r'⟩ := k.slot hi
    obtain ⟨a, us, e, hb, rr, ht⟩ := r'
    subst e
    have e2 : G.io[0]? = some a := ht 0 rfl
    cases hio : G.io with
    | nil => rw [hio] at e2; cases e2
    | cons b bs =>
      rw [hio] at e2
      cases e2
      show Gd K G.B G.F0 (a :: bs) Fz H [(r, some v), (.od (some 0) kvs, some (.ref a))]
      rw [← hio]
      exact k.gd.sub ((singleton_sub (List.mem_append_right _ (lay_mem hi ho))).cons_cons _)
end
end VL

/-! The value layer, 13: the rule for a def, calls. -/
namespace VL
open PySem PySem.Spec PyProof.Rows L2 RZ RT LamX

/-- the wish about exceptions in a def's body -/
abbrev wE (E : XK) : WX := fun cls d _ H' => E cls d H'
section
variable {P : Program} {w : World} {K : PySem.W.Frag} {mg : Str → Option Value} {base : Heap} {x qual : Str} {params : Arguments} {body : List Stmt} {scope : Scope} {dvs : List V} {kws : List (Str × V)} {f : Addr} {fd : FuncData} {N ps : List Str} {k : Nat} {sf : SF}
theorem kx_of {cdv : Value} {A : Around} {outer : List PySem.Env} {s : Shared} {H : Hp} {E : XK} (nd : N.Nodup) (hr : Room k (A.deeper (envOfC qual scope s.heap.objs.size f cdv))) (hg : A.guards = some []) :
    Kx (cxOf (L2.CX P w) P w K mg base N qual scope f cdv A outer s H E) (wE E) :=
  ⟨passes_of rfl, takes_of rfl rfl rfl rfl, rfl, by have u := hr.un; show (A.deeper _).units + 100 < cLine; omega, hg, nd⟩
theorem start_zip {ss : List Sl} {vs : List V} {n : Nat} (h : ss.length = vs.length) : (ss ++ List.replicate (n - ss.length) Sl.no).zip (L2.start N vs) = ss.zip (vs.map some) ++ (List.replicate (n - ss.length) Sl.no).zip (List.replicate (N.length - vs.length) none) := by
  unfold L2.start
  rw [List.zip_append (by simp [h])]
theorem Gd.nos {K : PySem.W.Frag} {B : Hp} {F0 : Addr → Prop} {io : List Addr} {Fz : Addr → Prop} {H : Hp} : ∀ {n m : Nat} {L : List It'}, Gd K B F0 io Fz H L → Gd K B F0 io Fz H (L ++ (List.replicate n Sl.no).zip (List.replicate m (none : Option V)))
  | 0, m, L, g => by simpa using g
  | n + 1, 0, L, g => by simpa using g
  | n + 1, m + 1, L, g => by
    rw [List.replicate_succ, List.replicate_succ, List.zip_cons_cons]
    exact (Gd.push (Gd.nos (n := n) (m := m) g) (p := (.no, none)) trivial rfl).perm List.perm_middle.symm
theorem fn_run {A : Around} {outer : List PySem.Env} {s : Shared} {H : Hp} {args : Args} {us : List Value} {vs : List V} {Q : VK} {E : XK} (F : FunD K x qual params body scope dvs kws f fd) (S : FnScope N ps scope)
    (room : Room (k + 1) A) (gd : A.guards = some []) (e0 : Env0 P w K mg base A outer s H) (binds : BindsTo s fd args (ps.zip us)) (rel : Vals vs us) (hsp : spD K ps.length (mfOf N.length sf) vs H Q E)
    (hbody : ∀ (cdv : Value), (∃ oc od osl, K.lookup f = some ⟨oc, od, .func fd, osl⟩ ∧ fd.code = cdv ∧ PySem.W.codeIn K cdv qual = true) → Room k (A.deeper (envOfC qual scope s.heap.objs.size f cdv)) → Kx (cxOf (L2.CX P w) P w K mg base N qual scope f cdv A outer s H E) (wE E) →
      SSs (cxOf (L2.CX P w) P w K mg base N qual scope f cdv A outer s H E) (wE E) body sf) : codeAny (model P w) A (.call (.ref f) args) (CR (L2.CX P w) outer P w H s Q E) s := by
  obtain ⟨lv, ss, Fz, io, ls, g0, hq⟩ := hsp
  obtain ⟨oc, od, dV, kV, doc, pm, an, cdv, ct, osl, rfl, lk, hcd, _, _⟩ := F.ex
  refine run_ofS (Q := Q) (vs := vs) lk hcd S room e0 binds rel lv fun room' => ?_
  have hb := hbody cdv ⟨_, _, _, lk, rfl, hcd⟩ room' (kx_of S.nd room' gd)
  have hps : ps.length ≤ N.length := by
    have z := congrArg List.length S.pre
    rw [List.length_take] at z
    omega
  have k0 : OK K ⟨H, Fz, io, []⟩ Fz H (ss ++ List.replicate (N.length - ss.length) .no) (L2.start N vs) := by
    refine ⟨?_, ?_⟩
    · show Gd K H Fz io Fz H ((ss ++ List.replicate (N.length - ss.length) Sl.no).zip (L2.start N vs))
      rw [start_zip (by omega)]
      exact g0.nos
    · unfold L2.start
      simp
      omega
  have h0 : EndS (wE E) K ⟨H, Fz, io, []⟩ { nx := fun _ H' => Q .non H', rt := Q } (sf (ss ++ List.replicate (N.length - ss.length) .no)) := by
    unfold mfOf at hq
    cases hf : sf (ss ++ List.replicate (N.length - ss.length) .no) with
    | nx E' =>
      rw [hf] at hq
      intro σ' H' Fz' k'
      exact hq.2 _ H' Fz' ((k'.lentEnd).dat rfl)
    | rt r E' =>
      rw [hf] at hq
      dsimp only at hq
      intro v σ' H' Fz' k'
      split at hq
      · exact hq.2 _ H' Fz' k'.lentEnd1
      · exact hq.elim
    | exc y E' =>
      rw [hf] at hq
      intro σ' cls d H' Fz' k' rx
      exact hq cls d H' Fz' k'.lentEnd rx
    | bk E' => rw [hf] at hq; exact hq.elim
    | ct E' => rw [hf] at hq; exact hq.elim
    | bad => rw [hf] at hq; exact hq.elim
  exact ⟨_, hb, _, _, _, k0, h0⟩
theorem fnG_ofC (F : FunD K x qual params body scope dvs kws f fd) (S : FnScope N ps scope)
    (hbody : ∀ (cdv : Value) (A : Around) (outer : List PySem.Env) (s : Shared) (H : Hp) (E : XK), (∃ oc od osl, K.lookup f = some ⟨oc, od, .func fd, osl⟩ ∧ fd.code = cdv ∧ PySem.W.codeIn K cdv qual = true) → Room k (A.deeper (envOfC qual scope s.heap.objs.size f cdv)) → Kx (cxOf (L2.CX P w) P w K mg base N qual scope f cdv A outer s H E) (wE E) →
      SSs (cxOf (L2.CX P w) P w K mg base N qual scope f cdv A outer s H E) (wE E) body sf) : FnG P w K mg base (k + 1) f fd ps (mfOf N.length sf) :=
  ⟨fun A outer s H args us vs Q E room gd e0 binds rel hsp => fn_run F S room gd e0 binds rel hsp fun cdv hc r kx => hbody cdv A outer s H E hc r kx⟩
theorem fnG_of (F : FunD K x qual params body scope dvs kws f fd) (S : FnScope N ps scope)
    (hbody : ∀ (cdv : Value) (A : Around) (outer : List PySem.Env) (s : Shared) (H : Hp) (E : XK), Room k (A.deeper (envOfC qual scope s.heap.objs.size f cdv)) → Kx (cxOf (L2.CX P w) P w K mg base N qual scope f cdv A outer s H E) (wE E) →
      SSs (cxOf (L2.CX P w) P w K mg base N qual scope f cdv A outer s H E) (wE E) body sf) : FnG P w K mg base (k + 1) f fd ps (mfOf N.length sf) :=
  fnG_ofC F S fun cdv A outer s H E _ hr kx => hbody cdv A outer s H E hr kx
/-! ### calls -/
variable {X : Cx} {W : WX}
theorem run_fnG {pins : List (Addr × Obj)} {σ : L2.St} {H : Hp} {s : Shared} {Q : VK} {args : Args} {us : List Value} {vs : List V} {mf : CF} (F : FnG X.prog X.w X.K X.mg X.base k f fd ps mf) (hr : Room k X.A) (tk : Takes X W) (hg : X.A.guards = some []) (hb : BindsTo s fd args (ps.zip us))
    (I : Inv X pins σ H s) (r : Vals vs us) (h : spD X.K ps.length mf vs H Q (WE W σ)) : codeAny (model X.prog X.w) X.A (.call (.ref f) args) (fun r s' => match r with
      | .ok (.ret u) => EP X pins σ Q u s'
      | .ok _ => False
      | .error e => X.xe e s') s := by
  refine codeAny_mono (F.run X.A X.stack s H args us vs Q (WE W σ) hr hg I.env0 hb r h) fun res s' z => ?_
  cases res with
  | error e => exact passAt tk σ pins H s e s' I z
  | ok fl => cases fl with
    | ret u => exact I.after z
    | next => exact z.elim
    | brk => exact z.elim
    | cont => exact z.elim
end
/-- a function as a call sees it: the function, its binding, the defaults behind the written arguments -/
structure Fun (X : Cx) (x : Str) (n : Nat) (dd : List D) (mf : CF) : Prop where
  ex : ∃ (k : Nat) (f : Addr) (fd : FuncData) (ps : List Str) (ds : List Value) (dvs : List V), FnG X.prog X.w X.K X.mg X.base k f fd ps mf ∧ Room k X.A ∧ Gl X x ∧ X.mg x = some (.ref f) ∧ PySem.W.keepIn X.K (.ref f) = true ∧ Binds X.K fd ps ds ∧ Vals dvs ds ∧
    (∀ Fz H, RpL X.K Fz H dd dvs) ∧ ps.length = n ∧ (x == ("__debug__" : Str)) = false
section
variable {X : Cx} {W : WX} {x : Str} {n : Nat} {dd : List D} {mf : CF} {p pos : Pos} {e : Expr} {es : List Expr} {g : AF}
def tFn (K : PySem.W.Frag) (W : WX) (n : Nat) (dd : List D) (mf : CF) (t : TA) : TE := fun σ H Q => t σ H fun vs H1 => ∀ dvs, (∀ Fz H, RpL K Fz H dd dvs) → spD K n mf (vs ++ dvs) H1 Q (WE W σ)
theorem pe_fn {t : TA} (F : Fun X x n dd mf) (kx : Kx X W) (ha : PA X (e :: es) t) (he : starEach (e :: es) X.env = (false, eval e X.env) :: starEach es X.env := by rfl) (hpl : (backTo pos (starEach es X.env)).any (·.1) = false := by rfl) :
    PE X (.Call (.Name x p) (e :: es) [] pos) (tFn X.K W n dd mf t) := by
  obtain ⟨k, f, fd, ps, ds, dvs, FG, room, hg, hm, kp, hb, hd, hdd, rfl, hdb⟩ := F.ex
  refine ⟨fun pins s σ H Q I h => wpAny_Call_Name_kw (ld_glob I hg hm ?_ hdb)⟩
  refine PySem.W.callWith_K (h₀ := X.base) I.ok.mod.kin kp (thn (ha.run pos pins s σ H _ I h) fun us s1 ⟨vs, H1, I1, r, q⟩ => ⟨I1.kIn, ?_⟩) he hpl
  have q := q dvs hdd
  have r2 := r.append hd
  exact wpAny_call (run_fnG FG room kx.tk kx.hg (hb s1 us I1.kIn (by rw [← r2.length]; exact q.1)) I1 r2 q)
theorem pe_fn0 (F : Fun X x n dd mf) (kx : Kx X W) : PE X (.Call (.Name x p) [] [] pos) (tFn X.K W n dd mf tNil) := by
  obtain ⟨k, f, fd, ps, ds, dvs, FG, room, hg, hm, kp, hb, hd, hdd, rfl, hdb⟩ := F.ex
  refine ⟨fun pins s σ H Q I h => wpAny_Call_Name_kw (ld_glob I hg hm ?_ hdb)⟩
  have q := h dvs hdd
  exact PySem.W.callWith_K0 I.kIn kp (wpAny_call (run_fnG FG room kx.tk kx.hg (hb s [] I.kIn (by rw [List.nil_append, ← hd.length]; exact q.1)) I hd q))
def roE (E : Env) : RO → RR (Sl × Env)
  | .ok r _ => .ok (r, E)
  | .exc x _ => .exc x E
  | .bad => .bad
/-- f(..), nothing lent -/
def eFn (n : Nat) (dd : List D) (mf : CF) (g : AF) : EF := fun E => (g E).bind fun p => match frAll p.1 with
  | some ss => if ss.length + dd.length = n then roE p.2 (match mf (ss ++ dd.map .dat) with
    | .ok r l => if r.ret then .ok r l else .bad
    | o => o) else .bad
  | none => .bad
theorem Fr.app {K : PySem.W.Frag} {Fz : Addr → Prop} {H : Hp} : ∀ {ss : List Sl} {vs : List V} {dd : List D} {dvs : List V}, ss.length = vs.length → Fr K Fz H ss vs → RpL K Fz H dd dvs → Fr K Fz H (ss ++ dd.map .dat) (vs ++ dvs) := fun {ss vs dd dvs} hl f r p hp => by
  rw [List.map_append, List.zip_append (by simpa using hl)] at hp
  rcases List.mem_append.mp hp with z | z
  · exact f p z
  · obtain ⟨i, hi⟩ := List.getElem?_of_mem z
    obtain ⟨s, o⟩ := p
    rw [List.getElem?_zip_eq_some, List.getElem?_map, List.getElem?_map] at hi
    obtain ⟨h1, h2⟩ := hi
    cases hd : dd[i]? with
    | none => rw [hd] at h1; cases h1
    | some d =>
      rw [hd] at h1
      cases h1
      obtain ⟨v, hv, rv⟩ := r.get hd
      rw [hv] at h2
      cases h2
      exact ⟨⟨v, rfl, rv⟩, rfl, rfl⟩
theorem roQ_of {K : PySem.W.Frag} {G : Gh} {Fz : Addr → Prop} {H : Hp} {E : Env} {σ : L2.St} {Q : VK} {o : RO} (k : OK K G Fz H E σ) (h : EndE W K G σ Q (roE E (match o with
    | .ok r l => if r.ret then .ok r l else .bad
    | o => o))) : RoQ K Fz H [] Q (WE W σ) o := by
  cases o with
  | bad => exact h
  | exc x l =>
    intro cls d H' Fz' c rx
    have c' : Gd K H Fz [] Fz' H' [] := by
      cases l <;> exact c
    exact h cls d H' Fz' (k.afterX c') rx
  | ok r l =>
    dsimp only at h
    split at h
    · rename_i hr
      refine ⟨hr, fun v H' Fz' c => ?_⟩
      have c' : Gd K H Fz [] Fz' H' [(r, some v)] := by
        cases l <;> exact c
      exact h v H' Fz' (k.after c' hr)
    · exact h.elim
theorem tFn_of {G : Gh} {E : Env} {Fz : Addr → Prop} {H : Hp} {σ : L2.St} {Q : VK} (k : OK X.K G Fz H E σ) (h : EndE W X.K G σ Q (eFn n dd mf g E)) : tFn X.K W n dd mf (tA W X.K g) σ H Q := by
  refine tA_mono (tA_of k (EndE.bindA h)) fun vs H1 ⟨rs, E1, Fz1, hl, k1, h1⟩ dvs hdd => ?_
  cases hf : frAll rs with
  | none => simp only [hf] at h1; exact h1.elim
  | some ss =>
    simp only [hf] at h1
    split at h1
    · rename_i hn
      obtain ⟨Fz2, f2, k2, fr, hs⟩ := OK.frAll hl k1 hf
      have hl2 := (hdd Fz2 H1).len
      have fr2 := fr.app (by omega) (hdd Fz2 H1)
      refine ⟨by rw [List.length_append]; omega, _, Fz2, [], by rw [List.length_append, List.length_map]; exact hn, fr2.enter k2, roQ_of k2 h1⟩
    · exact h1.elim
theorem se_fn (F : Fun X x n dd mf) (kx : Kx X W) (ha : SA X W (e :: es) g) (he : starEach (e :: es) X.env = (false, eval e X.env) :: starEach es X.env := by rfl) (hpl : (backTo pos (starEach es X.env)).any (·.1) = false := by rfl) : SE X W (.Call (.Name x p) (e :: es) [] pos) (eFn n dd mf g) :=
  PE.imp (pe_fn F kx ha he hpl) fun σ H Q ⟨G, E, Fz, k, h⟩ => tFn_of k h
theorem se_fn0 (F : Fun X x n dd mf) (kx : Kx X W) : SE X W (.Call (.Name x p) [] [] pos) (eFn n dd mf aNil) :=
  PE.imp (pe_fn0 F kx) fun σ H Q ⟨G, E, Fz, k, h⟩ => by
    obtain ⟨G0, E0, Fz0, k0, h0⟩ : tFn X.K W n dd mf (tA W X.K aNil) σ H Q := tFn_of k h
    exact h0 [] H Fz0 rfl k0
end
end VL

/-! The value layer, 14: own lists and dicts that change; what is lent to a call. -/
namespace VL
open PySem PySem.Spec PyProof.Rows L2 RZ RT

section
variable {K : PySem.W.Frag} {G : Gh} {Fz : Addr → Prop} {H : Hp} {E : Env} {σ : L2.St} {s s0 : Sl} {a : Addr} {o o0 : HO} {i : Nat}
theorem OK.put (k : OK K (G.p s0 (.ref a)) Fz H E σ) (h0 : ownA (s0, some (.ref a)) = some a) (ha : H a = some o0) (hn : (∀ xs, o0 ≠ .tup xs) ∧ ¬ Std o0)
    (h : RS K Fz (upd H a o) G.io (s, some (.ref a))) (hs : ownA (s, some (.ref a)) = some a) : OK K (G.p s (.ref a)) Fz (upd H a o) E σ := ⟨Gd.put k.gd h0 ha hn h hs, k.lv⟩
theorem kp_put (nF : ¬ Fz a) (ha : H a = some o0) (hn : (∀ xs, o0 ≠ .tup xs) ∧ ¬ Std o0) : Kp Fz H (upd H a o) := fun b u e z => by
  by_cases hb : b = a
  · subst hb
    rw [ha] at e
    cases e
    rcases z with z | ⟨xs, z⟩ | z
    · exact absurd z nF
    · exact absurd z (hn.1 xs)
    · exact absurd z hn.2
  · rw [upd_ne hb]
    exact e
theorem OK.notFz (k : OK K (G.p s (.ref a)) Fz H E σ) (h : ownA (s, some (.ref a)) = some a) : ¬ Fz a := (k.gd.own _ List.mem_cons_self a h).1
/-- an item goes to the end of a name's own list -/
theorem OK.app {ds : List D} {d : D} {u : V} (k : OK K (G.p (.dat d) u) Fz H E σ) (h : E.at i = some (.ol ds)) : ∃ a xs, σ[i]? = some (some (.ref a)) ∧ H a = some (.lst xs) ∧ xs.length = ds.length ∧ OK K G Fz (upd H a (.lst (xs ++ [u]))) (E.st i (.ol (ds ++ [d]))) σ := by
  obtain ⟨v, hv, a, xs, e, ha, r⟩ := k.at h
  cases e
  refine ⟨a, xs, hv, ha, r.len.symm, ?_⟩
  have k2 := OK.addL (OK.swap (k.take (Env.at_some h).1 hv)) ha
  have k3 := k2.back hv
  rw [set_st] at k3
  exact k3
def putD (kvs : List (Key × D)) (k : Key) (d : D) : List (Key × D) := if (kvs.any fun kv => decide (kv.1 = k)) = true then kvs.map (fun kv => if kv.1 = k then (kv.1, d) else kv) else kvs ++ [(k, d)]
def getD (kvs : List (Key × D)) (k : Key) : Option D := (kvs.find? fun kv => decide (kv.1 = k)).map (·.2)
theorem RpK.any : ∀ {ds : List (Key × D)} {vs : List (Key × V)} (k : Key), RpK K Fz H ds vs → (ds.any fun kv => decide (kv.1 = k)) = vs.any fun kv => decide (kv.1 = k)
  | [], _, k, h => by rw [show _ = [] from h]; rfl
  | (x, d) :: ds, _, k, ⟨v, r, e, h1, h2⟩ => by
    subst e
    simp only [List.any_cons]
    rw [RpK.any k h2]
theorem RpK.map {d : D} {v : V} {k : Key} (hv : Rp K Fz H d v) : ∀ {ds : List (Key × D)} {vs : List (Key × V)}, RpK K Fz H ds vs → RpK K Fz H (ds.map fun kv => if kv.1 = k then (kv.1, d) else kv) (vs.map fun kv => if kv.1 = k then (kv.1, v) else kv)
  | [], _, h => by rw [show _ = [] from h]; rfl
  | (x, d') :: ds, _, ⟨v', r, e, h1, h2⟩ => by
    subst e
    simp only [List.map_cons]
    by_cases hx : x = k
    · rw [if_pos hx, if_pos hx]
      exact ⟨v, _, rfl, hv, RpK.map hv h2⟩
    · rw [if_neg hx, if_neg hx]
      exact ⟨v', _, rfl, h1, RpK.map hv h2⟩
theorem RpK.snoc {d : D} {v : V} {k : Key} (hv : Rp K Fz H d v) : ∀ {ds : List (Key × D)} {vs : List (Key × V)}, RpK K Fz H ds vs → RpK K Fz H (ds ++ [(k, d)]) (vs ++ [(k, v)])
  | [], _, h => by rw [show _ = [] from h]; exact ⟨v, [], rfl, hv, rfl⟩
  | (x, d') :: ds, _, ⟨v', r, e, h1, h2⟩ => by
    subst e
    exact ⟨v', _, rfl, h1, RpK.snoc hv h2⟩
theorem RpK.put {ds : List (Key × D)} {vs : List (Key × V)} {d : D} {v : V} (k : Key) (h : RpK K Fz H ds vs) (hv : Rp K Fz H d v) : RpK K Fz H (putD ds k d) (putK vs k v) := by
  unfold putD putK
  rw [h.any k]
  split
  · exact h.map hv
  · exact h.snoc hv
theorem RpK.get {k : Key} {d : D} : ∀ {ds : List (Key × D)} {vs : List (Key × V)}, RpK K Fz H ds vs → getD ds k = some d → ∃ v, valV vs k = some v ∧ Rp K Fz H d v
  | [], _, h, e => by cases e
  | (x, d') :: ds, _, ⟨v', r, e2, h1, h2⟩, e => by
    subst e2
    unfold getD at e
    by_cases hx : x = k
    · rw [List.find?_cons_of_pos (by simpa using hx)] at e
      cases e
      exact ⟨v', valV_pos hx, h1⟩
    · rw [List.find?_cons_of_neg (by simpa using hx)] at e
      rw [valV_neg hx]
      exact RpK.get h2 e
theorem RpK.len : ∀ {ds : List (Key × D)} {vs : List (Key × V)}, RpK K Fz H ds vs → ds.length = vs.length
  | [], _, h => by rw [show _ = [] from h]; rfl
  | (x, d') :: ds, _, ⟨v', r, e, h1, h2⟩ => by
    subst e
    simp [RpK.len h2]
/-- d[k] = v at a name's own dict -/
theorem OK.dput {kvs : List (Key × D)} {t : Option Nat} {d : D} {u : V} {key : Key} (k : OK K (G.p (.dat d) u) Fz H E σ) (h : E.at i = some (.od t kvs)) : ∃ a us, σ[i]? = some (some (.ref a)) ∧ H a = some (.dK us) ∧ us.length = kvs.length ∧ OK K G Fz (upd H a (.dK (putK us key u))) (E.st i (.od t (putD kvs key d))) σ := by
  have rd := k.datI
  obtain ⟨v, hv, a, us, e, ha, r, ht⟩ := k.at h
  cases e
  refine ⟨a, us, hv, ha, r.len.symm, ?_⟩
  have k1 := k.pop.take (Env.at_some h).1 hv
  have nF := k1.notFz rfl
  have hn : (∀ xs, HO.dK us ≠ .tup xs) ∧ ¬ Std (HO.dK us) := ⟨fun _ z => by (cases z), fun z => by (rcases z with ⟨_, _, z⟩ | ⟨_, z⟩ <;> cases z)⟩
  have kp := kp_put (o := .dK (putK us key u)) nF ha hn
  have k2 := k1.put (s := .od t (putD kvs key d)) (o := .dK (putK us key u)) rfl ha hn ⟨a, _, rfl, upd_same, (r.put key rd).keep kp (fun _ z => z), ht⟩ rfl
  have k3 := k2.back hv
  rw [set_st] at k3
  exact k3
end
def D.key? : D → Option Key
  | .int i => some (.inl i)
  | .str x => some (.inr x)
  | _ => none
theorem D.key_v {K : PySem.W.Frag} {Fz : Addr → Prop} {H : Hp} : ∀ {d : D} {k : Key} {v : V}, d.key? = some k → Rp K Fz H d v → v = kV k
  | .int i, _, _, h, r => by cases h; exact r
  | .str x, _, _, h, r => by cases h; exact r
  | .non, _, _, h, _ => by cases h
  | .bl _, _, _, h, _ => by cases h
  | .tup _, _, _, h, _ => by cases h
  | .lst _, _, _, h, _ => by cases h
  | .exc _ _ _, _, _, h, _ => by cases h
/-! ### xs.append(e), d[k], d[k] = e -/
def eApp (i : Nat) (f : EF) : EF := fun E => match E.at i with
  | some (.ol _) => (f E).bind fun p => match p.1.d? with
    | some d => match p.2.at i with
      | some (.ol ds) => if ds.length < SZ then .ok (.dat .non, p.2.st i (.ol (ds ++ [d]))) else .bad
      | _ => .bad
    | none => .bad
  | _ => .bad
def eDGet (i : Nat) (f : EF) : EF := fun E => match E.at i with
  | some (.od _ _) => (f E).bind fun p => match p.1 with
    | .dat d => match d.key? with
      | some k => match p.2.at i with
        | some (.od _ kvs) => match getD kvs k with
          | some v => .ok (.dat v, p.2)
          | none => .bad
        | _ => .bad
      | none => .bad
    | _ => .bad
  | _ => .bad
def sDPutV (i : Nat) (fv fk : EF) : SF := fun E => (fv E).fl fun q => match q.1.d? with
  | some v => match q.2.at i with
    | some (.od _ _) => (fk q.2).fl fun p => match p.1 with
      | .dat d => match d.key? with
        | some k => match p.2.at i with
          | some (.od t kvs) => if kvs.length < SZ then .nx (p.2.st i (.od t (putD kvs k v))) else .bad
          | _ => .bad
        | none => .bad
      | _ => .bad
    | _ => .bad
  | none => .bad
section
variable {X : Cx} {W : WX} {i : Nat} {x : Str} {xpos apos cpos pos : Pos} {e ie : Expr} {f fk : EF}
theorem se_append (kx : Kx X W) (hN : X.N[i]? = some x) (hv : Vis X.env.scope x) (he : SE X W e f) (hd : (x == ("__debug__" : Str)) = false := by decide) (hcd : (x == ("__classdict__" : Str)) = false := by decide)
    (hbase : attributeBase (.Name x xpos) "append" X.env (eval (.Name x xpos) X.env) = eval (.Name x xpos) X.env := by rfl)
    (hfew : ((backTo cpos (starEach [e] X.env)).all (fun x => !x.1) && (backToKw cpos (keywordEach [] X.env)).all (fun x => x.1.isSome)
      && decide (([e] : List Expr).length + ([] : List Keyword).length + (if ([] : List Keyword).isEmpty then 0 else 1) < 30)) = true := by rfl)
    (hline : (apos.endLine == cpos.line) = true := by rfl) (hs : starEach [e] X.env = (false, eval e X.env) :: starEach [] X.env := by rfl) (hplain : (backTo cpos (starEach [] X.env)).any (·.1) = false := by rfl) :
    SE X W (.Call (.Attribute (.Name x xpos) "append" apos) [e] [] cpos) (eApp i f) :=
  PE.imp (pe_bm PySem.F.plainAttrs_list PySem.F.slot_list_append PySem.F.type_list_append mt_append (pe_var hN hv hd hcd) (pa_cons he pa_nil hs) hbase hfew hline hs hplain) fun σ H Q ⟨G, E, Fz, k, h⟩ => by
    unfold eApp at h
    cases h0 : E.at i with
    | none => rw [h0] at h; exact h.elim
    | some s0 =>
      rw [h0] at h
      cases s0 with
      | ol ds0 =>
        obtain ⟨v, hv, a, xs, ev, ha, r⟩ := k.at h0
        cases ev
        refine ⟨_, hv, .inl ⟨rfl, xs, .inl (.inl ha)⟩, ?_⟩
        refine tE_mono (tE_of k (EndE.bind h)) fun u H1 ⟨r1, E1, Fz1, k1, h1⟩ => ?_
        dsimp only at h1
        cases hd1 : r1.d? with
        | none => rw [hd1] at h1; exact h1.elim
        | some d =>
          rw [hd1] at h1
          obtain ⟨Fz2, k2⟩ := k1.d1 hd1
          cases h2 : E1.at i with
          | none => rw [h2] at h1; exact h1.elim
          | some s1 =>
            rw [h2] at h1
            cases s1 with
            | ol ds =>
              obtain ⟨a2, ys, hv2, ha2, hl, k3⟩ := k2.app h2
              rw [hv] at hv2
              cases hv2
              dsimp only at h1
              split at h1
              · rename_i hz
                exact ⟨_, ys, u, rfl, rfl, ha2, by rw [hl, ← SZ_eq]; exact hz, h1 .non _ _ (k3.dat rfl)⟩
              · exact h1.elim
            | _ => exact h1.elim
      | _ => exact h.elim
theorem se_dget (kx : Kx X W) (hN : X.N[i]? = some x) (hv : Vis X.env.scope x) (he : SE X W ie f) (hs : NoSl ie := by intro _ _; rfl) (hd : (x == ("__debug__" : Str)) = false := by decide) (hcd : (x == ("__classdict__" : Str)) = false := by decide) : SE X W (.Subscript (.Name x xpos) ie pos) (eDGet i f) :=
  PE.imp (pe_dget (by have := kx.hu; omega) (pe_var hN hv hd hcd) he hs) fun σ H Q ⟨G, E, Fz, k, h⟩ => by
    unfold eDGet at h
    cases h0 : E.at i with
    | none => rw [h0] at h; exact h.elim
    | some s0 =>
      rw [h0] at h
      cases s0 with
      | od t0 kv0 =>
        obtain ⟨v, hv, a, xs, ev, ha, r, _⟩ := k.at h0
        cases ev
        refine ⟨_, hv, ?_⟩
        refine tE_mono (tE_of k (EndE.bind h)) fun u H1 ⟨r1, E1, Fz1, k1, h1⟩ => ?_
        dsimp only at h1
        cases r1 with
        | dat d =>
          dsimp only at h1
          cases hk : d.key? with
          | none => rw [hk] at h1; exact h1.elim
          | some key =>
            rw [hk] at h1
            dsimp only at h1
            cases h2 : E1.at i with
            | none => rw [h2] at h1; exact h1.elim
            | some s1 =>
              rw [h2] at h1
              cases s1 with
              | od t kvs =>
                obtain ⟨v2, hv2, a2, us, ev2, ha2, r2, _⟩ := k1.pop.at h2
                rw [hv] at hv2
                cases ev2
                cases hv2
                dsimp only at h1
                cases hg : getD kvs key with
                | none => rw [hg] at h1; exact h1.elim
                | some d2 =>
                  rw [hg] at h1
                  obtain ⟨w, hw, rw'⟩ := r2.get hg
                  refine ⟨_, w, rfl, ?_, h1 w _ _ (k1.pop.dat rw')⟩
                  rw [D.key_v hk k1.datI, ← hw]
                  exact .k ha2
              | _ => exact h1.elim
        | _ => exact h1.elim
      | _ => exact h.elim
theorem ss_dput {ve : Expr} {fv : EF} {pos' : Pos} (kx : Kx X W) (hN : X.N[i]? = some x) (hv : Vis X.env.scope x) (he : SE X W ie fk) (hval : SE X W ve fv) (hs : swapsWith ve (some (.Subscript (.Name x xpos) ie pos')) pos.line X.env = pure false := by rfl)
    (hd : (x == ("__debug__" : Str)) = false := by decide) (hcd : (x == ("__classdict__" : Str)) = false := by decide) : SS X W (.Assign [.Subscript (.Name x xpos) ie pos'] ve pos) (sDPutV i fv fk) :=
  PS.imp (ps_dput (by have := kx.hu; omega) (pe_var hN hv hd hcd) he hval hs) fun D' σ H ⟨G, E, Fz, k, h⟩ => by
    refine tE_mono (tE_of k (EndS.flE h σ)) fun u H1 ⟨r1, E1, Fz1, k1, h1⟩ => ?_
    dsimp only at h1
    cases hd1 : r1.d? with
    | none => rw [hd1] at h1; exact h1.elim
    | some dv =>
      rw [hd1] at h1
      obtain ⟨Fz2, k2⟩ := k1.d1 hd1
      dsimp only at h1
      cases h0 : E1.at i with
      | none => rw [h0] at h1; exact h1.elim
      | some s0 =>
        rw [h0] at h1
        cases s0 with
        | od t0 kv0 =>
          obtain ⟨v, hv', a, xs, ev, ha, r, _⟩ := k2.at h0
          cases ev
          refine ⟨_, hv', ?_⟩
          have h1 : EndS W X.K (G.p (.dat dv) u) D' ((fk E1).fl fun p => match p.1 with
            | .dat d => match d.key? with
              | some k => match p.2.at i with
                | some (.od t kvs) => if kvs.length < SZ then .nx (p.2.st i (.od t (putD kvs k dv))) else .bad
                | _ => .bad
              | none => .bad
            | _ => .bad) := EndS.w (T' := [(.dat dv, some u)]) h1
          refine tE_mono (tE_of k2 (EndS.flE h1 σ)) fun ku H2 ⟨r2, E2, Fz3, k3, h2⟩ => ?_
          dsimp only at h2
          cases r2 with
          | dat d =>
            dsimp only at h2
            cases hk : d.key? with
            | none => rw [hk] at h2; exact h2.elim
            | some key =>
              rw [hk] at h2
              dsimp only at h2
              cases h3 : E2.at i with
              | none => rw [h3] at h2; exact h2.elim
              | some s1 =>
                rw [h3] at h2
                cases s1 with
                | od t kvs =>
                  have ek := D.key_v hk k3.datI
                  obtain ⟨a2, us, hv2, ha2, hl, k4⟩ := (k3.pop.dat k3.pop.datI).dput (key := key) h3
                  rw [hv'] at hv2
                  cases hv2
                  dsimp only at h2
                  split at h2
                  · rename_i hz
                    refine ⟨_, _, rfl, by rw [ek]; exact .k ha2 (by rw [hl, ← SZ_eq]; exact hz), ?_⟩
                    exact h2 σ _ _ k4
                  · exact h2.elim
                | _ => exact h2.elim
          | _ => exact h2.elim
        | _ => exact h1.elim
end
end VL

/-! The value layer, 15: a dict lent to a call; dict displays. -/
namespace VL
open PySem PySem.Spec PyProof.Rows L2 RZ RT

def lentSt (E : Env) (i : Nat) (t : Option Nat) : Option (List (Key × D)) → Env
  | some kvs => E.st i (.od t kvs)
  | none => E
def roED (i : Nat) (t : Option Nat) (E : Env) : RO → RR (Sl × Env)
  | .ok r l => if r.ret then .ok (r, lentSt E i t l) else .bad
  | .exc x l => .exc x (lentSt E i t l)
  | .bad => .bad
/-- f(d, ..), the name d's own dict lent -/
def eFnD (i : Nat) (n : Nat) (dd : List D) (mf : CF) (g : AF) : EF := fun E => match E.at i with
  | some (.od t kvs) => (g (E.st i .no)).bind fun p => match frAll p.1 with
    | some ss => if ss.length + dd.length + 1 = n then roED i t p.2 (mf (.od (some 0) kvs :: (ss ++ dd.map .dat))) else .bad
    | none => .bad
  | _ => .bad
section
variable {X : Cx} {W : WX} {x x0 : Str} {n i : Nat} {dd : List D} {mf : CF} {p p0 pos : Pos} {es : List Expr} {g : AF}
theorem lentSt_ok {K : PySem.W.Frag} {G : Gh} {Fz : Addr → Prop} {H : Hp} {E : Env} {σ : L2.St} {t : Option Nat} {a : Addr} {l : Option (List (Key × D))} (k : OK K (G.lent t a l) Fz H E σ) (hv : σ[i]? = some (some (.ref a))) : OK K G Fz H (lentSt E i t l) σ := by
  cases l with
  | none => exact k
  | some kvs => exact OK.back (G := G) k hv
theorem lentSt_ok1 {K : PySem.W.Frag} {G : Gh} {Fz : Addr → Prop} {H : Hp} {E : Env} {σ : L2.St} {t : Option Nat} {a : Addr} {l : Option (List (Key × D))} {r : Sl} {v : V} (k : OK K ((G.lent t a l).p r v) Fz H E σ) (hv : σ[i]? = some (some (.ref a))) : OK K (G.p r v) Fz H (lentSt E i t l) σ := by
  cases l with
  | none => exact k
  | some kvs => exact OK.back (G := G.p r v) (OK.swap (G := G) k) hv
theorem roQ_ofD {K : PySem.W.Frag} {G : Gh} {Fz : Addr → Prop} {H : Hp} {E : Env} {σ : L2.St} {Q : VK} {o : RO} {t : Option Nat} {kvs : List (Key × D)} {a : Addr} (k : OK K (G.p (.od t kvs) (.ref a)) Fz H E σ) (hv : σ[i]? = some (some (.ref a))) (h : EndE W K G σ Q (roED i t E o)) : RoQ K Fz H [a] Q (WE W σ) o := by
  cases o with
  | bad => exact h
  | exc x l => exact fun cls d H' Fz' c rx => h cls d H' Fz' (lentSt_ok (k.afterDX c) hv) rx
  | ok r l =>
    have h : EndE W K G σ Q (if r.ret = true then .ok (r, lentSt E i t l) else .bad) := h
    split at h
    · rename_i hr
      exact ⟨hr, fun v H' Fz' c => h v H' Fz' (lentSt_ok1 (k.afterD c hr) hv)⟩
    · exact h.elim
theorem se_fnD (F : Fun X x n dd mf) (kx : Kx X W) (hN : X.N[i]? = some x0) (hv : Vis X.env.scope x0) (ha : SA X W es g) (hd : (x0 == ("__debug__" : Str)) = false := by decide) (hcd : (x0 == ("__classdict__" : Str)) = false := by decide)
    (he : starEach (.Name x0 p0 :: es) X.env = (false, eval (.Name x0 p0) X.env) :: starEach es X.env := by rfl) (hpl : (backTo pos (starEach es X.env)).any (·.1) = false := by rfl) : SE X W (.Call (.Name x p) (.Name x0 p0 :: es) [] pos) (eFnD i n dd mf g) :=
  PE.imp (pe_fn F kx (pa_cons (pe_var hN hv hd hcd) ha he) he hpl) fun σ H Q ⟨G, E, Fz, k, h⟩ => by
    unfold eFnD at h
    cases h0 : E.at i with
    | none => rw [h0] at h; exact h.elim
    | some s0 =>
      rw [h0] at h
      cases s0 with
      | od t kvs =>
        obtain ⟨v, hv', a, us, ev, ha', r, _⟩ := k.at h0
        cases ev
        have k1 := k.take (Env.at_some h0).1 hv'
        refine ⟨_, hv', G.p (.od t kvs) (.ref a), E.st i .no, Fz, k1, ?_⟩
        dsimp only at h
        cases hg : g (E.st i .no) with
        | bad => rw [hg] at h; exact h.elim
        | exc x' E' => rw [hg] at h; exact EndX.pop h
        | ok q =>
          rw [hg] at h
          intro vs H1 Fz1 hl k2 dvs hdd
          have h : EndE W X.K G σ Q (match frAll q.1 with
            | some ss => if ss.length + dd.length + 1 = n then roED i t q.2 (mf (.od (some 0) kvs :: (ss ++ dd.map .dat))) else .bad
            | none => .bad) := h
          cases hf : frAll q.1 with
          | none => rw [hf] at h; exact h.elim
          | some ss =>
            rw [hf] at h
            dsimp only at h
            split at h
            · rename_i hn
              obtain ⟨Fz2, f2, k3, fr, hs⟩ := OK.frAll hl k2 hf
              have hl2 := (hdd Fz2 H1).len
              have fr2 := fr.app (by omega) (hdd Fz2 H1)
              refine ⟨by rw [List.length_append, List.length_cons]; omega, _, Fz2, [a], ?_, Fr.enterD k3 fr2, roQ_ofD k3 hv' h⟩
              rw [List.length_cons, List.length_append, List.length_map]
              omega
            · exact h.elim
      | _ => exact h.elim
end
/-! ### {k: e, ..} -/
def mergeD (kvs more : List (Key × D)) : List (Key × D) := more.foldl (fun acc kv => putD acc kv.1 kv.2) kvs
def eDisp (ks : List Key) (g : AF) : EF := fun E => (g E).bind fun p => match dAll p.1 with
  | some ds => if ks.length ≤ 15 then .ok (.od none (mergeD [] (ks.zip ds)), p.2) else .bad
  | none => .bad
def SPs (X : Cx) (W : WX) (pos : Pos) (ks : List Key) (keys : List (Option Expr)) (values : List Expr) (g : AF) : Prop :=
  ∃ trs, PPs X pos keys values trs ∧ ∀ σ H Q, tA W X.K g σ H (fun vs H' => Q ((ks.map kV).zip vs) H') → tPairs trs σ H Q
section
variable {X : Cx} {W : WX} {pos p : Pos} {ks : List Key} {keys : List (Option Expr)} {values : List Expr} {e : Expr} {f : EF} {g : AF} {z : Str} {j : Nat}
theorem sps_nil : SPs X W pos [] [] [] aNil := ⟨[], pps_nil, fun σ H Q ⟨G, E, Fz, k, h⟩ => h [] H Fz rfl k⟩
theorem sps_cons (he : SE X W e f) (hr : SPs X W pos ks keys values g) : SPs X W pos (.inr z :: ks) (some (.Constant (.str z) j p) :: keys) (e :: values) (aCons f g) := by
  obtain ⟨trs, hp, ht⟩ := hr
  refine ⟨_, pps_cons pe_str he hp, fun σ H Q ⟨G, E, Fz, k, h⟩ => ?_⟩
  show tE W X.K f σ H fun y H2 => tPairs trs σ H2 fun ps H3 => Q ((.str z, y) :: ps) H3
  refine tE_mono (tE_of k (EndA.bindE h)) fun v H1 ⟨r, E1, Fz1, k1, h1⟩ => ht _ _ _ ?_
  refine tA_mono (tA_of (G := G.ps [r] [v]) k1 (EndA.bindA1 h1)) fun vs H2 ⟨rs, E2, Fz2, hl, k2, h2⟩ => ?_
  exact h2 (v :: vs) H2 Fz2 (by simpa using hl) k2
theorem RpK.zip {K : PySem.W.Frag} {Fz : Addr → Prop} {H : Hp} : ∀ (ks : List Key) {ds : List D} {vs : List V}, RpL K Fz H ds vs → RpK K Fz H (ks.zip ds) (ks.zip vs)
  | [], _, _, _ => by simp [RpK]
  | k :: ks, [], _, h => by rw [show _ = [] from h]; simp [RpK]
  | k :: ks, d :: ds, _, ⟨v, r, e, h1, h2⟩ => by
    subst e
    exact ⟨v, _, rfl, h1, RpK.zip ks h2⟩
theorem RpK.merge {K : PySem.W.Frag} {Fz : Addr → Prop} {H : Hp} : ∀ {more : List (Key × D)} {mv : List (Key × V)} {ds : List (Key × D)} {vs : List (Key × V)}, RpK K Fz H more mv → RpK K Fz H ds vs → RpK K Fz H (mergeD ds more) (mergeK vs mv)
  | [], _, _, _, h, r => by rw [show _ = [] from h]; exact r
  | (k, d) :: more, _, _, _, ⟨v, q, e, h1, h2⟩, r => by
    subst e
    exact RpK.merge (more := more) (mv := q) h2 (r.put k h1)
theorem zip_keys : ∀ (ks : List Key) (vs : List V), (ks.map kV).zip vs = (ks.zip vs).map fun kv => (kV kv.1, kv.2)
  | [], _ => rfl
  | k :: ks, [] => rfl
  | k :: ks, v :: vs => by
    simp only [List.map_cons, List.zip_cons_cons]
    rw [zip_keys ks vs]
theorem se_disp (h : SPs X W pos ks keys values g) (hall : keys.all (·.isSome) = true := by rfl) (hl : keys.length = values.length := by rfl) (h0 : keys ≠ [] := by exact List.cons_ne_nil _ _) (h15 : keys.length ≤ 15 := by decide) : SE X W (.Dict keys values pos) (eDisp ks g) := by
  obtain ⟨trs, hp, ht⟩ := h
  refine PE.imp (pe_disp hp hall hl h0 h15) fun σ H Q ⟨G, E, Fz, k, h⟩ a hn => ht _ _ _ ?_
  have k1 := k.newD (ds := []) (vs := []) hn rfl
  refine ⟨G.p (.od none []) (.ref a), E, Fz, k1, ?_⟩
  unfold eDisp at h
  cases hg : g E with
  | bad => rw [hg] at h; exact h.elim
  | exc x' E' => rw [hg] at h; exact EndX.pop h
  | ok q =>
    rw [hg] at h
    intro vs H1 Fz1 hl k2
    have h : EndE W X.K G σ Q (match dAll q.1 with
      | some ds => if ks.length ≤ 15 then .ok (.od none (mergeD [] (ks.zip ds)), q.2) else .bad
      | none => .bad) := h
    cases hd : dAll q.1 with
    | none => rw [hd] at h; exact h.elim
    | some ds =>
      rw [hd] at h
      dsimp only at h
      split at h
      · rename_i hk
        obtain ⟨Fz2, f2, k3, rl⟩ := OK.all hl k2 hd
        obtain ⟨b, us, eb, hb, ru, _⟩ := k3.top
        cases eb
        rw [show us = [] from ru] at hb
        have hn' : (∀ xs, HO.dK [] ≠ .tup xs) ∧ ¬ Std (HO.dK []) := ⟨fun _ z => by (cases z), fun z => by (rcases z with ⟨_, _, z⟩ | ⟨_, z⟩ <;> cases z)⟩
        have kp := kp_put (o := .dK (mergeK [] (ks.zip vs))) (k3.notFz rfl) hb hn'
        have rm : RpK X.K Fz2 H1 (mergeD [] (ks.zip ds)) (mergeK [] (ks.zip vs)) := RpK.merge (RpK.zip ks rl) rfl
        refine ⟨hb, ks.zip vs, zip_keys ks vs, by rw [List.length_zip]; omega, h _ _ _ (k3.put (s := .od none (mergeD [] (ks.zip ds))) rfl hb hn' ⟨a, _, rfl, upd_same, rm.keep kp (fun _ z => z), fun _ z => by cases z⟩ rfl)⟩
      · exact h.elim
end
end VL

/-! Exceptions of own classes over any built-in base, made with or without names at the arguments. -/
namespace PySem
namespace VX
open PySem.W PySem.Calls PyProof.Rows PySem.HandSPX
section
variable {M : Model} {prog : Program} {w : World} {A : Around} {E : Value → Shared → Prop} {R : Result → Shared → Prop} {h : Heap} {g : Array GenState} {d : Drawn} {t : Nat} {os : OsState}
variable {nm q : Str} {C N : Addr} {bs bm bmB : List Value} {hdct : Bool} {sn : List Str} {sub : List Value} {ab : Bool} {col : Option Bool} {dd : Option Addr} {k0 k1 k2 k3 k5 : Option Value} {B newId initId : String}
theorem look_call {kw : List (Str × Value)} {rest : List Value} {Q : Unit → Shared → Prop} (atC : h.get? C = some (excClassObj nm q C N bs bm hdct sn sub ab col dd k0 k1 k2 k3 k5 newId))
    (fin : Q () ⟨h, g, d, t, os⟩) : wpAny M A (checkBuiltinCall "type.__call__" ⟨.ref C :: rest, kw⟩) Q E ⟨h, g, d, t, os⟩ := by
  have l3 := tc_sub
  have tyC : (⟨h, g, d, t, os⟩ : Shared).TypeIs (.ref C) "type" := ⟨_, atC, rfl⟩
  simp only [checkBuiltinCall, tc_split, tc_kind]
  repeat (any_goals (first | assumption | with_reducible refine wpAny_map ?_ | with_reducible refine wpAny_onRaise ?_ | with_reducible refine wpAny_loadPart_at atC ?_ | wp_step))
variable (FB : ExcBaseFacts B newId initId bmB) (same : ∀ X : String, bm.contains (.type X) = bmB.contains (.type X))
include FB same

theorem look_new {kw : List (Str × Value)} {rest : List Value} {Q : Unit → Shared → Prop} (atC : h.get? C = some (excClassObj nm q C N bs bm hdct sn sub ab col dd k0 k1 k2 k3 k5 newId)) (fin : Q () ⟨h, g, d, t, os⟩) :
    wpAny M A (checkBuiltinCall newId ⟨.ref C :: rest, kw⟩) Q E ⟨h, g, d, t, os⟩ := by
  have isB : (Value.ref C :: bm).contains (.type B) = true := (List.contains_cons ..).trans (by rw [same, FB.hasB, Bool.or_true])
  have nostar := FB.noStar
  simp only [checkBuiltinCall, FB.newKind, FB.newSplit, FB.newRow]
  repeat (first | (refine wpAny_isSubtype_exc atC ?_; rw [isB]) | refine wpAny_loadPart_at atC ?_ | refine wpAny_madeBy_exc atC ?_ | refine wpAny_staticBase_exc atC ?_ | simp only [bne_self_eq_false, if_false, Bool.false_eq_true] | wp_step)
  exact fin
theorem make_new {kw : List (Str × Value)} {rest : List Value} (atC : h.get? C = some (excClassObj nm q C N bs bm hdct sn sub ab col dd k0 k1 k2 k3 k5 newId))
    (fin : R (.ok (.ret (.ref (h.objs.size + 1)))) ⟨(h.push (kdv_tup rest)).push (excO C h.objs.size), g, d, t, os⟩) (few : rest.length ≤ sizeLine) :
    codeAny (model prog w) A (.builtin newId ⟨.ref C :: rest, kw⟩) R ⟨h, g, d, t, os⟩ := by
  have ends := FB.ends
  have isB : (Value.ref C :: bm).contains (.type B) = true := (List.contains_cons ..).trans (by rw [same, FB.hasB, Bool.or_true])
  have isA : (Value.ref C :: bm).contains (.type "AttributeError") = false := (List.contains_cons ..).trans (by rw [same, FB.noAttr]; rfl)
  have isN : (Value.ref C :: bm).contains (.type "NameError") = false := (List.contains_cons ..).trans (by rw [same, FB.noName]; rfl)
  refine codeAny_builtinAt FB.entry ?_
  unfold Builtin.«BaseException.__new__»
  refine wpAt_bind ?_
  show wpAt _ _ _ (stack >>= _) _ _ _
  refine wpAt_bind (wpAt_stack fun p below => wpAt_of_wpAny ?_)
  wp_walk
  refine wpAt_of_wpAny ?_
  rw [FB.owner]
  repeat (first | with_reducible refine wpAny_loadPart_at atC ?_ | with_reducible refine wpAny_madeHere_exc FB.canon atC ?_ | (with_reducible refine wpAny_isSubtype_exc atC ?_; first | rw [isB] | rw [isN] | rw [isA]) | wp_step)
  show R _ _
  rw [Heap.size_push]
  exact fin
theorem type_made {kw : List (Str × Value)} {rest : List Value} {fI : Addr} {Q : Fin → Shared → Prop} (atC : h.get? C = some (excClassObj nm q C N bs bm hdct sn sub ab col dd k0 k1 k2 k3 k5 newId))
    (ini : W.Looks (model prog w) h (typeLookup (.ref C) "__init__") (some (.ref fI))) (bnd : ∀ self, W.Looks (model prog w) h (bindSpecial (.ref fI) self) (.ref fI, [self])) (few : rest.length ≤ sizeLine)
    (fin : codeAny (model prog w) A (.call (.ref fI) ⟨.ref (h.objs.size + 1) :: rest, kw⟩)
      (fun r s' => match r with | .ok (.ret v) => v = .none ∧ Q (.done (.ret (.ref (h.objs.size + 1)))) s' | .ok _ => False | .error e => E e s')
      ⟨(h.push (kdv_tup rest)).push (excO C h.objs.size), g, d, t, os⟩) :
    wpAny (model prog w) A (Builtin.«type.__call__» ⟨.ref C :: rest, kw⟩) Q E ⟨h, g, d, t, os⟩ := by
  repeat (first | with_reducible refine wpAny_madeBy_exc atC ?_ | with_reducible refine wpAny_loadPart_at atC ?_ | wp_step)
  refine codeAny_call_builtin_code (Code.quiet_builtin _ FB.quiet) (look_new FB same atC (make_new FB same atC ?_ few))
  show wpAny _ _ _ _ _ _
  have up : ∀ b o, h.get? b = some o → ((h.push (kdv_tup rest)).push (excO C h.objs.size)).get? b = some o := fun b o z => Heap.get?_push_of_some _ (Heap.get?_push_of_some _ z)
  have atC' := up _ _ atC
  have atE : ((h.push (kdv_tup rest)).push (excO C h.objs.size)).get? (h.objs.size + 1) = some (excO C h.objs.size) := by heap_get
  have own : (Value.ref C :: bm).contains (.ref C) = true := by simp
  have ini' := ini.keeps up
  have bnd' := (bnd (.ref (h.objs.size + 1))).keeps up
  unfold isInstance
  repeat (first | (with_reducible refine wpAny_isSubtype_exc atC' ?_; rw [own]) | with_reducible refine wpAny_loadPart_at atE ?_ | wp_step)
  show wpAny _ _ (typeLookup (.ref C) _) _ _ _
  refine ini'.at (wpAny_holding (wpAny_bind (bnd'.at (wpAny_bind (wpAny_call (codeAny_mono fin fun res s' z => ?_))))))
  rcases res with er | (v | _ | _ | _)
  · exact z
  all_goals first | exact z.elim | skip
  obtain ⟨rfl, z⟩ := z
  first
    | exact wpAny_pure (wpAny_pure z)
    | (wp_walk; exact z)
theorem call_cls {kw : List (Str × Value)} {rest : List Value} {fI : Addr} (atC : h.get? C = some (excClassObj nm q C N bs bm hdct sn sub ab col dd k0 k1 k2 k3 k5 newId))
    (ini : W.Looks (model prog w) h (typeLookup (.ref C) "__init__") (some (.ref fI))) (bnd : ∀ self, W.Looks (model prog w) h (bindSpecial (.ref fI) self) (.ref fI, [self])) (few : rest.length ≤ sizeLine)
    (fin : codeAny (model prog w) (A.under (.builtin "type.__call__" ⟨.ref C :: rest, kw⟩)) (.call (.ref fI) ⟨.ref (h.objs.size + 1) :: rest, kw⟩) (W.InitBack (h.objs.size + 1) R)
      ⟨(h.push (kdv_tup rest)).push (excO C h.objs.size), g, d, t, os⟩) :
    codeAny (model prog w) A (.call (.ref C) ⟨rest, kw⟩) R ⟨h, g, d, t, os⟩ := by
  have l1 := tc_lookup
  have l2 := tc_bind (.ref C)
  have tyC : (⟨h, g, d, t, os⟩ : Shared).TypeIs (.ref C) "type" := ⟨_, atC, rfl⟩
  refine codeAny_of_tree ?_
  show wpAny _ _ (callAny (.ref C) _) _ _ _
  repeat (any_goals (first | assumption | with_reducible refine wpAny_loadPart_at atC ?_ | wp_step))
  refine ⟨rfl, codeAny_call_builtin_at (Code.quiet_builtin _ (by decide +kernel)) entry_typeCall (look_call atC (type_made FB same atC ini bnd few (codeAny_mono fin fun res s' z => ?_)))⟩
  rcases res with er | (v | _ | _ | _)
  all_goals exact z
/-- the base's own __init__: the arguments are laid anew -/
theorem base_init {e t0 : Addr} {rest : List Value} (atC : h.get? C = some (excClassObj nm q C N bs bm hdct sn sub ab col dd k0 k1 k2 k3 k5 newId)) (atE : h.get? e = some (excO C t0)) (few : rest.length ≤ sizeLine)
    (fin : ∀ h', (∀ b o, b ≠ e → h.get? b = some o → h'.get? b = some o) → h'.get? h.objs.size = some (kdv_tup rest) → h'.get? e = some (excO C h.objs.size) → R (.ok (.ret .none)) ⟨h', g, d, t, os⟩) :
    codeAny (model prog w) A (.call (.builtin initId) ⟨.ref e :: rest, []⟩) R ⟨h, g, d, t, os⟩ := by
  refine codeAny_call_builtin FB.init.plain FB.initEntry (check_init_own FB same atC atE rfl ?_)
  wp_walk
  refine fin _ (fun b o ne z => ?_) ?_ ?_
  · exact (Heap.get?_update_other _ _ (Ne.symm ne)).trans (Heap.get?_push_of_some _ z)
  · exact (Heap.get?_update_other _ _ (Nat.ne_of_lt (Heap.lt_size atE))).trans (Heap.get?_push_size _ rfl)
  · rw [Heap.get?_update_self _ (Heap.get?_push_of_some _ atE) rfl]
    rfl
end
end VX
end PySem

namespace PySem
namespace VX
open PySem.W PySem.Calls PyProof.Rows PySem.HandSPX Builtin Builtin.ObjectAttr
section
variable {prog : Program} {w : World} {A : Around} {E : Value → Shared → Prop} {R : Result → Shared → Prop} {hp : Heap} {g : Array GenState} {d : Drawn} {t : Nat} {os : OsState}
/-- the first field of an exception of an own class -/
theorem put_first {K : W.Frag} {B : String} {bmB : List Value} {name : Str} {tk : Tok} {v : Value} {x C : Addr} {fv : Array Value} {cd : ClassData} (SF : StoreFacts B bmB "object.__setattr__" "object")
    (X : K.In hp) (atX : hp.get? x = some { cls := .ref C, data := .fields fv }) (hcd : W.clsIn K C = some cd) (hasD : cd.hasDict = true) (over : W.excOver K C bmB = true) (tkr : W.takerIn K C name = some none)
    (fin : ∀ h' tk' dx, (∀ b o, b ≠ x → hp.get? b = some o → h'.get? b = some o) → hp.objs.size ≤ dx → dx ≠ x → h'.get? x = some { cls := .ref C, dict := some dx, data := .fields fv } →
      h'.Ns1 dx (fun y => if y = name then some v else none) → R (.ok (.ret .none)) ⟨h', g, d, tk', os⟩) :
    codeAny (model prog w) A (.call (.builtin "object.__setattr__") ⟨[.ref x, .str name tk, v], []⟩) R ⟨hp, g, d, t, os⟩ := by
  have ne : x ≠ hp.objs.size := Nat.ne_of_lt (Heap.lt_size atX)
  have lc : W.Looks (model prog w) hp (classData C) cd := W.looks_clsIn X hcd
  refine W.osa_openX (s := ⟨hp, g, d, t, os⟩) (od := none) SF X ⟨atX, rfl, rfl, trivial⟩ over tkr fun b => ?_
  obtain ⟨nm, bs, mro, ns, qn, hd, sn, sb, ab, col, del⟩ := cd
  dsimp only at hasD
  subst hasD
  show wpAny _ _ (storeInOwnDict (.ref x) (.ref C) (.str name tk) name v b) _ _ _
  unfold storeInOwnDict ownDictForStores
  repeat (first | with_reducible refine wpAny_loadPart_at atX ?_ | with_reducible refine store_in_new ?_ ?_ | with_reducible refine lc.at ?_ | wp_step)
  · exact ⟨_, #[], _, (Heap.get?_update_ne _ _ _ _ (Ne.symm ne)).trans (Heap.get?_push_at rfl rfl), rfl, fun e he => absurd he (by simp), fun _ => rfl⟩
  · intro h' tk' nsd but
    have atX2 : (hp.push { cls := .type "dict", data := .dict #[] }).get? x = some { cls := .ref C, data := .fields fv } := Heap.get?_push_of_some _ atX
    exact fin h' tk' hp.objs.size (fun b o nb z => (but.2 b (Nat.ne_of_lt (Heap.lt_size z))).trans ((Heap.get?_update_ne _ _ _ _ nb).trans (Heap.get?_push_of_some _ z))) (Nat.le_refl _) (Ne.symm ne) ((but.2 x ne).trans (Heap.get?_update_self _ atX2 rfl)) nsd
end
end VX
end PySem

/-! The value layer: exceptions that are made. -/
namespace VL
open PySem PySem.Spec PyProof.Rows L2 RZ RT

/-- an exception that is being made: no fields as yet, its arguments at t -/
def ExI (a C t : Addr) : HO := .ext fun h => h.get? a = some ({ cls := .ref C, data := .fields #[.ref t, .none, .none, .none, .bool false, .none] } : Obj)
theorem exI_ok {P : Program} {w : World} {H : Hp} {h : Heap} {a C t : Addr} (e : h.get? a = some ({ cls := .ref C, data := .fields #[.ref t, .none, .none, .none, .bool false, .none] } : Obj)) : ObjOk P w H h a (ExI a C t) := ⟨e, ⟨_, e⟩, fun h1 h2 z k => k _ z⟩
theorem exR_ok {P : Program} {w : World} {H : Hp} {h : Heap} {a C dx t : Addr} (e : h.get? a = some ({ cls := .ref C, dict := some dx, data := .fields #[.ref t, .none, .none, .none, .bool false, .none] } : Obj)) : ObjOk P w H h a (ExR a C dx t) := ⟨e, ⟨_, e⟩, fun h1 h2 z k => k _ z⟩
theorem ext_at {P : Program} {w : World} {H : Hp} {h : Heap} {a : Addr} {φ : Heap → Prop} (ok : HOk P w H h) (e : H a = some (.ext φ)) : φ h := by
  have x : ObjOk P w H h a (.ext φ) := ok a _ e
  exact x.1
section
variable {X : Cx} {pins : List (Addr × Obj)} {σ : L2.St} {H : Hp} {s : Shared} {a n : Addr} {h' : Heap} {φ ψ : Heap → Prop} {o2 : HO}
/-- one object told by a sentence is changed, one is new -/
theorem Inv.two {t' : Nat} (I : Inv X pins σ H s) (e : H a = some (.ext φ)) (kp : ∀ b o, b ≠ a → s.heap.get? b = some o → h'.get? b = some o) (big : s.heap.objs.size ≤ n) (okA : ObjOk X.prog X.w (upd (upd H n o2) a (.ext ψ)) h' a (.ext ψ))
    (okN : ObjOk X.prog X.w (upd (upd H n o2) a (.ext ψ)) h' n o2) : Inv X pins σ (upd (upd H n o2) a (.ext ψ)) { s with heap := h', toks := t' } := by
  have nn : H n = none := I.hok.fresh big
  have ab : ∀ {b : Addr} {u : HO}, H b = some u → u ≠ .ext φ → b ≠ a := fun {b u} hb d z => by
    rw [z, e] at hb
    exact d (Option.some.inj hb).symm
  have nb : ∀ {b : Addr} {o : Obj}, s.heap.get? b = some o → b ≠ n := fun {b o} q => Nat.ne_of_lt (Nat.lt_of_lt_of_le (Heap.lt_size q) big)
  have na : ∀ {b : Addr}, H b = none → b ≠ a := fun {b} z y => by
    rw [y, e] at z
    cases z
  have to : ∀ {b : Addr} {u : HO}, H b = some u → u ≠ .ext φ → upd (upd H n o2) a (.ext ψ) b = some u := fun {b u} hb d => by
    rw [upd_ne (ab hb d), upd_ne (ne_of_none hb nn)]
    exact hb
  have un : Un X.fs [] H (upd (upd H n o2) a (.ext ψ)) s.heap h' := {
    keep := fun b o q z _ _ => kp b o (na z) q
    slot := fun b o q z _ _ => ⟨o.slots, kp b o (na z) q⟩
    free := fun b o q z _ => by rw [upd_ne (na z), upd_ne (nb q)]; exact z
    there := fun b o q _ => by
      by_cases hb : b = a
      · obtain ⟨_, ⟨u, hu⟩, _⟩ := okA
        exact ⟨u, by rw [hb]; exact hu⟩
      · exact ⟨o, kp b o hb q⟩
    tups := fun b xs q => to q fun z => by (cases z)
    frzs := fun b o v q => to q fun z => by (cases z)
    tbls := fun b ps q => ⟨#[], by rw [to q fun z => by (cases z)]; simp⟩ }
  refine I.un un fun b u q => ?_
  by_cases hb : b = a
  · subst hb
    rw [upd_same] at q
    cases q
    exact okA
  · rw [upd_ne hb] at q
    by_cases hn : b = n
    · subst hn
      rw [upd_same] at q
      cases q
      exact okN
    · rw [upd_ne hn] at q
      refine (I.hok b u q).stay (fun c v hc z => kp c v ?_ z) (fun c hc => to hc fun z => by (cases z)) (fun c xs hc => to hc fun z => by (cases z))
      rcases hc with hc | hc
      · rw [hc]
        exact hb
      · exact ab hc fun z => by (cases z)
end
/-! ### the own __init__ -/
/-- what the written part says of a class -/
structure ExK (K : PySem.W.Frag) (C : Addr) (f : Str) (B newId initId : String) (bmB : List Value) : Prop where
  base : PySem.ExcBaseFacts B newId initId bmB
  store : StoreFacts B bmB "object.__setattr__" "object"
  ini : PySem.W.excInitIn K C bmB newId = true
  over : PySem.W.excOver K C bmB = true
  hasD : ∃ cd, PySem.W.clsIn K C = some cd ∧ cd.hasDict = true
  sa : PySem.W.findIn K (.ref C) "__setattr__" = some (some (.builtin "object.__setattr__"))
  no : PySem.W.findIn K (.ref C) f = some none
/-- B.__init__ as it is looked up -/
def MthB (X : Cx) (b : Str) (initId : String) : Prop := ∀ (pins : List (Addr × Obj)) (s : Shared) (σ : L2.St) (H : Hp) (Q : Value × List Value → Shared → Prop) (pl : Sem Bool) (p1 : Pos), Inv X pins σ H s → (∀ t, Q (.builtin initId, []) { s with toks := t }) →
  wpAny (model X.prog X.w) X.A (eval (.Name b p1) X.env) (fun ov s1 => wpAny (model X.prog X.w) X.A (getMethod ov "__init__" pl) Q X.xe s1) X.xe s
section
variable {X : Cx} {pins : List (Addr × Obj)} {σ : L2.St} {H : Hp} {s : Shared} {a C t : Addr} {f : Str} {B newId initId : String} {bmB : List Value}
theorem mthB_type {b : Str} {T : String} (hg : Gl X b) (hm : X.mg b = none) (hv : bootBuiltins b = some (.type T)) (ht : typeOf (.type T) = pure (.type "type")) (hs : Manifest.isStub T = false)
    (e : PySem.W.findCls X.K (.type T) (.type "type") "__init__" = some (.val (.builtin initId))) (hh : PySem.W.handedIn (.builtin initId) = true) (hn : b ≠ "__name__" := by decide) (hdb : (b == ("__debug__" : Str)) = false := by decide) : MthB X b initId := fun pins s σ H Q pl p1 I h => by
  refine ld_blt I hg hm hv ?_ hn hdb
  obtain ⟨m, fr⟩ := I.fr
  exact PySem.W.method_type fr I.ok.mod.kin ht hs e hh (h _)
theorem mthB_own {b : Str} {R : Addr} {mc : Value} (hg : Gl X b) (hm : X.mg b = some (.ref R)) (sp : PySem.W.specialIn X.K (.ref R) "__getattribute__" = some (some (.builtin "type.__getattribute__"))) (ty : PySem.W.typeIn X.K (.ref R) = some mc) (rd : PySem.W.readsIn X.K R mc = true)
    (e : PySem.W.findCls X.K (.ref R) mc "__init__" = some (.val (.builtin initId))) (hh : PySem.W.handedIn (.builtin initId) = true) (hdb : (b == ("__debug__" : Str)) = false := by decide) : MthB X b initId := fun pins s σ H Q pl p1 I h => by
  refine ld_glob I hg hm ?_ hdb
  obtain ⟨m, fr⟩ := I.fr
  exact PySem.W.method_of_cls fr I.ok.mod.kin sp (PySem.W.cls_val fr I.ok.mod.kin ty rd e hh (h _))
/-- the base's __init__ called -/
theorem step_init {u : Value} {m : Str} {t0 : Addr} {Q : Value → Shared → Prop} {E : Value → Shared → Prop} {A : Around} (T : ExK X.K C f B newId initId bmB) (I : Inv X pins σ H s) (e : H a = some (ExI a C t0)) (r : RelV (.str m) u)
    (h : ∀ t s', H t = none → Inv X pins σ (upd (upd H t (.tup [.str m])) a (ExI a C t)) s' → Q .none s') : wpAny (model X.prog X.w) A (call (.builtin initId) [.ref a, u]) Q E s := by
  obtain ⟨nm, N, qn, bs, bm, hdct, sn, sub, ab, col, dd, k0, k1, k2, k3, k5, atC, same⟩ := PySem.W.excInit_of I.kIn T.ini
  have he := ext_at I.hok e
  obtain ⟨hp, g, d, tk, os⟩ := s
  refine wpAny_call (PySem.VX.base_init T.base same atC he (by show 1 ≤ sizeLine; rw [sizeLine_eq]; decide) fun h' kp tup exA => ?_)
  refine h hp.objs.size _ (I.hok.fresh (Nat.le_refl _)) (Inv.two (t' := tk) I e kp (Nat.le_refl _) (exI_ok exA) ?_)
  exact ⟨by show 1 ≤ sizeLine; rw [sizeLine_eq]; decide, [u], .cons r .nil, ⟨_, tup, rfl, _, rfl⟩⟩
/-- the field is stored -/
theorem step_store {u : Value} {y : V} {Q : Unit → Shared → Prop} {E : Value → Shared → Prop} {A : Around} (T : ExK X.K C f B newId initId bmB) (I : Inv X pins σ H s) (e : H a = some (ExI a C t)) (r : RelV y u)
    (h : ∀ dx s', H dx = none → dx ≠ a → Inv X pins σ (upd (upd H dx (.xd [(f, y)])) a (ExR a C dx t)) s' → Q () s') : wpAny (model X.prog X.w) A (setAttr (.ref a) f u) Q E s := by
  obtain ⟨cd, hcd, hh⟩ := T.hasD
  have he := ext_at I.hok e
  obtain ⟨hp, g, d, tk, os⟩ := s
  refine PySem.W.set_plain I.kIn (ox := { cls := .ref C, data := .fields #[.ref t, .none, .none, .none, .bool false, .none] }) (od := none) ⟨he, rfl, rfl, trivial⟩ T.sa ?_
  refine PySem.VX.put_first T.store I.kIn he hcd hh T.over (by unfold PySem.W.takerIn; rw [T.no]; rfl) fun h' tk' dx kp big ne exA nsd => ?_
  refine h dx _ (I.hok.fresh big) ne (Inv.two (t' := tk') I e kp big (exR_ok exA) ?_)
  exact ⟨_, nsd, relO_put (fs := []) r fun g => True.intro⟩
end
end VL

/-! The value layer: an own exception class's __init__, and C(..) as a value. -/
namespace VL
open PySem PySem.Spec PyProof.Rows L2 RZ RT

/-- __init__(self, y): the base's __init__ with the text m, then self.f = y -/
def spInit (K : PySem.W.Frag) (C : Addr) (f m : Str) : Sp := fun vs H Q _ => ∃ (a : Addr) (y : V) (t0 : Addr), vs = [.ref a, y] ∧ H a = some (ExI a C t0) ∧
  ∀ t dx, H t = none → t ≠ a → H dx = none → dx ≠ a → dx ≠ t → Q .non (upd (upd (upd H t (.tup [.str m])) dx (.xd [(f, y)])) a (ExR a C dx t))
section
variable {X : Cx} {C : Addr} {f m b : Str} {B newId initId : String} {bmB : List Value} {x0 x1 : Str} {p p1 p2 p3 p4 pos : Pos} {j : Nat}
theorem ps_binit (M : MthB X b initId) (T : ExK X.K C f B newId initId bmB) (h0 : X.N[0]? = some x0) (v0 : Vis X.env.scope x0) (hd : (x0 == ("__debug__" : Str)) = false := by decide) (hcd : (x0 == ("__classdict__" : Str)) = false := by decide)
    (hc : ∃ pl, eval (.Call (.Attribute (.Name b p1) "__init__" p2) [.Name x0 p3, .Constant (.str m) j p4] [] pos) X.env = (do
      let ov ← eval (.Name b p1) X.env
      standAt p2.atName
      let (f, first) ← holding [ov] (getMethod ov "__init__" pl)
      callWith pos f first (backTo pos (starEach [.Name x0 p3, .Constant (.str m) j p4] X.env)) (backToKw pos (keywordEach [] X.env))) := by exact ⟨_, rfl⟩)
    (he : starEach [.Name x0 p3, .Constant (.str m) j p4] X.env = (false, eval (.Name x0 p3) X.env) :: starEach [.Constant (.str m) j p4] X.env := by rfl)
    (he2 : starEach [.Constant (.str m) j p4] X.env = (false, eval (.Constant (.str m) j p4) X.env) :: starEach [] X.env := by rfl) (hpl : (backTo pos (starEach [.Constant (.str m) j p4] X.env)).any (·.1) = false := by rfl)
    (hsw : swapsWith (.Call (.Attribute (.Name b p1) "__init__" p2) [.Name x0 p3, .Constant (.str m) j p4] [] pos) none p.line X.env = pure false := by rfl) :
    PS X (.Expr (.Call (.Attribute (.Name b p1) "__init__" p2) [.Name x0 p3, .Constant (.str m) j p4] [] pos) p) (fun D σ H => ∃ a t0, σ[0]? = some (some (.ref a)) ∧ H a = some (ExI a C t0) ∧ ∀ t, H t = none → D.nx σ (upd (upd H t (.tup [.str m])) a (ExI a C t))) := by
  have pe : PE X (.Call (.Attribute (.Name b p1) "__init__" p2) [.Name x0 p3, .Constant (.str m) j p4] [] pos) (fun σ H Q => ∃ a t0, σ[0]? = some (some (.ref a)) ∧ H a = some (ExI a C t0) ∧ ∀ t, H t = none → Q .non (upd (upd H t (.tup [.str m])) a (ExI a C t))) := by
    refine ⟨fun pins s σ H Q I ⟨a, t0, e0, ea, q⟩ => ?_⟩
    obtain ⟨pl, hc⟩ := hc
    have ha := pa_cons (pe_var h0 v0 hd hcd) (pa_cons (pe_str (X := X) (x := m) (j := j) (pos := p4)) pa_nil he2) he
    refine PySem.W.methodCall_KW (M pins s σ H _ pl p1 I fun t => ?_) hc
    refine PyProof.Rows.callWith_method1 (thn (ha.run pos pins _ σ H (fun vs H1 => vs = [.ref a, .str m] ∧ H1 = H) (I.tok _) ⟨_, e0, rfl, rfl⟩) fun us s1 ⟨vs, H1, I1, r1, e1, e2⟩ => ?_) he hpl
    subst e1 e2
    obtain ⟨u0, u1, rfl, r0, rm⟩ := r1.two
    obtain rfl : u0 = Value.ref a := r0
    exact step_init T I1 ea rm fun t s' ht J => ⟨.non, _, J, rfl, q t ht⟩
  exact PS.imp (ps_expr pe hsw) fun D σ H h => h
theorem ps_bstore (T : ExK X.K C f B newId initId bmB) (h0 : X.N[0]? = some x0) (v0 : Vis X.env.scope x0) (h1 : X.N[1]? = some x1) (v1 : Vis X.env.scope x1) (hd : (x0 == ("__debug__" : Str)) = false := by decide) (hcd : (x0 == ("__classdict__" : Str)) = false := by decide)
    (hd1 : (x1 == ("__debug__" : Str)) = false := by decide) (hcd1 : (x1 == ("__classdict__" : Str)) = false := by decide) (hs : swapsWith (.Name x1 p1) (some (.Attribute (.Name x0 p2) f p3)) pos.line X.env = pure false := by rfl) :
    PS X (.Assign [.Attribute (.Name x0 p2) f p3] (.Name x1 p1) pos) (fun D σ H => ∃ a y t, σ[0]? = some (some (.ref a)) ∧ σ[1]? = some (some y) ∧ H a = some (ExI a C t) ∧ ∀ dx, H dx = none → dx ≠ a → D.nx σ (upd (upd H dx (.xd [(f, y)])) a (ExR a C dx t))) := by
  refine ⟨fun pins s σ H D I ⟨a, y, t, e0, e1, ea, q⟩ => ?_⟩
  refine plainObj_wpAny_Assign_Attribute (thn ((pe_var h1 v1 hd1 hcd1).run pins s σ H (fun v H1 => v = y ∧ H1 = H) I ⟨_, e1, rfl, rfl⟩) fun v s1 ⟨y', H1, I1, r1, z1, z2⟩ => thn ((pe_var h0 v0 hd hcd).run pins s1 σ H1 (fun v H2 => v = .ref a ∧ H2 = H) I1 ⟨_, e0, rfl, z2⟩) fun u s2 ⟨x', H2, I2, r2, z3, z4⟩ => ?_) hs
  subst z1 z2 z3 z4
  obtain rfl : u = Value.ref a := r2
  exact step_store T I2 ea r1 fun dx s' n ne J => ⟨σ, _, J, q dx n ne⟩
end
section
variable {P : Program} {w : World} {K : PySem.W.Frag} {mg : Str → Option Value} {base : Heap} {CX : CXT} {qual : Str} {params : Arguments} {scope : Scope} {dvs : List V} {kws : List (Str × V)} {fI : Addr} {fd : FuncData} {k : Nat} {C : Addr} {f m b : Str} {B newId initId : String} {bmB : List Value} {p p1 p2 p3 p4 p5 p6 p7 pos pos2 : Pos} {j : Nat}
theorem upd_upd_same {H : Hp} {a : Addr} {o o' : HO} : upd (upd H a o) a o' = upd H a o' := by
  funext c
  by_cases h : c = a
  · rw [h, upd_same, upd_same]
  · rw [upd_ne h, upd_ne h, upd_ne h]
theorem upd_comm' {H : Hp} {a c : Addr} {o o' : HO} (h : a ≠ c) : upd (upd H a o) c o' = upd (upd H c o') a o := by
  funext x
  by_cases h1 : x = c
  · subst h1
    rw [upd_same, upd_ne (Ne.symm h), upd_same]
  · rw [upd_ne h1]
    by_cases h2 : x = a
    · subst h2
      rw [upd_same, upd_same]
    · rw [upd_ne h2, upd_ne h2, upd_ne h1]
theorem init_ok (F : FunD K "__init__" qual params [.Expr (.Call (.Attribute (.Name b p1) "__init__" p2) [.Name "self" p3, .Constant (.str m) j p4] [] pos) p, .Assign [.Attribute (.Name "self" p5) f p6] (.Name f p7) pos2] scope dvs kws fI fd)
    (S : FnScope ["self", f] ["self", f] scope) (T : ExK K C f B newId initId bmB) (M : ∀ (X : Cx), X.K = K → X.mg = mg → X.env.scope = scope → X.env.globals = mainGlobals → MthB X b initId)
    (hc : ∀ env : PySem.Env, ∃ pl, eval (.Call (.Attribute (.Name b p1) "__init__" p2) [.Name "self" p3, .Constant (.str m) j p4] [] pos) env = (do
      let ov ← eval (.Name b p1) env
      standAt p2.atName
      let (f, first) ← holding [ov] (getMethod ov "__init__" pl)
      callWith pos f first (backTo pos (starEach [.Name "self" p3, .Constant (.str m) j p4] env)) (backToKw pos (keywordEach [] env)))) (v0 : Vis scope "self") (v1 : Vis scope f) (hd1 : (f == ("__debug__" : Str)) = false) (hcd1 : (f == ("__classdict__" : Str)) = false) :
    FnOk P w K mg base CX (k + 1) fI fd ["self", f] (spInit K C f m) := by
  refine F.ok S (fun vs H Q E ⟨a, y, t0, e, _⟩ => by rw [e]; rfl) fun cdv A outer s H vs Q E hr ⟨a, y, t0, e, ea, q⟩ => ?_
  subst e
  refine ⟨_, pss_cons (ps_binit (M _ rfl rfl rfl rfl) T rfl v0 (by decide) (by decide) (hc _)) (pss_cons (ps_bstore T rfl v0 rfl v1 (by decide) (by decide) hd1 hcd1) pss_nil), ?_⟩
  refine ⟨a, t0, rfl, ea, fun t ht => ⟨a, y, t, rfl, rfl, upd_same, fun dx hdx ne => ?_⟩⟩
  have ta : t ≠ a := fun z => by
    rw [z, ea] at ht
    cases ht
  have hdx' : dx ≠ t ∧ H dx = none := by
    rw [upd_ne ne] at hdx
    by_cases z : dx = t
    · rw [z, upd_same] at hdx
      cases hdx
    · rw [upd_ne z] at hdx
      exact ⟨z, hdx⟩
  have h := q t dx ht ta hdx'.2 ne hdx'.1
  have e2 : upd (upd (upd (upd H t (.tup [.str m])) a (ExI a C t)) dx (.xd [(f, y)])) a (ExR a C dx t) = upd (upd (upd H t (.tup [.str m])) dx (.xd [(f, y)])) a (ExR a C dx t) := by
    rw [upd_comm' (Ne.symm ne), upd_upd_same]
  show Q .non (upd (upd (upd (upd H t (.tup [.str m])) a (ExI a C t)) dx (.xd [(f, y)])) a (ExR a C dx t))
  rw [e2]
  exact h
end
end VL

/-! The value layer: C(..) as a value. -/
namespace VL
open PySem PySem.Spec PyProof.Rows L2 RZ RT

/-- the heap with a new exception -/
abbrev excH (H : Hp) (C a t dx : Addr) (f m : Str) (y : V) : Hp := upd (upd (upd H t (.tup [.str m])) dx (.xd [(f, y)])) a (ExR a C dx t)
def MkQ (H : Hp) (C : Addr) (f m : Str) (y : V) (Q : VK) : Prop := ∀ a t dx, H a = none → H t = none → H dx = none → t ≠ a → dx ≠ a → dx ≠ t → Q (.ref a) (excH H C a t dx f m y)
section
variable {X : Cx} {pins : List (Addr × Obj)} {σ : L2.St} {H : Hp} {s : Shared} {C fI : Addr} {f m : Str} {B newId initId : String} {bmB : List Value} {k : Nat} {fd : FuncData}
theorem run_mk {us : List Value} {kw : List (Str × Value)} {uy : Value} {y : V} {Q : VK} (I : Inv X pins σ H s) (T : ExK X.K C f B newId initId bmB) (iC : PySem.W.findIn X.K (.ref C) "__init__" = some (some (.ref fI))) (tI : PySem.W.typeIn X.K (.ref fI) = some (.type "function"))
    (F : FnOk X.prog X.w X.K X.mg X.base (L2.CX X.prog X.w) k fI fd ["self", f] (spInit X.K C f m)) (hr : Room (k + 1) X.A) (few : us.length ≤ 1000) (bnd : ∀ (self : Value) (s2 : Shared), X.K.In s2.heap → BindsTo s2 fd ⟨self :: us, kw⟩ ((["self", f] : List Str).zip [self, uy])) (ry : RelV y uy)
    (q : MkQ H C f m y Q) : wpAny (model X.prog X.w) X.A (call (.ref C) us kw) (EP X pins σ Q) X.xe s := by
  obtain ⟨nm, N, qn, bs, bm, hdct, sn, sub, ab, col, dd, k0, k1, k2, k3, k5, atC, same⟩ := PySem.W.excInit_of I.kIn T.ini
  have kI := I.kIn
  obtain ⟨hp, g, dr, tk, os⟩ := s
  have big : hp.objs.size ≤ hp.objs.size + 1 := Nat.le_succ _
  have hn : H (hp.objs.size + 1) = none := I.hok.fresh big
  have kk : ∀ b o, hp.get? b = some o → ((hp.push (PySem.W.kdv_tup us)).push (PySem.HandSPX.excO C hp.objs.size)).get? b = some o := fun b o e => Heap.get?_push_of_some _ (Heap.get?_push_of_some _ e)
  have exA : ((hp.push (PySem.W.kdv_tup us)).push (PySem.HandSPX.excO C hp.objs.size)).get? (hp.objs.size + 1) = some (PySem.HandSPX.excO C hp.objs.size) := by heap_get
  have I2 : Inv X pins σ (upd H (hp.objs.size + 1) (ExI (hp.objs.size + 1) C hp.objs.size)) ⟨(hp.push (PySem.W.kdv_tup us)).push (PySem.HandSPX.excO C hp.objs.size), g, dr, tk, os⟩ := I.laid (t' := tk) kk big (exI_ok exA)
  have hq : spInit X.K C f m [.ref (hp.objs.size + 1), y] (upd H (hp.objs.size + 1) (ExI (hp.objs.size + 1) C hp.objs.size)) (fun v H2 => v = .non ∧ Q (.ref (hp.objs.size + 1)) H2) (fun _ _ _ => False) := by
    refine ⟨_, y, _, rfl, upd_same, fun t dx ht ta hdx da dt => ⟨rfl, ?_⟩⟩
    rw [upd_ne ta] at ht
    rw [upd_ne da] at hdx
    have e : upd (upd (upd (upd H (hp.objs.size + 1) (ExI (hp.objs.size + 1) C hp.objs.size)) t (.tup [.str m])) dx (.xd [(f, y)])) (hp.objs.size + 1) (ExR (hp.objs.size + 1) C dx t) = excH H C (hp.objs.size + 1) t dx f m y := by
      rw [upd_comm' (Ne.symm ta), upd_comm' (Ne.symm da), upd_upd_same]
    rw [e]
    exact q _ t dx hn ht hdx ta da dt
  refine wpAny_call (PySem.VX.call_cls T.base same atC (PySem.W.looks_findIn kI iC) (fun self => PySem.W.bind_fn kI self tI) (by rw [sizeLine_eq]; omega)
    (codeAny_mono (F.run _ X.stack _ _ ⟨.ref (hp.objs.size + 1) :: us, kw⟩ [.ref (hp.objs.size + 1), uy] [.ref (hp.objs.size + 1), y] _ _ (hr.make C us kw) (I2.env0.make C us kw) (bnd _ _ I2.kIn) (.cons rfl (.cons ry .nil)) hq) fun r s' z => ?_))
  cases r with
  | error e =>
    obtain ⟨_, _, _, _, _, _, _, _, _, _, _, _, z⟩ := z
    exact z.elim
  | ok fl =>
    cases fl with
    | ret u =>
      obtain ⟨v, H2, os2, bare2, un2, hok2, rv, rfl, q2⟩ := z
      obtain ⟨v', H3, J, rv', e3, q3⟩ := I2.after (Q := fun v H2 => v = .non ∧ Q (.ref (hp.objs.size + 1)) H2) ⟨V.non, H2, os2, bare2, un2, hok2, rv, rfl, q2⟩
      exact ⟨rv, .ref (hp.objs.size + 1), H3, J, rfl, q3⟩
    | next => exact z.elim
    | brk => exact z.elim
    | cont => exact z.elim
end
/-- all that the making of an exception of a class needs -/
structure MkC (X : Cx) (c : Cl) : Prop where
  ex : ∃ (B newId initId : String) (bmB : List Value) (fI : Addr) (fd : FuncData) (k : Nat), ExK X.K (c.ad X.K) c.fld B newId initId bmB ∧ PySem.W.findIn X.K (.ref (c.ad X.K)) "__init__" = some (some (.ref fI)) ∧ PySem.W.typeIn X.K (.ref fI) = some (.type "function") ∧
    FnOk X.prog X.w X.K X.mg X.base (L2.CX X.prog X.w) k fI fd ["self", c.fld] (spInit X.K (c.ad X.K) c.fld c.msg) ∧ Room (k + 1) X.A ∧ Gl X c.nm ∧ X.mg c.nm = some (.ref (c.ad X.K)) ∧ PySem.W.keepIn X.K (.ref (c.ad X.K)) = true ∧ (c.nm == ("__debug__" : Str)) = false ∧
    (∀ (self u : Value) (s2 : Shared), X.K.In s2.heap → BindsTo s2 fd ⟨[self, u], []⟩ ((["self", c.fld] : List Str).zip [self, u])) ∧
    (∀ (self u : Value) (s2 : Shared), X.K.In s2.heap → BindsTo s2 fd ⟨[self], [(c.fld, u)]⟩ ((["self", c.fld] : List Str).zip [self, u])) ∧
    (c ≠ .TooMany → ∀ (self : Value) (s2 : Shared), X.K.In s2.heap → BindsTo s2 fd ⟨[self], []⟩ ((["self", c.fld] : List Str).zip [self, .none]))
def eExc (c : Cl) (f : EF) : EF := fun E => (f E).bind fun p => match p.1.d? with
  | some d => .ok (.dat (.exc c true d), p.2)
  | none => .bad
section
variable {K : PySem.W.Frag} {G : Gh} {Fz : Addr → Prop} {H : Hp} {E : Env} {σ : L2.St}
/-- fresh things are frozen -/
theorem OK.freezeNew {ns : List Addr} {H' : Hp} (k : OK K G Fz H E σ) (fr : ∀ a ∈ ns, H a = none) (up : ∀ b o, H b = some o → H' b = some o) (nw : ∀ a ∈ ns, ∃ o, H' a = some o ∧ ∀ ps, o ≠ .tbl ps) : OK K G (fun a => Fz a ∨ a ∈ ns) H' E σ := by
  have g := k.gd.ext (H' := H') fun a o e => up a o e
  refine ⟨g.freeze (fun a z => .inl z) fun a z => z.elim .inl fun hm => .inr ⟨fun p hp e => ?_, nw a hm, ?_⟩, k.lv⟩
  · have r := k.gd.rs p hp
    have hn := fr a hm
    obtain ⟨s, o⟩ := p
    cases s with
    | no => cases e
    | dat d => cases e
    | lk ds => cases e
    | cl _ _ _ _ => cases e
    | ol ds =>
      obtain ⟨b, vs, e2, hb, _⟩ := r
      subst e2
      cases e
      rw [hb] at hn
      cases hn
    | od t ds =>
      obtain ⟨b, vs, e2, hb, _⟩ := r
      subst e2
      cases e
      rw [hb] at hn
      cases hn
  · by_cases hi : a ∈ G.io
    · exact .inl hi
    · refine .inr fun o e => Classical.byContradiction fun n => ?_
      have z := k.gd.frm a o e hi fun ps q => n ⟨ps, q⟩
      rw [fr a hm] at z
      cases z
theorem OK.newX {c : Cl} {d : D} {y : V} {a t dx : Addr} (k : OK K (G.p (.dat d) y) Fz H E σ) (ha : H a = none) (ht : H t = none) (hdx : H dx = none) (ta : t ≠ a) (da : dx ≠ a) (dt : dx ≠ t) :
    ∃ Fz', OK K (G.p (.dat (.exc c true d)) (.ref a)) Fz' (excH H (c.ad K) a t dx c.fld c.msg y) E σ := by
  have up : ∀ b o, H b = some o → excH H (c.ad K) a t dx c.fld c.msg y b = some o := fun b o e => by
    unfold excH
    rw [upd_ne (ne_of_none e ha), upd_ne (ne_of_none e hdx), upd_ne (ne_of_none e ht)]
    exact e
  have eA : excH H (c.ad K) a t dx c.fld c.msg y a = some (ExR a (c.ad K) dx t) := upd_same
  have eX : excH H (c.ad K) a t dx c.fld c.msg y dx = some (exd0 c y) := by unfold excH; rw [upd_ne da, upd_same]; rfl
  have eT : excH H (c.ad K) a t dx c.fld c.msg y t = some (.tup [.str c.msg]) := by unfold excH; rw [upd_ne ta, upd_ne (Ne.symm dt), upd_same]
  have k2 := k.freezeNew (ns := [a, dx, t]) (H' := excH H (c.ad K) a t dx c.fld c.msg y) (fun b hb => by
      rcases List.mem_cons.mp hb with z | z
      · rw [z]; exact ha
      · rcases List.mem_cons.mp z with z | z
        · rw [z]; exact hdx
        · rw [List.mem_singleton.mp z]; exact ht) up (fun b hb => by
      rcases List.mem_cons.mp hb with z | z
      · rw [z]; exact ⟨_, eA, fun ps q => by cases q⟩
      · rcases List.mem_cons.mp z with z | z
        · rw [z]; exact ⟨_, eX, fun ps q => by cases q⟩
        · rw [List.mem_singleton.mp z]; exact ⟨_, eT, fun ps q => by cases q⟩)
  refine ⟨_, k2.pop.dat ⟨a, dx, y, rfl, .inr (by simp), .inr (by simp), eX, k2.datI, ?_⟩⟩
  rw [if_pos rfl]
  exact ⟨t, .inr (by simp), eT, eA⟩
end
section
variable {X : Cx} {W : WX} {c : Cl} {nm kn : Str} {p pos kpos : Pos} {e : Expr} {f : EF}
theorem eExc_of {G : Gh} {E : Env} {Fz : Addr → Prop} {H : Hp} {σ : L2.St} {Q : VK} (k : OK X.K G Fz H E σ) (h : EndE W X.K G σ Q (eExc c f E)) : tE W X.K f σ H (fun y H1 => MkQ H1 (c.ad X.K) c.fld c.msg y Q) := by
  refine tE_mono (tE_of k (EndE.bind h)) fun v H1 ⟨r, E1, Fz1, k1, h1⟩ a t dx ha ht hdx ta da dt => ?_
  dsimp only at h1
  cases hd : r.d? with
  | none => rw [hd] at h1; exact h1.elim
  | some d =>
    rw [hd] at h1
    obtain ⟨Fz2, k2⟩ := k1.d1 hd
    obtain ⟨Fz3, k3⟩ := k2.newX (c := c) ha ht hdx ta da dt
    exact h1 _ _ _ k3
theorem se_mk (M : MkC X c) (he : SE X W e f) (hn : c.nm = nm := by rfl) (hs : starEach [e] X.env = (false, eval e X.env) :: starEach [] X.env := by rfl) : SE X W (.Call (.Name nm p) [e] [] pos) (eExc c f) := by
  subst hn
  obtain ⟨B, newId, initId, bmB, fI, fd, k, T, iC, tI, F, hr, hg, hm, kp, hdb, b1, bK, b0⟩ := M.ex
  refine ⟨fun pins s σ H Q I ⟨G, E, Fz, kk, h⟩ => wpAny_Call_Name_kw (ld_glob I hg hm ?_ hdb)⟩
  refine PySem.W.callWith_K (h₀ := X.base) I.ok.mod.kin kp (thn ((pa_cons he pa_nil hs).run pos pins s σ H (fun vs H1 => ∃ y, vs = [y] ∧ MkQ H1 (c.ad X.K) c.fld c.msg y Q) I ?_) fun us s1 ⟨vs, H1, I1, r, y, ey, q⟩ => ⟨I1.kIn, ?_⟩) hs
  · exact tE_mono (eExc_of kk h) fun y H1 q => ⟨y, rfl, q⟩
  · subst ey
    obtain ⟨u, rfl, ru⟩ := r.one
    exact run_mk I1 T iC tI F hr (by simp) (fun self s2 K2 => b1 self u s2 K2) ru q
theorem se_mkK (M : MkC X c) (he : SE X W e f) (hn : c.nm = nm := by rfl) (hk : c.fld = kn := by rfl) (hall : (backToKw pos (keywordEach [⟨some kn, e, kpos⟩] X.env)).all (·.1.isSome) = true := by rfl) (hks : (backToKw pos (keywordEach [⟨some kn, e, kpos⟩] X.env)).filterMap (·.1) = [kn] := by rfl)
    (hpl : ((backTo pos (starEach [] X.env)).any (·.1) || (backToKw pos (keywordEach [⟨some kn, e, kpos⟩] X.env)).any (·.1.isNone)) = false := by rfl) : SE X W (.Call (.Name nm p) [] [⟨some kn, e, kpos⟩] pos) (eExc c f) := by
  subst hn hk
  obtain ⟨B, newId, initId, bmB, fI, fd, k, T, iC, tI, F, hr, hg, hm, kp, hdb, b1, bK, b0⟩ := M.ex
  refine ⟨fun pins s σ H Q I ⟨G, E, Fz, kk, h⟩ => wpAny_Call_Name_kw (ld_glob I hg hm ?_ hdb)⟩
  refine PySem.W.callWith_KW0 (h₀ := X.base) I.ok.mod.kin kp hall (thn ((pk_cons he pk_nil).run pos pins s σ H (fun vs H1 => ∃ y, vs = [y] ∧ MkQ H1 (c.ad X.K) c.fld c.msg y Q) I ?_) fun us s1 ⟨vs, H1, I1, r, y, ey, q⟩ => ⟨I1.kIn, ?_⟩) hpl
  · exact tE_mono (eExc_of kk h) fun y H1 q => ⟨y, rfl, q⟩
  · subst ey
    obtain ⟨u, rfl, ru⟩ := r.one
    rw [hks]
    exact run_mk I1 T iC tI F hr (by decide) (fun self s2 K2 => bK self u s2 K2) ru q
theorem se_mk0 (M : MkC X c) (hn : c.nm = nm := by rfl) (hT : c ≠ .TooMany := by decide) : SE X W (.Call (.Name nm p) [] [] pos) (eExc c (eC .non)) := by
  subst hn
  obtain ⟨B, newId, initId, bmB, fI, fd, k, T, iC, tI, F, hr, hg, hm, kp, hdb, b1, bK, b0⟩ := M.ex
  refine ⟨fun pins s σ H Q I ⟨G, E, Fz, kk, h⟩ => wpAny_Call_Name_kw (ld_glob I hg hm ?_ hdb)⟩
  have q : MkQ H (c.ad X.K) c.fld c.msg .non Q := by
    obtain ⟨G0, E0, Fz0, k0, h0⟩ : tE W X.K (eC .non) σ H (fun y H1 => MkQ H1 (c.ad X.K) c.fld c.msg y Q) := eExc_of kk h
    exact h0 .non H Fz0 (k0.dat rfl)
  exact PySem.W.callWith_K0 I.kIn kp (run_mk (y := .non) I T iC tI F hr (by decide) (fun self s2 K2 => b0 hT self s2 K2) rfl q)
end
end VL

/-! isinstance of an exception that has fields. -/
namespace PySem.VX
open PySem PySem.Spec PySem.Calls PyProof.Rows PySem.W
section
variable {prog : Program} {w : World} {A : Around} {E : Value → Shared → Prop} {s : Shared} {K : Frag} {x C : Addr} {ox : Obj} {od : Option Obj}
/-- what a class must say, so that its instances tell their class rightly -/
structure TellsC (K : Frag) (C : Addr) : Prop where
  ga : findIn K (.ref C) "__getattribute__" = some (some (.builtin "BaseException.__getattribute__"))
  gt : findIn K (.ref C) "__getattr__" = some none
  su : subIn K (.ref C) (.type "BaseException") = some true
  di : hasDictIn K C = true
  cl : findIn K (.ref C) "__class__" = some (some (.builtin "object.__class__"))
  sg : specialIn K (.builtin "object.__class__") "__get__" = some (some (.builtin "getset_descriptor.__get__"))
  tk : takesIn K (.builtin "object.__class__") = some true
  mo : mroIn K C (.type "object") = some true
theorem find_data {name : Str} {a g : Value} (c1 : (clsIn K C).isSome = true) (c2 : findIn K (.ref C) name = some (some a)) (c3 : specialIn K a "__get__" = some (some g)) (c4 : takesIn K a = some true) : findObj K C od name = some (.bind g a) := by
  obtain ⟨cd, c1⟩ := Option.isSome_iff_exists.mp c1
  unfold findObj
  rw [c1, Option.bind_some, c2, Option.bind_some]
  simp [c3, c4]
theorem class_told {Q : Option Value → Shared → Prop} (T : TellsC K C) (X : K.In s.heap) (I : InstAt s.heap x ox C od) (fin : Q (some (.ref C)) { s with toks := s.toks + 1 }) : wpAny (model prog w) A (getAttr? (.ref x) "__class__") Q E s := by
  have fo : findObj K C od "__class__" = some (.bind (.builtin "getset_descriptor.__get__") (.builtin "object.__class__")) := find_data (by obtain ⟨cd, hc, _⟩ := any_some T.di; rw [hc]; rfl) T.cl T.sg T.tk
  obtain ⟨hp, g, d, t, os⟩ := s
  have lt := I.type (M := model prog w)
  have lg := looks_findIn (M := model prog w) X T.ga
  have lh := looks_findIn (M := model prog w) X T.gt
  have lf := looks_find (M := model prog w) X I fo
  have isB : Looks (model prog w) hp (isInstance (.ref x) (.type "BaseException")) true := lt.andThen (looks_subIn X T.su)
  have n1 : (Value.builtin "BaseException.__getattribute__" == Value.builtin "object.__getattribute__") = false := by decide +kernel
  have n2 : (onTheHeap (Value.ref C) && Value.builtin "BaseException.__getattribute__" == Value.builtin "object.__getattribute__") = false := by rw [n1]; rfl
  have n3 : (false && onTheHeap (Value.builtin "BaseException.__getattribute__")) = false := rfl
  unfold getAttr? getAttrBy? getAttrBy
  refine wpAny_bind (wpAny_mkText (wpAny_bind (wpAny_attempt (wpAny_holding (wpAny_bind (lt.at (wpAny_bind (lg.at ?_))))))))
  show wpAny _ _ (if (onTheHeap (Value.ref C) && Value.builtin "BaseException.__getattribute__" == Value.builtin "object.__getattribute__") = true then _ else _) _ _ _
  rw [n2, if_neg Bool.false_ne_true]
  unfold getAttrByItsOwn hookBefore
  refine wpAny_bind ?_
  rw [if_pos (show onTheHeap (Value.ref C) = true from rfl)]
  refine lh.at (wpAny_bind (wpAny_attempt (wpAny_holding ?_)))
  unfold callGetattribute
  rw [n3, if_neg Bool.false_ne_true]
  unfold boundAndCalled
  rw [PySem.F.excAttr_ValueError.ga.bind (.ref x)]
  refine wpAny_bind (wpAny_pure ?_)
  show wpAny _ _ (call (.builtin "BaseException.__getattribute__") [.ref x, .str "__class__" t]) _ _ _
  refine wpAny_call (codeAny_call_builtin PySem.F.excAttr_ValueError.ga.plain PySem.F.entry_bexc_ga
    (@check_slot (model prog w) _ _ ⟨hp, g, d, t + 1, os⟩ "BaseException.__getattribute__" "BaseException" "__getattribute__" (.ref x) [.str "__class__" t] [] _ (by decide +kernel) (by decide +kernel) isB (PySem.F.args_bexc_ga (.ref x) (.str "__class__" t)) ?_))
  unfold Builtin.«object.__getattribute__»
  refine wpAny_bind (wpAny_of_eq (a := ((Value.ref x : Value), [Value.str "__class__" t])) (by first | (simp only [slotArgs]; rfl) | rfl) (wpAny_bind (wpAny_pure (wpAny_bind (lt.at (wpAny_bind (lf.at ?_)))))))
  show wpAny _ _ (holding [Value.builtin "object.__class__"] (call (.builtin "getset_descriptor.__get__") [.builtin "object.__class__", .ref x, .ref C]) >>= ret) _ _ _
  refine wpAny_bind (wpAny_holding (wpAny_call (class_get (s := ⟨hp, g, d, t + 1, os⟩) (ox := ox) (od := od) X I T.mo (wpAny_pure ?_))))
  show wpAny _ _ (handedOut (.ref C)) _ _ _
  rw [handedOut_of (v := .ref C) rfl]
  first
    | exact wpAny_pure fin
    | exact wpAny_pure (wpAny_pure fin)
    | exact wpAny_pure (wpAny_bind (wpAny_pure (wpAny_pure fin)))
theorem kit_exc (T : TellsC K C) : KitX K (.ref x) (.ref C) (fun h => InstAt h x ox C od) := by
  have at' : ∃ oc, K.lookup C = some oc ∧ ∃ cd, oc.data = .cls cd := by
    obtain ⟨cd, hc, _⟩ := any_some T.di
    unfold clsIn at hc
    split at hc
    · rename_i c' d' cd' sl' ho
      exact ⟨_, ho, cd', rfl⟩
    · cases hc
  obtain ⟨oc, ho, cd, hd⟩ := at'
  exact {
    ty := fun _ _ _ I => I.type
    it := fun _ _ X _ => fun A' Q' E' s' k q => by
      obtain ⟨c', d', dt, sl⟩ := oc
      dsimp only at hd
      subst hd
      unfold isType loadHead
      exact wpAny_bind (wpAny_loadPart (k _ _ (X _ _ ho)) (wpAny_pure q))
    ne := fun h tp dd its n sl X htp => Bool.eq_false_iff.mpr fun q => by
      have e : C = tp := Value.ref.inj (beq_iff_eq.mp q)
      subst e
      rw [X _ _ ho] at htp
      cases htp
      cases hd
    ca := fun X I k => class_told T X I k }
end
end PySem.VX

/-! The value layer: an exception's class, field, text. -/
namespace VL
open PySem PySem.Spec PyProof.Rows L2 RZ RT

/-- all that the reading of an exception of a class needs -/
structure XcF (K : PySem.W.Frag) (c : Cl) : Prop where
  tells : PySem.VX.TellsC K (c.ad K)
  no : PySem.W.findIn K (.ref (c.ad K)) c.fld = some none
  str : PySem.W.findIn K (.ref (c.ad K)) "__str__" = some (some (.builtin "BaseException.__str__"))
/-- a class that is asked for -/
inductive Tg where
  | own (c : Cl) | run | blt (T : String)
deriving DecidableEq
def Tg.v (K : PySem.W.Frag) : Tg → V
  | .own c => .ref (c.ad K)
  | .run => .ref (adr K "RunError")
  | .blt T => .ty T
def Tg.val (K : PySem.W.Frag) : Tg → Value
  | .own c => .ref (c.ad K)
  | .run => .ref (adr K "RunError")
  | .blt T => .type T
theorem Tg.clsV {K : PySem.W.Frag} : ∀ t : Tg, ClsV (t.v K) (t.val K)
  | .own c => .own _
  | .run => .own _
  | .blt T => .ty T
def Cl.under : Cl → List String
  | .TooMany => ["OverflowError", "ArithmeticError", "Exception", "BaseException", "object"]
  | .NoSuch => ["LookupError", "Exception", "BaseException", "object"]
  | _ => ["ValueError", "Exception", "BaseException", "object"]
def Cl.isa (c : Cl) : Tg → Bool
  | .own c2 => c == c2
  | .run => !(c == .TooMany || c == .NoSuch)
  | .blt T => c.under.contains T
/-- the class facts about t -/
def TgF (K : PySem.W.Frag) (cs : List Cl) (t : Tg) : Prop := ∀ c ∈ cs, PySem.W.kitOne K (.ref (c.ad K)) (t.val K) = some (c.isa t)
def eIsX (cs : List Cl) (t : Tg) (f : EF) : EF := fun E => (f E).bind fun p => match p.1 with
  | .dat (.exc c _ _) => if cs.contains c then .ok (.dat (.bl (c.isa t)), p.2) else .bad
  | _ => .bad
def eFld (cs : List Cl) (n : Str) (f : EF) : EF := fun E => (f E).bind fun p => match p.1 with
  | .dat (.exc c _ d) => if cs.contains c && decide (c.fld = n) then .ok (.dat d, p.2) else .bad
  | _ => .bad
def eStrX (cs : List Cl) (f : EF) : EF := fun E => (f E).bind fun p => match p.1 with
  | .dat (.exc c true _) => if cs.contains c then .ok (.dat (.str c.msg), p.2) else .bad
  | _ => .bad
section
variable {cs : List Cl} {X : Cx} {W : WX} {pins : List (Addr × Obj)} {σ : L2.St} {H : Hp} {s : Shared} {Fz : Addr → Prop} {c : Cl} {raw : Bool} {d : D} {v : V} {e : Expr} {f : EF} {p p1 pos : Pos} {n : Str}
theorem exc_at (I : Inv X pins σ H s) (r : Rp X.K Fz H (.exc c raw d) v) : ∃ a oe od dx y, v = .ref a ∧ PySem.W.InstAt s.heap a oe (c.ad X.K) (some od) ∧ H dx = some (exd0 c y) ∧ s.heap.get? dx = some od ∧ Rp X.K Fz H d y := by
  obtain ⟨a, dx, y, rfl, _, _, hx, ry, h⟩ := r
  have ob : ∃ od, s.heap.get? dx = some od := by
    have z : ObjOk X.prog X.w H s.heap dx (.xd [(c.fld, y)]) := I.hok dx _ hx
    obtain ⟨mA, ⟨od, _, _, e, _⟩, _⟩ := z
    exact ⟨od, e⟩
  obtain ⟨od, ho⟩ := ob
  have key : ∃ oe, s.heap.get? a = some oe ∧ oe.cls = .ref (c.ad X.K) ∧ oe.dict = some dx ∧ ∃ vs, oe.data = .fields vs := by
    split at h
    · obtain ⟨t, _, _, ha⟩ := h
      exact ⟨_, ext_at I.hok ha, rfl, rfl, _, rfl⟩
    · exact ext_at I.hok h
  obtain ⟨oe, e1, e2, e3, vs, e4⟩ := key
  exact ⟨a, oe, od, dx, y, rfl, ⟨e1, e2, by unfold PySem.W.notCls; rw [e4] <;> rfl, by rw [e3]; exact ho⟩, hx, ho, ry⟩
theorem call_isX {t : Tg} (F : ∀ c ∈ cs, XcF X.K c) (T : TgF X.K cs t) : CallR X (.builtin "isinstance") (fun xs H Q => ∃ x Fz c raw d, c ∈ cs ∧ xs = [x, t.v X.K] ∧ Rp X.K Fz H (.exc c raw d) x ∧ Q (.bl (c.isa t)) H) := by
  intro pins s σ H xs us Q I r ⟨x, Fz, c, raw, d, hcs, ex, rp, q⟩
  subst ex
  obtain ⟨u1, u2, rfl, r1, r2⟩ := r.two
  obtain ⟨a, oe, od, dx, y, rfl, J, _, _, _⟩ := exc_at I rp
  obtain rfl : u1 = Value.ref a := r1
  rw [(Tg.clsV t).eq r2]
  exact PySem.W.kia_one (PySem.VX.kit_exc (F c hcs).tells) I.kIn J (T c hcs) (fun z => nomatch z) fun tk => ⟨.bl (c.isa t), H, I.tok tk, rfl, q⟩
theorem se_isX {t : Tg} {b : Str} (F : ∀ c ∈ cs, XcF X.K c) (T : TgF X.K cs t) (hg : Gl X "isinstance") (hm : X.mg "isinstance" = none) (ht : PE X (.Name b p1) (tC (t.v X.K))) (he : SE X W e f)
    (hs : starEach (e :: [.Name b p1]) X.env = (false, eval e X.env) :: starEach [.Name b p1] X.env := by rfl) (hs2 : starEach [.Name b p1] X.env = (false, eval (.Name b p1) X.env) :: starEach [] X.env := by rfl) : SE X W (.Call (.Name "isinstance" p) [e, .Name b p1] [] pos) (eIsX cs t f) :=
  PE.imp (pe_callB (call_isX F T) hg hm boot_isinstance (pa_cons he (pa_cons ht pa_nil hs2) hs) (by decide) (by decide) hs (by rw [hs2]; rfl)) fun σ H Q ⟨G, E, Fz, k, h⟩ => by
    refine tE_mono (tE_of k (EndE.bind h)) fun v H1 ⟨r, E1, Fz1, k1, h1⟩ => ?_
    dsimp only at h1
    split at h1
    · rename_i c raw d
      have rp := k1.datI
      split at h1
      · rename_i hc
        exact ⟨v, Fz1, c, raw, d, List.contains_iff_mem.mp hc, rfl, rp, h1 _ _ _ (k1.pop.dat rfl)⟩
      · exact h1.elim
    · exact h1.elim
theorem se_fld (F : ∀ c ∈ cs, XcF X.K c) (he : SE X W e f) (hb : attributeBase e n X.env (eval e X.env) = eval e X.env := by rfl) : SE X W (.Attribute e n pos) (eFld cs n f) := by
  refine ⟨fun pins s σ H Q I ⟨G, E, Fz, k, h⟩ => attr_of hb (thn (he.run pins s σ H _ I (tE_of k (EndE.bind h))) fun u s1 ⟨x, H1, I1, rx, r, E1, Fz1, k1, h1⟩ => ?_)⟩
  dsimp only at h1
  split at h1
  · rename_i c raw d
    split at h1
    · rename_i hn
      obtain ⟨hc, hn⟩ := Bool.and_eq_true_iff.mp hn
      have hn := of_decide_eq_true hn
      subst hn
      obtain ⟨a, oe, od, dx, y, rfl, J, hx, ho, ry⟩ := exc_at I1 k1.datI
      obtain rfl : u = Value.ref a := rx
      have z : ObjOk X.prog X.w H1 s1.heap dx (.xd [(c.fld, y)]) := I1.hok dx _ hx
      obtain ⟨mA, hns, hr⟩ := z
      obtain ⟨od', ho', hl⟩ := lookIn_ns hns
      rw [ho] at ho'
      cases ho'
      obtain ⟨u, hu, ru⟩ := RelO.some_of (v := y) (o := mA c.fld) (by have q := hr c.fld; simpa [List.lookup] using q)
      have T := (F c (List.contains_iff_mem.mp hc)).tells
      exact HandSPX.exc_get I1.kIn J T.ga T.gt T.su (PySem.W.findObj_own T.di (F c (List.contains_iff_mem.mp hc)).no rfl (by rw [hl, hu])) (handed_of ru) ⟨y, H1, I1.tok _, ru, h1 y H1 Fz1 (k1.pop.dat ry)⟩
    · exact h1.elim
  · exact h1.elim
theorem call_strX (hu : X.A.units + 2 < cLine) (F : ∀ c ∈ cs, XcF X.K c) : CallR X (.type "str") (fun xs H Q => ∃ x Fz c d, c ∈ cs ∧ xs = [x] ∧ Rp X.K Fz H (.exc c true d) x ∧ Q (.str c.msg) H) := by
  intro pins s σ H xs us Q I r ⟨x, Fz, c, d, hcs, ex, rp, q⟩
  subst ex
  obtain ⟨u1, rfl, r1⟩ := r.one
  obtain ⟨a, dx, y, rfl, _, _, hx, ry, h⟩ := rp
  obtain rfl : u1 = Value.ref a := r1
  rw [if_pos rfl] at h
  obtain ⟨t, _, ht, ha⟩ := h
  have hT := ext_at I.hok ha
  obtain ⟨_, its, rv, o, h1, h2, n, h3⟩ := (show ObjOk X.prog X.w H s.heap t (.tup [.str c.msg]) from I.hok t _ ht)
  obtain ⟨ut, rfl, rt⟩ := rv.one
  obtain ⟨tk, rfl⟩ := (show ∃ tk, ut = Value.str c.msg tk from rt)
  exact PySem.P.str_of_C_one (K := X.K) (C := c.ad X.K) (e := a) (t0 := t) hu ⟨I.kIn, _, _, hT, rfl, rfl, rfl⟩ ⟨o, n, h1, h2, h3⟩ (F c hcs).str (F c hcs).tells.su ⟨.str c.msg, H, I, ⟨tk, rfl⟩, q⟩
theorem se_strX (kx : Kx X W) (F : ∀ c ∈ cs, XcF X.K c) (hg : Gl X "str") (hm : X.mg "str" = none) (he : SE X W e f) (hs : starEach [e] X.env = (false, eval e X.env) :: starEach [] X.env := by rfl) : SE X W (.Call (.Name "str" p) [e] [] pos) (eStrX cs f) :=
  PE.imp (pe_callTy (call_strX (by have := kx.hu; omega) F) hg hm PyProof.Rows.boot_str (pa_cons he pa_nil hs) (by decide) (by decide) hs) fun σ H Q ⟨G, E, Fz, k, h⟩ => by
    refine tE_mono (tE_of k (EndE.bind h)) fun v H1 ⟨r, E1, Fz1, k1, h1⟩ => ?_
    dsimp only at h1
    split at h1
    · rename_i c d
      split at h1
      · rename_i hc
        exact ⟨v, Fz1, c, d, List.contains_iff_mem.mp hc, rfl, k1.datI, h1 _ _ _ (k1.pop.dat rfl)⟩
      · exact h1.elim
    · exact h1.elim
end
end VL

/-! The value layer, 16: a law's end. -/
namespace VL
open PySem PySem.Spec PyProof.Rows L2

/-- the law's mirror answers True -/
def Yes (mf : CF) (ns : List Int) : Prop := ∃ l, mf [.lk (ns.map D.int)] = .ok (.dat (.bl true)) l
section
variable {P : Program} {w : World} {K : PySem.W.Frag} {mg mb : Str → Option Value} {k : Nat} {fa a : Addr} {fd : FuncData} {x : Str} {mf : CF} {s : Shared} {vs : List Value} {ns : List Int}
/-- nothing of the heap is tracked but, maybe, the script, and the tables -/
structure Start (K : PySem.W.Frag) (P : Program) (w : World) (s : Shared) (a : Addr) (ns : List Int) (H : Hp) : Prop where
  lks : LkS K H a (ns.map V.int)
  hok : HOk P w H s.heap
  one : ∀ b u, H b = some u → K.lookup b = none ∧ ((b = a ∧ ∃ ob xs, u = .frz ob (.lst xs)) ∨ (u = .tbl #[] ∧ s.heap.get? b = some { cls := .none, data := .fields #[] } ∧ ∃ c, PySem.W.CodeHd s.heap c b))
  tab : LamX.Tabs (tabsK K) H
/-- the tables are there, empty, and K does not hold them -/
def TabsE (K : PySem.W.Frag) (h : Heap) : Prop := ∀ p ∈ tabsK K, h.get? p.1 = some { cls := .none, data := .fields #[] } ∧ K.lookup p.1 = none ∧ ∃ c, PySem.W.CodeHd h c p.1
open Classical in
theorem start_of (KX : K.In s.heap) (TE : TabsE K s.heap) (ha : s.heap.get? a = some { cls := .type "list", data := .seq vs.toArray }) (hi : IntsAre vs ns) (hl : ns.length ≤ sizeLine) : ∃ H, Start K P w s a ns H := by
  have lenV := hi.length
  have rv := vals_ints hi
  let isT : Addr → Prop := fun b => ∃ p ∈ tabsK K, p.1 = b
  have tE : ∀ b, isT b → s.heap.get? b = some { cls := .none, data := .fields #[] } ∧ K.lookup b = none ∧ ∃ c, PySem.W.CodeHd s.heap c b := fun b ⟨p, hp, e⟩ => by
    rw [← e]
    exact TE p hp
  have aT : ¬ isT a := fun z => by
    have q := (tE a z).1
    rw [ha] at q
    have z' : Data.seq vs.toArray _ = Data.fields #[] := congrArg Obj.data (Option.some.inj q)
    cases z'
  cases hk : K.lookup a with
  | none =>
    let H : Hp := fun b => if b = a then some (HO.frz { cls := .type "list", data := .seq vs.toArray } (.lst (ns.map V.int))) else if isT b then some (.tbl #[]) else none
    have atA : H a = some (.frz { cls := .type "list", data := .seq vs.toArray } (.lst (ns.map V.int))) := if_pos rfl
    have atT : ∀ b, isT b → H b = some (.tbl #[]) := fun b hb => by
      show (if b = a then _ else if isT b then _ else _) = _
      rw [if_neg (fun z => aT (by rw [← z]; exact hb)), if_pos hb]
    have only : ∀ b u, H b = some u → (b = a ∧ u = .frz { cls := .type "list", data := .seq vs.toArray } (.lst (ns.map V.int))) ∨ (isT b ∧ u = .tbl #[]) := fun b u z => by
      have z : (if b = a then some (HO.frz { cls := .type "list", data := .seq vs.toArray } (.lst (ns.map V.int))) else if isT b then some (.tbl #[]) else none) = some u := z
      by_cases hb : b = a
      · rw [if_pos hb] at z
        exact .inl ⟨hb, (Option.some.inj z).symm⟩
      · rw [if_neg hb] at z
        by_cases ht : isT b
        · rw [if_pos ht] at z
          exact .inr ⟨ht, (Option.some.inj z).symm⟩
        · rw [if_neg ht] at z
          cases z
    refine ⟨H, ⟨.inl ⟨_, atA⟩, fun b u z => ?_, fun b u z => ?_, fun p hp => LamX.TabS.nil (atT p.1 ⟨p, hp, rfl⟩)⟩⟩
    · rcases only b u z with ⟨rfl, rfl⟩ | ⟨hb, rfl⟩
      · exact ⟨ha, by rw [List.length_map]; exact hl, vs, _, rv, ha⟩
      · exact (tE b hb).1
    · rcases only b u z with ⟨rfl, rfl⟩ | ⟨hb, rfl⟩
      · exact ⟨hk, .inl ⟨rfl, _, _, rfl⟩⟩
      · exact ⟨(tE b hb).2.1, .inr ⟨rfl, (tE b hb).1, (tE b hb).2.2⟩⟩
  | some o =>
    have e := KX a o hk
    rw [ha] at e
    cases e
    let H : Hp := fun b => if isT b then some (.tbl #[]) else none
    have atT : ∀ b, isT b → H b = some (.tbl #[]) := fun b hb => by
      show (if isT b then _ else _) = _
      rw [if_pos hb]
    have only : ∀ b u, H b = some u → isT b ∧ u = .tbl #[] := fun b u z => by
      have z : (if isT b then some (HO.tbl #[]) else none) = some u := z
      by_cases ht : isT b
      · rw [if_pos ht] at z
        exact ⟨ht, (Option.some.inj z).symm⟩
      · rw [if_neg ht] at z
        cases z
    refine ⟨H, ⟨.inr ⟨_, vs.toArray, _, hk, rfl, rfl, rfl, by rw [List.size_toArray, lenV]; exact hl, by simpa using rv⟩, fun b u z => ?_, fun b u z => ?_, fun p hp => LamX.TabS.nil (atT p.1 ⟨p, hp, rfl⟩)⟩⟩
    · obtain ⟨hb, rfl⟩ := only b u z
      exact (tE b hb).1
    · obtain ⟨hb, rfl⟩ := only b u z
      exact ⟨(tE b hb).2.1, .inr ⟨rfl, (tE b hb).1, (tE b hb).2.2⟩⟩
theorem law_end (KX : K.In s.heap) (TE : TabsE K s.heap) (hns : s.heap.Ns mainGlobals mg) (hb : s.heap.Ns builtinsNs mb) (hbb : ∀ x : Str, x ≠ "__name__" → mb x = bootBuiltins x) (hlim : s.heap.NoLimit) (hg : s.gens = #[])
    (ha : s.heap.get? a = some { cls := .type "list", data := .seq vs.toArray }) (hi : IntsAre vs ns) (hl : ns.length ≤ sizeLine) (hr : Room k callerA)
    (F : ∀ base : Heap, K.In base → base.Ns mainGlobals mg → FnG P w K mg base k fa fd [x] mf) (hbind : ∀ (s : Shared) (u : Value), BindsTo s fd ⟨[u], []⟩ [(x, u)]) (yes : Yes mf ns) :
    codeAny (model P w) callerA (.call (.ref fa) ⟨[.ref a], []⟩) (fun r s' => r = .ok (.ret (.bool true)) ∧ OldK s.heap s'.heap ∧ s'.os = s.os ∧ AllBare s'.gens) s := by
  obtain ⟨H, S⟩ := start_of (P := P) (w := w) KX TE ha hi hl
  obtain ⟨l, hm⟩ := yes
  have plain : ∀ {b : Addr} {o : Obj}, s.heap.get? b = some o → (∀ xs n, o.data ≠ .seq xs n) → (∀ xs, o.data ≠ .fields xs) → H b = none := fun {b o} e nd nf => by
    cases q : H b with
    | none => rfl
    | some u =>
      rcases (S.one b u q).2 with ⟨z, _⟩ | ⟨_, z, _⟩
      · rw [z, ha] at e
        cases e
        exact absurd rfl (nd _ _)
      · rw [e] at z
        cases z
        exact absurd rfl (nf _)
  have low : ∀ {b : Addr} {m : Str → Option Value}, s.heap.Ns b m → (hidT s.heap H).Ns b m := fun {b m} ⟨o, es, ep, e, d, r⟩ => ⟨o, es, ep, hidT_get e (plain e (fun xs n z => by rw [d] at z; cases z) fun xs z => by rw [d] at z; cases z), d, r⟩
  have inK : K.In (hidT s.heap H) := fun b o e => hidT_get (KX b o e) (by
    cases q : H b with
    | none => rfl
    | some u =>
      obtain ⟨y, _⟩ := S.one b u q
      rw [y] at e
      cases e)
  have M : Mod K mg (hidT s.heap H) := ⟨inK, low hns, ⟨mb, low hb, hbb⟩, let ⟨mc, h1, h2⟩ := hlim; ⟨mc, low h1, h2⟩⟩
  have e0 : Env0 P w K mg (hidT s.heap H) callerA [] s H := ⟨rfl, M, fun b o e => of_hidT e, Nat.le_of_eq (hidT_size _ _), trivial, fun b hb => absurd (show b ∈ ([] : List Addr) from hb) (by simp), S.hok, .of_eq hg⟩
  have lkr : RS K (fun _ => False) H [] (.lk (ns.map D.int), some (.ref a)) := ⟨a, _, rfl, S.lks, RpL.ints⟩
  have g0 : Gd K H (fun _ => False) [] (fun _ => False) H [(.lk (ns.map D.int), some (.ref a))] := {
    rs := fun p hp => by rw [List.mem_singleton.mp hp]; exact lkr
    sep := List.pairwise_singleton _ _
    own := fun p hp b e => by
      rw [List.mem_singleton.mp hp] at e
      cases e
    dom := fun _ z => z.elim
    frm := fun b o e _ _ => e
    f0 := fun _ z => z
    fz := fun _ z => z.elim
    tab := S.tab }
  have q : spD K 1 mf [.ref a] H (fun v _ => v = .bl true) (fun _ _ _ => False) := by
    refine ⟨rfl, [.lk (ns.map D.int)], fun _ => False, [], rfl, g0, ?_⟩
    rw [hm]
    refine ⟨rfl, fun v H' Fz' g => ?_⟩
    obtain ⟨u, e, r⟩ := g.head
    cases e
    exact r
  refine codeAny_mono ((F _ inK (low hns)).run callerA [] s H ⟨[.ref a], []⟩ [.ref a] [.ref a] _ _ hr rfl e0 (hbind s (.ref a)) (.cons rfl .nil) q) fun res s' z => ?_
  cases res with
  | error er =>
    obtain ⟨_, _, _, _, _, _, _, _, _, _, _, _, z⟩ := z
    exact z.elim
  | ok fl =>
  cases fl with
  | next => exact z.elim
  | brk => exact z.elim
  | cont => exact z.elim
  | ret u =>
  obtain ⟨v, H', os, bare, un, hok', rel, hv⟩ := z
  subst hv
  obtain rfl : u = Value.bool true := rel
  refine ⟨rfl, ⟨fun b o e => ?_, fun b o e => ?_⟩, os, bare⟩
  · cases q : H b with
    | none => exact .inl (un.keep b o e q (fun z => absurd (show b ∈ ([] : List Addr) from z) (by simp)) (by simp))
    | some u =>
      rcases (S.one b u q).2 with ⟨_, ob, xs, rfl⟩ | ⟨rfl, z, c, C⟩
      · obtain ⟨e1, _⟩ := S.hok b _ q
        obtain ⟨e2, _⟩ := hok' b _ (un.frzs b ob _ q)
        rw [e] at e1
        cases e1
        exact .inl e2
      · obtain ⟨more, y⟩ := un.tbls b #[] q
        rw [e] at z
        cases z
        exact .inr (.inl ⟨(C.tab e).isCodeTable, rfl, #[], more, rfl, by rw [Array.empty_append]; have y2 := hok' b _ y; rw [Array.empty_append] at y2; exact y2⟩)
  · cases q : H b with
    | none => exact ⟨o, un.keep b o e q (fun z => absurd (show b ∈ ([] : List Addr) from z) (by simp)) (by simp)⟩
    | some u =>
      rcases (S.one b u q).2 with ⟨_, ob, xs, rfl⟩ | ⟨rfl, z, c, C⟩
      · obtain ⟨e2, _⟩ := hok' b _ (un.frzs b ob _ q)
        exact ⟨_, e2⟩
      · obtain ⟨more, y⟩ := un.tbls b #[] q
        exact ⟨_, hok' b _ y⟩
end
/-- the law over the head by facts -/
theorem walk_end {l : PySem.W.OpenLaw} {n k : Nat} {q : Program} {loose : List Str} {XP : (Str → Option Value) → Heap → Prop} {YP : World → Heap → Prop} {d : DefRec} {x : Str} {mf : CF}
    (hn : l.most = some n) (hn2 : n ≤ sizeLine) (hdf : d.params.defaults = []) (hr : Room k callerA)
    (F : ∀ (w : World) (mg : Str → Option Value) (fa : Addr) (h : Heap), YP w h → h.Ns mainGlobals mg → mg d.name = some (.ref fa) →
      ∃ (K : PySem.W.Frag) (fd : FuncData), K.In h ∧ TabsE K h ∧ (∀ (s : Shared) (u : Value), BindsTo s fd ⟨[u], []⟩ [(x, u)]) ∧ ∀ base : Heap, K.In base → base.Ns mainGlobals mg → FnG l.prog w K mg base k fa fd [x] mf)
    (yes : ∀ ns : List Int, ns.length ≤ n → Yes mf ns) : PySem.W.WalkO q loose XP YP l.row.toRowW d [] (fun f vs => PySem.call f vs) :=
  Att.attach_call hn hdf fun w s₀ s₁ mg mb fa o pm cd doc a vs ns G Y ho hd hcd hmg hobj hints hlen hg => by
    obtain ⟨K, fd, KX, TE, hb, hF⟩ := F w mg fa _ Y G.T.g hmg
    exact law_end KX TE G.T.g G.T.b G.T.builtins G.T.nolimit hg hobj hints (Nat.le_trans hlen hn2) hr hF hb (yes ns hlen)
end VL

/-! The value layer, 17: texts repeated; functions by name. -/
namespace VL
open PySem PySem.Spec PyProof.Rows L2 RZ RT

def repFits (z : Str) (k : Int) : Bool := decide (-1000 ≤ k) && decide (k ≤ 1000) && decide (z.length ≤ 1000)
theorem repFits_ok {z : Str} {k : Int} (h : repFits z k = true) : PySem.MulOk z k := by
  unfold repFits at h
  rw [Bool.and_eq_true, Bool.and_eq_true] at h
  obtain ⟨⟨h1, h2⟩, h3⟩ := h
  have h1 := of_decide_eq_true h1
  have h2 := of_decide_eq_true h2
  have h3 := of_decide_eq_true h3
  refine ⟨?_, fun p q => ?_, fun p q => ?_⟩
  · rw [decide_eq_false (by omega), decide_eq_false (by omega)]
    rfl
  · have e : (1000 : Int) ≤ (2 ^ 63 - 1) / k := Int.le_ediv_of_mul_le (by omega) (by omega)
    omega
  · unfold Builtin.Str.tooLong
    refine decide_eq_false ?_
    have e : z.length * k.toNat ≤ 1000 * 1000 := Nat.mul_le_mul h3 (by omega)
    rw [sizeLine_eq]
    omega
def gMulS : Sl → Sl → Option Sl
  | .dat (.str z), .dat (.int k) => if repFits z k then some (.dat (.str (Txt.mul z k))) else none
  | _, _ => none
theorem op_mulS {X : Cx} : OpR X (binaryOp .Mult) (fun x y H Q => ∃ z k, x = .str z ∧ y = .int k ∧ repFits z k = true ∧ Q (.str (Txt.mul z k)) H) := by
  intro pins s σ H x y v u Q I rx ry ⟨z, k, ex, ey, hf, q⟩
  subst ex ey
  obtain ⟨t, rfl⟩ := rx
  obtain ⟨t', rfl⟩ := ry
  exact PySem.SB.mul (repFits_ok hf) fun t2 tk => ⟨.str (Txt.mul z k), H, I.tok tk, ⟨t2, rfl⟩, q⟩
theorem gr_mulS {K : PySem.W.Frag} : GR K (fun x y H Q => ∃ z k, x = .str z ∧ y = .int k ∧ repFits z k = true ∧ Q (.str (Txt.mul z k)) H) gMulS := by
  intro G Fz H E σ x y s v w Q k kx ky e q
  unfold gMulS at e
  split at e
  · rename_i z i
    split at e
    · rename_i hf
      cases e
      have h1 : v = .str z := kx.datI
      have h2 : w = .int i := ky.datI
      exact ⟨z, i, h1, h2, hf, q _ H Fz (k.dat rfl)⟩
    · cases e
  · cases e
def gMulA : Sl → Sl → Option Sl := gOr gMul gMulS
section
variable {X : Cx} {W : WX} {pos : Pos} {a b : Expr} {fa fb : EF}
theorem se_mulA (ha : SE X W a fa) (hb : SE X W b fb) : SE X W (.BinOp a .Mult b pos) (eOp gMulA fa fb) :=
  se_op (OpR.or (OpR.or (OpR.or op_mul op_mulW) (OpR.or op_rep op_repT)) op_mulS) (gr_or (gr_or gr_mulI (gr_or gr_mulL gr_mulT)) gr_mulS) ha hb
end
/-! ### functions by name -/
/-- what is known of the module's function x: at level k, with n parameters, its defaults dd behind -/
def Def (P : Program) (w : World) (K : PySem.W.Frag) (mg : Str → Option Value) (base : Heap) (x : Str) (k n : Nat) (dd : List D) (mf : CF) : Prop :=
  ∃ (f : Addr) (fd : FuncData) (ps : List Str) (ds : List Value) (dvs : List V), FnG P w K mg base k f fd ps mf ∧ mg x = some (.ref f) ∧ PySem.W.keepIn K (.ref f) = true ∧ Binds K fd ps ds ∧ Vals dvs ds ∧ (∀ Fz H, RpL K Fz H dd dvs) ∧ ps.length = n ∧ (x == ("__debug__" : Str)) = false
theorem Def.fn {X : Cx} {x : Str} {k k' n : Nat} {dd : List D} {mf : CF} (d : Def X.prog X.w X.K X.mg X.base x k n dd mf) (hr : Room k' X.A) (hk : k ≤ k') (hg : Gl X x) : Fun X x n dd mf := by
  obtain ⟨f, fd, ps, ds, dvs, F, hm, kp, hb, hv, hd, hn, hdb⟩ := d
  exact ⟨k, f, fd, ps, ds, dvs, F, hr.mono hk, hg, hm, kp, hb, hv, hd, hn, hdb⟩
end VL

/-! The value layer: what a head must tell of the exception classes. -/
namespace VL
open PySem PySem.Spec PyProof.Rows L2 RZ RT

def Cl.all : List Cl := [.BadPrime, .BadNumber, .BadName, .BadRemainder, .BadExpression, .BadProgram, .BadInput, .BadNet, .BadLayers, .BadPoint, .BadLine, .BadTable, .BadClaim, .BadTalk, .BadCheat, .BadCode, .BadWord, .BadTree, .BadMachine, .BadBatch, .BadText, .BadBytes, .BadPaper, .BadDeed, .TooMany, .NoSuch]
theorem Cl.mem_all (c : Cl) : c ∈ Cl.all := by cases c <;> decide
def Cl.B : Cl → String
  | .TooMany => "OverflowError"
  | .NoSuch => "LookupError"
  | _ => "ValueError"
def Cl.newId : Cl → String
  | .TooMany => "OverflowError.__new__"
  | .NoSuch => "LookupError.__new__"
  | _ => "ValueError.__new__"
def Cl.initId : Cl → String
  | .TooMany => "OverflowError.__init__"
  | .NoSuch => "LookupError.__init__"
  | _ => "ValueError.__init__"
/-- the name that its __init__ calls -/
def Cl.via : Cl → Str
  | .TooMany => "OverflowError"
  | .NoSuch => "LookupError"
  | _ => "RunError"
def Cl.bm : Cl → List Value
  | .TooMany => [.type "OverflowError", .type "ArithmeticError", .type "Exception", .type "BaseException", .type "object"]
  | .NoSuch => [.type "LookupError", .type "Exception", .type "BaseException", .type "object"]
  | _ => [.type "ValueError", .type "Exception", .type "BaseException", .type "object"]
theorem Cl.base (c : Cl) : PySem.ExcBaseFacts c.B c.newId c.initId c.bm := by
  cases c <;> first | exact PySem.F.excBase_ValueError | exact PySem.F.excBase_OverflowError | exact PySem.F.excBase_LookupError
theorem Cl.store (c : Cl) : StoreFacts c.B c.bm "object.__setattr__" "object" := by
  cases c <;> first | exact PySem.F.store_ValueError | exact PySem.F.store_OverflowError | exact PySem.F.store_LookupError
abbrev Cl.ini (c : Cl) (K : PySem.W.Frag) : Addr := He.fAd K (c.nm, some "__init__")
section
variable (K : PySem.W.Frag) (tgs : List Tg) (c : Cl)
def clB : List Bool := [
  PySem.W.excInitIn K (c.ad K) c.bm c.newId,
  PySem.W.excOver K (c.ad K) c.bm,
  PySem.W.hasDictIn K (c.ad K),
  decide (PySem.W.findIn K (.ref (c.ad K)) "__setattr__" = some (some (.builtin "object.__setattr__"))),
  decide (PySem.W.findIn K (.ref (c.ad K)) c.fld = some none),
  decide (PySem.W.findIn K (.ref (c.ad K)) "__init__" = some (some (.ref (c.ini K)))),
  decide (PySem.W.typeIn K (.ref (c.ini K)) = some (.type "function")),
  PySem.W.keepIn K (.ref (c.ad K)),
  decide (PySem.W.findIn K (.ref (c.ad K)) "__getattribute__" = some (some (.builtin "BaseException.__getattribute__"))),
  decide (PySem.W.findIn K (.ref (c.ad K)) "__getattr__" = some none),
  decide (PySem.W.subIn K (.ref (c.ad K)) (.type "BaseException") = some true),
  decide (PySem.W.findIn K (.ref (c.ad K)) "__class__" = some (some (.builtin "object.__class__"))),
  decide (PySem.W.mroIn K (c.ad K) (.type "object") = some true),
  decide (PySem.W.findIn K (.ref (c.ad K)) "__str__" = some (some (.builtin "BaseException.__str__"))),
  (tgs.all fun t => decide (PySem.W.kitOne K (.ref (c.ad K)) (t.val K) = some (c.isa t))),
  decide (PySem.W.typeIn K (.ref (c.ad K)) = some (.type "type"))]
def initB (v : Value) (id : String) : Bool := match PySem.W.findCls K v (.type "type") "__init__" with
  | some (.val (.builtin i)) => i == id
  | _ => false
/-- the Bool that the head's Hook carries -/
def exB (cs : List Cl) : Bool := (cs.all fun c => (clB K tgs c).all id) &&
  ([decide (PySem.W.specialIn K (.builtin "object.__class__") "__get__" = some (some (.builtin "getset_descriptor.__get__"))),
    decide (PySem.W.takesIn K (.builtin "object.__class__") = some true),
    decide (PySem.W.specialIn K (.ref (adr K "RunError")) "__getattribute__" = some (some (.builtin "type.__getattribute__"))),
    decide (PySem.W.typeIn K (.ref (adr K "RunError")) = some (.type "type")),
    PySem.W.readsIn K (adr K "RunError") (.type "type"),
    initB K (.ref (adr K "RunError")) "ValueError.__init__",
    initB K (.type "OverflowError") "OverflowError.__init__",
    initB K (.type "LookupError") "LookupError.__init__"] : List Bool).all id
end
structure ClF (K : PySem.W.Frag) (tgs : List Tg) (c : Cl) : Prop where
  k : ExK K (c.ad K) c.fld c.B c.newId c.initId c.bm
  find : PySem.W.findIn K (.ref (c.ad K)) "__init__" = some (some (.ref (c.ini K)))
  fn : PySem.W.typeIn K (.ref (c.ini K)) = some (.type "function")
  keep : PySem.W.keepIn K (.ref (c.ad K)) = true
  x : XcF K c
  tg : ∀ t ∈ tgs, PySem.W.kitOne K (.ref (c.ad K)) (t.val K) = some (c.isa t)
  ty : PySem.W.typeIn K (.ref (c.ad K)) = some (.type "type")
structure RunF (K : PySem.W.Frag) : Prop where
  sp : PySem.W.specialIn K (.ref (adr K "RunError")) "__getattribute__" = some (some (.builtin "type.__getattribute__"))
  ty : PySem.W.typeIn K (.ref (adr K "RunError")) = some (.type "type")
  rd : PySem.W.readsIn K (adr K "RunError") (.type "type") = true
  i1 : PySem.W.findCls K (.ref (adr K "RunError")) (.type "type") "__init__" = some (.val (.builtin "ValueError.__init__"))
  i2 : PySem.W.findCls K (.type "OverflowError") (.type "type") "__init__" = some (.val (.builtin "OverflowError.__init__"))
  i3 : PySem.W.findCls K (.type "LookupError") (.type "type") "__init__" = some (.val (.builtin "LookupError.__init__"))
theorem initB_ok {K : PySem.W.Frag} {v : Value} {i : String} (h : initB K v i = true) : PySem.W.findCls K v (.type "type") "__init__" = some (.val (.builtin i)) := by
  unfold initB at h
  split at h
  · rename_i j e
    rw [e, beq_iff_eq.mp h]
  · cases h
theorem exB_ok {K : PySem.W.Frag} {tgs : List Tg} {cs : List Cl} (h : exB K tgs cs = true) : (∀ c ∈ cs, ClF K tgs c) ∧ RunF K := by
  unfold exB at h
  rw [Bool.and_eq_true] at h
  obtain ⟨h1, h2⟩ := h
  simp only [List.all_cons, List.all_nil, Bool.and_true, Bool.and_eq_true, id] at h2
  obtain ⟨a1, a2, a3, a4, a5, a6, a7, a8⟩ := h2
  refine ⟨fun c hcs => ?_, of_decide_eq_true a3, of_decide_eq_true a4, a5, initB_ok a6, initB_ok a7, initB_ok a8⟩
  have h3 := List.all_eq_true.mp h1 c hcs
  unfold clB at h3
  simp only [List.all_cons, List.all_nil, Bool.and_true, Bool.and_eq_true, id] at h3
  obtain ⟨b1, b2, b3, b4, b5, b6, b7, b8, b9, b10, b11, b12, b13, b14, b15, b16⟩ := h3
  exact ⟨⟨c.base, c.store, b1, b2, by obtain ⟨cd, e, z⟩ := PySem.W.any_some b3; exact ⟨cd, e, z⟩, of_decide_eq_true b4, of_decide_eq_true b5⟩, of_decide_eq_true b6, of_decide_eq_true b7, b8,
    ⟨⟨of_decide_eq_true b9, of_decide_eq_true b10, of_decide_eq_true b11, b3, of_decide_eq_true b12, of_decide_eq_true a1, of_decide_eq_true a2, of_decide_eq_true b13⟩, of_decide_eq_true b5, of_decide_eq_true b14⟩,
    fun t ht => of_decide_eq_true (List.all_eq_true.mp b15 t ht), of_decide_eq_true b16⟩
/-- B.__init__ of each class's base, in the defs -/
theorem via_ok {K : PySem.W.Frag} {mg : Str → Option Value} (R : RunF K) (hr : mg "RunError" = some (.ref (adr K "RunError"))) (ho : mg "OverflowError" = none) (hl : mg "LookupError" = none) (c : Cl) (X : Cx) (eK : X.K = K) (em : X.mg = mg) (hg : Gl X c.via) : MthB X c.via c.initId := by
  subst eK em
  cases c <;> first
    | exact mthB_own hg hr R.sp R.ty R.rd R.i1 (by decide)
    | exact mthB_type (T := "OverflowError") hg ho (by decide +kernel) (by kernel_rfl) (by decide +kernel) R.i2 (by decide)
    | exact mthB_type (T := "LookupError") hg hl (by decide +kernel) (by kernel_rfl) (by decide +kernel) R.i3 (by decide)
/-! ### the binding of an own __init__ -/
section
variable {K : PySem.W.Frag} {x qual : Str} {params : Arguments} {body : List Stmt} {scope : Scope} {kws : List (Str × V)} {f : Addr} {fd : FuncData} {fl : Str}
/-- the three ways to call it -/
structure IniB (K : PySem.W.Frag) (fd : FuncData) (fl : Str) (dfl : Bool) : Prop where
  b1 : ∀ (self u : Value) (s2 : Shared), K.In s2.heap → BindsTo s2 fd ⟨[self, u], []⟩ ((["self", fl] : List Str).zip [self, u])
  bK : ∀ (self u : Value) (s2 : Shared), K.In s2.heap → BindsTo s2 fd ⟨[self], [(fl, u)]⟩ ((["self", fl] : List Str).zip [self, u])
  b0 : dfl = true → ∀ (self : Value) (s2 : Shared), K.In s2.heap → BindsTo s2 fd ⟨[self], []⟩ ((["self", fl] : List Str).zip [self, .none])
theorem iniB_of (F : FunD K x qual params body scope [.non] kws f fd)
    (h : ∀ (T : Addr) (kV doc pm : Value) (an : Option Addr) (cdv ct self u d : Value),
      (∃ k, bindArgs (PySem.W.fnOf x qual params body scope (.ref T) kV doc pm an cdv ct) ⟨[self, u], []⟩ = seqItems? (.ref T) >>= k ∧ k (some #[d]) = pure ((["self", fl] : List Str).zip [self, u])) ∧
      (∃ k, bindArgs (PySem.W.fnOf x qual params body scope (.ref T) kV doc pm an cdv ct) ⟨[self], [(fl, u)]⟩ = seqItems? (.ref T) >>= k ∧ k (some #[d]) = pure ((["self", fl] : List Str).zip [self, u])) ∧
      (∃ k, bindArgs (PySem.W.fnOf x qual params body scope (.ref T) kV doc pm an cdv ct) ⟨[self], []⟩ = seqItems? (.ref T) >>= k ∧ k (some #[d]) = pure ((["self", fl] : List Str).zip [self, d]))) : IniB K fd fl true := by
  obtain ⟨oc, od, dV, kV, doc, pm, an, cdv, ct, osl, rfl, lk, hcd, hD, hK⟩ := F.ex
  rcases hD with ⟨e, _⟩ | ⟨_, T, o, its, m, rfl, lT, oT, rT⟩
  · cases e
  · obtain ⟨d, rfl, rd⟩ := rT.one
    obtain rfl : d = Value.none := rd
    refine ⟨fun self u s2 X => ?_, fun self u s2 X => ?_, fun _ self s2 X => ?_⟩
    · obtain ⟨⟨k, e1, e2⟩, _, _⟩ := h T kV doc pm an cdv ct self u .none
      refine BindsTo.of_looks fun M => ?_
      rw [e1]
      exact looks_items X lT oT (.of_pure e2)
    · obtain ⟨_, ⟨k, e1, e2⟩, _⟩ := h T kV doc pm an cdv ct self u .none
      refine BindsTo.of_looks fun M => ?_
      rw [e1]
      exact looks_items X lT oT (.of_pure e2)
    · obtain ⟨_, _, ⟨k, e1, e2⟩⟩ := h T kV doc pm an cdv ct self .none .none
      refine BindsTo.of_looks fun M => ?_
      rw [e1]
      exact looks_items X lT oT (.of_pure e2)
theorem iniB_of0 (F : FunD K x qual params body scope [] kws f fd)
    (h : ∀ (kV doc pm : Value) (an : Option Addr) (cdv ct self u : Value), bindArgs (PySem.W.fnOf x qual params body scope .none kV doc pm an cdv ct) ⟨[self, u], []⟩ = pure ((["self", fl] : List Str).zip [self, u]) ∧
      bindArgs (PySem.W.fnOf x qual params body scope .none kV doc pm an cdv ct) ⟨[self], [(fl, u)]⟩ = pure ((["self", fl] : List Str).zip [self, u])) : IniB K fd fl false := by
  obtain ⟨oc, od, dV, kV, doc, pm, an, cdv, ct, osl, rfl, lk, hcd, hD, hK⟩ := F.ex
  rcases hD with ⟨_, rfl⟩ | ⟨e, _⟩
  · exact ⟨fun self u s2 X => .of_eq (h kV doc pm an cdv ct self u).1, fun self u s2 X => .of_eq (h kV doc pm an cdv ct self u).2, fun z => by cases z⟩
  · exact absurd rfl e
end
/-- a class, ready to be called -/
def Mk (P : Program) (w : World) (K : PySem.W.Frag) (mg : Str → Option Value) (base : Heap) (c : Cl) (k : Nat) : Prop :=
  ∃ fd, FnOk P w K mg base (L2.CX P w) k (c.ini K) fd ["self", c.fld] (spInit K (c.ad K) c.fld c.msg) ∧ IniB K fd c.fld (c != .TooMany) ∧ mg c.nm = some (.ref (c.ad K))
theorem Mk.at {X : Cx} {c : Cl} {k k' : Nat} {tgs : List Tg} (m : Mk X.prog X.w X.K X.mg X.base c k) (F : ClF X.K tgs c) (hr : Room k' X.A) (hk : k + 1 ≤ k') (hg : Gl X c.nm) : MkC X c := by
  obtain ⟨fd, f, b, hm⟩ := m
  exact ⟨c.B, c.newId, c.initId, c.bm, c.ini X.K, fd, k, F.k, F.find, F.fn, f, hr.mono hk, hg, hm, F.keep, by cases c <;> decide, b.b1, b.bK, fun h => b.b0 (by simpa using h)⟩
end VL

/-! The value layer: the head's Hook, with the interpreter's own table. -/
namespace VL
open PySem PySem.Spec PyProof.Rows L2

abbrev DefN : Type := Str × Option Str
def frV (g : Addr → Option Obj) (n : Nat) : PySem.W.Frag := He.frT g (He.asD g n ++ [cStatics])
def obV (n : Nat) (fa : List He.Fa) (fn : List He.DefD) (tf : List DefN) (ex : PySem.W.Frag → Bool) (g : Addr → Option Obj) : He.AlX := (He.obsT fa fn [] (frV g n), ex (frV g n) && He.tabsB g tf (frV g n))
theorem saysV {n : Nat} {fa : List He.Fa} {fn : List He.DefD} {tf : List DefN} {ex : PySem.W.Frag → Bool} {w : World} {h : Heap} (e : obV n fa fn tf ex h.get? = He.valX fn [] w) : He.SaysX fa fn [] tf ex w h (frV h.get? n) := by
  have facts : He.obsT fa fn [] (frV h.get? n) = He.valT fn [] w := congrArg Prod.fst e
  have both : (ex (frV h.get? n) && He.tabsB h.get? tf (frV h.get? n)) = true := congrArg Prod.snd e
  rw [Bool.and_eq_true] at both
  have tabs : ∀ p ∈ tf, PySem.W.codeHdIn (frV h.get? n) (He.cT (frV h.get? n) p).1 (He.cT (frV h.get? n) p).2 = true ∧ ∃ o, h.get? (He.cT (frV h.get? n) p).2 = some o ∧ He.emptyTab o = true := fun p hp => by
    have z := List.all_eq_true.mp both.2 p hp
    rw [Bool.and_eq_true] at z
    refine ⟨z.1, ?_⟩
    have z2 := z.2
    split at z2
    · rename_i o q
      exact ⟨o, q, z2⟩
    · cases z2
  refine ⟨facts, both.1, fun p hp => (tabs p hp).1, fun p hp => ?_, fun p hp => ?_⟩
  · obtain ⟨_, o, q, z⟩ := tabs p hp
    exact He.frT_none q z
  · obtain ⟨_, o, q, z⟩ := tabs p hp
    exact q.trans (congrArg some (He.emptyTab_eq z))
def hookV (n : Nat) (fa : List He.Fa) (fn : List He.DefD) (tf : List DefN) (ex : PySem.W.Frag → Bool) : PySem.W.Hook where
  α := He.AlX
  obs := fun s => obV n fa fn tf ex s.heap.get?
  val := fun w => He.valX fn [] w
  says := fun w h => ∃ K : PySem.W.Frag, K.In h ∧ He.SaysX fa fn [] tf ex w h K
  of := fun _ _ e => ⟨_, He.frT_in, saysV e⟩
  keeps := fun _ _ _ ⟨K, inK, c⟩ up => ⟨K, PySem.W.Frag.In.keeps inK up, { t := c.t, more := c.more, hd := c.hd, out := c.out, empty := fun p hp => up _ _ (c.empty p hp) }⟩
theorem obV_eq {n : Nat} {fa : List He.Fa} {fn : List He.DefD} {tf : List DefN} {ex : PySem.W.Frag → Bool} {g : Addr → Option Obj} {s : Shared} (h : ∀ a, g a = s.heap.get? a) : obV n fa fn tf ex g = (hookV n fa fn tf ex).obs s := by
  obtain rfl : g = s.heap.get? := funext h
  rfl
end VL

/-! The value layer, 18: built-ins by name. -/
namespace VL
open PySem PySem.Spec PyProof.Rows L2 RZ RT

section
variable {X : Cx} {W : WX} {p pos : Pos} {e : Expr} {es : List Expr} {fa : AF}
theorem se_lenF (kx : Kx X W) (hg : Gl X "len") (hm : X.mg "len" = none) (ha : SA X W (e :: es) fa) (he : starEach (e :: es) X.env = (false, eval e X.env) :: starEach es X.env := by rfl) (hpl : (backTo pos (starEach es X.env)).any (·.1) = false := by rfl) :
    SE X W (.Call (.Name "len" p) (e :: es) [] pos) (eCall (g1 gLen) fa) := se_callB call_lenA (gc1 gu_len) hg hm boot_len ha (by decide) (by decide) he hpl
theorem call_sumA (hc : X.calm = true) : CallR X (.builtin "sum") (fun vs H Q => ∃ v, vs = [v] ∧ rSumA X.K v H Q) := CallR.imp (cr_sum hc) fun vs H Q ⟨v, e, a, ns, e2, h, q⟩ => ⟨a, ns, by rw [e, e2], h, q⟩
theorem se_sumF (kx : Kx X W) (hg : Gl X "sum") (hm : X.mg "sum" = none) (ha : SA X W (e :: es) fa) (he : starEach (e :: es) X.env = (false, eval e X.env) :: starEach es X.env := by rfl) (hpl : (backTo pos (starEach es X.env)).any (·.1) = false := by rfl) :
    SE X W (.Call (.Name "sum" p) (e :: es) [] pos) (eCall (g1 gSum) fa) := se_callB (call_sumA kx.hc) (gc1 gu_sum) hg hm PyProof.Rows.boot_sum ha (by decide) (by decide) he hpl
end
end VL

/-! The value layer: own exceptions raised. -/
namespace VL
open PySem PySem.Spec PyProof.Rows L2 RZ RT

section
variable {X : Cx} {pins : List (Addr × Obj)} {σ : L2.St} {H1 H2 : Hp} {hp hp2 h2 : Heap} {g1 g2 : Array GenState} {d1 d2 : Drawn} {t1 t2 : Nat} {os1 os2 : OsState} {a : Addr} {φ φ0 : Heap → Prop}
/-- behind a call that was handed a new object: the object is let go -/
theorem let_go (I : Inv X pins σ H1 ⟨hp, g1, d1, t1, os1⟩) (big : hp.objs.size ≤ a) (up : ∀ b o, hp.get? b = some o → hp2.get? b = some o) (un : Un (frs X.stack) [] (upd H1 a (.ext φ0)) H2 hp2 h2) (hok : HOk X.prog X.w H2 h2) (eo : os2 = os1) (hb : AllBare g2) (ea : H2 a = some (.ext φ)) :
    ∃ G : Heap, Inv X pins σ (L2.del H2 a) ⟨G, g2, d2, t2, os2⟩ ∧ (∀ b o, G.get? b = some o → h2.get? b = some o) ∧ G.get? a = none := by
  have n1 : H1 a = none := I.hok.fresh big
  obtain ⟨G, r1, r2⟩ := restrict h2 fun b => decide (b ≠ a)
  have same : ∀ b, b ≠ a → G.get? b = h2.get? b := fun b ne => r1 b (decide_eq_true ne)
  have gone : G.get? a = none := r2 a (by simp)
  have old : ∀ {b : Addr} {o : Obj}, hp.get? b = some o → b ≠ a := fun {b o} z => Nat.ne_of_lt (Nat.lt_of_lt_of_le (Heap.lt_size z) big)
  have low : ∀ {b : Addr}, b ≠ a → H1 b = none → upd H1 a (.ext φ0) b = none := fun {b} ne n => (upd_ne ne).trans n
  have other : ∀ {b : Addr} {u : HO}, H2 b = some u → u ≠ .ext φ → b ≠ a := fun {b u} e ne z => by
    rw [z, ea] at e
    exact ne (Option.some.inj e).symm
  have U : Un (frs X.stack) [] H1 (L2.del H2 a) hp G := {
    keep := fun b o z n hf hx => (same b (old z)).trans (un.keep b o (up b o z) (low (old z) n) hf hx)
    slot := fun b o z n hf hx => by
      obtain ⟨sl, q⟩ := un.slot b o (up b o z) (low (old z) n) hf hx
      exact ⟨sl, (same b (old z)).trans q⟩
    free := fun b o z n hx => (del_ne (old z)).trans (un.free b o (up b o z) (low (old z) n) hx)
    there := fun b o z hx => by
      obtain ⟨u, q⟩ := un.there b o (up b o z) hx
      exact ⟨u, (same b (old z)).trans q⟩
    tups := fun b xs z => (del_ne (ne_of_none z n1)).trans (un.tups b xs ((upd_ne (ne_of_none z n1)).trans z))
    frzs := fun b o v z => (del_ne (ne_of_none z n1)).trans (un.frzs b o v ((upd_ne (ne_of_none z n1)).trans z))
    tbls := fun b ps z => by
      obtain ⟨more, q⟩ := un.tbls b ps ((upd_ne (ne_of_none z n1)).trans z)
      exact ⟨more, (del_ne (ne_of_none z n1)).trans q⟩ }
  have ok2 : HOk X.prog X.w (L2.del H2 a) G := fun b u z => by
    have ne : b ≠ a := fun e => by
      rw [e, del_same] at z
      cases z
    rw [del_ne ne] at z
    refine (hok b u z).stay (fun c v hc y => ?_) (fun c hc => (del_ne (other hc fun y => by (cases y))).trans hc) (fun c xs hc => (del_ne (other hc fun y => by (cases y))).trans hc)
    have nc : c ≠ a := by
      rcases hc with hc | hc
      · rw [hc]
        exact ne
      · exact other hc fun y => by (cases y)
    exact (same c nc).trans y
  refine ⟨G, I.call' (ch := []) eo U ok2 hb (fun b z => absurd z (by simp)), fun b o z => ?_, gone⟩
  by_cases ne : b = a
  · rw [ne, gone] at z
    cases z
  · exact (same b ne).symm.trans z
end
/-- the heap behind a new exception that is raised: its dict and its arguments stay -/
abbrev excG (H : Hp) (C a t dx : Addr) (f m : Str) (y : V) : Hp := L2.del (excH H C a t dx f m y) a
def MkR (H : Hp) (C : Addr) (f m : Str) (y : V) (Q : XK) : Prop := ∀ a t dx, H a = none → H t = none → H dx = none → t ≠ a → dx ≠ a → dx ≠ t → Q (.ref C) (some dx) (excG H C a t dx f m y)
section
variable {X : Cx} {pins : List (Addr × Obj)} {σ : L2.St} {H : Hp} {s : Shared} {C fI : Addr} {f m : Str} {B newId initId : String} {bmB : List Value} {k : Nat} {fd : FuncData}
theorem run_mkR {us : List Value} {kw : List (Str × Value)} {uy : Value} {y : V} {Q : XK} (I : Inv X pins σ H s) (T : ExK X.K C f B newId initId bmB) (R : Raises X (.ref C)) (iC : PySem.W.findIn X.K (.ref C) "__init__" = some (some (.ref fI))) (tI : PySem.W.typeIn X.K (.ref fI) = some (.type "function"))
    (F : FnOk X.prog X.w X.K X.mg X.base (L2.CX X.prog X.w) k fI fd ["self", f] (spInit X.K C f m)) (hr : Room (k + 1) X.A) (few : us.length ≤ 1000) (bnd : ∀ (self : Value) (s2 : Shared), X.K.In s2.heap → BindsTo s2 fd ⟨self :: us, kw⟩ ((["self", f] : List Str).zip [self, uy])) (ry : RelV y uy)
    (q : MkR H C f m y Q) : wpAny (model X.prog X.w) X.A (call (.ref C) us kw) (L2.MkP X pins σ Q) X.xe s := by
  obtain ⟨nm, N, qn, bs, bm, hdct, sn, sub, ab, col, dd, k0, k1, k2, k3, k5, atC, same⟩ := PySem.W.excInit_of I.kIn T.ini
  have kI := I.kIn
  obtain ⟨hp, g, dr, tk, os⟩ := s
  have big : hp.objs.size ≤ hp.objs.size + 1 := Nat.le_succ _
  have hn : H (hp.objs.size + 1) = none := I.hok.fresh big
  have kk : ∀ b o, hp.get? b = some o → ((hp.push (PySem.W.kdv_tup us)).push (PySem.HandSPX.excO C hp.objs.size)).get? b = some o := fun b o e => Heap.get?_push_of_some _ (Heap.get?_push_of_some _ e)
  have exA : ((hp.push (PySem.W.kdv_tup us)).push (PySem.HandSPX.excO C hp.objs.size)).get? (hp.objs.size + 1) = some (PySem.HandSPX.excO C hp.objs.size) := by heap_get
  have I2 : Inv X pins σ (upd H (hp.objs.size + 1) (ExI (hp.objs.size + 1) C hp.objs.size)) ⟨(hp.push (PySem.W.kdv_tup us)).push (PySem.HandSPX.excO C hp.objs.size), g, dr, tk, os⟩ := I.laid (t' := tk) kk big (exI_ok exA)
  have hq : spInit X.K C f m [.ref (hp.objs.size + 1), y] (upd H (hp.objs.size + 1) (ExI (hp.objs.size + 1) C hp.objs.size)) (fun v H2 => v = .non ∧ ∃ t dx, H2 = excH H C (hp.objs.size + 1) t dx f m y ∧ Q (.ref C) (some dx) (L2.del H2 (hp.objs.size + 1))) (fun _ _ _ => False) := by
    refine ⟨_, y, _, rfl, upd_same, fun t dx ht ta hdx da dt => ⟨rfl, t, dx, ?_, ?_⟩⟩
    · rw [upd_comm' (Ne.symm ta), upd_comm' (Ne.symm da), upd_upd_same]
    · rw [upd_ne ta] at ht
      rw [upd_ne da] at hdx
      have e : upd (upd (upd (upd H (hp.objs.size + 1) (ExI (hp.objs.size + 1) C hp.objs.size)) t (.tup [.str m])) dx (.xd [(f, y)])) (hp.objs.size + 1) (ExR (hp.objs.size + 1) C dx t) = excH H C (hp.objs.size + 1) t dx f m y := by
        rw [upd_comm' (Ne.symm ta), upd_comm' (Ne.symm da), upd_upd_same]
      rw [e]
      exact q _ t dx hn ht hdx ta da dt
  refine wpAny_call (PySem.VX.call_cls T.base same atC (PySem.W.looks_findIn kI iC) (fun self => PySem.W.bind_fn kI self tI) (by rw [sizeLine_eq]; omega)
    (codeAny_mono (F.run _ X.stack _ _ ⟨.ref (hp.objs.size + 1) :: us, kw⟩ [.ref (hp.objs.size + 1), uy] [.ref (hp.objs.size + 1), y] _ _ (hr.make C us kw) (I2.env0.make C us kw) (bnd _ _ I2.kIn) (.cons rfl (.cons ry .nil)) hq) fun r s' z => ?_))
  cases r with
  | error e =>
    obtain ⟨_, _, _, _, _, _, _, _, _, _, _, _, z⟩ := z
    exact z.elim
  | ok fl =>
    cases fl with
    | ret u =>
      obtain ⟨v, H2, eo, bare2, un2, hok2, rv, rfl, t, dx, e2, q2⟩ := z
      obtain ⟨h2, g2, d2, t2, os2⟩ := s'
      have ea : H2 (hp.objs.size + 1) = some (ExR (hp.objs.size + 1) C dx t) := by rw [e2]; exact upd_same
      have atR := ext_at hok2 ea
      obtain ⟨G, J, up, gone⟩ := let_go (d2 := d2) (t2 := t2) I big kk un2 hok2 eo bare2 ea
      exact ⟨rv, _, _, _, ⟨G, g2, d2, t2, os2⟩, _, .ref C, some dx, rfl, J, up, gone, atR, ⟨rfl, rfl⟩, rfl, rfl, L2.del_same, rfl, bare2, R, q2⟩
    | next => exact z.elim
    | brk => exact z.elim
    | cont => exact z.elim
end
/-! ### raise C(e) -/
def sRaise (c : Cl) (f : EF) : SF := fun E => (f E).fl fun p => match p.1.d? with
  | some d => .exc (.exc c false d) p.2
  | none => .bad
section
variable {X : Cx} {W : WX} {c : Cl} {nm : Str} {p pos pos' : Pos} {e : Expr} {f : EF} {D' : Ends}
theorem OK.goneX {K : PySem.W.Frag} {G : Gh} {Fz : Addr → Prop} {H : Hp} {E : Env} {σ : L2.St} {d : D} {y : V} {a t dx : Addr} (k : OK K (G.p (.dat d) y) Fz H E σ) (ha : H a = none) (ht : H t = none) (hdx : H dx = none) (ta : t ≠ a) (da : dx ≠ a) (dt : dx ≠ t) :
    ∃ Fz', OK K G Fz' (excG H (c.ad K) a t dx c.fld c.msg y) E σ ∧ RX K Fz' (excG H (c.ad K) a t dx c.fld c.msg y) (.exc c false d) (.ref (c.ad K)) (some dx) := by
  have up : ∀ b o, H b = some o → excG H (c.ad K) a t dx c.fld c.msg y b = some o := fun b o e => by
    unfold excG
    rw [del_ne (ne_of_none e ha)]
    unfold excH
    rw [upd_ne (ne_of_none e ha), upd_ne (ne_of_none e hdx), upd_ne (ne_of_none e ht)]
    exact e
  have eX : excG H (c.ad K) a t dx c.fld c.msg y dx = some (exd0 c y) := by
    unfold excG
    rw [del_ne da]
    unfold excH
    rw [upd_ne da, upd_same]
    rfl
  have k2 := k.freezeNew (ns := [dx]) (H' := excG H (c.ad K) a t dx c.fld c.msg y) (fun b hb => by rw [List.mem_singleton.mp hb]; exact hdx) up (fun b hb => by
    rw [List.mem_singleton.mp hb]
    exact ⟨_, eX, fun ps q => by cases q⟩)
  exact ⟨_, k2.pop, c, false, d, dx, y, rfl, rfl, rfl, .inr (by simp), eX, k2.datI⟩
theorem sRaise_of {G : Gh} {E : Env} {Fz : Addr → Prop} {H : Hp} {σ : L2.St} (k : OK X.K G Fz H E σ) (h : EndS W X.K G D' (sRaise c f E)) : tE W X.K f σ H (fun y H1 => MkR H1 (c.ad X.K) c.fld c.msg y (fun cls d H' => W cls d σ H')) := by
  refine tE_mono (tE_of k (EndS.flE h σ)) fun v H1 ⟨r, E1, Fz1, k1, h1⟩ a t dx ha ht hdx ta da dt => ?_
  dsimp only at h1
  cases hd : r.d? with
  | none => rw [hd] at h1; exact h1.elim
  | some d =>
    rw [hd] at h1
    obtain ⟨Fz2, k2⟩ := k1.d1 hd
    obtain ⟨Fz3, k3, rx⟩ := k2.goneX (c := c) ha ht hdx ta da dt
    exact h1 σ _ _ _ Fz3 k3 rx
theorem ss_raise {tgs : List Tg} (kx : Kx X W) (M : MkC X c) (F : ClF X.K tgs c) (tyC : PySem.W.typeIn X.K (.ref (c.ad X.K)) = some (.type "type")) (he : SE X W e f) (hn : c.nm = nm := by rfl) (hs : starEach [e] X.env = (false, eval e X.env) :: starEach [] X.env := by rfl) :
    SS X W (.Raise (some (.Call (.Name nm p) [e] [] pos)) none pos') (sRaise c f) := by
  subst hn
  obtain ⟨B, newId, initId, bmB, fI, fd, k, T, iC, tI, FI, hr, hg, hm, kp, hdb, b1, bK, b0⟩ := M.ex
  have pmk : L2.PMk X (.Call (.Name c.nm p) [e] [] pos) (fun σ H Q => tE W X.K f σ H fun y H1 => MkR H1 (c.ad X.K) c.fld c.msg y Q) := fun pins s σ H Q I h => by
    refine wpAny_Call_Name_kw (ld_glob I hg hm ?_ hdb)
    refine PySem.W.callWith_K (h₀ := X.base) I.ok.mod.kin kp (thn ((pa_cons he pa_nil hs).run pos pins s σ H (fun vs H1 => ∃ y, vs = [y] ∧ MkR H1 (c.ad X.K) c.fld c.msg y Q) I (tE_mono h fun y H1 q => ⟨y, rfl, q⟩)) fun us s1 ⟨vs, H1, I1, r, y, ey, q⟩ => ⟨I1.kIn, ?_⟩) hs
    subst ey
    obtain ⟨u, rfl, ru⟩ := r.one
    exact run_mkR I1 T (raises_own F.x.tells.su tyC) iC tI FI hr (by simp) (fun self s2 K2 => b1 self u s2 K2) ru q
  exact PS.imp (ps_raise kx.hc kx.tk pmk) fun D σ H ⟨G, E, Fz, kk, h⟩ => sRaise_of kk h
end
end VL

/-! The value layer, 19: mirrors run step by step. -/
namespace VL
namespace Ev
open PySem PySem.Spec PyProof.Rows L2 VL

theorem seq_nx {f g : SF} {E E1 : VL.Env} {r : FL} (h : f E = .nx E1) (h2 : g E1 = r) : sSeq f g E = r := by
  unfold sSeq
  rw [h]
  exact h2
theorem if_no {t : TF} {f g : SF} {E E1 : VL.Env} {r : FL} (h : t E = .ok (false, E1)) (h2 : g E1 = r) : sIf t f g E = r := by
  unfold sIf
  rw [h]
  exact h2
theorem if_yes {t : TF} {f g : SF} {E E1 : VL.Env} {r : FL} (h : t E = .ok (true, E1)) (h2 : f E1 = r) : sIf t f g E = r := by
  unfold sIf
  rw [h]
  exact h2
theorem or_no {f g : TF} {E E1 E2 : VL.Env} (h : f E = .ok (false, E1)) (h2 : g E1 = .ok (false, E2)) : tfOr f g E = .ok (false, E2) := by
  unfold tfOr
  rw [h]
  show g E1 = _
  exact h2
theorem op_of {g : Sl → Sl → Option Sl} {a b : EF} {E E1 E2 : VL.Env} {x y s : Sl} (ha : a E = .ok (x, E1)) (hb : b E1 = .ok (y, E2)) (h : g x y = some s) : eOp g a b E = .ok (s, E2) := by
  unfold eOp
  rw [ha]
  show ((b E1).bind fun q => (RR.opt (g x q.1)).bind fun s => RR.ok (s, q.2)) = _
  rw [hb]
  show ((RR.opt (g x y)).bind fun s => RR.ok (s, E2)) = _
  rw [h]
  rfl
theorem val_of {f : EF} {E E1 : VL.Env} {b : Bool} (h : f E = .ok (.dat (.bl b), E1)) : tfV f E = .ok (b, E1) := by
  unfold tfV
  rw [h]
  rfl
theorem loop_nx {g : GF} {b : SF} {d : D} {ds : List D} {E E1 E2 : VL.Env} {r : FL} (hg : g d E = some E1) (hb : b E1 = .nx E2) (h : loopS g b ds E2 = r) : loopS g b (d :: ds) E = r := by
  unfold loopS
  rw [hg]
  dsimp only
  rw [hb]
  exact h
theorem for_of {f : EI} {g : GF} {b : SF} {E E1 : VL.Env} {ds : List D} {r : FL} (h : f E = .ok (ds, E1)) (h2 : loopS g b ds E1 = r) : sFor f g b E = r := by
  unfold sFor
  rw [h]
  exact h2
theorem mf_ret {n : Nat} {sf : SF} {ss : List Sl} {r : Sl} {E : VL.Env} (h : sf (ss ++ List.replicate (n - ss.length) .no) = .rt r E) (hr : r.ret = true) : mfOf n sf ss = .ok r (lentOf E) := by
  unfold mfOf
  rw [h]
  dsimp only
  rw [if_pos hr]
abbrev I (i : Int) : Sl := .dat (.int i)
theorem set_of {i : Nat} {f : EF} {E E1 E2 : VL.Env} {r : Sl} (h : f E = .ok (r, E1)) (h2 : E1.st i r = E2) : sSet i f E = .nx E2 := by
  unfold sSet
  rw [h]
  show FL.nx (E1.st i r) = _
  rw [h2]
theorem ret_of {f : EF} {E E1 : VL.Env} {r : Sl} (h : f E = .ok (r, E1)) : sRet f E = .rt r E1 := by
  unfold sRet
  rw [h]
  rfl
theorem efn_of {n : Nat} {mf : CF} {g : AF} {E E1 : VL.Env} {ss0 ss : List Sl} {r : Sl} {l : Option (List (Key × D))} (h : g E = .ok (ss0, E1)) (h2 : frAll ss0 = some ss) (h3 : ss.length + 0 = n) (h4 : mf ss = .ok r l) (h5 : r.ret = true) : eFn n [] mf g E = .ok (r, E1) := by
  unfold eFn
  rw [h]
  show (match frAll ss0 with
  | some ss => if ss.length + ([] : List D).length = n then roE E1 (match mf (ss ++ ([] : List D).map Sl.dat) with
    | .ok r l => if r.ret then .ok r l else .bad
    | o => o) else .bad
  | none => .bad) = _
  rw [h2]
  dsimp only
  rw [if_pos (by simpa using h3), List.map_nil, List.append_nil, h4]
  dsimp only
  rw [if_pos h5]
  rfl
theorem gAdd_i (a b : Int) : gAdd (I a) (I b) = some (I (a + b)) := by kernel_rfl
theorem gSub_i (a b : Int) : gSub (I a) (I b) = some (I (a - b)) := by kernel_rfl
theorem gMod_i {a b : Int} (h : 0 < b) : gMod (I a) (I b) = some (I (a % b)) := by
  show Option.map _ (if 0 < b then some (D.int (a % b)) else none) = _
  rw [if_pos h]
  rfl
theorem gDiv_i {a b : Int} (h : divFits b = true) : gDiv (I a) (I b) = some (I (a / b)) := by
  show Option.map _ (if divFits b = true then some (D.int (a / b)) else none) = _
  rw [if_pos h]
  rfl
theorem gMul_i {a b : Int} (h : mulFits a b = true) : gMulA (I a) (I b) = some (I (a * b)) := by
  have e : gMulI (I a) (I b) = some (I (a * b)) := by
    show Option.map _ (if mulFits a b = true then some (D.int (a * b)) else none) = _
    rw [if_pos h]
    rfl
  have e2 : gMul (I a) (I b) = some (I (a * b)) := by
    unfold gMul gOr
    rw [e]
  unfold gMulA gOr
  rw [e2]
theorem fits_l {i j : Int} (h1 : -18446744073709551616 < i) (h2 : i < 18446744073709551616) : mulFits i j = true := by
  unfold mulFits
  rw [decide_eq_true h1, decide_eq_true h2]
  rfl
theorem fits_r {i j : Int} (h1 : -18446744073709551616 < j) (h2 : j < 18446744073709551616) : mulFits i j = true := by
  unfold mulFits
  rw [decide_eq_true h1, decide_eq_true h2]
  simp
theorem dput_of {i : Nat} {fv fk : EF} {E E1 E2 E3 : VL.Env} {d kd : D} {t0 t : Option Nat} {k0 kvs : List (Key × D)} {key : Key} (h : fv E = .ok (.dat d, E1)) (h0 : E1.at i = some (.od t0 k0)) (hk : fk E1 = .ok (.dat kd, E2)) (hkey : kd.key? = some key) (h1 : E2.at i = some (.od t kvs)) (hl : kvs.length < SZ) (h3 : E2.st i (.od t (putD kvs key d)) = E3) : sDPutV i fv fk E = .nx E3 := by
  unfold sDPutV
  rw [h]
  show (match E1.at i with
    | some (.od _ _) => (fk E1).fl fun p => match p.1 with
      | .dat d' => match d'.key? with
        | some k => match p.2.at i with
          | some (.od t kvs) => if kvs.length < SZ then .nx (p.2.st i (.od t (putD kvs k d))) else .bad
          | _ => .bad
        | none => .bad
      | _ => .bad
    | _ => .bad) = _
  rw [h0]
  dsimp only
  rw [hk]
  show (match kd.key? with
        | some k => match E2.at i with
          | some (.od t kvs) => if kvs.length < SZ then FL.nx (E2.st i (.od t (putD kvs k d))) else .bad
          | _ => .bad
        | none => .bad) = _
  rw [hkey]
  dsimp only
  rw [h1]
  dsimp only
  rw [if_pos hl, h3]
theorem gEq_i (a b : Int) : gEqA false (I a) (I b) = some (.dat (.bl (decide (a = b)))) := by kernel_rfl
theorem gGe_i (a b : Int) : gGe (I a) (I b) = some (.dat (.bl (decide (b ≤ a)))) := by kernel_rfl
theorem acons_of {f : EF} {g : AF} {E E1 E2 : VL.Env} {r : Sl} {rs : List Sl} (h : f E = .ok (r, E1)) (h2 : g E1 = .ok (rs, E2)) : aCons f g E = .ok (r :: rs, E2) := by
  unfold aCons
  rw [h]
  show ((g E1).bind fun q => RR.ok (r :: q.1, q.2)) = _
  rw [h2]
  rfl
theorem disp_of {ks : List Key} {g : AF} {E E1 : VL.Env} {ss : List Sl} {ds : List D} {m : List (Key × D)} (h : g E = .ok (ss, E1)) (h2 : dAll ss = some ds) (h3 : ks.length ≤ 15) (h4 : mergeD [] (ks.zip ds) = m) : eDisp ks g E = .ok (.od none m, E1) := by
  unfold eDisp
  rw [h]
  show (match dAll ss with
    | some ds => if ks.length ≤ 15 then RR.ok (Sl.od none (mergeD [] (ks.zip ds)), E1) else .bad
    | none => .bad) = _
  rw [h2]
  dsimp only
  rw [if_pos h3, h4]
theorem eif_yes {t : TF} {f g : EF} {E E1 : VL.Env} {r : RR (Sl × VL.Env)} (h : t E = .ok (true, E1)) (h2 : f E1 = r) : eIf t f g E = r := by
  unfold eIf
  rw [h]
  exact h2
theorem eif_no {t : TF} {f g : EF} {E E1 : VL.Env} {r : RR (Sl × VL.Env)} (h : t E = .ok (false, E1)) (h2 : g E1 = r) : eIf t f g E = r := by
  unfold eIf
  rw [h]
  exact h2
theorem efnD_of {i n : Nat} {mf : CF} {g : AF} {E E1 E2 : VL.Env} {t : Option Nat} {kv kv' : List (Key × D)} {ss0 ss : List Sl} {r : Sl} (h0 : E.at i = some (.od t kv)) (h : g (E.st i .no) = .ok (ss0, E1)) (h2 : frAll ss0 = some ss) (h3 : ss.length + 0 + 1 = n) (h4 : mf (.od (some 0) kv :: ss) = .ok r (some kv')) (h5 : r.ret = true) (h6 : E1.st i (.od t kv') = E2) : eFnD i n [] mf g E = .ok (r, E2) := by
  unfold eFnD
  rw [h0]
  dsimp only
  rw [h]
  show (match frAll ss0 with
    | some ss => if ss.length + ([] : List D).length + 1 = n then roED i t E1 (mf (.od (some 0) kv :: (ss ++ ([] : List D).map Sl.dat))) else .bad
    | none => .bad) = _
  rw [h2]
  dsimp only
  rw [if_pos (by simpa using h3), List.map_nil, List.append_nil, h4]
  show (if r.ret = true then RR.ok (r, lentSt E1 i t (some kv')) else .bad) = _
  rw [if_pos h5]
  show RR.ok (r, E1.st i (.od t kv')) = _
  rw [h6]
theorem elst_of {g : AF} {E E1 : VL.Env} {ss : List Sl} {ds : List D} (h : g E = .ok (ss, E1)) (h2 : dAll ss = some ds) (h3 : ds.length ≤ SZ) : eLst g E = .ok (.ol ds, E1) := by
  unfold eLst
  rw [h]
  show ((RR.opt (dAll ss)).bind fun ds => if ds.length ≤ SZ then RR.ok (Sl.ol ds, E1) else .bad) = _
  rw [h2]
  show (if ds.length ≤ SZ then RR.ok (Sl.ol ds, E1) else .bad) = _
  rw [if_pos h3]
theorem not_of {f : TF} {E E1 : VL.Env} {b : Bool} (h : f E = .ok (b, E1)) : tfNot f E = .ok (!b, E1) := by
  unfold tfNot
  rw [h]
  rfl
def rtTrue : FL → Bool
  | .rt (.dat (.bl b)) _ => b
  | _ => false
theorem rt_true : ∀ {x : FL}, rtTrue x = true → ∃ E, x = .rt (.dat (.bl true)) E
  | .rt (.dat (.bl true)) E, _ => ⟨E, rfl⟩
  | .rt (.dat (.bl false)) E, h => by cases h
  | .rt (.dat .non) _, h => by cases h
  | .rt (.dat (.int _)) _, h => by cases h
  | .rt (.dat (.str _)) _, h => by cases h
  | .rt (.dat (.tup _)) _, h => by cases h
  | .rt (.dat (.lst _)) _, h => by cases h
  | .rt (.dat (.exc _ _ _)) _, h => by cases h
  | .rt .no _, h => by cases h
  | .rt (.ol _) _, h => by cases h
  | .rt (.od _ _) _, h => by cases h
  | .rt (.lk _) _, h => by cases h
  | .rt (.cl _ _ _ _) _, h => by cases h
  | .nx _, h => by cases h
  | .bk _, h => by cases h
  | .ct _, h => by cases h
  | .exc _ _, h => by cases h
  | .bad, h => by cases h
theorem seq_rt {f g : SF} {E E1 : VL.Env} (h : f E = .nx E1) (h2 : rtTrue (g E1) = true) : ∃ E', sSeq f g E = .rt (.dat (.bl true)) E' := by
  obtain ⟨E', e⟩ := rt_true h2
  exact ⟨E', seq_nx h e⟩
theorem ints_map : ∀ ns : List Int, ints? (ns.map D.int) = some ns
  | [] => rfl
  | n :: ns => by
    show (ints? (ns.map D.int)).map (n :: ·) = _
    rw [ints_map ns]
    rfl
theorem ecall_of {g : List Sl → Option Sl} {fa : AF} {E E1 : VL.Env} {ss : List Sl} {s : Sl} (h : fa E = .ok (ss, E1)) (h2 : g ss = some s) : eCall g fa E = .ok (s, E1) := by
  unfold eCall
  rw [h]
  show ((RR.opt (g ss)).bind fun s => RR.ok (s, E1)) = _
  rw [h2]
  rfl
theorem ien_of {g : AF} {E E1 : VL.Env} {s : Sl} {ds : List D} (h : g E = .ok ([s], E1)) (h2 : s.ls? = some ds) : iEn g E = .ok (enumD 0 ds, E1) := by
  unfold iEn
  rw [h]
  show (match s.ls? with
    | some ds => RR.ok (enumD 0 ds, E1)
    | none => .bad) = _
  rw [h2]
theorem gAdd_l (x y : List D) (h : x.length + y.length ≤ SZ) : gAdd (.ol x) (.ol y) = some (.ol (x ++ y)) := by
  have e : gAddL (.ol x) (.ol y) = some (.ol (x ++ y)) := by
    show (if x.length + y.length ≤ SZ then some (Sl.ol (x ++ y)) else none) = _
    rw [if_pos h]
  have e0 : gI (fun i j => some (.int (i + j))) (.ol x) (.ol y) = none := by kernel_rfl
  unfold gAdd gOr
  rw [e0]
  dsimp only
  rw [e]
end Ev
end VL

/-! The value layer, 20: further assignments, methods of own lists. -/
namespace VL
open PySem PySem.Spec PyProof.Rows L2 RZ RT

/-! ### x += e, x -= e on ints -/
def sAug (i : Nat) (g : Int → Int → Int) (f : EF) : SF := fun E => match E.at i with
  | some (.dat (.int a)) => (f E).fl fun p => match p.1 with
    | .dat (.int b) => .nx (p.2.st i (.dat (.int (g a b))))
    | _ => .bad
  | _ => .bad
/-- two names, three names at once -/
def sPar (i j : Nat) (g : AF) : SF := fun E => (g E).fl fun p => match p.1 with
  | [r, s] => .nx ((p.2.st i r).st j s)
  | _ => .bad
def sPar3 (i j l : Nat) (g : AF) : SF := fun E => (g E).fl fun p => match p.1 with
  | [r, s, t] => .nx (((p.2.st i r).st j s).st l t)
  | _ => .bad
/-- targets at large -/
def sAsg (f : EF) (g : GF) : SF := fun E => (f E).fl fun p => match p.1.d? with
  | some d => match g d p.2 with
    | some E2 => .nx E2
    | none => .bad
  | none => .bad
section
variable {W : WX} {K : PySem.W.Frag} {G : Gh} {Fz : Addr → Prop} {H : Hp} {E : Env} {σ : L2.St} {D' : Ends}
theorem EndS.flA {x : RR (List Sl × Env)} {k : List Sl × Env → FL} (h : EndS W K G D' (x.fl k)) (σ : L2.St) : EndA W K G σ (fun vs H' => ∃ rs E1 Fz1, vs.length = rs.length ∧ OK K (G.ps rs vs) Fz1 H' E1 σ ∧ EndS W K G D' (k (rs, E1))) x := by
  cases x with
  | ok p => exact fun v H1 Fz1 hl k1 => ⟨p.1, p.2, Fz1, hl, k1, h⟩
  | exc x E' => exact h σ
  | bad => exact h
end
section
variable {X : Cx} {W : WX} {i j l : Nat} {x y z : Str} {px py pz pt pos pos' : Pos} {e a b c tg : Expr} {f : EF} {g : AF}
theorem ss_aug {op : Operator} {gi : Int → Int → Int} (kx : Kx X W) (hN : X.N[i]? = some x) (hx : Loc X.env.scope x) (ho : PIp X op (ipI gi)) (he : SE X W e f) (hf : X.fn x = true ∨ X.env.scope.names.lookup x = some .local := by first | exact .inl rfl | exact .inr rfl | assumption) :
    SS X W (.AugAssign (.Name x pos') op e pos) (sAug i gi f) := PS.imp (ps_aug kx.nd hN hx he ho hf) fun D' σ H ⟨G, E, Fz, k, h⟩ => by
  unfold sAug at h
  cases h0 : E.at i with
  | none => rw [h0] at h; exact h.elim
  | some s0 =>
    rw [h0] at h
    split at h
    · rename_i n eq
      cases eq
      obtain ⟨v, hv, r⟩ := k.at h0
      have hv2 : v = .int n := r.datI
      subst hv2
      refine ⟨_, hv, tE_mono (tE_of k (EndS.flE h σ)) fun w H1 ⟨r1, E1, Fz1, k1, h1⟩ => ?_⟩
      dsimp only at h1
      split at h1
      · rename_i m
        have hw : w = .int m := k1.datI
        exact ⟨n, m, rfl, hw, h1 _ _ _ (OK.set (k1.pop.dat (d := .int (gi n m)) rfl))⟩
      · exact h1.elim
    · exact h.elim
theorem ss_par {kt k2 : Nat} {pt2 : Pos} (kx : Kx X W) (hi : X.N[i]? = some x) (hj : X.N[j]? = some y) (ha : SA X W [a, b] g) (hij : i ≠ j := by decide) (hx : X.env.scope.names.lookup x = some .local := by rfl) (hy : X.env.scope.names.lookup y = some .local := by rfl)
    (hw : swappedStores [.Tuple [.Name x px, .Name y py] kt pt] (.Tuple [a, b] k2 pt2) X.env = pure (some [x, y]) := by rfl) (hs : swapsWithSole [.Tuple [.Name x px, .Name y py] kt pt] (.Tuple [a, b] k2 pt2) pos.line X.env = pure false := by rfl) :
    SS X W (.Assign [.Tuple [.Name x px, .Name y py] kt pt] (.Tuple [a, b] k2 pt2) pos) (sPar i j g) := PS.imp (ps_par kx.hc kx.nd hi hj hij hx hy ha hw hs) fun D' σ H ⟨G, E, Fz, k, h⟩ => by
  refine tA_mono (tA_of k (EndS.flA h σ)) fun vs H1 ⟨rs, E1, Fz1, hl, k1, h1⟩ => ?_
  dsimp only at h1
  split at h1
  · rename_i r s
    obtain ⟨v, w, rfl⟩ := len2 hl
    have k1 : OK X.K ((G.p r v).p s w) Fz1 H1 E1 σ := k1
    refine ⟨v, w, rfl, h1 _ _ Fz1 ?_⟩
    exact OK.set (OK.set (G := G.p s w) (OK.swap k1))
  · exact h1.elim
theorem ss_par3 {kt k2 : Nat} {pt2 : Pos} (kx : Kx X W) (hi : X.N[i]? = some x) (hj : X.N[j]? = some y) (hl : X.N[l]? = some z) (ha : SA X W [a, b, c] g) (hij : i ≠ j := by decide) (hil : i ≠ l := by decide) (hjl : j ≠ l := by decide) (hx : X.env.scope.names.lookup x = some .local := by rfl) (hy : X.env.scope.names.lookup y = some .local := by rfl) (hz : X.env.scope.names.lookup z = some .local := by rfl)
    (hw : swappedStores [.Tuple [.Name x px, .Name y py, .Name z pz] kt pt] (.Tuple [a, b, c] k2 pt2) X.env = pure (some [x, y, z]) := by rfl) (hs : swapsWithSole [.Tuple [.Name x px, .Name y py, .Name z pz] kt pt] (.Tuple [a, b, c] k2 pt2) pos.line X.env = pure false := by rfl) :
    SS X W (.Assign [.Tuple [.Name x px, .Name y py, .Name z pz] kt pt] (.Tuple [a, b, c] k2 pt2) pos) (sPar3 i j l g) := PS.imp (ps_par3 kx.hc kx.nd hi hj hl hij hil hjl hx hy hz ha hw hs) fun D' σ H ⟨G, E, Fz, k, h⟩ => by
  refine tA_mono (tA_of k (EndS.flA h σ)) fun vs H1 ⟨rs, E1, Fz1, hln, k1, h1⟩ => ?_
  dsimp only at h1
  split at h1
  · rename_i r s t
    obtain ⟨u, v, w, rfl⟩ := len3 hln
    have k1 : OK X.K (((G.p r u).p s v).p t w) Fz1 H1 E1 σ := k1
    refine ⟨u, v, w, rfl, h1 _ _ Fz1 ?_⟩
    have k2 : OK X.K (((G.p t w).p s v).p r u) Fz1 H1 E1 σ := OK.permT (G := G) k1 (List.reverse_perm [(r, some u), (s, some v), (t, some w)] |>.append_right _)
    exact OK.set (OK.set (OK.set k2))
  · exact h1.elim
theorem ss_asg {ws : List Nat} {gt : GF} (kx : Kx X W) (he : SE X W e f) (hg : SG X tg ws gt) (hs : swapsWithSole [tg] e pos.line X.env = pure false := by rfl) (hw : swappedStores [tg] e X.env = pure none := by rfl) (h1 : (assignEach [tg] X.env).map (·.2) = [assign tg X.env] := by rfl) :
    SS X W (.Assign [tg] e pos) (sAsg f gt) := PS.imp (ps_asg he hg hs hw h1) fun D' σ H ⟨G, E, Fz, k, h⟩ => by
  refine tE_mono (tE_of k (EndS.flE h σ)) fun v H1 ⟨r, E1, Fz1, k1, h1⟩ => ?_
  dsimp only at h1
  cases hd : r.d? with
  | none => rw [hd] at h1; exact h1.elim
  | some d =>
    rw [hd] at h1
    obtain ⟨Fz2, k2⟩ := k1.d1 hd
    dsimp only at h1
    cases hgd : gt d E1 with
    | none => rw [hgd] at h1; exact h1.elim
    | some E2 =>
      rw [hgd] at h1
      exact ⟨G, E1, Fz2, d, k2.pop, k2.datI, E2, hgd, fun σ' k3 _ => h1 σ' _ _ k3⟩
end
end VL

/-! The value layer: an exception caught and kept. -/
namespace VL
open PySem PySem.Spec PyProof.Rows L2 RZ RT

theorem flyZ_keeps {B : Heap} {l : List PySem.Env} {e : Addr} {Z : Obj → Prop} {h h' : Heap} (x : HandSPX.FlyingZ B l e Z h) (k : ∀ b o, h.get? b = some o → h'.get? b = some o) : HandSPX.FlyingZ B l e Z h' := by
  obtain ⟨k1, k2, k3, oe, vs, T, oT, ts, e1, e2, e3, e4, e5, e6, e7, e8, e9⟩ := x
  exact ⟨fun b o z => k b o (k1 b o z), k2, Heap.FunFrames.of_keeps (fun b o z _ => ⟨o, k b o z, rfl⟩) k3, oe, vs, T, oT, ts, k _ _ e1, e2, e3, e4, e5, e6, k _ _ e7, e8, e9⟩
theorem exV_ok {P : Program} {w : World} {H : Hp} {h : Heap} {a C dx : Addr} {oe : Obj} {vs : Array Value} (e : h.get? a = some oe) (hc : oe.cls = .ref C) (hd : oe.dict = some dx) (hv : oe.data = .fields vs) : ObjOk P w H h a (ExV a C dx) :=
  ⟨⟨oe, e, hc, hd, vs, hv⟩, ⟨_, e⟩, fun h1 h2 ⟨o, q, z⟩ k => ⟨o, k _ q, z⟩⟩
section
variable {X : Cx} {pins : List (Addr × Obj)} {σ : L2.St} {H : Hp} {s : Shared} {a : Addr} {oe : Obj} {vs : Array Value} {φ : Heap → Prop}
/-- an object that nobody tracks is tracked -/
theorem inv_track (J : Inv X pins σ H s) (hex : X.ex = []) (na : H a = none) (n0 : X.s_0.heap.get? a = none) (he : s.heap.get? a = some oe) (hd : oe.data = .fields vs) (nL : a ≠ X.env.locals) (np : ∀ p ∈ X.pn ++ pins, p.1 ≠ a) (new : ObjOk X.prog X.w (upd H a (.ext φ)) s.heap a (.ext φ)) : Inv X pins σ (upd H a (.ext φ)) s := by
  have ne : ∀ {b : Addr} {u : HO}, H b = some u → b ≠ a := fun {b u} e z => by
    rw [z, na] at e
    cases e
  have old : ∀ {b : Addr} {o : Obj}, X.s_0.heap.get? b = some o → b ≠ a := fun {b o} e z => by
    rw [z, n0] at e
    cases e
  refine { J with
    base := ⟨J.base.keep, J.base.slot, fun b o e n hx => (upd_ne (old e)).trans (J.base.free b o e n hx), J.base.there, fun b xs e => ?_, fun b o u e => ?_, fun b ps e => ?_⟩
    free := (upd_ne (Ne.symm nL)).trans J.free
    freeC := fun x c e => ?_
    pin := fun p hp => ?_
    hok := fun b u e => ?_ }
  · have z := J.base.tups b xs e
    exact (upd_ne (ne z)).trans z
  · have z := J.base.frzs b o u e
    exact (upd_ne (ne z)).trans z
  · obtain ⟨more, z⟩ := J.base.tbls b ps e
    exact ⟨more, (upd_ne (ne z)).trans z⟩
  · have z : c ≠ a := fun q => by
      obtain ⟨v, o, e2, e3⟩ := J.cell x c e
      rw [q, he] at e2
      cases e2
      rw [hd] at e3
      cases e3
    exact (upd_ne z).trans (J.freeC x c e)
  · obtain ⟨h1, h2, h3, h4, h5⟩ := J.pin p hp
    exact ⟨h1, (upd_ne (np p hp)).trans h2, h3, h4, h5⟩
  · by_cases hb : b = a
    · subst hb
      rw [upd_same] at e
      cases e
      exact new
    · rw [upd_ne hb] at e
      exact (J.hok b u e).stay (fun c v _ z => z) (fun c hc => (upd_ne (ne hc)).trans hc) (fun c xs hc => (upd_ne (ne hc)).trans hc)
end
/-- what 'except (A, B, C) as n' wishes: the exception is tracked in the suite -/
def wTold (K : PySem.W.Frag) (cs : List Value) (i : Nat) (ts : TS) (D : Ends) : WX := fun cls d σ H => PySem.W.exmAny K cls cs = some true ∧ ∃ C dx, cls = .ref C ∧ d = some dx ∧
  ∀ a, H a = none → ts { nx := fun σ' H' => D.nx (σ'.set i none) H', rt := D.rt, bk := fun σ' H' => D.bk (σ'.set i none) H', ct := fun σ' H' => D.ct (σ'.set i none) H' } (σ.set i (some (.ref a))) (upd H a (ExV a C dx))
section
variable {X : Cx} {x1 x2 x3 n : Str} {c1 c2 c3 : Value} {i : Nat} {body suite : List Stmt} {b0 : Stmt} {p1 p2 p3 pt pos pos' : Pos} {kt : Nat} {tb : WX → TS} {ts : TS}
theorem ps_told (stk : X.stack = X.env :: X.outer) (frm : X.env.frame = some X.env.locals) (hex : X.ex = []) (nd : X.N.Nodup) (hi : X.N[i]? = some n) (hl : X.env.kindOf n = some .local)
    (g1 : Gl X x1) (m1 : X.mg x1 = some c1) (g2 : Gl X x2) (m2 : X.mg x2 = some c2) (g3 : Gl X x3) (m3 : X.mg x3 = some c3) (q1 : (x1 == ("__debug__" : Str)) = false) (q2 : (x2 == ("__debug__" : Str)) = false) (q3 : (x3 == ("__debug__" : Str)) = false)
    (hbt : backTo pt (starEach [.Name x1 p1, .Name x2 p2, .Name x3 p3] X.env) = [(false, eval (.Name x1 p1) X.env), (false, eval (.Name x2 p2) X.env), (false, eval (.Name x3 p3) X.env)])
    (hb : ∀ (W : WX) (pn : List (Addr × Obj)) (xe : Value → Shared → Prop), L2.Takes (X.tr pn xe) W → PassesOwn (model X.prog X.w) X.A X.env xe → PSs (X.tr pn xe) body (tb W))
    (hsu : ∀ (a : Addr) (pn : List (Addr × Obj)), PSs (X.suite a pn) (b0 :: suite) ts) :
    PS X (.Try body [.ExceptHandler (some (.Tuple [.Name x1 p1, .Name x2 p2, .Name x3 p3] kt pt)) (some n) (b0 :: suite) pos'] [] [] pos) (fun D σ H => tb (wTold X.K [c1, c2, c3] i ts D) D σ H) := ⟨fun pins s σ H D I h => by
  have ok := I.ok
  have frames : X.A.frames = some (X.env :: X.outer) := by rw [ok.frames, stk]
  have loc : Loc X.env.scope n := .inl hl
  refine wpAny_Try_except (wpAny_mono ((hb (wTold X.K [c1, c2, c3] i ts D) (X.pn ++ pins) (fun e s1 => wpAny (model X.prog X.w) X.A (noteFrame e X.env) (fun _ s2 => wpAny (model X.prog X.w) X.A (setFlight e none) (fun _ s3 =>
    wpAny (model X.prog X.w) X.A (handleBy e X.env [.ExceptHandler (some (.Tuple [.Name x1 p1, .Name x2 p2, .Name x3 p3] kt pt)) (some n) (b0 :: suite) pos']) (L2.SP X pins D) X.xe s3) X.xe s2) X.xe s1) (fun u s' air => ?_) PassesOwn.looking).run [] s σ H D (I.toTry _) h) (fun f s1 done => ?_) (fun e s1 z => z))
  · obtain ⟨a, B, sI, pins', σ', H', cls, d, rfl, J0, nb, up, sky, na, os, ag, hm, C, dx, rfl, rfl, suiteQ⟩ := air
    have J : Inv X pins σ' H' sI := J0.ofTry ok
    have sky2 : L2.Sky B (X.env :: X.outer) a (L2.Zc (.ref C) (some dx)) X.env.locals s'.heap := by rw [← stk]; exact sky
    show wpAny (model X.prog X.w) X.A (noteFrame (.ref a) X.env) _ _ _
    refine L2.Sky.land L2.Zc.steady frames frm sky2 fun h3 fl3 up3 => ?_
    have J3 : Inv X pins σ' H' { s' with heap := h3 } := J.landed nb fl3.1 (up.trans up3) os ag
    obtain ⟨o3, v3, at3, z3, dt3⟩ := fl3.there
    have apart : ∀ {b : Addr}, b ∈ frs (X.env :: X.outer) → a ≠ b := fun {b} hm' e => by
      obtain ⟨_, o', e', nf⟩ := fl3.2.2.1.mem hm'
      rw [← e, at3] at e'
      cases e'
      exact nf _ dt3
    have aL : a ≠ X.env.locals := apart (List.mem_filterMap.mpr ⟨X.env, List.mem_cons_self, by rw [frm]⟩)
    have aF : a ∉ X.fs := fun hm' => by
      obtain ⟨e, he, q⟩ := List.mem_filterMap.mp hm'
      exact apart (List.mem_filterMap.mpr ⟨e, List.mem_cons_of_mem _ he, q⟩) rfl
    have aS : a ∉ frs X.stack := by rw [stk]; exact fun hm' => apart hm' rfl
    have nI : sI.heap.get? a = none := by
      cases e : sI.heap.get? a with
      | none => rfl
      | some o =>
        have z := nb a o e aS
        rw [fl3.2.1] at z
        cases z
    have n0 : X.s_0.heap.get? a = none := by
      cases e : X.s_0.heap.get? a with
      | none => rfl
      | some o =>
        obtain ⟨o', z⟩ := J.base.there a o e (by rw [hex]; exact fun z => nomatch z)
        rw [nI] at z
        cases z
    have np : ∀ p ∈ X.pn ++ pins, p.1 ≠ a := fun p hp e => by
      have z := (J.pin p hp).1
      rw [e, nI] at z
      cases z
    have S3 := J3.suite at3 dt3 na aL aF
    refine wpAny_handleBy_cons (codeAny_handlers_test ?_) (by intro q; cases q)
    refine Tuple_ ?_
    rw [hbt]
    refine Calls.spliced_cons (ld_glob (X := X.suite a ((a, o3) :: (X.pn ++ pins))) S3 g1 m1 (Calls.spliced_cons (ld_glob (X := X.suite a ((a, o3) :: (X.pn ++ pins))) S3 g2 m2 (Calls.spliced_cons (ld_glob (X := X.suite a ((a, o3) :: (X.pn ++ pins))) S3 g3 m3 (Calls.spliced_nil ?_) q3)) q2)) q1)
    refine wpAny_newObj_type ?_ (by show 3 ≤ sizeLine; rw [sizeLine_eq]; decide)
    have k35 : ∀ b o, h3.get? b = some o → (h3.push ({ cls := .type "tuple", data := .seq [c1, c2, c3].toArray } : Obj)).get? b = some o := fun b o e => Heap.get?_push_of_some _ e
    have fl5 := flyZ_keeps fl3 k35
    have up5 : sI.heap.UpToSlots (h3.push ({ cls := .type "tuple", data := .seq [c1, c2, c3].toArray } : Obj)) := (up.trans up3).trans (Heap.UpToSlots.of_keeps k35)
    have J5 : Inv X pins σ' H' { s' with heap := h3.push ({ cls := .type "tuple", data := .seq [c1, c2, c3].toArray } : Obj) } := J.landed nb fl5.1 up5 os ag
    have LT : PySem.W.Looks (model X.prog X.w) (h3.push ({ cls := .type "tuple", data := .seq [c1, c2, c3].toArray } : Obj)) (typeOf (.ref a)) (.ref C) := fun A' Q' E' s2 k q => wpAny_typeOf_ref (k _ _ (k35 _ _ at3)) (by rw [z3.1]; exact q)
    have LM := PySem.W.exm_tup3 (M := model X.prog X.w) (tp := h3.objs.size) J5.kIn LT (Heap.get?_push_size _ rfl) hm
    refine LM.here (codeAny_handlers_suite_as (HandSPX.lands_againZ fl5 fun h6 fl6 up6 => ?_))
    have J6 : Inv X pins σ' H' { s' with heap := h6 } := J.landed nb fl6.1 (up5.trans up6) os ag
    obtain ⟨o6, v6, at6, z6, dt6⟩ := fl6.there
    have T6 := inv_track J6 hex na n0 at6 dt6 aL np (exV_ok at6 z6.1 z6.2 dt6)
    have S6 : Inv (X.suite a (X.pn ++ pins)) [] σ' (upd H' a (ExV a C dx)) { s' with heap := h6 } := ⟨T6.ok.suite a _, T6.os, T6.bare, T6.base, T6.loc, T6.cell, T6.free, T6.freeC, fun p hp => T6.pin p (by rw [List.append_nil] at hp; exact hp), T6.hok, T6.len⟩
    refine store_ok (X := X.suite a (X.pn ++ pins)) (v := .ref a) S6 nd hi loc rfl (fun s7 S7 => ?_) (.inr hl)
    refine wpAny_mono ((hsu a (X.pn ++ pins)).run [] s7 _ _ _ S7 (suiteQ a na)) (fun f s8 done => ?_) (fun _ _ z => z.elim)
    have back : ∀ {σ8 : L2.St} {H8 : Hp} {Q : Shared → Prop}, Inv (X.suite a (X.pn ++ pins)) [] σ8 H8 s8 → (∀ s9, Inv X pins (σ8.set i none) H8 s9 → Q s9) →
        wpAny (model X.prog X.w) X.A (do bindName X.env n .none; unbindBehindTheSuite X.env n pos') (fun _ s9 => Q s9) X.xe s8 := fun {σ8 H8 Q} S8 q => by
      have J8 : Inv X pins σ8 H8 s8 := ⟨ok, S8.os, S8.bare, S8.base, S8.loc, S8.cell, S8.free, S8.freeC, fun p hp => S8.pin p (List.mem_append_left _ hp), S8.hok, S8.len⟩
      exact gone_ok J8 nd hi hl q
    cases f with
    | next => obtain ⟨_, _, S8, q8⟩ := done; exact back S8 fun s9 J9 => ⟨_, _, J9, q8⟩
    | brk => obtain ⟨_, _, S8, q8⟩ := done; exact back S8 fun s9 J9 => ⟨_, _, J9, q8⟩
    | cont => obtain ⟨_, _, S8, q8⟩ := done; exact back S8 fun s9 J9 => ⟨_, _, J9, q8⟩
    | ret u => obtain ⟨_, _, _, S8, r8, q8⟩ := done; exact back S8 fun s9 J9 => ⟨_, _, _, J9, r8, q8⟩
  · cases f with
    | next => obtain ⟨_, _, J1, q⟩ := done; exact wpAny_execs_nil ⟨_, _, J1.ofTry ok, q⟩
    | brk => obtain ⟨_, _, J1, q⟩ := done; exact ⟨_, _, J1.ofTry ok, q⟩
    | cont => obtain ⟨_, _, J1, q⟩ := done; exact ⟨_, _, J1.ofTry ok, q⟩
    | ret u => obtain ⟨_, _, _, J1, r, q⟩ := done; exact ⟨_, _, _, J1.ofTry ok, r, q⟩⟩
end
end VL

/-! The value layer: try .. except (A, B, C) as n: .. -/
namespace VL
open PySem PySem.Spec PyProof.Rows L2 RZ RT

def tryEnd (i : Nat) : FL → FL
  | .nx E => .nx (E.st i .no)
  | .rt r E => .rt r (E.st i .no)
  | .bk E => .bk (E.st i .no)
  | .ct E => .ct (E.st i .no)
  | _ => .bad
def sTry (cs : List Cl) (i : Nat) (fb fs : SF) : SF := fun E => match fb E with
  | .exc (.exc c _ d) E' => if cs.contains c then tryEnd i (fs (E'.st i (.dat (.exc c false d)))) else .bad
  | .exc _ _ => .bad
  | r => r
section
variable {cs : List Cl} {X : Cx} {W : WX} {x1 x2 x3 n : Str} {c1 c2 c3 : Value} {i : Nat} {body suite : List Stmt} {b0 : Stmt} {p1 p2 p3 pt pos pos' : Pos} {kt : Nat} {fb fs : SF}
theorem OK.caught {K : PySem.W.Frag} {G : Gh} {Fz : Addr → Prop} {H : Hp} {E : Env} {σ : L2.St} {c : Cl} {y : D} {w : V} {a dx : Addr} (k : OK K G Fz H E σ) (na : H a = none) (fx : Fz dx) (hx : H dx = some (exd0 c w)) (ry : Rp K Fz H y w) :
    ∃ Fz', OK K G Fz' (upd H a (ExV a (c.ad K) dx)) (E.st i (.dat (.exc c false y))) (σ.set i (some (.ref a))) := by
  have up : ∀ b o, H b = some o → upd H a (ExV a (c.ad K) dx) b = some o := fun b o e => (upd_ne (ne_of_none e na)).trans e
  have k2 := (k.dat ry).freezeNew (ns := [a]) (H' := upd H a (ExV a (c.ad K) dx)) (fun b hb => by rw [List.mem_singleton.mp hb]; exact na) up (fun b hb => by
    rw [List.mem_singleton.mp hb]
    exact ⟨_, upd_same, fun ps q => by cases q⟩)
  have r : Rp K (fun b => Fz b ∨ b ∈ [a]) (upd H a (ExV a (c.ad K) dx)) (.exc c false y) (.ref a) := ⟨a, dx, w, rfl, .inr (by simp), .inl fx, up _ _ hx, k2.datI, by rw [if_neg Bool.false_ne_true]; exact upd_same⟩
  exact ⟨_, (k2.pop.dat r).set⟩
theorem ss_try (stk : X.stack = X.env :: X.outer) (frm : X.env.frame = some X.env.locals) (hex : X.ex = []) (kx : Kx X W) (hi : X.N[i]? = some n) (hl : X.env.kindOf n = some .local)
    (g1 : Gl X x1) (m1 : X.mg x1 = some c1) (g2 : Gl X x2) (m2 : X.mg x2 = some c2) (g3 : Gl X x3) (m3 : X.mg x3 = some c3) (hm : ∀ c ∈ cs, PySem.W.exmAny X.K (.ref (c.ad X.K)) [c1, c2, c3] = some true)
    (hb : ∀ (W' : WX) (pn : List (Addr × Obj)) (xe : Value → Shared → Prop), Kx (X.tr pn xe) W' → SSs (X.tr pn xe) W' body fb) (hsu : ∀ (a : Addr) (pn : List (Addr × Obj)), SSs (X.suite a pn) wF (b0 :: suite) fs)
    (q1 : (x1 == ("__debug__" : Str)) = false := by decide) (q2 : (x2 == ("__debug__" : Str)) = false := by decide) (q3 : (x3 == ("__debug__" : Str)) = false := by decide)
    (hbt : backTo pt (starEach [.Name x1 p1, .Name x2 p2, .Name x3 p3] X.env) = [(false, eval (.Name x1 p1) X.env), (false, eval (.Name x2 p2) X.env), (false, eval (.Name x3 p3) X.env)] := by rfl) :
    SS X W (.Try body [.ExceptHandler (some (.Tuple [.Name x1 p1, .Name x2 p2, .Name x3 p3] kt pt)) (some n) (b0 :: suite) pos'] [] [] pos) (sTry cs i fb fs) :=
  PS.imp (ps_told (tb := fun W' => tS W' X.K fb) (ts := tS wF X.K fs) stk frm hex kx.nd hi hl g1 m1 g2 m2 g3 m3 q1 q2 q3 hbt (fun W' pn xe tk hp => hb W' pn xe ⟨hp, tk, kx.hc, kx.hu, kx.hg, kx.nd⟩) hsu) fun D σ H ⟨G, E, Fz, k, h⟩ => by
    refine ⟨G, E, Fz, k, ?_⟩
    unfold sTry at h
    cases hf : fb E with
    | nx E' => rw [hf] at h; exact h
    | rt r E' => rw [hf] at h; exact h
    | bk E' => rw [hf] at h; exact h
    | ct E' => rw [hf] at h; exact h
    | bad => rw [hf] at h; exact h.elim
    | exc x E' =>
      rw [hf] at h
      intro σ' cls d H' Fz' k' rx
      obtain ⟨c, raw, y, dx, w, rfl, rfl, rfl, fx, hx, ry⟩ := rx
      dsimp only at h
      by_cases hcs : cs.contains c = true
      case neg => rw [if_neg hcs] at h; exact h.elim
      rw [if_pos hcs] at h
      refine ⟨hm c (List.contains_iff_mem.mp hcs), _, dx, rfl, rfl, fun a na => ?_⟩
      obtain ⟨Fz2, k2⟩ := k'.caught (i := i) na fx hx ry
      refine ⟨G, _, Fz2, k2, ?_⟩
      have h : EndS W X.K G D (tryEnd i (fs (E'.st i (.dat (.exc c false y))))) := h
      cases hs : fs (E'.st i (.dat (.exc c false y))) with
      | nx E2 => rw [hs] at h; exact fun σ2 H2 Fz3 k3 => h _ H2 Fz3 k3.wipe1
      | rt r E2 => rw [hs] at h; exact fun v σ2 H2 Fz3 k3 => h v _ H2 Fz3 k3.wipe1
      | bk E2 => rw [hs] at h; exact fun σ2 H2 Fz3 k3 => h _ H2 Fz3 k3.wipe1
      | ct E2 => rw [hs] at h; exact fun σ2 H2 Fz3 k3 => h _ H2 Fz3 k3.wipe1
      | exc x2 E2 => rw [hs] at h; exact h.elim
      | bad => rw [hs] at h; exact h.elim
/-- e = error, in the suite -/
theorem ss_setP {j : Nat} {y : Str} {e : Expr} {fe : EF} {py : Pos} (nd : X.N.Nodup) (hi : X.N[j]? = some y) (hx : Loc X.env.scope y) (he : SE X W e fe) (hs : swapsWith e (some (.Name y py)) pos.line X.env = pure false := by rfl)
    (hf : X.fn y = true ∨ X.env.scope.names.lookup y = some .local := by first | exact .inl rfl | exact .inr rfl | assumption) : SS X W (.Assign [.Name y py] e pos) (sSet j fe) :=
  PS.imp (ps_set nd hi hx he hs hf) fun D σ H ⟨G, E, Fz, k, h⟩ => by
    refine tE_mono (tE_of k (EndS.flE h σ)) fun v H1 ⟨r, E1, Fz1, k1, h1⟩ => ?_
    exact h1 _ H1 Fz1 k1.set
end
end VL

/-! The value layer, 21: a lambda handed in. -/
namespace VL
open PySem PySem.Spec PyProof.Rows L2 RZ RT LamX

section
variable {X : Cx} {pins : List (Addr × Obj)} {σ : L2.St} {H : Hp} {s : Shared}
/-- x(), in the def that got the lambda -/
theorem act_of {Eg : XK} {Ng : List Str} {qg : Str} {sg : Scope} {g f c' : Addr} {cdg pm ctv : Value} {params : Arguments} {body : Expr} {scope : Scope} {k i : Nat} {a : Str} {pn : List (Addr × Obj)} {xe : Value → Shared → Prop} {W : WX} {p1 p2 : Pos} {tb : XK → TE}
    (I : Inv X pins σ H s) (L : LamS X.env.scope scope) (atF : s.heap.get? f = some (PySem.W.kla_obj "<lambda>" (X.env.qual ++ "<lambda>") params body scope (cloFrom X.env.cells scope.names []) pm c' ctv)) (nf : H f = none) (fr : f ∉ frs X.stack)
    (bnd : bindArgs (PySem.W.kla_fn "<lambda>" (X.env.qual ++ "<lambda>") params body scope (cloFrom X.env.cells scope.names []) pm (.ref c') ctv) ⟨[], []⟩ = pure [])
    (tk : Takes ((cxOf (L2.CX X.prog X.w) X.prog X.w X.K X.mg X.base Ng qg sg g cdg X.A X.stack s H Eg).tr pn xe) W) (room : Room (k + 1) (X.A.deeper (envOfC qg sg s.heap.objs.size g cdg)))
    (hbody : ∀ (s1 : Shared) (HZ : Hp) (E : XK), Room k ((X.A.deeper (envOfC qg sg s.heap.objs.size g cdg)).deeper (lamEnv X scope s1.heap.objs.size f c')) → PE (lamCx X (X.A.deeper (envOfC qg sg s.heap.objs.size g cdg)) (envOfC qg sg s.heap.objs.size g cdg :: X.stack) s1 HZ E scope f c') body (tb E))
    (hN : Ng[i]? = some a) (hv : Vis sg a) (hd : (a == ("__debug__" : Str)) = false := by decide) (hcd : (a == ("__classdict__" : Str)) = false := by decide) :
    PE ((cxOf (L2.CX X.prog X.w) X.prog X.w X.K X.mg X.base Ng qg sg g cdg X.A X.stack s H Eg).tr pn xe) (.Call (.Name a p1) [] [] p2)
      (fun σZ HZ Q => σZ[i]? = some (some (.ref f)) ∧ HZ c' = some (CodeO c' (X.env.qual ++ "<lambda>")) ∧ tb (WE W σZ) σ HZ Q) := ⟨fun pinsZ sZ σZ HZ Q IZ ⟨at0, hc, ht⟩ => by
  refine wpAny_Call_Name_kw (thn ((pe_var (pos := p1) (i := i) hN hv hd hcd).run pinsZ sZ σZ HZ (fun v H1 => v = .ref f ∧ H1 = HZ) IZ ⟨.ref f, at0, rfl, rfl⟩) fun u s1 ⟨v, H1, I1, r1, ev, eH⟩ => ?_)
  subst ev eH
  obtain rfl : u = Value.ref f := r1
  have at1 := I1.base.keep f _ atF nf fr (fun z => nomatch (show f ∈ ([] : List Addr) from z))
  obtain ⟨⟨oc, cv, ct, hoc, hdc, hvc⟩, _, _⟩ := I1.hok c' _ hc
  refine PySem.W.callWith_F0 ⟨_, _, _, _, at1⟩ (wpAny_call (codeAny_mono (R := CR (L2.CX X.prog X.w) (envOfC qg sg s.heap.objs.size g cdg :: X.stack) X.prog X.w H1 s1 Q (WE W σZ)) ?_ fun res s' z => ?_))
  · refine PySem.W.kla_callFunE room.depth at1 rfl L.co L.gen rfl ⟨c', oc, cv, ct, rfl, hoc, hdc, hvc⟩ ?_
    have bnd2 : bindArgs (PySem.W.kla_fn "<lambda>" (X.env.qual ++ "<lambda>") params body scope (cloFrom X.env.cells scope.names []) pm (.ref c') ctv) ⟨[] ++ [], []⟩ = pure [] := bnd
    rw [bnd2]
    refine wpAny_pure (wpAny_newFunctionEnv (fun y hy => (L.own y hy).2) (fun y hy => absurd hy (by simp)) (fun h₁ ns but => ⟨I1.nolimit.fresh _ but, ?_⟩) L.kind)
    show codeAny _ _ (.expr body (lamEnv X scope s1.heap.objs.size f c')) _ _
    have J := lam_start2 (E := WE W σZ) (c' := c') (f := f) (tk := s1.toks + ([] : List (Str × Value)).length) I L I1.env0 room.hd I1.base ns fun b o e => but.extBut b o (Nat.ne_of_lt (Heap.lt_size e)) (Heap.get?_push_of_some _ e)
    refine PySem.W.kla_codeExpr (wpAny_mono ((hbody s1 H1 (WE W σZ) (room.deeper _)).run [] _ _ H1 Q J ht) (fun v s' q => ?_) fun _ _ q => q)
    obtain ⟨w', H', J', rv, q⟩ := q
    exact ⟨w', H', J'.os, J'.bare, J'.base, J'.hok, rv, q⟩
  · cases res with
    | error e => exact passAt tk σZ pinsZ H1 s1 e s' I1 z
    | ok fl => cases fl with
      | ret u => exact I1.after z
      | next => exact z.elim
      | brk => exact z.elim
      | cont => exact z.elim⟩
end
end VL

/-! The value layer, 22: f(lambda: body), f one that calls what it gets. -/
namespace VL
open PySem PySem.Spec PyProof.Rows L2 RZ RT LamX

/-! ### the head's facts -/
def bmB (K : PySem.W.Frag) : Bool := match PySem.W.nsIn K mainGlobals "__builtins__" with
  | some (some (.ref bm)) => bm != builtinsNs && (bm != mainGlobals && (match K.lookup bm with
    | some ⟨.type "module", some d, .plain, _⟩ => d == builtinsNs
    | _ => false))
  | _ => false
/-- every table that is kept is one of those that are empty -/
def tabB (K : PySem.W.Frag) (tf : List DefN) : Bool := (tabsK K).all fun q => tf.any fun p => (He.cT K p).2 == q.1
/-- the def p makes lambdas -/
def lamB (K : PySem.W.Frag) (p : DefN) (qual : Str) : Bool :=
  bmB K && (PySem.W.codeHdIn K (He.cT K p).1 (He.cT K p).2 && (mainGlobals != (He.cT K p).2 && ((tabsK K).contains ((He.cT K p).2, qual ++ ".<locals>." ++ "<lambda>") && (tabsK K).all fun q => q.1 != (He.cT K p).2 || q.2 == qual ++ ".<locals>." ++ "<lambda>")))
structure LamD (X : Cx) : Prop where
  ex : ∃ (c P : Addr), X.env.code = .ref c ∧ (P, X.env.qual ++ "<lambda>") ∈ tabsK X.K ∧ (∀ p ∈ tabsK X.K, p.1 = P → p.2 = X.env.qual ++ "<lambda>") ∧ PySem.W.codeHdIn X.K c P = true ∧ mainGlobals ≠ P ∧ bmB X.K = true
theorem lamD_of {P : Program} {w : World} {K : PySem.W.Frag} {mg : Str → Option Value} {base : Heap} {N : List Str} {qual : Str} {scope : Scope} {f : Addr} {cdv : Value} {A : Around} {outer : List PySem.Env} {s : Shared} {H : Hp} {E : XK} {p : DefN} {CX : CXT}
    (hl : lamB K p qual = true) {fd : FuncData} (hc : ∃ oc od osl, K.lookup (He.fAd K p) = some ⟨oc, od, .func fd, osl⟩ ∧ fd.code = cdv ∧ PySem.W.codeIn K cdv qual = true) : LamD (cxOf CX P w K mg base N qual scope f cdv A outer s H E) := by
  unfold lamB at hl
  simp only [Bool.and_eq_true] at hl
  obtain ⟨h1, h2, h3, h4, h5⟩ := hl
  obtain ⟨oc, od, osl, lk, e, hcd⟩ := hc
  obtain ⟨c, z⟩ := He.codeIn_ref hcd
  have e2 : cdv = .ref (He.cT K p).1 := by rw [z, show (He.cT K p).1 = c from He.codeOf_eq lk (e.trans z)]
  refine ⟨(He.cT K p).1, (He.cT K p).2, e2, ?_, fun q hq e => ?_, h2, fun z => ?_, h1⟩
  · exact List.contains_iff_mem.mp h4
  · have z := List.all_eq_true.mp h5 q hq
    simp [e] at z
    exact z
  · rw [← z] at h3
    simp at h3

abbrev lfn (q : Str) (params : Arguments) (body : Expr) (scope : Scope) (cl : List (Str × Addr)) (dV doc pm cdv ct : Value) : FuncData := PySem.W.kdv_fn "<lambda>" q params (.expr body) scope cl dV doc pm cdv ct
abbrev lob (q : Str) (params : Arguments) (body : Expr) (scope : Scope) (cl : List (Str × Addr)) (dV doc pm : Value) (c' : Addr) (ctv : Value) : Obj := PySem.W.kdv_obj "<lambda>" q params (.expr body) scope cl dV doc pm c' ctv
section
variable {X : Cx} {pins : List (Addr × Obj)} {σ : L2.St} {H : Hp} {s : Shared}
theorem bm_at {P : Addr} {ps : Array Value} (I : Inv X pins σ H s) (hb : bmB X.K = true) (hP : s.heap.get? P = some { cls := .none, data := .fields ps }) : s.heap.BuiltinsAt X.mg P := by
  unfold bmB at hb
  split at hb
  · rename_i bm e
    simp only [Bool.and_eq_true, bne_iff_ne, ne_eq] at hb
    obtain ⟨h1, h2, h3⟩ := hb
    split at h3
    · rename_i d sl lk
      have lb := I.kIn _ _ lk
      refine ⟨bm, _, ?_, h1, h2, fun z => ?_, lb, rfl, ?_, rfl⟩
      · exact PySem.W.mg_of I.kIn (I.mod.glob.keeps I.bk) e
      · rw [z, hP] at lb
        cases lb
      · rw [beq_iff_eq.mp h3]
    · cases h3
  · cases hb
/-- the lambda is made: its code object is new, or found in the table -/
theorem lam_mk {params : Arguments} {body : Expr} {scope : Scope} {pos : Pos} {dV : Value} {E : Value → Shared → Prop} {Q : Value → Shared → Prop} {k : Nat} (I : Inv X pins σ H s) (L : LamD X) (hT : Tabs (tabsK X.K) H) (hfree : ∀ y ∈ scope.names, y.2 = .free → ∃ c, X.env.cells.lookup y.1 = some c)
    (h : ∀ (f c' : Addr) (doc pm ctv : Value) (H1 : Hp) (s' : Shared), Inv X pins σ H1 s' → ExtN H H1 → Tabs (tabsK X.K) H1 → (∀ b o, H b = none → s.heap.get? b = some o → s'.heap.get? b = some o ∧ H1 b = none) →
      s'.heap.get? f = some (lob (X.env.qual ++ "<lambda>") params body scope (cloFrom X.env.cells scope.names []) dV doc pm c' ctv) → H1 f = none → f ∉ frs X.stack → H1 c' = some (CodeO c' (X.env.qual ++ "<lambda>")) → Q (.ref f) s') :
    wpAny (model X.prog X.w) X.A (PySem.makeTail "<lambda>" (X.env.qual ++ "<lambda>") params (.expr body) scope X.env dV .none none pos k) Q E s := by
  obtain ⟨c, P, hcode, hm, hu, hhd, gP, hbm⟩ := L.ex
  obtain ⟨ps, hP, ht, ha⟩ := hT _ hm
  have C := PySem.W.codeHd_of_K I.kIn hhd
  have hP' : s.heap.get? P = some { cls := .none, data := .fields ps } := I.hok P _ hP
  have bP := bm_at I hbm hP'
  have nofr : ∀ f, s.heap.objs.size ≤ f → f ∉ frs X.stack := fun f hf z => by
    rcases List.mem_cons.mp (I.stkSub _ z) with e | e
    · have h1 := I.lt
      rw [← e] at h1
      exact Nat.lt_irrefl _ (Nat.lt_of_lt_of_le h1 hf)
    · exact I.nofs hf e
  cases hc : codeAmong pos ps.toList with
  | none =>
    refine PySem.W.kdv_makeTail (mg := X.mg) (c := c) (P := P) (ps := ps) (closure_ok hfree) I.ok.glob (I.mod.glob.keeps I.bk) hcode C hP' ht hc gP bP fun c' ctv doc h' tk hx hge hlt hrec htb => ?_
    obtain ⟨c2, oc, vs, t, e2, hoc, hd, hv⟩ := hrec
    cases e2
    have hsz : s.heap.objs.size ≤ h'.objs.size := Nat.le_trans hge (Nat.le_of_lt hlt)
    have nC : H c' = none := I.hok.fresh hge
    have I1 := inv_table (t' := tk) (more := #[rawInt pos.line, rawInt pos.col, .ref c']) (h' := h'.push (lob (X.env.qual ++ "<lambda>") params body scope (cloFrom X.env.cells scope.names []) dV doc ((X.mg "__name__").getD .none) c' ctv)) I hP
      (fun b o hb e => Heap.get?_push_of_some _ (hx b o hb e)) (Heap.get?_push_of_some _ htb) hge ⟨oc, vs, t, Heap.get?_push_of_some _ hoc, hd, hv⟩
    have hE : ExtN H (upd (upd H P (.tbl (ps ++ #[rawInt pos.line, rawInt pos.col, .ref c']))) c' (CodeO c' (X.env.qual ++ "<lambda>"))) := fun b o e n => by
      rw [upd_ne (ne_of_none e nC), upd_ne (fun z => n ps (Option.some.inj (e.symm.trans (by rw [z]; exact hP))))]
      exact e
    have eL : (ps ++ #[rawInt pos.line, rawInt pos.col, .ref c']).toList = ps.toList ++ [rawInt pos.line, rawInt pos.col, .ref c'] := by simp
    refine h h'.objs.size c' doc ((X.mg "__name__").getD .none) ctv _ _ I1 hE (fun p hp => ?_) (fun b o n e => ?_) (Heap.get?_push_size _ rfl) ?_ (nofr _ hsz) upd_same
    · by_cases hb : p.1 = P
      · rw [hu p hp hb, hb]
        refine ⟨_, by rw [upd_ne (ne_of_none hP nC), upd_same], by rw [eL]; exact PySem.TriplesOk_snoc _ _ _ _ ht, fun p' cv hcv => ?_⟩
        rw [eL] at hcv
        rcases among_app _ ht hcv with z | z
        · obtain ⟨c0, e1, e2⟩ := ha p' cv z
          exact ⟨c0, e1, hE _ _ e2 codeO_ne⟩
        · exact ⟨c', z, upd_same⟩
      · obtain ⟨ps', a1, a2, a3⟩ := hT p hp
        refine ⟨ps', by rw [upd_ne (ne_of_none a1 nC), upd_ne hb]; exact a1, a2, fun p' cv hcv => ?_⟩
        obtain ⟨c0, e1, e2⟩ := a3 p' cv hcv
        exact ⟨c0, e1, hE _ _ e2 codeO_ne⟩
    · have nP : b ≠ P := fun z => by
        rw [z, hP] at n
        cases n
      have nc : b ≠ c' := fun z => by
        rw [z] at e
        exact Nat.lt_irrefl _ (Nat.lt_of_lt_of_le (Heap.lt_size e) hge)
      exact ⟨Heap.get?_push_of_some _ (hx b o nP e), by rw [upd_ne nc, upd_ne nP]; exact n⟩
    · have n1 : h'.objs.size ≠ c' := Nat.ne_of_gt hlt
      have n2 : h'.objs.size ≠ P := Nat.ne_of_gt (Nat.lt_of_lt_of_le (Heap.lt_size hP') hsz)
      rw [upd_ne n1, upd_ne n2]
      exact I.hok.fresh hsz
  | some cv =>
    obtain ⟨c', e, hco⟩ := ha pos cv hc
    subst e
    refine PySem.W.kdv_makeTailHit (mg := X.mg) (c := c) (P := P) (ps := ps) (closure_ok hfree) I.ok.glob (I.mod.glob.keeps I.bk) hcode C hP' ht hc bP fun ctv doc h' tk hx hsz => ?_
    have I1 : Inv X pins σ H { s with heap := h'.push (lob (X.env.qual ++ "<lambda>") params body scope (cloFrom X.env.cells scope.names []) dV doc ((X.mg "__name__").getD .none) c' ctv), toks := tk } := I.kept fun b o e => Heap.get?_push_of_some _ (hx b o e)
    exact h h'.objs.size c' doc ((X.mg "__name__").getD .none) ctv H _ I1 (ExtN.refl H) hT (fun b o n e => ⟨Heap.get?_push_of_some _ (hx b o e), n⟩) (Heap.get?_push_size _ rfl) (I.hok.fresh hsz) (nofr _ hsz) hco
end
end VL

/-! The value layer, 23: the lambda's body, entered. -/
namespace VL
open PySem PySem.Spec PyProof.Rows L2 RZ RT LamX

/-- its own names: parameters that hold defaults, none of the maker's -/
structure LamN (N : List Str) (sc scope : Scope) (xs : List Str) : Prop where
  kind : scope.kind = .function
  co : scope.isCoroutine = false
  gen : scope.isGenerator = false
  own : ∀ y ∈ scope.names, y.2 ≠ .cell ∧ (y.2 = .local → y.1 ∉ N)
  par : ∀ x ∈ xs, scope.names.lookup x = some .local
  free : ∀ y ∈ scope.names, y.2 = .free → sc.names.lookup y.1 = some .cell ∨ sc.names.lookup y.1 = some .free
def lamNB (N : List Str) (sc scope : Scope) (xs : List Str) : Bool :=
  decide (scope.kind = .function) && (!scope.isCoroutine && (!scope.isGenerator && ((scope.names.all fun y => !decide (y.2 = .cell) && ((!decide (y.2 = .local) || !N.contains y.1) && (!decide (y.2 = .free) || decide (sc.names.lookup y.1 = some .cell) || decide (sc.names.lookup y.1 = some .free)))) &&
    xs.all fun x => decide (scope.names.lookup x = some .local))))
theorem lamN_by {N : List Str} {sc scope : Scope} {xs : List Str} (h : lamNB N sc scope xs = true) : LamN N sc scope xs := by
  unfold lamNB at h
  simp only [Bool.and_eq_true, Bool.or_eq_true, Bool.not_eq_true', decide_eq_true_eq, decide_eq_false_iff_not, List.all_eq_true] at h
  obtain ⟨h1, h2, h3, h4, h5⟩ := h
  refine ⟨h1, h2, h3, fun y hy => ⟨(h4 y hy).1, fun e z => ?_⟩, h5, fun y hy e => ?_⟩
  · rcases (h4 y hy).2.1 with q | q
    · exact q e
    · have q2 : N.contains y.1 = true := by simpa using z
      rw [q] at q2
      cases q2
  · rcases (h4 y hy).2.2 with (z | z) | z
    · exact absurd e z
    · exact .inl z
    · exact .inr z
theorem LamN.has {X : Cx} {scope : Scope} {xs : List Str} (L : LamN X.N X.env.scope scope xs) (ok : X.Ok) : ∀ y ∈ scope.names, y.2 = .free → ∃ c, X.env.cells.lookup y.1 = some c := fun y hy e => by
  rcases L.free y hy e with k | k
  · exact ok.has _ (.inl k)
  · exact ok.has _ (.inr k)
section
variable {X : Cx} {pins : List (Addr × Obj)} {σ : L2.St} {H HZ : Hp} {s s1 : Shared} {xs : List Str}
theorem lam_startN {A : Around} {outer : List PySem.Env} {E : XK} {scope : Scope} {f c' : Addr} {h₁ : Heap} {tk : Nat} {bnd : List (Str × Value)} (I : Inv X pins σ H s) (L : LamN X.N X.env.scope scope xs) (e0 : Env0 X.prog X.w X.K X.mg X.base A outer s1 HZ) (hd : A.handled = none)
    (un : Un (frs X.stack) [] H HZ s.heap s1.heap) (hns : h₁.Ns s1.heap.objs.size fun y => bnd.reverse.lookup y) (kp : ∀ b o, s1.heap.get? b = some o → h₁.get? b = some o) :
    Inv (lamCx X A outer s1 HZ E scope f c') [] σ HZ { s1 with heap := h₁, toks := tk } := by
  have hfree := L.has I.ok
  have cm : ∀ {y c}, (cloFrom X.env.cells scope.names []).lookup y = some c → X.env.cells.lookup y = some c := fun {y c} e => by
    rcases cloFrom_mem (PySem.mem_of_lookup e) with hm | ⟨h1, h2⟩
    · cases hm
    · obtain ⟨c1, hc⟩ := hfree _ h1 rfl
      have hc : X.env.cells.lookup y = some c1 := hc
      have e2 : c = c1 := by
        rw [h2, hc] <;> rfl
      rw [e2]
      exact hc
  have look : ∀ {y}, scope.names.lookup y = some .free → ∃ c, (cloFrom X.env.cells scope.names []).lookup y = some c := fun {y} hl => by
    have hy : (y, NameKind.free) ∈ scope.names := PySem.mem_of_lookup hl
    exact mem_lookup (cloFrom_has (cells := X.env.cells) (acc := []) hy)
  have cellK : ∀ {c : Addr} {v : Option Value}, H c = none → s.heap.IsCell c v → h₁.IsCell c v := fun {c v} n ⟨o, ho, hd⟩ => by
    obtain ⟨sl, q⟩ := un.any ho n (by simp)
    exact ⟨_, kp _ _ q, hd⟩
  have noA : ∀ b, b ∉ (lamCx X A outer s1 HZ E scope f c').ex := fun b z => absurd (show b ∈ ([] : List Addr) from z) (by simp)
  refine ⟨⟨e0.mod, L.kind, rfl, rfl, Nat.le_refl _, fun y z c e1 e2 => I.ok.inj y z c (cm e1) (cm e2), fun y hy => ?_, fun y c z _ => ?_, fun _ => hd, Around.frames_deeper e0.frames, .inr ⟨rfl, rfl⟩, fun b z => absurd z (noA b), e0.bs, e0.bsz, fun b _ _ => noA b,
      fun b z => absurd z (noA b), e0.funs, e0.frf⟩,
    rfl, e0.bare, Un.kept kp, ⟨_, hns, fun i y v e1 e2 e3 => ?_⟩, fun y c e => ?_, e0.hok.fresh (Nat.le_refl _), fun y c e => ?_, fun q hq => absurd (show q ∈ ([] : List (Addr × Obj)) ++ [] from hq) (by simp), e0.hok.kept kp, I.len⟩
  · have hy : scope.names.lookup y = some .cell ∨ scope.names.lookup y = some .free := hy
    rcases hy with hy | hy
    · exact absurd rfl (L.own _ (PySem.mem_of_lookup hy)).1
    · exact look hy
  · have z : false = true := z
    cases z
  · have e3 : Vis scope y := e3
    rcases e3 with k | k | k
    · exact absurd (List.mem_of_getElem? (show X.N[i]? = some y from e1)) ((L.own _ (PySem.mem_of_lookup k)).2 rfl)
    · exact absurd rfl (L.own _ (PySem.mem_of_lookup k)).1
    · obtain ⟨m, hn, hl⟩ := I.loc
      have hvis : Vis X.env.scope y := (L.free _ (PySem.mem_of_lookup k) rfl).elim (fun k => .inr (.inl k)) (fun k => .inr (.inr k))
      obtain ⟨w', r, q⟩ := hl i y v e1 e2 hvis
      obtain ⟨c2, h2⟩ := look k
      refine ⟨w', r, .inr ⟨.inr k, c2, h2, ?_⟩⟩
      have c1 := cm h2
      rcases q with ⟨k', _⟩ | ⟨_, c3, e', z⟩
      · have k' : X.env.scope.names.lookup y = some .local := k'
        rcases L.free _ (PySem.mem_of_lookup k) rfl with k2 | k2 <;> rw [show X.env.scope.names.lookup y = _ from k2] at k' <;> cases k'
      · rw [c1] at e'
        cases e'
        exact cellK (I.freeC y _ c1) z
  · obtain ⟨w', z⟩ := I.cell y c (cm e)
    exact ⟨w', cellK (I.freeC y c (cm e)) z⟩
  · obtain ⟨v, o, ho, hd⟩ := I.cell y c (cm e)
    exact un.free c o ho (I.freeC y c (cm e)) (by simp)
/-- x(), in the def that got the lambda -/
theorem act_ofN {Eg : XK} {Ng : List Str} {qg : Str} {sg : Scope} {g f c' : Addr} {cdg dV doc pm ctv : Value} {params : Arguments} {body : Expr} {scope : Scope} {k i : Nat} {a : Str} {pn : List (Addr × Obj)} {xe : Value → Shared → Prop} {W : WX} {p1 p2 : Pos} {tb : XK → TE} {bnd : List (Str × Value)}
    (I : Inv X pins σ H s) (L : LamN X.N X.env.scope scope xs) (atF : s.heap.get? f = some (lob (X.env.qual ++ "<lambda>") params body scope (cloFrom X.env.cells scope.names []) dV doc pm c' ctv)) (nf : H f = none) (fr : f ∉ frs X.stack)
    (hb : ∀ s1 : Shared, (∀ b o, H b = none → b ∉ frs X.stack → s.heap.get? b = some o → s1.heap.get? b = some o) → BindsTo s1 (lfn (X.env.qual ++ "<lambda>") params body scope (cloFrom X.env.cells scope.names []) dV doc pm (.ref c') ctv) ⟨[], []⟩ bnd) (hx : bnd.map (·.1) = xs)
    (tk : Takes ((cxOf (L2.CX X.prog X.w) X.prog X.w X.K X.mg X.base Ng qg sg g cdg X.A X.stack s H Eg).tr pn xe) W) (room : Room (k + 1) (X.A.deeper (envOfC qg sg s.heap.objs.size g cdg)))
    (hbody : ∀ (s1 : Shared) (HZ : Hp) (E : XK), Room k ((X.A.deeper (envOfC qg sg s.heap.objs.size g cdg)).deeper (lamEnv X scope s1.heap.objs.size f c')) → PE (lamCx X (X.A.deeper (envOfC qg sg s.heap.objs.size g cdg)) (envOfC qg sg s.heap.objs.size g cdg :: X.stack) s1 HZ E scope f c') body (tb E))
    (hN : Ng[i]? = some a) (hv : Vis sg a) (hd : (a == ("__debug__" : Str)) = false) (hcd : (a == ("__classdict__" : Str)) = false) :
    PE ((cxOf (L2.CX X.prog X.w) X.prog X.w X.K X.mg X.base Ng qg sg g cdg X.A X.stack s H Eg).tr pn xe) (.Call (.Name a p1) [] [] p2)
      (fun σZ HZ Q => σZ[i]? = some (some (.ref f)) ∧ HZ c' = some (CodeO c' (X.env.qual ++ "<lambda>")) ∧ tb (WE W σZ) σ HZ Q) := ⟨fun pinsZ sZ σZ HZ Q IZ ⟨at0, hc, ht⟩ => by
  refine wpAny_Call_Name_kw (thn ((pe_var (pos := p1) (i := i) hN hv hd hcd).run pinsZ sZ σZ HZ (fun v H1 => v = .ref f ∧ H1 = HZ) IZ ⟨.ref f, at0, rfl, rfl⟩) fun u s1 ⟨v, H1, I1, r1, ev, eH⟩ => ?_)
  subst ev eH
  obtain rfl : u = Value.ref f := r1
  have keep1 : ∀ b o, H b = none → b ∉ frs X.stack → s.heap.get? b = some o → s1.heap.get? b = some o := fun b o n hf e => I1.base.keep b o e n hf (fun z => nomatch (show b ∈ ([] : List Addr) from z))
  have at1 := keep1 f _ nf fr atF
  obtain ⟨⟨oc, cv, ct, hoc, hdc, hvc⟩, _, _⟩ := I1.hok c' _ hc
  refine PySem.W.callWith_F0 ⟨_, _, _, _, at1⟩ (wpAny_call (codeAny_mono (R := CR (L2.CX X.prog X.w) (envOfC qg sg s.heap.objs.size g cdg :: X.stack) X.prog X.w H1 s1 Q (WE W σZ)) ?_ fun res s' z => ?_))
  · refine PySem.W.kla_callFunE room.depth at1 rfl L.co L.gen rfl ⟨c', oc, cv, ct, rfl, hoc, hdc, hvc⟩ (hb s1 keep1 _ _ _ _ ?_)
    refine wpAny_newFunctionEnv (fun y hy => (L.own y hy).1) (fun y hy => L.par y.1 (by rw [← hx]; exact List.mem_map.mpr ⟨y, hy, rfl⟩)) (fun h₁ ns but => ⟨I1.nolimit.fresh _ but, ?_⟩) L.kind
    show codeAny _ _ (.expr body (lamEnv X scope s1.heap.objs.size f c')) _ _
    have J := lam_startN (E := WE W σZ) (c' := c') (f := f) (tk := s1.toks + bnd.length) I L I1.env0 room.hd I1.base ns fun b o e => but.extBut b o (Nat.ne_of_lt (Heap.lt_size e)) (Heap.get?_push_of_some _ e)
    refine PySem.W.kla_codeExpr (wpAny_mono ((hbody s1 H1 (WE W σZ) (room.deeper _)).run [] _ _ H1 Q J ht) (fun v s' q => ?_) fun _ _ q => q)
    obtain ⟨w', H', J', rv, q⟩ := q
    exact ⟨w', H', J'.os, J'.bare, J'.base, J'.hok, rv, q⟩
  · cases res with
    | error e => exact passAt tk σZ pinsZ H1 s1 e s' I1 z
    | ok fl => cases fl with
      | ret u => exact I1.after z
      | next => exact z.elim
      | brk => exact z.elim
      | cont => exact z.elim⟩
end
end VL

/-! The value layer, 24: f(lambda: body), the rule. -/
namespace VL
open PySem PySem.Spec PyProof.Rows L2 RZ RT LamX

/-! ### the mirror -/
def frz1 (i : Nat) (E : Env) : Env := match E[i]? with
  | some (.ol ds) => E.st i (.dat (.lst ds))
  | _ => E
/-- the names i of l are frozen -/
def frzs : List Nat → Env → Env
  | [], E => E
  | i :: l, E => frzs l (frz1 i E)
def cap1 (l : List Nat) (E : Env) (i : Nat) : Sl := if l.contains i then (match E[i]? with
  | some (.dat d) => .dat d
  | _ => .no) else .no
/-- what the lambda sees -/
def capE (l : List Nat) (E : Env) : Env := (List.range E.length).map (cap1 l E)
def roOf : RR (Sl × Env) → RO
  | .ok p => if p.1.ret then .ok p.1 none else .bad
  | .exc x _ => .exc x none
  | .bad => .bad
def roRet : RO → RO
  | .ok r l => if r.ret then .ok r l else .bad
  | o => o
open Classical in
/-- x(), x having got the thing s -/
noncomputable def eAct (i : Nat) (s : Sl) (o : RO) : EF := fun E => if E[i]? = some s then roE E (roRet o) else .bad
theorem eAct_eq {i : Nat} {s : Sl} {o : RO} {E : Env} (h : E[i]? = some s) : eAct i s o E = roE E (roRet o) := by
  unfold eAct
  rw [if_pos h]
/-- f(lambda: body); tr: what f makes of the body's end -/
def eLam (tr : RO → RO) (l : List Nat) (fb : EF) : EF := fun E => roE (frzs l E) (roRet (tr (roOf (fb (capE l (frzs l E))))))
/-! ### that it is so -/
section
variable {K : PySem.W.Frag} {G : Gh} {Fz Fz' : Addr → Prop} {H H' : Hp} {E : Env} {σ : L2.St}
theorem OK.frz1 (k : OK K G Fz H E σ) (i : Nat) : ∃ Fz', (∀ a, Fz a → Fz' a) ∧ OK K G Fz' H (frz1 i E) σ := by
  unfold VL.frz1
  split
  · rename_i ds e
    obtain ⟨o, ho, r⟩ := k.slot e
    obtain ⟨a, vs, rfl, ha, r⟩ := r
    obtain ⟨Fz', f, k2⟩ := (k.take e ho).frz
    have k3 := k2.back (i := i) ho
    rw [set_st] at k3
    exact ⟨Fz', f, k3⟩
  · exact ⟨Fz, fun _ z => z, k⟩
theorem OK.frzs : ∀ (l : List Nat) {Fz : Addr → Prop} {E : Env}, OK K G Fz H E σ → ∃ Fz', (∀ a, Fz a → Fz' a) ∧ OK K G Fz' H (frzs l E) σ
  | [], Fz, E, k => ⟨Fz, fun _ z => z, k⟩
  | i :: l, Fz, E, k => by
    obtain ⟨F1, f1, k1⟩ := k.frz1 i
    obtain ⟨F2, f2, k2⟩ := OK.frzs l k1
    exact ⟨F2, fun a z => f2 a (f1 a z), k2⟩
def capOf (E : Env) (σ : L2.St) (i : Nat) : Option (Nat × D × V) := match E[i]?, σ[i]? with
  | some (.dat d), some (some v) => some (i, d, v)
  | _, _ => none
def capL (l : List Nat) (E : Env) (σ : L2.St) : List (Nat × D × V) := l.filterMap (capOf E σ)
theorem capL_mem {l : List Nat} {p : Nat × D × V} (h : p ∈ capL l E σ) : E[p.1]? = some (.dat p.2.1) ∧ σ[p.1]? = some (some p.2.2) := by
  obtain ⟨i, _, e⟩ := List.mem_filterMap.mp h
  unfold capOf at e
  split at e
  · rename_i d v e1 e2
    cases e
    exact ⟨e1, e2⟩
  · cases e
theorem mem_capL {l : List Nat} {i : Nat} {d : D} {v : V} (hi : i ∈ l) (h1 : E[i]? = some (.dat d)) (h2 : σ[i]? = some (some v)) : (i, d, v) ∈ capL l E σ :=
  List.mem_filterMap.mpr ⟨i, hi, by unfold capOf; rw [h1, h2]⟩
theorem cap_rs {l : List Nat} {io : List Addr} (kd : ∀ (i : Nat) (d : D), E[i]? = some (Sl.dat d) → ∃ v, σ[i]? = some (some v)) (h : ∀ p ∈ capL l E σ, Rp K Fz H p.2.1 p.2.2) : ∀ p ∈ (capE l E).zip σ, RS K Fz H io p ∧ ownA p = none := fun p hp => by
  obtain ⟨i, hi⟩ := List.getElem?_of_mem hp
  obtain ⟨s, o⟩ := p
  rw [List.getElem?_zip_eq_some] at hi
  obtain ⟨h1, h2⟩ := hi
  unfold capE at h1
  rw [List.getElem?_map] at h1
  have h3 : s = cap1 l E i := by
    cases q : (List.range E.length)[i]? with
    | none => rw [q] at h1; cases h1
    | some j =>
      rw [q] at h1
      obtain ⟨hj, e⟩ := List.getElem?_eq_some_iff.mp q
      rw [List.getElem_range] at e
      rw [← e] at h1
      exact (Option.some.inj h1).symm
  unfold cap1 at h3
  split at h3
  · rename_i hl
    split at h3
    · rename_i d e
      subst h3
      obtain ⟨v, hv⟩ := kd i d e
      rw [hv] at h2
      cases h2
      exact ⟨⟨v, rfl, h _ (mem_capL (List.contains_iff_mem.mp hl) e hv)⟩, rfl⟩
    · subst h3
      exact ⟨trivial, rfl⟩
  · subst h3
    exact ⟨trivial, rfl⟩
/-- the account of the lambda's body at its entry -/
theorem cap_ok {l : List Nat} {B : Hp} {F0 : Addr → Prop} {io : List Addr} {L : List It'} (g : Gd K B F0 io Fz H L) (lv : E.length = σ.length) (kd : ∀ (i : Nat) (d : D), E[i]? = some (Sl.dat d) → ∃ v, σ[i]? = some (some v)) (h : ∀ p ∈ capL l E σ, Rp K Fz H p.2.1 p.2.2) : OK K ⟨H, Fz, [], []⟩ Fz H (capE l E) σ where
  gd := {
    rs := fun p hp => (cap_rs kd h p hp).1
    sep := List.pairwise_of_forall_mem_list fun p hp q hq a e => by
      rw [(cap_rs (io := []) kd h p hp).2] at e
      cases e
    own := fun p hp a e => by
      rw [(cap_rs (io := []) kd h p hp).2] at e
      cases e
    dom := g.dom
    frm := fun _ _ e _ _ => e
    f0 := fun _ z => z
    fz := fun _ z => .inl z
    tab := g.tab }
  lv := by
    unfold capE
    rw [List.length_map, List.length_range]
    exact lv
end
theorem roQ_ret {W : WX} {K : PySem.W.Frag} {G : Gh} {Fz : Addr → Prop} {H : Hp} {E : Env} {σ : L2.St} {Q : VK} {o : RO} (k : OK K G Fz H E σ) (h : EndE W K G σ Q (roE E (roRet o))) : RoQ K Fz H [] Q (WE W σ) o := by
  refine roQ_of k ?_
  cases o <;> exact h
section
variable {X : Cx} {pins : List (Addr × Obj)} {σ : L2.St} {H HZ : Hp} {s s1 : Shared} {xs : List Str}
/-- x(), in the def that got the lambda: what it does to data -/
theorem se_actN {Eg : XK} {Ng : List Str} {qg : Str} {sg : Scope} {g f c' : Addr} {cdg dV doc pm ctv : Value} {params : Arguments} {body : Expr} {scope : Scope} {k i : Nat} {a : Str} {pn : List (Addr × Obj)} {xe : Value → Shared → Prop} {W : WX} {p1 p2 : Pos} {fb : EF} {bnd : List (Str × Value)} {l : List Nat} {E1 : Env}
    (I : Inv X pins σ H s) (L : LamN X.N X.env.scope scope xs) (atF : s.heap.get? f = some (lob (X.env.qual ++ "<lambda>") params body scope (cloFrom X.env.cells scope.names []) dV doc pm c' ctv)) (nf : H f = none) (fr : f ∉ frs X.stack)
    (hb : ∀ s1 : Shared, (∀ b o, H b = none → b ∉ frs X.stack → s.heap.get? b = some o → s1.heap.get? b = some o) → BindsTo s1 (lfn (X.env.qual ++ "<lambda>") params body scope (cloFrom X.env.cells scope.names []) dV doc pm (.ref c') ctv) ⟨[], []⟩ bnd) (hx : bnd.map (·.1) = xs)
    (tk : Takes ((cxOf (L2.CX X.prog X.w) X.prog X.w X.K X.mg X.base Ng qg sg g cdg X.A X.stack s H Eg).tr pn xe) W) (room : Room (k + 1) (X.A.deeper (envOfC qg sg s.heap.objs.size g cdg)))
    (hbody : ∀ (s1 : Shared) (HZ : Hp) (E : XK), Room k ((X.A.deeper (envOfC qg sg s.heap.objs.size g cdg)).deeper (lamEnv X scope s1.heap.objs.size f c')) → SE (lamCx X (X.A.deeper (envOfC qg sg s.heap.objs.size g cdg)) (envOfC qg sg s.heap.objs.size g cdg :: X.stack) s1 HZ E scope f c') (wE E) body fb)
    (hN : Ng[i]? = some a) (hv : Vis sg a) (hd : (a == ("__debug__" : Str)) = false) (hcd : (a == ("__classdict__" : Str)) = false) (lv : E1.length = σ.length) (kd : ∀ (i : Nat) (d : D), E1[i]? = some (Sl.dat d) → ∃ v, σ[i]? = some (some v)) :
    SE ((cxOf (L2.CX X.prog X.w) X.prog X.w X.K X.mg X.base Ng qg sg g cdg X.A X.stack s H Eg).tr pn xe) W (.Call (.Name a p1) [] [] p2) (eAct i (.cl f c' (X.env.qual ++ "<lambda>") (capL l E1 σ)) (roOf (fb (capE l E1)))) :=
  PE.imp (act_ofN (tb := fun E => tE (wE E) X.K fb) I L atF nf fr hb hx tk room hbody hN hv hd hcd) fun σZ HZ Q ⟨G, EZ, Fz, k, h⟩ => by
    by_cases e : EZ[i]? = some (.cl f c' (X.env.qual ++ "<lambda>") (capL l E1 σ))
    · rw [eAct_eq e] at h
      obtain ⟨o, ho, e1, hc, hp⟩ := k.slot e
      subst e1
      refine ⟨ho, hc, ⟨HZ, Fz, [], []⟩, capE l E1, Fz, cap_ok k.gd lv kd hp, ?_⟩
      have q := roQ_ret k h
      cases hf : fb (capE l E1) with
      | bad => rw [hf] at q; exact q.elim
      | exc x E' =>
        rw [hf] at q
        intro cls d H' Fz' k' rx
        exact q cls d H' Fz' (k'.gd.sub (List.nil_sublist _)) rx
      | ok p =>
        rw [hf] at q
        unfold roOf at q
        by_cases hr : p.1.ret = true
        · simp only [hr, if_true] at q
          intro v H' Fz' k'
          exact q.2 v H' Fz' (k'.gd.sub ((List.nil_sublist _).cons_cons _))
        · simp only [hr] at q
          exact q.elim
    · unfold eAct at h
      rw [if_neg e] at h
      exact h.elim
end
/-- x() does what the handed-in lambda does -/
def ActP (X : Cx) (a : Str) (s : Sl) (o : RO) : Prop := ∀ (W : WX) (pn : List (Addr × Obj)) (xe : Value → Shared → Prop), Kx (X.tr pn xe) W → ∀ p1 p2 : Pos, SE (X.tr pn xe) W (.Call (.Name a p1) [] [] p2) (eAct 0 s o)
/-- the module's function x calls what it gets; tr: what it makes of that one's end -/
structure ToldD (P : Program) (w : World) (K : PySem.W.Frag) (mg : Str → Option Value) (base : Heap) (x : Str) (k : Nat) (tr : RO → RO) : Prop where
  ex : ∃ (g : Addr) (fd : FuncData) (N : List Str) (a : Str) (qual : Str) (params : Arguments) (body : List Stmt) (scope : Scope), FunD K x qual params body scope [] [] g fd ∧ FnScope N [a] scope ∧ N[0]? = some a ∧ Vis scope a ∧ (a == ("__debug__" : Str)) = false ∧ (a == ("__classdict__" : Str)) = false ∧
    mg x = some (.ref g) ∧ Binds K fd [a] [] ∧ (x == ("__debug__" : Str)) = false ∧
    ∀ (cdv : Value) (A : Around) (outer : List PySem.Env) (s : Shared) (H : Hp) (E : XK) (f c : Addr) (q : Str) (cap : List (Nat × D × V)) (o : RO), Room k (A.deeper (envOfC qual scope s.heap.objs.size g cdv)) → Kx (cxOf (L2.CX P w) P w K mg base N qual scope g cdv A outer s H E) (wE E) →
      ActP (cxOf (L2.CX P w) P w K mg base N qual scope g cdv A outer s H E) a (.cl f c q cap) o →
      ∃ sf : SF, SSs (cxOf (L2.CX P w) P w K mg base N qual scope g cdv A outer s H E) (wE E) body sf ∧ (tr o = .bad ∨ mfOf N.length sf [.cl f c q cap] = tr o)
section
variable {X : Cx} {W : WX} {x : Str} {params : Arguments} {body : Expr} {scope : Scope} {p lpos pos : Pos} {tr : RO → RO} {l : List Nat} {fb : EF} {j k n : Nat}
theorem kx_lam {A : Around} {outer : List PySem.Env} {s : Shared} {H : Hp} {E : XK} {f c' : Addr} (nd : X.N.Nodup) (hr : Room k (A.deeper (lamEnv X scope s.heap.objs.size f c'))) (hg : A.guards = some []) : Kx (lamCx X A outer s H E scope f c') (wE E) :=
  ⟨passes_of rfl, takes_of rfl rfl rfl rfl, rfl, by have u := hr.un; show (A.deeper _).units + 100 < cLine; omega, hg, nd⟩
/-- the made lambda is handed over -/
theorem lam_go {pins : List (Addr × Obj)} {σ : L2.St} {H1 : Hp} {s' : Shared} {Q : VK} {G : Gh} {E1 : Env} {Fz : Addr → Prop} {f c' : Addr} {dV doc pm ctv : Value} {xs : List Str} {bnd : List (Str × Value)} (T : ToldD X.prog X.w X.K X.mg X.base x j tr) (hr : Room n X.A) (hkn : k + 2 ≤ n) (hj : j ≤ k + 1) (hgl : Gl X x) (kx : Kx X W) (LN : LamN X.N X.env.scope scope xs)
    (hbody : ∀ (A : Around) (outer : List PySem.Env) (s : Shared) (H : Hp) (E : XK) (f c' : Addr), Room k (A.deeper (lamEnv X scope s.heap.objs.size f c')) → Kx (lamCx X A outer s H E scope f c') (wE E) → SE (lamCx X A outer s H E scope f c') (wE E) body fb)
    (I1 : Inv X pins σ H1 s') (k1 : OK X.K G Fz H1 E1 σ) (atF : s'.heap.get? f = some (lob (X.env.qual ++ "<lambda>") params body scope (cloFrom X.env.cells scope.names []) dV doc pm c' ctv)) (nf : H1 f = none) (fr : f ∉ frs X.stack) (hco : H1 c' = some (CodeO c' (X.env.qual ++ "<lambda>")))
    (hb : ∀ s1 : Shared, (∀ b o, H1 b = none → b ∉ frs X.stack → s'.heap.get? b = some o → s1.heap.get? b = some o) → BindsTo s1 (lfn (X.env.qual ++ "<lambda>") params body scope (cloFrom X.env.cells scope.names []) dV doc pm (.ref c') ctv) ⟨[], []⟩ bnd) (hx : bnd.map (·.1) = xs)
    (h : EndE W X.K G σ Q (roE E1 (roRet (tr (roOf (fb (capE l E1))))))) {g : Addr} (hg : X.mg x = some (.ref g)) :
    codeAny (model X.prog X.w) X.A (.call (.ref g) ⟨[.ref f], []⟩) (CR (L2.CX X.prog X.w) X.stack X.prog X.w H1 s' Q (WE W σ)) s' := by
  obtain ⟨g', fd, N, a, qual, prs, bdy, sc, F, S, hN, hv, hd, hcd, hm, hbi, hdb, hT⟩ := T.ex
  rw [hg] at hm
  cases hm
  have q := roQ_ret k1 h
  have kd : ∀ (i : Nat) (d : D), E1[i]? = some (Sl.dat d) → ∃ v, σ[i]? = some (some v) := fun i d e => by
    obtain ⟨o, ho, v, e2, _⟩ := k1.slot e
    exact ⟨v, by rw [ho, e2]⟩
  have room1 : Room (k + 1 + 1) X.A := hr.mono hkn
  -- the def's run
  obtain ⟨oc, od, dV0, kV, doc0, pm0, an, cdv, ct, osl, rfl, lk, hcd1, _, _⟩ := F.ex
  refine run_ofS (Q := Q) (vs := [.ref f]) (us := [.ref f]) lk hcd1 S room1 I1.env0 (hbi s' [.ref f] I1.kIn rfl) (.cons rfl .nil) rfl fun room' => ?_
  have kxT : Kx (cxOf (L2.CX X.prog X.w) X.prog X.w X.K X.mg X.base N qual sc g cdv X.A X.stack s' H1 (WE W σ)) (wE (WE W σ)) := kx_of S.nd room' kx.hg
  obtain ⟨sf, hsf, hq⟩ := hT cdv X.A X.stack s' H1 (WE W σ) f c' (X.env.qual ++ "<lambda>") (capL l E1 σ) (roOf (fb (capE l E1))) (room'.mono hj) kxT fun W' pn xe kx' p1 p2 =>
    se_actN (p1 := p1) (p2 := p2) I1 LN atF nf fr hb hx kx'.tk room' (fun s1 HZ E hr2 => hbody _ _ s1 HZ E f c' hr2 (kx_lam kx.nd hr2 kx.hg)) hN hv hd hcd k1.lv kd
  refine ⟨_, hsf, ⟨H1, Fz, [], []⟩, .cl f c' (X.env.qual ++ "<lambda>") (capL l E1 σ) :: List.replicate (N.length - 1) .no, Fz, ?_, ?_⟩
  · have hps : 1 ≤ N.length := by
      cases N with
      | nil => cases hN
      | cons _ _ => simp
    have g0 : Gd X.K H1 Fz [] Fz H1 (([Sl.cl f c' (X.env.qual ++ "<lambda>") (capL l E1 σ)] : List Sl).zip (([V.ref f] : List V).map some)) := {
      rs := fun p hp => by
        rw [List.mem_singleton.mp hp]
        refine ⟨rfl, hco, fun p hp => ?_⟩
        obtain ⟨e1, e2⟩ := capL_mem hp
        obtain ⟨o, ho, v, e3, r⟩ := k1.slot e1
        rw [e2] at ho
        cases ho
        cases e3
        exact r
      sep := List.pairwise_singleton _ _
      own := fun p hp a e => by
        rw [List.mem_singleton.mp hp] at e
        cases e
      dom := k1.gd.dom
      frm := fun _ _ e _ _ => e
      f0 := fun _ z => z
      fz := fun _ z => .inl z
      tab := k1.gd.tab }
    refine ⟨?_, ?_⟩
    · show Gd X.K H1 Fz [] Fz H1 (([Sl.cl f c' (X.env.qual ++ "<lambda>") (capL l E1 σ)] ++ List.replicate (N.length - ([Sl.cl f c' (X.env.qual ++ "<lambda>") (capL l E1 σ)] : List Sl).length) Sl.no).zip (L2.start N [V.ref f]))
      rw [start_zip (by rfl)]
      exact g0.nos
    · unfold L2.start
      simp
  · rcases hq with e | e
    · rw [e] at q
      exact q.elim
    · rw [← e] at q
      unfold mfOf at q
      show EndS _ _ _ _ (sf ([Sl.cl f c' (X.env.qual ++ "<lambda>") (capL l E1 σ)] ++ List.replicate (N.length - ([Sl.cl f c' (X.env.qual ++ "<lambda>") (capL l E1 σ)] : List Sl).length) Sl.no))
      cases hf : sf ([Sl.cl f c' (X.env.qual ++ "<lambda>") (capL l E1 σ)] ++ List.replicate (N.length - ([Sl.cl f c' (X.env.qual ++ "<lambda>") (capL l E1 σ)] : List Sl).length) Sl.no) with
      | nx E' =>
        rw [hf] at q
        intro σ' H' Fz' k'
        exact q.2 _ H' Fz' ((k'.lentEnd).dat rfl)
      | rt r E' =>
        rw [hf] at q
        dsimp only at q
        intro v σ' H' Fz' k'
        split at q
        · exact q.2 _ H' Fz' k'.lentEnd1
        · exact q.elim
      | exc y E' =>
        rw [hf] at q
        intro σ' cls d H' Fz' k' rx
        exact q cls d H' Fz' k'.lentEnd rx
      | bk E' => rw [hf] at q; exact q.elim
      | ct E' => rw [hf] at q; exact q.elim
      | bad => rw [hf] at q; exact q.elim
/-- f(lambda: body) -/
theorem se_lam (T : ToldD X.prog X.w X.K X.mg X.base x j tr) (hr : Room n X.A) (hkn : k + 2 ≤ n) (hj : j ≤ k + 1) (hgl : Gl X x) (kx : Kx X W) (L : LamD X) (LN : LamN X.N X.env.scope scope [])
    (hbody : ∀ (A : Around) (outer : List PySem.Env) (s : Shared) (H : Hp) (E : XK) (f c' : Addr), Room k (A.deeper (lamEnv X scope s.heap.objs.size f c')) → Kx (lamCx X A outer s H E scope f c') (wE E) → SE (lamCx X A outer s H E scope f c') (wE E) body fb)
    (hdef : defaultsOf params X.env = ([], []) := by rfl) (hbind : ∀ (q : Str) (cl : List (Str × Addr)) (doc pm cv ctv : Value), bindArgs (lfn q params body scope cl .none doc pm cv ctv) ⟨[], []⟩ = pure [] := by (intros; rfl)) :
    SE X W (.Call (.Name x p) [.Lambda params body scope lpos] [] pos) (eLam tr l fb) := ⟨fun pins s σ H Q I ⟨G, E, Fz, k0, h⟩ => by
  obtain ⟨g, fd, N, a, qual, prs, bdy, sc, F, S, hN, hv, hd, hcd, hm, hbi, hdb, hT⟩ := T.ex
  refine wpAny_Call_Name_kw (ld_glob I hgl hm ?_ hdb)
  refine PySem.W.callWith_K (h₀ := X.base) I.ok.mod.kin F.kp ?_ (by rfl) (by rfl)
  show wpAny _ _ (spliced ((false, eval (.Lambda params body scope lpos) X.env) :: backTo pos (starEach [] X.env))) _ _ s
  obtain ⟨F1, f1, k1⟩ := k0.frzs l
  refine Calls.spliced_cons (PySem.W.kla_eval hdef ?_)
  rw [PySem.makeFunction_eq]
  simp only [List.zip_nil_right, List.filterMap_nil, List.isEmpty_nil, if_true, pure_bind]
  refine lam_mk I L k1.gd.tab (LN.has I.ok) fun f c' doc pm ctv H1 s' I1 eN T1 kp hf hfn hfr hco => ?_
  refine Calls.spliced_nil ⟨I1.kIn, ?_⟩
  have k2 : OK X.K G F1 H1 (frzs l E) σ := ⟨k1.gd.extN eN fun _ => T1, k1.lv⟩
  refine wpAny_call (codeAny_mono (lam_go (hbody := hbody) (bnd := []) T hr hkn hj hgl kx LN I1 k2 hf hfn hfr hco (fun s1 _ => .of_eq (hbind _ _ _ _ _ _)) rfl h hm) fun res s' z => ?_)
  cases res with
  | error e => exact passAt kx.tk σ pins H1 _ e s' I1 z
  | ok fl => cases fl with
    | ret u => exact I1.after z
    | next => exact z.elim
    | brk => exact z.elim
    | cont => exact z.elim⟩
end
end VL

/-! The value layer, 25: f(lambda x=0: body), x not read. -/
namespace VL
open PySem PySem.Spec PyProof.Rows L2 RZ RT LamX

section
variable {X : Cx} {W : WX} {x y : Str} {params : Arguments} {body : Expr} {scope : Scope} {p lpos pos : Pos} {tr : RO → RO} {l : List Nat} {fb : EF} {j k n : Nat} {i : Int} {kd : Nat} {p0 : Pos}
theorem se_lamD (T : ToldD X.prog X.w X.K X.mg X.base x j tr) (hr : Room n X.A) (hkn : k + 2 ≤ n) (hj : j ≤ k + 1) (hgl : Gl X x) (kx : Kx X W) (L : LamD X) (LN : LamN X.N X.env.scope scope [y])
    (hbody : ∀ (A : Around) (outer : List PySem.Env) (s : Shared) (H : Hp) (E : XK) (f c' : Addr), Room k (A.deeper (lamEnv X scope s.heap.objs.size f c')) → Kx (lamCx X A outer s H E scope f c') (wE E) → SE (lamCx X A outer s H E scope f c') (wE E) body fb)
    (hdef : defaultsOf params X.env = ([eval (.Constant (.int i) kd p0) X.env], []) := by rfl)
    (hbind : ∀ (q : Str) (cl : List (Str × Addr)) (T : Addr) (u doc pm cv ctv : Value), ∃ k, bindArgs (lfn q params body scope cl (.ref T) doc pm cv ctv) ⟨[], []⟩ = seqItems? (.ref T) >>= k ∧ k (some [u].toArray) = pure [(y, u)] := by (intros; exact ⟨_, rfl, rfl⟩)) :
    SE X W (.Call (.Name x p) [.Lambda params body scope lpos] [] pos) (eLam tr l fb) := ⟨fun pins s σ H Q I ⟨G, E, Fz, k0, h⟩ => by
  obtain ⟨g, fd, N, a, qual, prs, bdy, sc, F, S, hN, hv, hd, hcd, hm, hbi, hdb, hT⟩ := T.ex
  refine wpAny_Call_Name_kw (ld_glob I hgl hm ?_ hdb)
  refine PySem.W.callWith_K (h₀ := X.base) I.ok.mod.kin F.kp ?_ (by rfl) (by rfl)
  show wpAny _ _ (spliced ((false, eval (.Lambda params body scope lpos) X.env) :: backTo pos (starEach [] X.env))) _ _ s
  obtain ⟨F1, f1, k1⟩ := k0.frzs l
  refine Calls.spliced_cons ?_
  rw [PySem.arm_eval_Lambda, hdef]
  show wpAny _ _ (do let dv ← evalAll [eval (.Constant (.int i) kd p0) X.env]; let kdv ← holding dv (evalAllOpt []); makeFunction "<lambda>" (X.env.qual ++ "<lambda>") params (.expr body) scope X.env dv kdv [] lpos lpos.line) _ _ s
  refine wpAny_bind ?_
  show wpAny _ _ (do let v ← eval (.Constant (.int i) kd p0) X.env; let vs ← holding [v] (evalAll []); pure (v :: vs)) _ _ s
  refine wpAny_bind (thn (pe_int.run pins s σ H (fun v H1 => v = .int i ∧ H1 = H) I ⟨rfl, rfl⟩) fun u s1 ⟨v, H0, I0, r, ev, eH⟩ => ?_)
  subst ev eH
  refine wpAny_bind (wpAny_holding (wpAny_pure (wpAny_pure (wpAny_bind (wpAny_holding (wpAny_pure ?_))))))
  rw [PySem.makeFunction_eq]
  simp only [List.zip_nil_right, List.filterMap_nil, List.isEmpty_nil, List.isEmpty_cons, if_true, pure_bind, Bool.false_eq_true, if_false]
  refine wpAny_bind (PySem.wpAny_newTextTuple ?_)
  have I2 : Inv X pins σ H0 { s1 with heap := s1.heap.push { cls := .type "tuple", data := .seq [u].toArray } } := I0.kept fun b o e => Heap.get?_push_of_some _ e
  have atT : (s1.heap.push { cls := .type "tuple", data := .seq [u].toArray }).get? s1.heap.objs.size = some { cls := .type "tuple", data := .seq [u].toArray } := Heap.get?_push_size _ rfl
  have nT : H0 s1.heap.objs.size = none := I0.hok.fresh (Nat.le_refl _)
  have frT : s1.heap.objs.size ∉ frs X.stack := fun z => by
    rcases List.mem_cons.mp (I0.stkSub _ z) with e | e
    · have h1 := I0.lt
      rw [← e] at h1
      exact Nat.lt_irrefl _ h1
    · exact I0.nofs (Nat.le_refl _) e
  refine lam_mk I2 L k1.gd.tab (LN.has I.ok) fun f c' doc pm ctv H1 s' I1 eN T1 kp hf hfn hfr hco => ?_
  refine Calls.spliced_nil ⟨I1.kIn, ?_⟩
  have k2 : OK X.K G F1 H1 (frzs l E) σ := ⟨k1.gd.extN eN fun _ => T1, k1.lv⟩
  obtain ⟨tT, nT1⟩ := kp _ _ nT atT
  refine wpAny_call (codeAny_mono (lam_go (hbody := hbody) (bnd := [(y, u)]) T hr hkn hj hgl kx LN I1 k2 hf hfn hfr hco (fun s2 hk => ?_) rfl h hm) fun res s' z => ?_)
  · obtain ⟨kk, e1, e2⟩ := hbind (X.env.qual ++ "<lambda>") (cloFrom X.env.cells scope.names []) s1.heap.objs.size u doc pm (.ref c') ctv
    intro M A Q2 E2 q
    rw [e1]
    refine wpAny_bind (PySem.wpAny_seqItems (hk _ _ nT1 frT tT) rfl ?_)
    rw [e2]
    exact wpAny_pure q
  cases res with
  | error e => exact passAt kx.tk σ pins H1 _ e s' I1 z
  | ok fl => cases fl with
    | ret u => exact I1.after z
    | next => exact z.elim
    | brk => exact z.elim
    | cont => exact z.elim⟩
end
end VL

/-! The value layer, 26: calls by names, the module's constants, built-ins. -/
namespace VL
open PySem PySem.Spec PyProof.Rows L2 RZ RT

/-! ### f(k = e, ..): every argument by its name -/
/-- the parameters' order: the place of each one among the written names -/
def permL (pm : List Nat) (ss : List Sl) : List Sl := pm.map fun j => (ss[j]?).getD .no
def permV (pm : List Nat) (vs : List V) : List V := pm.map fun j => (vs[j]?).getD .non
def permU (pm : List Nat) (us : List Value) : List Value := pm.map fun j => (us[j]?).getD .none
def SK (X : Cx) (W : WX) (kws : List Keyword) (f : AF) : Prop := PK X kws (tA W X.K f)
structure KBs (K : PySem.W.Frag) (fd : FuncData) (ps ks : List Str) (pm : List Nat) : Prop where
  to : ∀ (s : Shared) (ws : List Value), K.In s.heap → ws.length = ks.length → BindsTo s fd ⟨[], ks.zip ws⟩ (ps.zip (permU pm ws))
theorem _root_.L2.FunD.kbs {K : PySem.W.Frag} {x qual : Str} {params : Arguments} {body : List Stmt} {scope : Scope} {kws : List (Str × V)} {f : Addr} {fd : FuncData} {ps : List Str} {ks : List Str} {pm : List Nat} (F : FunD K x qual params body scope [] kws f fd)
    (h : ∀ (kV doc pmo : Value) (an : Option Addr) (cdv ct : Value) (ws : List Value), ws.length = ks.length → bindArgs (PySem.W.fnOf x qual params body scope .none kV doc pmo an cdv ct) ⟨[], ks.zip ws⟩ = pure (ps.zip (permU pm ws))) : KBs K fd ps ks pm := by
  obtain ⟨oc, od, dV, kV, doc, pmo, an, cdv, ct, osl, rfl, lk, hcd, hD, hK⟩ := F.ex
  rcases hD with ⟨_, rfl⟩ | ⟨e, _⟩
  · exact ⟨fun s ws _ hl => .of_eq (h kV doc pmo an cdv ct ws hl)⟩
  · exact absurd rfl e
structure FunK (X : Cx) (x : Str) (ks : List Str) (pm : List Nat) (mf : CF) : Prop where
  ex : ∃ (k : Nat) (f : Addr) (fd : FuncData) (ps : List Str), FnG X.prog X.w X.K X.mg X.base k f fd ps mf ∧ Room k X.A ∧ Gl X x ∧ X.mg x = some (.ref f) ∧ PySem.W.keepIn X.K (.ref f) = true ∧ KBs X.K fd ps ks pm ∧ ps.length = pm.length ∧ (∀ j ∈ pm, j < ks.length) ∧ (x == ("__debug__" : Str)) = false
def DefK (P : Program) (w : World) (K : PySem.W.Frag) (mg : Str → Option Value) (base : Heap) (x : Str) (k : Nat) (ks : List Str) (pm : List Nat) (mf : CF) : Prop :=
  ∃ (f : Addr) (fd : FuncData) (ps : List Str), FnG P w K mg base k f fd ps mf ∧ mg x = some (.ref f) ∧ PySem.W.keepIn K (.ref f) = true ∧ KBs K fd ps ks pm ∧ ps.length = pm.length ∧ (∀ j ∈ pm, j < ks.length) ∧ (x == ("__debug__" : Str)) = false
theorem DefK.fn {X : Cx} {x : Str} {k k' : Nat} {ks : List Str} {pm : List Nat} {mf : CF} (d : DefK X.prog X.w X.K X.mg X.base x k ks pm mf) (hr : Room k' X.A) (hk : k ≤ k') (hg : Gl X x) : FunK X x ks pm mf := by
  obtain ⟨f, fd, ps, F, hm, kp, hb, hn, hj, hdb⟩ := d
  exact ⟨k, f, fd, ps, F, hr.mono hk, hg, hm, kp, hb, hn, hj, hdb⟩
def eFnK (n : Nat) (pm : List Nat) (mf : CF) (g : AF) : EF := fun E => (g E).bind fun p => match frAll p.1 with
  | some ss => if ss.length = n then roE p.2 (match mf (permL pm ss) with
    | .ok r l => if r.ret then .ok r l else .bad
    | o => o) else .bad
  | none => .bad
theorem vals_perm {pm : List Nat} {vs : List V} {us : List Value} (r : Vals vs us) (h : ∀ j ∈ pm, j < vs.length) : Vals (permV pm vs) (permU pm us) := by
  induction pm with
  | nil => exact .nil
  | cons j pm ih =>
    have hj := h j List.mem_cons_self
    obtain ⟨w, hw, rw'⟩ := r.get (i := j) (x := vs[j]) (by simp [hj])
    have hd : RelV ((vs[j]?).getD .non) ((us[j]?).getD .none) := by
      rw [hw, List.getElem?_eq_getElem hj]
      exact rw'
    exact .cons hd (ih fun i hi => h i (List.mem_cons_of_mem _ hi))
theorem perm_zip {pm : List Nat} {ss : List Sl} {vs : List V} (hl : ss.length = vs.length) (h : ∀ j ∈ pm, j < ss.length) : ∀ p ∈ (permL pm ss).zip ((permV pm vs).map some), p ∈ ss.zip (vs.map some) := by
  induction pm with
  | nil => intro p hp; cases hp
  | cons j pm ih =>
    intro p hp
    have hj := h j List.mem_cons_self
    rcases List.mem_cons.mp (show p ∈ ((ss[j]?).getD .no, some ((vs[j]?).getD .non)) :: (permL pm ss).zip ((permV pm vs).map some) from hp) with z | z
    · have hj2 : j < vs.length := by omega
      rw [z, List.getElem?_eq_getElem hj, List.getElem?_eq_getElem hj2]
      refine List.mem_of_getElem? (i := j) ?_
      rw [List.getElem?_zip_eq_some]
      exact ⟨by simp [hj], by simp [hj2]⟩
    · exact ih (fun i hi => h i (List.mem_cons_of_mem _ hi)) p z
section
variable {X : Cx} {W : WX} {x : Str} {n : Nat} {mf : CF} {p pos kpos : Pos} {e : Expr} {es : List Expr} {g : AF} {ks : List Str} {pm : List Nat} {kws : List Keyword} {f : EF} {nm : Option Str}
theorem sk_nil : SK X W [] aNil := ⟨fun pos pins s σ H Q I h => by
  obtain ⟨G, E, Fz, k, h⟩ := h
  exact (pk_nil (X := X)).run pos pins s σ H Q I (h [] H Fz rfl k)⟩
theorem sk_cons (he : SE X W e f) (hr : SK X W kws g) : SK X W (⟨nm, e, kpos⟩ :: kws) (aCons f g) := ⟨fun pos pins s σ H Q I h => (pk_cons he hr).run pos pins s σ H Q I (by
  obtain ⟨G, E, Fz, k, h⟩ := h
  refine tE_mono (tE_of k (EndA.bindE h)) fun v H1 ⟨r, E1, Fz1, k1, h1⟩ => ?_
  refine tA_mono (tA_of (G := G.ps [r] [v]) k1 (EndA.bindA1 h1)) fun vs H2 ⟨rs, E2, Fz2, hl, k2, h2⟩ => ?_
  exact h2 (v :: vs) H2 Fz2 (by simpa using hl) k2)⟩
theorem se_fnK (F : FunK X x ks pm mf) (kx : Kx X W) (hkw : SK X W kws g) (hn : ks.length = n := by rfl) (hall : (backToKw pos (keywordEach kws X.env)).all (·.1.isSome) = true := by rfl) (hks : (backToKw pos (keywordEach kws X.env)).filterMap (·.1) = ks := by rfl)
    (hpl : ((backTo pos (starEach [] X.env)).any (·.1) || (backToKw pos (keywordEach kws X.env)).any (·.1.isNone)) = false := by rfl) : SE X W (.Call (.Name x p) [] kws pos) (eFnK n pm mf g) := ⟨fun pins s σ H Q I ⟨G, E, Fz, k, h⟩ => by
  obtain ⟨kk, f, fd, ps, FG, room, hg, hm, kp, hb, hpm, hj, hdb⟩ := F.ex
  refine wpAny_Call_Name_kw (ld_glob I hg hm ?_ hdb)
  refine PySem.W.callWith_KW0 (h₀ := X.base) I.ok.mod.kin kp hall (thn (hkw.run pos pins s σ H _ I (tA_of k (EndE.bindA h))) fun us s1 ⟨vs, H1, I1, r, rs, E1, Fz1, hl, k1, h1⟩ => ⟨I1.kIn, ?_⟩) hpl
  rw [hks]
  dsimp only at h1
  cases hf : frAll rs with
  | none => rw [hf] at h1; exact h1.elim
  | some ss =>
    rw [hf] at h1
    dsimp only at h1
    split at h1
    · rename_i hnn
      obtain ⟨Fz2, f2, k2, fr, hs⟩ := OK.frAll hl k1 hf
      have hlv : ss.length = vs.length := by omega
      have hj2 : ∀ j ∈ pm, j < ss.length := fun j hjm => by have := hj j hjm; omega
      have fr2 : Fr X.K Fz2 H1 (permL pm ss) (permV pm vs) := fun p hp => fr p (perm_zip hlv hj2 p hp)
      have r2 := vals_perm r (pm := pm) (fun j hjm => by have := hj2 j hjm; omega)
      refine wpAny_call (run_fnG (vs := permV pm vs) (us := permU pm us) FG room kx.tk kx.hg (hb.to s1 us I1.kIn ?_) I1 r2 ?_)
      · rw [← r.length]
        omega
      · refine ⟨by unfold permV; rw [List.length_map]; exact hpm.symm, permL pm ss, Fz2, [], by unfold permL; rw [List.length_map]; exact hpm.symm, fr2.enter k2, roQ_of k2 h1⟩
    · exact h1.elim⟩
/-! ### the module's constants -/
theorem se_gint {i : Int} (hg : Gl X x) (hm : ∃ t, X.mg x = some (.int i t)) (hd : (x == ("__debug__" : Str)) = false := by decide) : SE X W (.Name x p) (eC (.int i)) := by
  obtain ⟨t, ht⟩ := hm
  exact PE.imp (pe_glob (v := .int i) hg ht ⟨t, rfl⟩ hd) fun σ H Q ⟨G, E, Fz, k, h⟩ => h (.int i) H Fz (k.dat rfl)
theorem se_gstr {z : Str} (hg : Gl X x) (hm : ∃ t, X.mg x = some (.str z t)) (hd : (x == ("__debug__" : Str)) = false := by decide) : SE X W (.Name x p) (eC (.str z)) := by
  obtain ⟨t, ht⟩ := hm
  exact PE.imp (pe_glob (v := .str z) hg ht ⟨t, rfl⟩ hd) fun σ H Q ⟨G, E, Fz, k, h⟩ => h (.str z) H Fz (k.dat rfl)
end
/-- a value of the module is the data d -/
def datV : D → Value → Bool
  | .non, .none => true
  | .bl b, .bool c => b == c
  | .int i, .int j _ => i == j
  | .str x, .str y _ => x == y
  | _, _ => false
def datVs : List D → List Value → Bool
  | [], [] => true
  | d :: ds, v :: vs => datV d v && datVs ds vs
  | _, _ => false
/-- the module's name x is a tuple of flat data -/
def tupB (K : PySem.W.Frag) (x : Str) (ds : List D) : Bool := match PySem.W.nsIn K mainGlobals x with
  | some (some (.ref a)) => (match K.lookup a with
    | some ⟨.type "tuple", _, .seq its _, _⟩ => datVs ds its.toList && decide (its.size ≤ SZ)
    | _ => false)
  | _ => false
def vOf : D → V
  | .bl b => .bl b
  | .int i => .int i
  | .str x => .str x
  | _ => .non
theorem datV_ok {K : PySem.W.Frag} {Fz : Addr → Prop} {H : Hp} : ∀ {d : D} {v : Value}, datV d v = true → Rp K Fz H d (vOf d) ∧ RelV (vOf d) v
  | .non, .none, _ => ⟨rfl, rfl⟩
  | .bl b, .bool c, h => by
    have e := beq_iff_eq.mp (show (b == c) = true from h)
    subst e
    exact ⟨rfl, rfl⟩
  | .int i, .int j t, h => by
    have e := beq_iff_eq.mp (show (i == j) = true from h)
    subst e
    exact ⟨rfl, t, rfl⟩
  | .str i, .str j t, h => by
    have e := beq_iff_eq.mp (show (i == j) = true from h)
    subst e
    exact ⟨rfl, t, rfl⟩
theorem datVs_ok {K : PySem.W.Frag} {Fz : Addr → Prop} {H : Hp} : ∀ {ds : List D} {vs : List Value}, datVs ds vs = true → RpL K Fz H ds (ds.map vOf) ∧ Vals (ds.map vOf) vs
  | [], [], _ => ⟨rfl, .nil⟩
  | d :: ds, v :: vs, h => by
    obtain ⟨h1, h2⟩ := Bool.and_eq_true_iff.mp (show (datV d v && datVs ds vs) = true from h)
    obtain ⟨a1, a2⟩ := datV_ok (K := K) (Fz := Fz) (H := H) h1
    obtain ⟨b1, b2⟩ := datVs_ok (K := K) (Fz := Fz) (H := H) h2
    exact ⟨⟨_, _, rfl, a1, b1⟩, .cons a2 b2⟩
  | [], _ :: _, h => by cases h
  | _ :: _, [], h => by cases h
section
variable {X : Cx} {W : WX} {x : Str} {p : Pos} {ds : List D}
theorem se_gtup (hg : Gl X x) (hb : tupB X.K x ds = true) (hm : X.mg x = some (.ref (He.ga X.K x))) (hd : (x == ("__debug__" : Str)) = false := by decide) : SE X W (.Name x p) (eC (.tup ds)) := by
  refine PE.imp (pe_glob (v := .ref (He.ga X.K x)) hg hm rfl hd) fun σ H Q ⟨G, E, Fz, k, h⟩ => h _ H Fz (k.dat ?_)
  unfold tupB at hb
  split at hb
  · rename_i a e
    have ea : He.ga X.K x = a := by unfold He.ga; rw [e]
    split at hb
    · rename_i od its n sl lk
      obtain ⟨h1, h2⟩ := Bool.and_eq_true_iff.mp hb
      obtain ⟨r1, r2⟩ := datVs_ok (K := X.K) (Fz := Fz) (H := H) h1
      refine ⟨a, ds.map vOf, by rw [ea], .inr ⟨_, its, n, lk, rfl, rfl, ?_, r2⟩, r1⟩
      have := of_decide_eq_true h2
      rw [SZ_eq] at this
      exact this
    · cases hb
  · cases hb
end
/-! ### built-ins by name -/
section
variable {X : Cx} {W : WX} {p pos : Pos} {e : Expr} {es : List Expr} {fa : AF}
theorem se_anyF (kx : Kx X W) (hg : Gl X "any") (hm : X.mg "any" = none) (ha : SA X W (e :: es) fa) (he : starEach (e :: es) X.env = (false, eval e X.env) :: starEach es X.env := by rfl) (hpl : (backTo pos (starEach es X.env)).any (·.1) = false := by rfl) :
    SE X W (.Call (.Name "any" p) (e :: es) [] pos) (eCall (g1 gAny) fa) := se_callB (CallR.imp (cr_any kx.hc) fun vs H Q ⟨v, e, a, bs, e2, h, q⟩ => ⟨a, bs, by rw [e, e2], h, q⟩) (gc1 (gu_anyf (fun bs => bs.any id))) hg hm (by decide +kernel) ha (by decide) (by decide) he hpl
theorem se_allF (kx : Kx X W) (hg : Gl X "all") (hm : X.mg "all" = none) (ha : SA X W (e :: es) fa) (he : starEach (e :: es) X.env = (false, eval e X.env) :: starEach es X.env := by rfl) (hpl : (backTo pos (starEach es X.env)).any (·.1) = false := by rfl) :
    SE X W (.Call (.Name "all" p) (e :: es) [] pos) (eCall (g1 gAll) fa) := se_callB (CallR.imp (cr_all kx.hc) fun vs H Q ⟨v, e, a, bs, e2, h, q⟩ => ⟨a, bs, by rw [e, e2], h, q⟩) (gc1 (gu_anyf (fun bs => bs.all id))) hg hm (by decide +kernel) ha (by decide) (by decide) he hpl
theorem se_reprF (kx : Kx X W) (hg : Gl X "repr") (hm : X.mg "repr" = none) (ha : SA X W (e :: es) fa) (he : starEach (e :: es) X.env = (false, eval e X.env) :: starEach es X.env := by rfl) (hpl : (backTo pos (starEach es X.env)).any (·.1) = false := by rfl) :
    SE X W (.Call (.Name "repr" p) (e :: es) [] pos) (eCall (g1 gRepr) fa) := se_callB (call_reprA kx.hg kx.hu80) (gc1 gu_repr) hg hm (by decide +kernel) ha (by decide) (by decide) he hpl
theorem gr_i2 {K : PySem.W.Frag} {fi : Int → Int → Int} : GR K (fun x y H Q => ∃ i j, x = V.int i ∧ y = V.int j ∧ Q (.int (fi i j)) H) (gI fun i j => some (.int (fi i j))) := by
  intro G Fz H E σ x y s v w Q k kx ky e q
  unfold gI at e
  split at e
  · rename_i i j
    cases e
    exact ⟨i, j, kx.datI, ky.datI, q _ H Fz (k.dat rfl)⟩
  · cases e
theorem se_minF (kx : Kx X W) (hg : Gl X "min") (hm : X.mg "min" = none) (ha : SA X W (e :: es) fa) (he : starEach (e :: es) X.env = (false, eval e X.env) :: starEach es X.env := by rfl) (hpl : (backTo pos (starEach es X.env)).any (·.1) = false := by rfl) :
    SE X W (.Call (.Name "min" p) (e :: es) [] pos) (eCall (g2 gMin2) fa) := se_callB (CallR.imp (call_min2 kx.hc) fun vs H Q ⟨v, w, e, i, j, e1, e2, q⟩ => ⟨i, j, by rw [e, e1, e2], q⟩) (gc2 (gr_i2 (fi := fun i j => if j < i then j else i))) hg hm (by decide +kernel) ha (by decide) (by decide) he hpl
theorem se_maxF (kx : Kx X W) (hg : Gl X "max") (hm : X.mg "max" = none) (ha : SA X W (e :: es) fa) (he : starEach (e :: es) X.env = (false, eval e X.env) :: starEach es X.env := by rfl) (hpl : (backTo pos (starEach es X.env)).any (·.1) = false := by rfl) :
    SE X W (.Call (.Name "max" p) (e :: es) [] pos) (eCall (g2 gMax2) fa) := se_callB (CallR.imp (call_max2 kx.hc) fun vs H Q ⟨v, w, e, i, j, e1, e2, q⟩ => ⟨i, j, by rw [e, e1, e2], q⟩) (gc2 (gr_i2 (fi := fun i j => if j > i then j else i))) hg hm (by decide +kernel) ha (by decide) (by decide) he hpl
theorem se_intF (kx : Kx X W) (hg : Gl X "int") (hm : X.mg "int" = none) (ha : SA X W (e :: es) fa) (he : starEach (e :: es) X.env = (false, eval e X.env) :: starEach es X.env := by rfl) (hpl : (backTo pos (starEach es X.env)).any (·.1) = false := by rfl) :
    SE X W (.Call (.Name "int" p) (e :: es) [] pos) (eCall (g1 gInt) fa) := se_callTy (CallR.imp call_int1 fun vs H Q ⟨v, e, h⟩ => by
      subst e
      rcases h with ⟨i, rfl, q⟩ | ⟨b, rfl, q⟩
      · exact .inl ⟨i, rfl, q⟩
      · exact .inr ⟨b, rfl, q⟩) (gc1 gu_int) hg hm (by decide +kernel) ha (by decide) (by decide) he hpl
theorem se_tupleF (kx : Kx X W) (hg : Gl X "tuple") (hm : X.mg "tuple" = none) (ha : SA X W (e :: es) fa) (he : starEach (e :: es) X.env = (false, eval e X.env) :: starEach es X.env := by rfl) (hpl : (backTo pos (starEach es X.env)).any (·.1) = false := by rfl) :
    SE X W (.Call (.Name "tuple" p) (e :: es) [] pos) (eCall (g1 gTuple) fa) := se_callTy call_tupleA (gc1 gu_tuple) hg hm (by decide +kernel) ha (by decide) (by decide) he hpl
theorem se_listF (kx : Kx X W) (hg : Gl X "list") (hm : X.mg "list" = none) (ha : SA X W (e :: es) fa) (he : starEach (e :: es) X.env = (false, eval e X.env) :: starEach es X.env := by rfl) (hpl : (backTo pos (starEach es X.env)).any (·.1) = false := by rfl) :
    SE X W (.Call (.Name "list" p) (e :: es) [] pos) (eCall (g1 gList) fa) := se_callTy call_listA (gc1 gu_list) hg hm (by decide +kernel) ha (by decide) (by decide) he hpl
end
end VL

/-! The value layer, 27: own lists changed: pop, extend, xs[i] = e; sorted. -/
namespace VL
open PySem PySem.Spec PyProof.Rows L2 RZ RT

section
variable {K : PySem.W.Frag} {G : Gh} {Fz : Addr → Prop} {H : Hp} {E : Env} {σ : L2.St} {i : Nat}
/-- a name's own list gets other items -/
theorem OK.lput {ds : List D} (k : OK K G Fz H E σ) (h : E.at i = some (.ol ds)) : ∃ a xs, σ[i]? = some (some (.ref a)) ∧ H a = some (.lst xs) ∧ RpL K Fz H ds xs ∧
    ∀ (ds' : List D) (xs' : List V), RpL K Fz H ds' xs' → OK K G Fz (upd H a (.lst xs')) (E.st i (.ol ds')) σ ∧ Kp Fz H (upd H a (.lst xs')) := by
  obtain ⟨v, hv, a, us, e, ha, r⟩ := k.at h
  cases e
  refine ⟨a, us, hv, ha, r, fun ds' xs' r' => ?_⟩
  have k1 := k.take (Env.at_some h).1 hv
  have nF := k1.notFz rfl
  have hn : (∀ xs, HO.lst us ≠ .tup xs) ∧ ¬ Std (HO.lst us) := ⟨fun _ z => by (cases z), fun z => by (rcases z with ⟨_, _, z⟩ | ⟨_, z⟩ <;> cases z)⟩
  have kp := kp_put (o := .lst xs') nF ha hn
  have k2 := k1.put (s := .ol ds') (o := .lst xs') rfl ha hn ⟨a, _, rfl, upd_same, r'.keep kp (fun _ z => z)⟩ rfl
  have k3 := k2.back hv
  rw [set_st] at k3
  exact ⟨k3, kp⟩
theorem RpL.erase {ds : List D} {vs : List V} (h : RpL K Fz H ds vs) : ∀ j : Nat, RpL K Fz H (ds.eraseIdx j) (vs.eraseIdx j) := by
  induction ds generalizing vs with
  | nil => intro j; rw [show vs = [] from h]; exact rfl
  | cons d0 ds ih =>
    obtain ⟨v, r, rfl, h1, h2⟩ := h
    intro j
    cases j with
    | zero => exact h2
    | succ j => exact ⟨v, _, rfl, h1, ih h2 j⟩
theorem RpL.last {ds : List D} {vs : List V} (h : RpL K Fz H ds vs) : RpL K Fz H ds.dropLast vs.dropLast := by
  have hl := h.len
  rw [List.dropLast_eq_take, List.dropLast_eq_take, hl]
  have : ∀ {ds : List D} {vs : List V} (n : Nat), RpL K Fz H ds vs → RpL K Fz H (ds.take n) (vs.take n) := by
    intro ds vs n h
    induction ds generalizing vs n with
    | nil => rw [show vs = [] from h, List.take_nil, List.take_nil]; exact rfl
    | cons d0 ds ih =>
      obtain ⟨v, r, rfl, h1, h2⟩ := h
      cases n with
      | zero => exact rfl
      | succ n => exact ⟨v, _, rfl, h1, ih n h2⟩
  exact this _ h
theorem RpL.setI {ds : List D} {vs : List V} {d : D} {v : V} (hr : Rp K Fz H d v) (h : RpL K Fz H ds vs) : ∀ j : Nat, RpL K Fz H (ds.set j d) (vs.set j v) := by
  induction ds generalizing vs with
  | nil => intro j; rw [show vs = [] from h]; exact rfl
  | cons d0 ds ih =>
    obtain ⟨w, r, rfl, h1, h2⟩ := h
    intro j
    cases j with
    | zero => exact ⟨v, r, rfl, hr, h2⟩
    | succ j => exact ⟨w, _, rfl, h1, ih h2 j⟩
end
/-- xs.pop(), xs.pop(i), xs.extend(ys) -/
def ePop (i : Nat) : EF := fun E => match E.at i with
  | some (.ol ds) => match ds[ds.length - 1]? with
    | some d => .ok (.dat d, E.st i (.ol ds.dropLast))
    | none => .bad
  | _ => .bad
def popIx (n : Nat) (j : Int) : Option Nat := if -(2 ^ 62) ≤ j ∧ j < 2 ^ 62 then seqIndex? j n else none
def ePopA (i : Nat) (f : EF) : EF := fun E => match E.at i with
  | some (.ol _) => (f E).bind fun p => match p.1 with
    | .dat (.int j) => match p.2.at i with
      | some (.ol ds) => match popIx ds.length j with
        | some m => match ds[m]? with
          | some d => .ok (.dat d, p.2.st i (.ol (ds.eraseIdx m)))
          | none => .bad
        | none => .bad
      | _ => .bad
    | _ => .bad
  | _ => .bad
def eExt (i : Nat) (f : EF) : EF := fun E => match E.at i with
  | some (.ol _) => (f E).bind fun p => match p.1.d? with
    | some (.lst zs) => match p.2.at i with
      | some (.ol ds) => if ds.length + zs.length ≤ SZ then .ok (.dat .non, p.2.st i (.ol (ds ++ zs))) else .bad
      | _ => .bad
    | _ => .bad
  | _ => .bad
/-- xs[i] = e -/
def sLSet (i : Nat) (fv fk : EF) : SF := fun E => (fv E).fl fun q => match q.1.d? with
  | some v => match q.2.at i with
    | some (.ol _) => (fk q.2).fl fun p => match p.1 with
      | .dat (.int j) => match p.2.at i with
        | some (.ol ds) => match ixN ds.length j with
          | some m => .nx (p.2.st i (.ol (ds.set m v)))
          | none => .bad
        | _ => .bad
      | _ => .bad
    | _ => .bad
  | none => .bad
section
variable {X : Cx} {W : WX} {i : Nat} {x : Str} {xpos apos cpos pos : Pos} {e ie : Expr} {f fk : EF}
theorem se_pop (kx : Kx X W) (hN : X.N[i]? = some x) (hv : Vis X.env.scope x) (hd : (x == ("__debug__" : Str)) = false := by decide) (hcd : (x == ("__classdict__" : Str)) = false := by decide)
    (hbase : attributeBase (.Name x xpos) "pop" X.env (eval (.Name x xpos) X.env) = eval (.Name x xpos) X.env := by rfl) (hline : (apos.endLine == cpos.line) = true := by rfl) :
    SE X W (.Call (.Attribute (.Name x xpos) "pop" apos) [] [] cpos) (ePop i) :=
  PE.imp (pe_bm0 PySem.F.plainAttrs_list PySem.F.slot_list_pop PySem.F.type_list_pop mt_pop (pe_var hN hv hd hcd) hbase hline) fun σ H Q ⟨G, E, Fz, k, h⟩ => by
    unfold ePop at h
    cases h0 : E.at i with
    | none => rw [h0] at h; exact h.elim
    | some s0 =>
      rw [h0] at h
      cases s0 with
      | ol ds =>
        obtain ⟨a, xs, hv, ha, r, kk⟩ := k.lput h0
        dsimp only at h
        cases hl : ds[ds.length - 1]? with
        | none => rw [hl] at h; exact h.elim
        | some d =>
          rw [hl] at h
          dsimp only at h
          obtain ⟨y, hy, ry⟩ := r.get hl
          obtain ⟨k2, kp⟩ := kk ds.dropLast xs.dropLast r.last
          refine ⟨_, hv, .inl ⟨rfl, xs, .inl (.inl ha)⟩, a, xs, y, rfl, rfl, ha, by rw [← r.len]; exact hy, h y _ Fz (k2.dat (ry.keep kp (fun _ z => z)))⟩
      | _ => exact h.elim
theorem se_popA (kx : Kx X W) (hN : X.N[i]? = some x) (hv : Vis X.env.scope x) (he : SE X W e f) (hd : (x == ("__debug__" : Str)) = false := by decide) (hcd : (x == ("__classdict__" : Str)) = false := by decide)
    (hbase : attributeBase (.Name x xpos) "pop" X.env (eval (.Name x xpos) X.env) = eval (.Name x xpos) X.env := by rfl)
    (hfew : ((backTo cpos (starEach [e] X.env)).all (fun x => !x.1) && (backToKw cpos (keywordEach [] X.env)).all (fun x => x.1.isSome)
      && decide (([e] : List Expr).length + ([] : List Keyword).length + (if ([] : List Keyword).isEmpty then 0 else 1) < 30)) = true := by rfl)
    (hline : (apos.endLine == cpos.line) = true := by rfl) (hs : starEach [e] X.env = (false, eval e X.env) :: starEach [] X.env := by rfl) (hplain : (backTo cpos (starEach [] X.env)).any (·.1) = false := by rfl) :
    SE X W (.Call (.Attribute (.Name x xpos) "pop" apos) [e] [] cpos) (ePopA i f) :=
  PE.imp (pe_bm PySem.F.plainAttrs_list PySem.F.slot_list_pop PySem.F.type_list_pop mt_popAt (pe_var hN hv hd hcd) (pa_cons he pa_nil hs) hbase hfew hline hs hplain) fun σ H Q ⟨G, E, Fz, k, h⟩ => by
    unfold ePopA at h
    cases h0 : E.at i with
    | none => rw [h0] at h; exact h.elim
    | some s0 =>
      rw [h0] at h
      cases s0 with
      | ol ds0 =>
        obtain ⟨v, hv, a, xs, ev, ha, r⟩ := k.at h0
        cases ev
        refine ⟨_, hv, .inl ⟨rfl, xs, .inl (.inl ha)⟩, ?_⟩
        refine tE_mono (tE_of k (EndE.bind h)) fun u H1 ⟨r1, E1, Fz1, k1, h1⟩ => ?_
        dsimp only at h1
        split at h1
        · rename_i j
          have hu : u = .int j := k1.datI
          subst hu
          cases h2 : E1.at i with
          | none => rw [h2] at h1; exact h1.elim
          | some s1 =>
            rw [h2] at h1
            cases s1 with
            | ol ds =>
              obtain ⟨a2, ys, hv2, ha2, r2, kk⟩ := k1.pop.lput h2
              rw [hv] at hv2
              cases hv2
              dsimp only at h1
              cases hm : popIx ds.length j with
              | none => rw [hm] at h1; exact h1.elim
              | some m =>
                rw [hm] at h1
                dsimp only at h1
                cases hl : ds[m]? with
                | none => rw [hl] at h1; exact h1.elim
                | some d =>
                  rw [hl] at h1
                  obtain ⟨y, hy, ry⟩ := r2.get hl
                  obtain ⟨k2, kp⟩ := kk _ _ (r2.erase m)
                  unfold popIx at hm
                  split at hm
                  · rename_i hb
                    exact ⟨_, ys, j, m, y, rfl, rfl, ha2, by omega, by omega, by rw [← r2.len]; exact hm, hy, h1 y _ _ (k2.dat (ry.keep kp (fun _ z => z)))⟩
                  · cases hm
            | _ => exact h1.elim
        · exact h1.elim
      | _ => exact h.elim
theorem se_extend (kx : Kx X W) (hN : X.N[i]? = some x) (hv : Vis X.env.scope x) (he : SE X W e f) (hd : (x == ("__debug__" : Str)) = false := by decide) (hcd : (x == ("__classdict__" : Str)) = false := by decide)
    (hbase : attributeBase (.Name x xpos) "extend" X.env (eval (.Name x xpos) X.env) = eval (.Name x xpos) X.env := by rfl)
    (hfew : ((backTo cpos (starEach [e] X.env)).all (fun x => !x.1) && (backToKw cpos (keywordEach [] X.env)).all (fun x => x.1.isSome)
      && decide (([e] : List Expr).length + ([] : List Keyword).length + (if ([] : List Keyword).isEmpty then 0 else 1) < 30)) = true := by rfl)
    (hline : (apos.endLine == cpos.line) = true := by rfl) (hs : starEach [e] X.env = (false, eval e X.env) :: starEach [] X.env := by rfl) (hplain : (backTo cpos (starEach [] X.env)).any (·.1) = false := by rfl) :
    SE X W (.Call (.Attribute (.Name x xpos) "extend" apos) [e] [] cpos) (eExt i f) :=
  PE.imp (pe_bm PySem.F.plainAttrs_list PySem.F.slot_list_extend PySem.F.type_list_extend mt_extend (pe_var hN hv hd hcd) (pa_cons he pa_nil hs) hbase hfew hline hs hplain) fun σ H Q ⟨G, E, Fz, k, h⟩ => by
    unfold eExt at h
    cases h0 : E.at i with
    | none => rw [h0] at h; exact h.elim
    | some s0 =>
      rw [h0] at h
      cases s0 with
      | ol ds0 =>
        obtain ⟨v, hv, a, xs, ev, ha, r⟩ := k.at h0
        cases ev
        refine ⟨_, hv, .inl ⟨rfl, xs, .inl (.inl ha)⟩, ?_⟩
        refine tE_mono (tE_of k (EndE.bind h)) fun u H1 ⟨r1, E1, Fz1, k1, h1⟩ => ?_
        dsimp only at h1
        cases hd1 : r1.d? with
        | none => rw [hd1] at h1; exact h1.elim
        | some d =>
          rw [hd1] at h1
          obtain ⟨Fz2, k2⟩ := k1.d1 hd1
          cases d with
          | lst zs =>
            dsimp only at h1
            cases h2 : E1.at i with
            | none => rw [h2] at h1; exact h1.elim
            | some s1 =>
              rw [h2] at h1
              cases s1 with
              | ol ds =>
                obtain ⟨b, ws, eb, hb, rb⟩ := k2.datI
                obtain ⟨a2, ys, hv2, ha2, r2, kk⟩ := k2.pop.lput h2
                rw [hv] at hv2
                cases hv2
                dsimp only at h1
                split at h1
                · rename_i hz
                  obtain ⟨k3, kp⟩ := kk _ _ (r2.app rb)
                  refine ⟨_, b, ys, ws, rfl, by rw [eb], ha2, hb.2, ?_, h1 .non _ _ (k3.dat rfl)⟩
                  rw [← r2.len, ← rb.len, ← SZ_eq]
                  exact hz
                · exact h1.elim
              | _ => exact h1.elim
          | _ => exact h1.elim
      | _ => exact h.elim
theorem ss_lset {ve : Expr} {fv : EF} {pos' : Pos} (kx : Kx X W) (hN : X.N[i]? = some x) (hv : Vis X.env.scope x) (he : SE X W ie fk) (hval : SE X W ve fv) (hs : swapsWithSole [.Subscript (.Name x xpos) ie pos'] ve pos.line X.env = pure false := by rfl)
    (hw : swappedStores [.Subscript (.Name x xpos) ie pos'] ve X.env = pure none := by rfl) (h1 : (assignEach [.Subscript (.Name x xpos) ie pos'] X.env).map (·.2) = [assign (.Subscript (.Name x xpos) ie pos') X.env] := by rfl)
    (hd : (x == ("__debug__" : Str)) = false := by decide) (hcd : (x == ("__classdict__" : Str)) = false := by decide)
    (hsub : ∀ v, assign (.Subscript (.Name x xpos) ie pos') X.env v = (do
      let ov ← holding [v] (eval (.Name x xpos) X.env)
      let iv ← holding [v, ov] (eval ie X.env)
      standAt pos'
      holding [v, ov, iv] (setItem ov iv v)
      release [v, ov, iv] []) := by intro _; rfl) : SS X W (.Assign [.Subscript (.Name x xpos) ie pos'] ve pos) (sLSet i fv fk) :=
  PS.imp (ps_asg hval (pg_sub (pe_var hN hv hd hcd) he set_list hsub) hs hw h1) fun D' σ H ⟨G, E, Fz, k, h⟩ => by
    refine tE_mono (tE_of k (EndS.flE h σ)) fun u H1 ⟨r1, E1, Fz1, k1, h1⟩ => ?_
    dsimp only at h1
    cases hd1 : r1.d? with
    | none => rw [hd1] at h1; exact h1.elim
    | some dv =>
      rw [hd1] at h1
      obtain ⟨Fz2, k2⟩ := k1.d1 hd1
      dsimp only at h1
      cases h0 : E1.at i with
      | none => rw [h0] at h1; exact h1.elim
      | some s0 =>
        rw [h0] at h1
        cases s0 with
        | ol ds0 =>
          obtain ⟨v, hv', a, xs, ev, ha, r⟩ := k2.at h0
          cases ev
          refine ⟨_, hv', ?_⟩
          have h1 : EndS W X.K (G.p (.dat dv) u) D' ((fk E1).fl fun p => match p.1 with
            | .dat (.int j) => match p.2.at i with
              | some (.ol ds) => match ixN ds.length j with
                | some m => .nx (p.2.st i (.ol (ds.set m dv)))
                | none => .bad
              | _ => .bad
            | _ => .bad) := EndS.w (T' := [(.dat dv, some u)]) h1
          refine tE_mono (tE_of k2 (EndS.flE h1 σ)) fun ku H2 ⟨r2, E2, Fz3, k3, h2⟩ => ?_
          dsimp only at h2
          split at h2
          · rename_i j
            have hj : ku = .int j := k3.datI
            subst hj
            cases h3 : E2.at i with
            | none => rw [h3] at h2; exact h2.elim
            | some s1 =>
              rw [h3] at h2
              cases s1 with
              | ol ds =>
                have rd := k3.pop.datI
                obtain ⟨a2, us, hv2, ha2, r2, kk⟩ := k3.pop.pop.lput h3
                rw [hv'] at hv2
                cases hv2
                dsimp only at h2
                cases hm : ixN ds.length j with
                | none => rw [hm] at h2; exact h2.elim
                | some m =>
                  rw [hm] at h2
                  obtain ⟨k4, kp⟩ := kk _ _ (r2.setI rd m)
                  refine ⟨_, us, j, m, rfl, rfl, ha2, by rw [← r2.len]; exact hm, ?_⟩
                  exact h2 σ _ _ (k4.dat (rd.keep kp (fun _ z => z)))
              | _ => exact h2.elim
          · exact h2.elim
        | _ => exact h1.elim
end
/-! ### sorted(xs), ints -/
def insI (x : Int) : List Int → List Int
  | [] => [x]
  | y :: ys => if x ≤ y then x :: y :: ys else y :: insI x ys
def sortI : List Int → List Int
  | [] => []
  | x :: xs => insI x (sortI xs)
theorem insI_perm (x : Int) : ∀ ys, (insI x ys).Perm (x :: ys)
  | [] => List.Perm.refl _
  | y :: ys => by
    unfold insI
    split
    · exact List.Perm.refl _
    · exact ((insI_perm x ys).cons y).trans (List.Perm.swap _ _ _)
theorem insI_sorted {x : Int} : ∀ {ys}, ys.Pairwise (· ≤ ·) → (insI x ys).Pairwise (· ≤ ·)
  | [], _ => List.pairwise_singleton _ _
  | y :: ys, h => by
    unfold insI
    obtain ⟨h1, h2⟩ := List.pairwise_cons.mp h
    split
    · rename_i hx
      exact List.pairwise_cons.mpr ⟨fun z hz => (List.mem_cons.mp hz).elim (fun e => e ▸ hx) fun m => Int.le_trans hx (h1 z m), h⟩
    · rename_i hx
      refine List.pairwise_cons.mpr ⟨fun z hz => ?_, insI_sorted h2⟩
      rcases List.mem_cons.mp ((insI_perm x ys).mem_iff.mp hz) with e | m
      · rw [e]; omega
      · exact h1 z m
theorem sortI_perm : ∀ xs, (sortI xs).Perm xs
  | [] => List.Perm.refl _
  | x :: xs => (insI_perm x _).trans ((sortI_perm xs).cons x)
theorem sortI_sorted : ∀ xs, (sortI xs).Pairwise (· ≤ ·)
  | [] => List.Pairwise.nil
  | x :: xs => insI_sorted (sortI_sorted xs)
theorem sortI_eq {xs ys : List Int} (p : ys.Perm xs) (s : ys.Pairwise (· ≤ ·)) : ys = sortI xs :=
  List.Perm.eq_of_pairwise (le := (· ≤ ·)) (fun a b _ _ h1 h2 => Int.le_antisymm h1 h2) s (sortI_sorted xs) (p.trans (sortI_perm xs).symm)
def gSorted : Sl → Option Sl := fun s => (s.ql?.bind ints?).map fun ns => .ol ((sortI ns).map D.int)
def rSortedA (K : PySem.W.Frag) : V → Hp → VK → Prop := fun v H Q => ∃ (a : Addr) (ns : List Int), v = V.ref a ∧ SqL K H a (ns.map V.int) ∧ ∀ p, H p = none → Q (.ref p) (upd H p (.lst ((sortI ns).map V.int)))
theorem gu_sorted {K : PySem.W.Frag} : GU K (rSortedA K) gSorted := by
  intro G Fz H E σ x s v Q k kx e q
  obtain ⟨ns, e1, e2⟩ := Option.map_eq_some_iff.mp (show (x.ql?.bind ints?).map (fun ns => Sl.ol ((sortI ns).map D.int)) = some s from e)
  subst e2
  obtain ⟨ds, e3, e4⟩ := Option.bind_eq_some_iff.mp e1
  obtain ⟨a, vs, rfl, hs, r⟩ := kx.ql e3
  rw [ints_eq e4] at r
  rw [r.ints_inv] at hs
  exact ⟨a, ns, rfl, hs, fun p np => q _ _ Fz (k.newL np RpL.ints)⟩
section
variable {X : Cx} {W : WX} {p pos : Pos} {e : Expr} {es : List Expr} {fa : AF}
theorem se_sortedF (kx : Kx X W) (hg : Gl X "sorted") (hm : X.mg "sorted" = none) (ha : SA X W (e :: es) fa) (he : starEach (e :: es) X.env = (false, eval e X.env) :: starEach es X.env := by rfl) (hpl : (backTo pos (starEach es X.env)).any (·.1) = false := by rfl) :
    SE X W (.Call (.Name "sorted" p) (e :: es) [] pos) (eCall (g1 gSorted) fa) := se_callB (CallR.imp cr_sortedI fun vs H Q ⟨v, e, a, ns, e2, h, q⟩ => ⟨a, ns, by rw [e, e2], h, fun ns' p hp hs hn => by
      have z := sortI_eq hp hs
      subst z
      exact q p hn⟩) (gc1 gu_sorted) hg hm (by decide +kernel) ha (by decide) (by decide) he hpl
end
end VL

/-! The value layer, 28: what is caught; functions from modules. -/
namespace VL
open PySem PySem.Spec PyProof.Rows L2 RZ RT

/-- except (A, B, ..): each own class's word -/
def exmB (K : PySem.W.Frag) (cs : List Cl) (ts : List Tg) : Bool := cs.all fun c => decide (PySem.W.exmAny K (.ref (c.ad K)) (ts.map fun t => t.val K) = some (ts.any fun t => c.isa t))
theorem exmB_ok {K : PySem.W.Frag} {cs : List Cl} {ts : List Tg} (h : exmB K cs ts = true) (ht : ∀ c : Cl, (ts.any fun t => c.isa t) = true) : ∀ c ∈ cs, PySem.W.exmAny K (.ref (c.ad K)) (ts.map fun t => t.val K) = some true := fun c hc => by
  have z := of_decide_eq_true (List.all_eq_true.mp h c hc)
  rw [ht c] at z
  exact z
/-- the module's name x is a built-in function -/
def bltB (K : PySem.W.Frag) (x : Str) (id : String) : Bool := match PySem.W.nsIn K mainGlobals x with
  | some (some (.builtin i)) => i == id
  | _ => false
theorem bltB_ok {K : PySem.W.Frag} {h : Heap} {mg : Str → Option Value} {x : Str} {id : String} (X : K.In h) (G : h.Ns mainGlobals mg) (c : bltB K x id = true) : mg x = some (.builtin id) := by
  unfold bltB at c
  split at c
  · rename_i i e
    rw [← beq_iff_eq.mp c]
    exact PySem.W.mg_of X G e
  · cases c
def gGcd : Sl → Sl → Option Sl := gI fun a b => some (.int ((Nat.gcd a.natAbs b.natAbs : Nat) : Int))
section
variable {X : Cx} {W : WX} {p pos : Pos} {e : Expr} {es : List Expr} {fa : AF}
theorem se_gcdF (hg : Gl X "gcd") (hm : X.mg "gcd" = some (.builtin "math.gcd")) (ha : SA X W (e :: es) fa) (he : starEach (e :: es) X.env = (false, eval e X.env) :: starEach es X.env := by rfl) (hpl : (backTo pos (starEach es X.env)).any (·.1) = false := by rfl) :
    SE X W (.Call (.Name "gcd" p) (e :: es) [] pos) (eCall (g2 gGcd) fa) :=
  PE.imp (pe_callBfun (CallR.imp cr_gcd fun vs H Q ⟨v, w, e, i, j, e1, e2, q⟩ => ⟨i, j, by rw [e, e1, e2], q⟩) hg hm ha (by decide) he hpl) (tCB_of (gc2 (gr_i2 (fi := fun a b => ((Nat.gcd a.natAbs b.natAbs : Nat) : Int)))))
end
/-! ### len(set(xs)), distinct ints -/
def nodupB : List Int → Bool
  | [] => true
  | x :: xs => !xs.contains x && nodupB xs
theorem nodupB_ok : ∀ {xs : List Int}, nodupB xs = true → xs.Nodup
  | [], _ => List.nodup_nil
  | x :: xs, h => by
    obtain ⟨h1, h2⟩ := Bool.and_eq_true_iff.mp (show (!xs.contains x && nodupB xs) = true from h)
    refine List.nodup_cons.mpr ⟨fun z => ?_, nodupB_ok h2⟩
    rw [List.contains_iff_mem.mpr z] at h1
    cases h1
end VL

/-! Sets of more than four thousand numbers: the table has a free slot, and it is found. -/
namespace VL.Tb
open PySem PySem.Spec PyProof.Rows L2

/-! ### the way through the table comes by every slot -/
def S5 : Nat → Nat
  | 0 => 0
  | n + 1 => 5 * S5 n + 1
theorem s5_add (m : Nat) : ∀ n, S5 (m + n) = 5 ^ n * S5 m + S5 n
  | 0 => by simp [S5]
  | n + 1 => by
    show 5 * S5 (m + n) + 1 = _
    rw [s5_add m n]
    simp only [S5, Nat.pow_succ]
    grind
theorem pow5 : ∀ k, ∃ u, 5 ^ (2 ^ k) = 1 + 2 ^ (k + 2) * u
  | 0 => ⟨1, rfl⟩
  | k + 1 => by
    obtain ⟨u, e⟩ := pow5 k
    refine ⟨u + 2 ^ (k + 1) * (u * u), ?_⟩
    have e1 : (5 : Nat) ^ (2 ^ (k + 1)) = 5 ^ (2 ^ k) * 5 ^ (2 ^ k) := by rw [← Nat.pow_add]; congr 1; rw [Nat.pow_succ]; omega
    have e2 : (2 : Nat) ^ (k + 2) = 4 * 2 ^ k := by rw [Nat.pow_add]; omega
    have e3 : (2 : Nat) ^ (k + 1 + 2) = 8 * 2 ^ k := by rw [Nat.pow_add, Nat.pow_add]; omega
    have e4 : (2 : Nat) ^ (k + 1) = 2 * 2 ^ k := by rw [Nat.pow_succ]; omega
    rw [e1, e, e2, e3, e4]
    generalize (2 : Nat) ^ k = t
    grind
theorem s5_pow : ∀ k, ∃ v, S5 (2 ^ k) = 2 ^ k + 2 ^ (k + 1) * v
  | 0 => ⟨0, rfl⟩
  | k + 1 => by
    obtain ⟨v, e⟩ := s5_pow k
    obtain ⟨u, eu⟩ := pow5 k
    have e1 : (2 : Nat) ^ (k + 1) = 2 ^ k + 2 ^ k := by rw [Nat.pow_succ]; omega
    have e2 : (2 : Nat) ^ (k + 1 + 1) = 4 * 2 ^ k := by rw [Nat.pow_add, Nat.pow_add]; omega
    have e3 : (2 : Nat) ^ (k + 2) = 4 * 2 ^ k := by rw [Nat.pow_add]; omega
    refine ⟨v + 2 ^ k * (u * (1 + 2 * v)), ?_⟩
    rw [e1, s5_add, e, eu, e3, e1]
    try rw [e2]
    generalize (2 : Nat) ^ k = t
    grind
theorem mod_half {t z y : Nat} (hp : 0 < t) (e : z % t = y % t) (h : ¬ z % (2*t) = y % (2*t)) : (z + t) % (2*t) = y % (2*t) := by
  have h1 := Nat.div_add_mod z (2*t)
  have h2 := Nat.div_add_mod y (2*t)
  have h3 := Nat.mod_lt z (show 0 < 2*t by omega)
  have h4 := Nat.mod_lt y (show 0 < 2*t by omega)
  have h5 : z % (2*t) % t = z % t := Nat.mod_mod_of_dvd _ ⟨2, by omega⟩
  have h6 : y % (2*t) % t = y % t := Nat.mod_mod_of_dvd _ ⟨2, by omega⟩
  have key : ∀ a, a < 2 * t → a % t = if a < t then a else a - t := fun a ha => by
    split
    · exact Nat.mod_eq_of_lt (by omega)
    · rw [Nat.mod_eq_sub_mod (by omega), Nat.mod_eq_of_lt (by omega)]
  rw [key _ h3] at h5
  rw [key _ h4] at h6
  rw [Nat.add_mod, Nat.mod_eq_of_lt (show t < 2*t by omega)]
  generalize z % (2*t) = a at *
  generalize y % (2*t) = b at *
  by_cases ha : a < t
  · rw [if_pos ha] at h5
    rw [Nat.mod_eq_of_lt (by omega)]
    split at h6 <;> omega
  · rw [if_neg ha] at h5
    rw [Nat.mod_eq_sub_mod (by omega), Nat.mod_eq_of_lt (by omega)]
    split at h6 <;> omega
theorem full : ∀ k x y : Nat, ∃ n, n < 2 ^ k ∧ (5 ^ n * x + S5 n) % 2 ^ k = y % 2 ^ k
  | 0, x, y => ⟨0, by decide, by rw [Nat.pow_zero, Nat.mod_one, Nat.mod_one]⟩
  | k + 1, x, y => by
    obtain ⟨n, hn, e⟩ := full k x y
    have ep : (2 : Nat) ^ (k + 1) = 2 * 2 ^ k := by rw [Nat.pow_succ]; omega
    have hp : 0 < (2 : Nat) ^ k := Nat.pos_of_ne_zero (by simp)
    by_cases h : (5 ^ n * x + S5 n) % 2 ^ (k + 1) = y % 2 ^ (k + 1)
    · exact ⟨n, by omega, h⟩
    · refine ⟨n + 2 ^ k, by omega, ?_⟩
      obtain ⟨u, eu⟩ := pow5 k
      obtain ⟨v, ev⟩ := s5_pow k
      have e1 : 5 ^ (n + 2 ^ k) * x + S5 (n + 2 ^ k) = (5 ^ n * x + S5 n) + 2 ^ k + 2 ^ (k + 1) * (2 * u * (5 ^ n * x + S5 n) + v) := by
        rw [s5_add, Nat.pow_add, eu, ev]
        have e3 : (2 : Nat) ^ (k + 2) = 4 * 2 ^ k := by rw [Nat.pow_add]; omega
        rw [e3, ep]
        generalize (2 : Nat) ^ k = t
        generalize (5 : Nat) ^ n = z
        generalize S5 n = w
        grind
      rw [e1, Nat.add_mul_mod_self_left]
      generalize 5 ^ n * x + S5 n = z at e h ⊢
      rw [ep] at h ⊢
      generalize (2 : Nat) ^ k = t at hp e h ⊢
      exact mod_half hp e h

/-! ### the leaps -/
/-- behind so many leaps -/
def leapN (mask : Nat) : Nat → Nat × Nat → Nat × Nat
  | 0, p => p
  | n + 1, p => leapN mask n (SetTable.leap mask p.1 p.2)
theorem leapN_add (mask m : Nat) : ∀ n p, leapN mask (n + m) p = leapN mask m (leapN mask n p)
  | 0, p => by rw [Nat.zero_add]; rfl
  | n + 1, p => by
    rw [show n + 1 + m = (n + m) + 1 by omega]
    exact leapN_add mask m n _
theorem leap_lt {mask : Nat} (i q : Nat) : (SetTable.leap mask i q).1 ≤ mask := Nat.le_of_lt_succ (Nat.mod_lt _ (Nat.succ_pos _))
theorem leapN_lt {mask : Nat} : ∀ n p, p.1 ≤ mask → (leapN mask n p).1 ≤ mask
  | 0, _, h => h
  | n + 1, p, _ => leapN_lt n _ (leap_lt _ _)
theorem leapN_two (mask : Nat) : ∀ n p, (leapN mask n p).2 = p.2 / 32 ^ n
  | 0, p => by simp [leapN]
  | n + 1, p => by
    show (leapN mask n (SetTable.leap mask p.1 p.2)).2 = _
    rw [leapN_two mask n]
    show p.2 / 32 / 32 ^ n = _
    rw [Nat.div_div_eq_div_mul, Nat.pow_succ, Nat.mul_comm]
theorem leapN_zero {mask k : Nat} (hm : mask + 1 = 2 ^ k) : ∀ n i, i ≤ mask → leapN mask n (i, 0) = ((5 ^ n * i + S5 n) % 2 ^ k, 0)
  | 0, i, h => by
    show (i, 0) = _
    rw [Nat.pow_zero, Nat.one_mul]
    show _ = ((i + 0) % 2 ^ k, 0)
    rw [Nat.add_zero, Nat.mod_eq_of_lt (by omega)]
  | n + 1, i, h => by
    have e : leapN mask (n + 1) (i, 0) = leapN mask 1 (leapN mask n (i, 0)) := leapN_add mask 1 n _
    rw [e, leapN_zero hm n i h]
    show SetTable.leap mask ((5 ^ n * i + S5 n) % 2 ^ k) 0 = _
    show ((((5 ^ n * i + S5 n) % 2 ^ k) * 5 + 1 + 0 / 32) % (mask + 1), 0 / 32) = _
    rw [hm, Nat.zero_div, Nat.add_zero]
    congr 1
    rw [Nat.add_mod, Nat.mul_mod, Nat.mod_mod, ← Nat.mul_mod, ← Nat.add_mod]
    congr 1
    simp only [S5, Nat.pow_succ]
    grind
/-- every slot is met -/
theorem leap_meets {mask k : Nat} (hm : mask + 1 = 2 ^ k) {i q y : Nat} (hi : i ≤ mask) (hq : q < 2 ^ 64) (hy : y ≤ mask) : ∃ m, m ≤ mask + 13 ∧ (leapN mask m (i, q)).1 = y := by
  have h1 := leapN_lt 13 (i, q) hi
  have h2 : (leapN mask 13 (i, q)).2 = 0 := by
    rw [leapN_two]
    exact Nat.div_eq_of_lt (Nat.lt_of_lt_of_le hq (by decide))
  obtain ⟨n, hn, e⟩ := full k (leapN mask 13 (i, q)).1 y
  refine ⟨13 + n, by omega, ?_⟩
  rw [leapN_add]
  generalize hp : leapN mask 13 (i, q) = p at h1 h2 e
  obtain ⟨a, b⟩ := p
  simp only at h1 h2 e
  subst h2
  rw [leapN_zero hm n a h1]
  show (5 ^ n * a + S5 n) % 2 ^ k = y
  rw [e, Nat.mod_eq_of_lt (by omega)]
/-! ### some slot is free -/
theorem sub_len : ∀ {l1 l2 : List Nat}, l1.Nodup → (∀ x ∈ l1, x ∈ l2) → l1.length ≤ l2.length
  | [], _, _, _ => Nat.zero_le _
  | x :: l1, l2, nd, h => by
    obtain ⟨h1, h2⟩ := List.nodup_cons.mp nd
    have hx := h x List.mem_cons_self
    have ih := sub_len (l2 := l2.erase x) h2 fun y hy => (List.mem_erase_of_ne (fun e => h1 (by rw [← e]; exact hy))).mpr (h y (List.mem_cons_of_mem _ hy))
    rw [List.length_erase_of_mem hx] at ih
    have := List.length_pos_of_mem hx
    simp only [List.length_cons]
    omega
theorem free_there {l : List Nat} {mask : Nat} (h : l.length ≤ mask) : ∃ y, y ≤ mask ∧ y ∉ l := by
  refine Classical.byContradiction fun n => ?_
  have z := sub_len (l1 := List.range (mask + 1)) (l2 := l) List.nodup_range fun x hx => Classical.byContradiction fun hn => n ⟨x, Nat.le_of_lt_succ (List.mem_range.mp hx), hn⟩
  rw [List.length_range] at z
  omega
/-! ### the search finds it -/
structure TabOk (t : SetTable) (n : Nat) : Prop where
  pow : ∃ k, 3 ≤ k ∧ t.mask + 1 = 2 ^ k
  dum : t.dummies = #[]
  size : t.place.size = n
  ris : Ris t.place.toList
  le : ∀ j ∈ t.place.toList, j ≤ t.mask
section
variable {t : SetTable} {n : Nat}
theorem TabOk.slot (T : TabOk t n) (j : Nat) : (t.slot j = .empty ∧ t.place[SetTable.below t.place j]? ≠ some j) ∨ ∃ i, i < n ∧ t.slot j = .live i ∧ j ∈ t.place.toList := by
  unfold SetTable.slot
  by_cases h : t.place[SetTable.below t.place j]? = some j
  · right
    obtain ⟨hl, e⟩ := Array.getElem?_eq_some_iff.mp h
    refine ⟨SetTable.below t.place j, by rw [← T.size]; exact hl, ?_, ?_⟩
    · simp [h]
    · rw [← e]
      simp
  · left
    refine ⟨?_, h⟩
    rw [T.dum]
    have e1 : (t.place[SetTable.below t.place j]? == some j) = false := by simpa using h
    have e2 : SetTable.has #[] j = false := by simp [SetTable.has]
    simp [e1, e2]
theorem TabOk.none (T : TabOk t n) {j : Nat} (h : j ∉ t.place.toList) : t.slot j = .empty := by
  rcases T.slot j with z | ⟨i, _, _, z⟩
  · exact z.1
  · exact absurd z h
/-- at a window's beginning -/
def win (mask : Nat) (p : Nat × Nat) : SetTable.Probe := { j := p.1, more := SetTable.runEnd mask p.1 - p.1, i := p.1, perturb := p.2, dummy := none }
theorem run_le {mask i : Nat} (h : i ≤ mask) : i ≤ SetTable.runEnd mask i ∧ SetTable.runEnd mask i ≤ mask ∧ SetTable.runEnd mask i ≤ i + 9 := by
  unfold SetTable.runEnd
  split <;> omega
abbrev Found (t : SetTable) (hashAt : Nat → Int) (h : Int) (f : Nat) (p : SetTable.Probe) : Prop := ∃ j, SetTable.probe.go t hashAt h f p = some (.empty j Option.none) ∧ j ≤ t.mask ∧ t.place[SetTable.below t.place j]? ≠ some j
theorem go_in (T : TabOk t n) {hashAt : Nat → Int} {h : Int} (hh : ∀ i, i < n → hashAt i ≠ h) {i q F : Nat} (hi : i ≤ t.mask) (next : ∀ f, F ≤ f → Found t hashAt h f (win t.mask (SetTable.leap t.mask i q))) :
    ∀ c f, c + 1 + F ≤ f → i + c ≤ SetTable.runEnd t.mask i → Found t hashAt h f { j := SetTable.runEnd t.mask i - c, more := c, i := i, perturb := q, dummy := Option.none }
  | c, 0, hf, _ => by omega
  | c, f + 1, hf, hc => by
    obtain ⟨r1, r2, r3⟩ := run_le hi
    unfold Found
    rw [SetTable.probe.go]
    rcases T.slot (SetTable.runEnd t.mask i - c) with ⟨z, z2⟩ | ⟨a, ha, z, _⟩
    · rw [z]
      exact ⟨SetTable.runEnd t.mask i - c, rfl, by omega, z2⟩
    · rw [z]
      dsimp only
      rw [if_neg (by simpa using hh a ha)]
      cases c with
      | zero => exact next f (by omega)
      | succ c =>
        have e : t.advance { j := SetTable.runEnd t.mask i - (c + 1), more := c + 1, i := i, perturb := q, dummy := Option.none } = { j := SetTable.runEnd t.mask i - c, more := c, i := i, perturb := q, dummy := Option.none } := by
          unfold SetTable.advance
          rw [if_pos (by simp)]
          simp only [SetTable.Probe.mk.injEq, and_true]
          omega
        rw [e]
        exact go_in T hh hi next c f (by omega) (by omega)
theorem go_win (T : TabOk t n) {hashAt : Nat → Int} {h : Int} (hh : ∀ i, i < n → hashAt i ≠ h) : ∀ (m : Nat) (p : Nat × Nat) (f : Nat), p.1 ≤ t.mask → (leapN t.mask m p).1 ∉ t.place.toList → 10 * (m + 1) ≤ f → Found t hashAt h f (win t.mask p)
  | 0, p, f, hp, he, hf => by
    cases f with
    | zero => omega
    | succ f =>
      have e : t.slot p.1 = .empty := T.none he
      unfold Found
      rw [SetTable.probe.go]
      have e : t.slot (win t.mask p).j = .empty := e
      rw [e]
      refine ⟨p.1, rfl, hp, fun z => ?_⟩
      obtain ⟨hl, e2⟩ := Array.getElem?_eq_some_iff.mp z
      exact he (show p.1 ∈ _ by rw [← e2]; simp)
  | m + 1, p, f, hp, he, hf => by
    obtain ⟨r1, r2, r3⟩ := run_le hp
    have z := go_in (F := 10 * (m + 1)) T hh (i := p.1) (q := p.2) hp (fun f' hf' => go_win T hh m _ f' (leap_lt _ _) he hf') (SetTable.runEnd t.mask p.1 - p.1) f (by omega) (by omega)
    have e : SetTable.runEnd t.mask p.1 - (SetTable.runEnd t.mask p.1 - p.1) = p.1 := by omega
    rw [e] at z
    exact z
theorem bits_small {h : Int} (h0 : 0 ≤ h) (h1 : h < 2 ^ 63) : SetTable.bits h < 2 ^ 64 := by
  unfold SetTable.bits
  omega
theorem probe_free (T : TabOk t n) (hn : n ≤ t.mask) {hashAt : Nat → Int} {h : Int} (hh : ∀ i, i < n → hashAt i ≠ h) (h0 : 0 ≤ h) (h1 : h < 2 ^ 63) :
    ∃ j, t.probe hashAt h (t.probeStart h) = some (.empty j Option.none) ∧ j ≤ t.mask ∧ t.place[SetTable.below t.place j]? ≠ some j := by
  obtain ⟨k, _, hk⟩ := T.pow
  obtain ⟨y, hy, hy2⟩ := free_there (l := t.place.toList) (mask := t.mask) (by rw [Array.length_toList, T.size]; exact hn)
  have hi : SetTable.bits h % (t.mask + 1) ≤ t.mask := Nat.le_of_lt_succ (Nat.mod_lt _ (Nat.succ_pos _))
  obtain ⟨m, hm, e⟩ := leap_meets hk hi (bits_small h0 h1) hy
  exact go_win T hh m (SetTable.bits h % (t.mask + 1), SetTable.bits h) (10 * SetTable.turns t.mask) hi (by rw [e]; exact hy2) (by unfold SetTable.turns; omega)
end
end VL.Tb

/-! Sets of more than four thousand numbers: the table laid anew. -/
namespace VL.Tb
open PySem PySem.Spec PyProof.Rows L2

/-- what an owner's row holds -/
def held (owner : Array (Option Nat)) (m : Nat) : List Nat := (List.range (m + 1)).filterMap fun j => owner.getD j none
theorem fm_congr {f g : Nat → Option Nat} : ∀ {l : List Nat}, (∀ i ∈ l, f i = g i) → l.filterMap f = l.filterMap g
  | [], _ => rfl
  | x :: l, h => by
    have e := h x List.mem_cons_self
    have ih := fm_congr (l := l) fun i hi => h i (List.mem_cons_of_mem _ hi)
    cases hx : f x with
    | none => rw [List.filterMap_cons_none hx, List.filterMap_cons_none (by rw [← e]; exact hx), ih]
    | some y => rw [List.filterMap_cons_some hx, List.filterMap_cons_some (by rw [← e]; exact hx), ih]
theorem fm_upd {f : Nat → Option Nat} {j k : Nat} (hf : f j = none) : ∀ {l : List Nat}, l.Nodup → j ∈ l → (l.filterMap fun i => if i = j then some k else f i).Perm (k :: l.filterMap f)
  | [], _, h => by cases h
  | x :: l, nd, h => by
    obtain ⟨h1, h2⟩ := List.nodup_cons.mp nd
    rcases List.mem_cons.mp h with e | e
    · subst e
      have e2 : (l.filterMap fun i => if i = j then some k else f i) = l.filterMap f := fm_congr fun i hi => by
        have : i ≠ j := fun z => h1 (by rw [← z]; exact hi)
        simp [this]
      rw [List.filterMap_cons_some (b := k) (by simp), e2, List.filterMap_cons_none hf]
    · have hx : x ≠ j := fun z => h1 (by rw [z]; exact e)
      have ih := fm_upd (k := k) hf h2 e
      cases hfx : f x with
      | none =>
        rw [List.filterMap_cons_none (by simp [hx, hfx]), List.filterMap_cons_none hfx]
        exact ih
      | some y =>
        rw [List.filterMap_cons_some (b := y) (by simp [hx, hfx]), List.filterMap_cons_some hfx]
        exact (ih.cons y).trans (List.Perm.swap _ _ _)
theorem held_set {owner : Array (Option Nat)} {m j k : Nat} (hs : owner.size = m + 1) (hj : j ≤ m) (hn : owner.getD j none = none) : (held (owner.setIfInBounds j (some k)) m).Perm (k :: held owner m) := by
  have e : held (owner.setIfInBounds j (some k)) m = (List.range (m + 1)).filterMap fun i => if i = j then some k else owner.getD i none := fm_congr fun i hi => by
    have hi := List.mem_range.mp hi
    by_cases h : i = j
    · subst h
      simp [Array.getD, hs, hi]
    · have h2 : ¬ j = i := fun z => h z.symm
      simp [Array.getD, hs, hi, h, h2, Array.getElem_setIfInBounds]
  rw [e]
  exact fm_upd hn List.nodup_range (List.mem_range.mpr (by omega))
theorem held_free {owner : Array (Option Nat)} {m n : Nat} (h : (held owner m).length = n) (hn : n ≤ m) : ∃ y, y ≤ m ∧ owner.getD y none = none := by
  refine Classical.byContradiction fun no => ?_
  have key : ∀ l : List Nat, (∀ i ∈ l, i ≤ m) → (l.filterMap fun j => owner.getD j none).length = l.length := fun l => by
    induction l with
    | nil => intro _; rfl
    | cons x l ih =>
      intro hl
      cases hx : owner.getD x none with
      | none => exact absurd ⟨x, hl x List.mem_cons_self, hx⟩ no
      | some y =>
        rw [List.filterMap_cons_some (f := fun j => owner.getD j none) hx, List.length_cons, List.length_cons, ih fun i hi => hl i (List.mem_cons_of_mem _ hi)]
  have z := key (List.range (m + 1)) fun i hi => Nat.le_of_lt_succ (List.mem_range.mp hi)
  unfold held at h
  rw [h, List.length_range] at z
  omega
theorem getD_in {owner : Array (Option Nat)} {j : Nat} (h : (owner.getD j (some 0)).isNone = true) : j < owner.size ∧ owner.getD j none = none := by
  unfold Array.getD at h ⊢
  split at h
  · rename_i hj
    exact ⟨hj, by rw [dif_pos hj]; exact Option.isNone_iff_eq_none.mp h⟩
  · cases h
theorem isNone_of {owner : Array (Option Nat)} {j : Nat} (hj : j < owner.size) (h : owner.getD j none = none) : (owner.getD j (some 0)).isNone = true := by
  unfold Array.getD at h ⊢
  rw [dif_pos hj] at h ⊢
  rw [h]
  rfl
theorem free_go {owner : Array (Option Nat)} {mask : Nat} (hs : owner.size = mask + 1) : ∀ (m : Nat) (p : Nat × Nat) (f : Nat), p.1 ≤ mask → owner.getD (leapN mask m p).1 none = none → m + 1 ≤ f → ∃ j, SetTable.layClean.free mask owner f p.1 p.2 = some j ∧ j ≤ mask ∧ owner.getD j none = none
  | m, p, 0, _, _, hf => by omega
  | m, p, f + 1, hp, he, hf => by
    rw [SetTable.layClean.free]
    cases hfi : (List.range (SetTable.runEnd mask p.1 + 1 - p.1)).find? fun k => (owner.getD (p.1 + k) (some 0)).isNone with
    | some k =>
      obtain ⟨h1, h2⟩ := getD_in (List.find?_some (p := fun k => (owner.getD (p.1 + k) (some 0)).isNone) hfi)
      exact ⟨_, rfl, by omega, h2⟩
    | none =>
      cases m with
      | zero =>
        have z := List.find?_eq_none.mp hfi 0 (List.mem_range.mpr (by have := (run_le hp).1; omega))
        have z2 := isNone_of (owner := owner) (j := p.1) (by omega) he
        rw [Nat.add_zero] at z
        exact absurd z2 z
      | succ m => exact free_go hs m (SetTable.leap mask p.1 p.2) f (leap_lt _ _) he (by omega)
def layStep (mask : Nat) (acc : Option (Array (Option Nat) × Nat)) (h : Int) : Option (Array (Option Nat) × Nat) := do
  let (owner, k) ← acc
  let j ← SetTable.layClean.free mask owner (SetTable.turns mask) (SetTable.bits h % (mask + 1)) (SetTable.bits h)
  pure (owner.setIfInBounds j (some k), k + 1)
theorem lay_fold {mask b : Nat} (hm : mask + 1 = 2 ^ b) : ∀ (hs : List Int) (owner : Array (Option Nat)) (k : Nat), (∀ h ∈ hs, 0 ≤ h ∧ h < 2 ^ 63) → owner.size = mask + 1 → (held owner mask).Perm (List.range k) → k + hs.length ≤ mask →
    ∃ owner', hs.foldl (layStep mask) (some (owner, k)) = some (owner', k + hs.length) ∧ owner'.size = mask + 1 ∧ (held owner' mask).Perm (List.range (k + hs.length))
  | [], owner, k, _, h1, h2, _ => ⟨owner, rfl, h1, h2⟩
  | h :: hs, owner, k, hb, h1, h2, h3 => by
    simp only [List.length_cons] at h3
    obtain ⟨y, hy, hy2⟩ := held_free (m := mask) (n := k) (by rw [h2.length_eq, List.length_range]) (by omega)
    obtain ⟨b0, b1⟩ := hb h List.mem_cons_self
    have hi : SetTable.bits h % (mask + 1) ≤ mask := Nat.le_of_lt_succ (Nat.mod_lt _ (Nat.succ_pos _))
    obtain ⟨m, hm2, e⟩ := leap_meets hm hi (bits_small b0 b1) hy
    obtain ⟨j, e1, e2, e3⟩ := free_go h1 m (SetTable.bits h % (mask + 1), SetTable.bits h) (SetTable.turns mask) hi (by rw [e]; exact hy2) (by unfold SetTable.turns; omega)
    have st : layStep mask (some (owner, k)) h = some (owner.setIfInBounds j (some k), k + 1) := by
      unfold layStep
      show ((SetTable.layClean.free mask owner (SetTable.turns mask) (SetTable.bits h % (mask + 1)) (SetTable.bits h)).bind fun j => some (owner.setIfInBounds j (some k), k + 1)) = _
      rw [e1]
      rfl
    have pm : (held (owner.setIfInBounds j (some k)) mask).Perm (List.range (k + 1)) := by
      rw [List.range_succ]
      exact ((held_set h1 e2 e3).trans (h2.cons k)).trans (List.perm_append_singleton k _).symm
    obtain ⟨o', f1, f2, f3⟩ := lay_fold hm hs _ (k + 1) (fun x hx => hb x (List.mem_cons_of_mem _ hx)) (by rw [Array.size_setIfInBounds]; exact h1) pm (by omega)
    refine ⟨o', ?_, f2, ?_⟩
    · rw [List.foldl_cons, st, f1, List.length_cons]
      congr 2
      omega
    · rw [List.length_cons, show k + (hs.length + 1) = k + 1 + hs.length by omega]
      exact f3
theorem lay_clean {mask b : Nat} (hm : mask + 1 = 2 ^ b) {hs : Array Int} (hb : ∀ h ∈ hs.toList, 0 ≤ h ∧ h < 2 ^ 63) (hn : hs.size ≤ mask) : ∃ owner, SetTable.layClean mask hs = some owner ∧ (held owner mask).Perm (List.range hs.size) := by
  have h0 : (held (Array.replicate (mask + 1) none) mask).Perm (List.range 0) := by
    have e : held (Array.replicate (mask + 1) none) mask = [] := by
      unfold held
      rw [List.filterMap_eq_nil_iff]
      intro j hj
      have := List.mem_range.mp hj
      simp [Array.getD, this]
    rw [e]
    exact List.Perm.refl _
  obtain ⟨o', f1, f2, f3⟩ := lay_fold hm hs.toList (Array.replicate (mask + 1) none) 0 hb (by simp) h0 (by simpa using hn)
  refine ⟨o', ?_, by simpa using f3⟩
  unfold SetTable.layClean
  rw [← Array.foldl_toList]
  show ((hs.toList.foldl (layStep mask) (some (Array.replicate (mask + 1) none, 0))).map (·.1)) = _
  rw [f1]
  rfl
theorem live_snd {f : Nat → Option Nat} : ∀ l : List Nat, (l.filterMap fun j => (f j).map (j, ·)).map (·.2) = l.filterMap f
  | [] => rfl
  | j :: l => by
    cases h : f j with
    | none => rw [List.filterMap_cons_none (by simp [h]), List.filterMap_cons_none h]; exact live_snd l
    | some k => rw [List.filterMap_cons_some (b := (j, k)) (by simp [h]), List.filterMap_cons_some h, List.map_cons, live_snd l]
/-- the table laid anew -/
theorem laid_ok {mask b : Nat} (h3 : 3 ≤ b) (hm : mask + 1 = 2 ^ b) {hs : Array Int} (hb : ∀ h ∈ hs.toList, 0 ≤ h ∧ h < 2 ^ 63) (hn : hs.size ≤ mask) (finger moves : Nat) (led plain : Bool) :
    ∃ t order, SetTable.laid mask finger moves led plain hs = some (t, order) ∧ TabOk t hs.size ∧ t.mask = mask ∧ t.led = led ∧ t.plain = plain ∧ order.toList.Perm (List.range hs.size) := by
  obtain ⟨owner, e, pm⟩ := lay_clean hm hb hn
  have l2 : (((List.range (mask + 1)).filterMap fun j => (owner.getD j none).map (j, ·)).map (·.2)) = held owner mask := live_snd _
  have hl : ((List.range (mask + 1)).filterMap fun j => (owner.getD j none).map (j, ·)).length = hs.size := by
    have z := congrArg List.length l2
    rw [List.length_map, pm.length_eq, List.length_range] at z
    exact z
  obtain ⟨r1, r2⟩ := ris_live (fun j => owner.getD j none) (List.range (mask + 1)) (by unfold Ris; first | exact List.pairwise_lt_range | exact List.pairwise_lt_range _)
  refine ⟨{ mask, place := (((List.range (mask + 1)).filterMap fun j => (owner.getD j none).map (j, ·)).map (·.1)).toArray, dummies := #[], finger, led, moves, plain }, (((List.range (mask + 1)).filterMap fun j => (owner.getD j none).map (j, ·)).map (·.2)).toArray, ?_, ⟨⟨b, h3, hm⟩, rfl, ?_, ?_, ?_⟩, rfl, rfl, rfl, ?_⟩
  · unfold SetTable.laid
    rw [e]
    rfl
  · simpa using hl
  · simpa using r1
  · intro j hj
    exact Nat.le_of_lt_succ (List.mem_range.mp (r2 j (by simpa using hj)))
  · rw [List.toList_toArray, l2]
    exact pm
theorem size_above (n : Nat) : ∀ f i, n < 2 ^ (f + i) → 3 ≤ i → ∃ b, 3 ≤ b ∧ SetTable.sizeAbove.go n f (2 ^ i) = 2 ^ b ∧ n < 2 ^ b ∧ (2 ^ b ≤ 2 * n ∨ b = i)
  | 0, i, h, h3 => ⟨i, h3, rfl, by simpa using h, .inr rfl⟩
  | f + 1, i, h, h3 => by
    rw [SetTable.sizeAbove.go]
    by_cases hc : 2 ^ i ≤ n
    · rw [if_pos hc, show 2 ^ i * 2 = 2 ^ (i + 1) from (Nat.pow_succ ..).symm]
      obtain ⟨b, b1, b2, b3, b4⟩ := size_above n f (i + 1) (by rw [show f + (i + 1) = f + 1 + i by omega]; exact h) (by omega)
      refine ⟨b, b1, b2, b3, ?_⟩
      rcases b4 with z | z
      · exact .inl z
      · left
        rw [z, Nat.pow_succ]
        omega
    · rw [if_neg hc]
      exact ⟨i, h3, rfl, by omega, .inr rfl⟩
theorem above_ok {n : Nat} (h : n < 2 ^ 60) : ∃ b, 3 ≤ b ∧ SetTable.sizeAbove n = 2 ^ b ∧ n < 2 ^ b ∧ (2 ^ b ≤ 2 * n ∨ b = 3) := by
  have z := size_above n 64 3 (Nat.lt_trans h (by decide)) (Nat.le_refl _)
  exact z
end VL.Tb

/-! Sets of more than four thousand numbers: one more member. -/
namespace VL.Tb
open PySem PySem.Spec PyProof.Rows L2

theorem hash_small {k : Int} (h0 : 0 ≤ k) (h1 : k < 2 ^ 40) : hashInt k = k := by
  have h2 : ((k.natAbs : Int) % ((2 ^ 61 - 1 : Nat) : Int)) = k := by
    rw [Int.emod_eq_of_lt (by omega) (by omega)]
    omega
  have e : rawHash k = k := by
    simp only [rawHash]
    first
      | (rw [if_neg (show ¬ k < 0 by omega), h2, if_neg (by simp; omega)])
      | (simp only [show ¬ k < 0 by omega, if_false, h2]; rw [if_neg (by simp; omega)])
      | (rw [if_neg (show ¬ k < 0 by omega)]; exact h2)
  unfold hashInt
  rw [e, if_neg (by simp; omega)]
/-- a member's entry -/
def Ent (S : Int → Prop) (e : Int × Value) : Prop := ∃ k tk, e = (k, Value.int k tk) ∧ S k ∧ 0 ≤ k ∧ k < 2 ^ 40
structure SetT (h : Heap) (a : Addr) (S : Int → Prop) (n : Nat) : Prop where
  ex : ∃ o es ep t, h.get? a = some o ∧ o.ExactSet ∧ o.data = .set es ep t ∧ (∀ e ∈ es.toList, Ent S e) ∧ TabOk t n ∧ es.size = n ∧ n * 5 < t.mask * 3
theorem TabOk.mask7 {t : SetTable} {n : Nat} (T : TabOk t n) : 7 ≤ t.mask ∧ t.mask % 2 = 1 := by
  obtain ⟨k, h3, e⟩ := T.pow
  have : (2 : Nat) ^ k = 8 * 2 ^ (k - 3) := by
    rw [show k = (k - 3) + 3 by omega, Nat.pow_add]
    have : k - 3 + 3 - 3 = k - 3 := by omega
    rw [this]
    omega
  have hp : 0 < (2 : Nat) ^ (k - 3) := Nat.pos_of_ne_zero (by simp)
  omega
theorem TabOk.fits {t : SetTable} {n : Nat} (T : TabOk t n) (h : n ≤ t.mask) : t.fits n = true := by
  unfold SetTable.fits SetTable.fill
  rw [T.dum, T.size]
  simp [h]
theorem Ent.elem {P : Program} {w : World} {S : Int → Prop} {l : List (Int × Value)} (h : ∀ e ∈ l, Ent S e) : ElemsOf (intKind P w) l := fun e he => by
  obtain ⟨k, tk, rfl, _, h0, h1⟩ := h e he
  exact ⟨⟨k, intKind_is P w k tk, (hash_small h0 h1).symm⟩, rfl⟩
theorem put_ok {t : SetTable} {n j : Nat} (T : TabOk t n) (hj : j ≤ t.mask) (hn : t.place[SetTable.below t.place j]? ≠ some j) : TabOk (t.put j).1 (n + 1) ∧ (t.put j).1.mask = t.mask ∧ (t.put j).2 = SetTable.below t.place j ∧ (t.put j).1.plain = t.plain := by
  have pm := SetTable.insertAt_perm t.place (SetTable.below t.place j) j
  have e2 : SetTable.has #[] j = false := by simp [SetTable.has]
  refine ⟨⟨T.pow, ?_, ?_, ris_insert T.ris hn, fun x hx => ?_⟩, rfl, rfl, rfl⟩
  · show (if SetTable.has t.dummies j = true then _ else t.dummies) = #[]
    rw [T.dum, e2]
    rfl
  · show (SetTable.insertAt t.place (SetTable.below t.place j) j).size = n + 1
    rw [← Array.length_toList, pm.length_eq, Array.length_toList, Array.size_push, T.size]
  · have z := pm.mem_iff.mp hx
    rw [Array.toList_push] at z
    rcases List.mem_append.mp z with z | z
    · exact T.le x z
    · rw [List.mem_singleton.mp z]
      exact hj
theorem ins_ent {S : Int → Prop} {es : Array (Int × Value)} {p : Nat} {k : Int} {tk : Tok} (h : ∀ e ∈ es.toList, Ent S e) (h0 : 0 ≤ k) (h1 : k < 2 ^ 40) :
    (∀ e ∈ (SetTable.insertAt es p (k, Value.int k tk)).toList, Ent (fun x => S x ∨ x = k) e) ∧ (SetTable.insertAt es p (k, Value.int k tk)).size = es.size + 1 := by
  have pm := SetTable.insertAt_perm es p (k, Value.int k tk)
  refine ⟨fun e he => ?_, by rw [← Array.length_toList, pm.length_eq, Array.length_toList, Array.size_push]⟩
  have z := pm.mem_iff.mp he
  rw [Array.toList_push] at z
  rcases List.mem_append.mp z with z | z
  · obtain ⟨k', tk', e', hs, b⟩ := h e z
    exact ⟨k', tk', e', .inl hs, b⟩
  · exact ⟨k, tk, List.mem_singleton.mp z, .inr rfl, h0, h1⟩
theorem ent_hash {S : Int → Prop} {es : Array (Int × Value)} (h : ∀ e ∈ es.toList, Ent S e) : ∀ x ∈ (es.map (·.1)).toList, 0 ≤ x ∧ x < 2 ^ 63 := fun x hx => by
  rw [Array.toList_map] at hx
  obtain ⟨e, he, rfl⟩ := List.mem_map.mp hx
  obtain ⟨k, tk, rfl, _, h0, h1⟩ := h e he
  exact ⟨h0, by show k < _; omega⟩
/-- all laid anew -/
theorem relaid_ok {S : Int → Prop} {t : SetTable} {es : Array (Int × Value)} {n : Nat} (h : ∀ e ∈ es.toList, Ent S e) (hs : es.size = n) (h0 : 0 < n) (hn : n < 1000000) :
    ∃ t' order, t.relaid (es.map (·.1)) (SetTable.grown n) = some (t', order) ∧ TabOk t' n ∧ n * 5 < t'.mask * 3 ∧ t'.plain = t.plain ∧ order.toList.Perm (List.range n) ∧ SetTable.sizeAbove (SetTable.grown n) ≤ sizeLine := by
  have g1 : 2 * n ≤ SetTable.grown n ∧ SetTable.grown n ≤ 4 * n := by unfold SetTable.grown; split <;> omega
  have g2 : SetTable.grown n ≤ 2000000 := by unfold SetTable.grown; split <;> omega
  obtain ⟨b, b3, e, hb, hb2⟩ := above_ok (n := SetTable.grown n) (by omega)
  have hp : 8 ≤ (2 : Nat) ^ b := by
    have : (2 : Nat) ^ 3 ≤ 2 ^ b := Nat.pow_le_pow_right (by decide) b3
    omega
  have hz : (es.map (·.1)).size = n := by rw [Array.size_map, hs]
  obtain ⟨t', order, e1, T, em, _, ep, pm⟩ := laid_ok (mask := SetTable.sizeAbove (SetTable.grown n) - 1) (b := b) b3 (by rw [e]; omega) (hs := es.map (·.1)) (ent_hash h) (by rw [hz, e]; omega) t.finger (t.movedTo (SetTable.sizeAbove (SetTable.grown n) - 1)) t.led t.plain
  rw [hz] at T pm
  refine ⟨t', order, e1, T, ?_, ep, pm, ?_⟩
  · rw [em, e]
    omega
  · rw [e, sizeLine_eq]
    rcases hb2 with z | z
    · omega
    · rw [z]; decide
theorem order_perm {es : Array (Int × Value)} {order : Array Nat} (pm : order.toList.Perm (List.range es.size)) : (order.filterMap (es[·]?)).toList.Perm es.toList := by
  rw [Array.toList_filterMap]
  have z := pm.filterMap (fun i => es[i]?)
  have e : (List.range es.size).filterMap (fun i => es[i]?) = es.toList := by
    have q := List.filterMap_getElem?_range_length es.toList
    rw [Array.length_toList] at q
    simpa using q
  rw [e] at z
  exact z
section
variable {prog : Program} {w : World} {A : Around} {E : Value → Shared → Prop} {s : Shared} {a : Addr} {S : Int → Prop} {n : Nat} {k : Int} {tk : Tok}
theorem store_ok {o : Obj} {es es' : Array (Int × Value)} {ep : Nat} {t t' : SetTable} (ho : s.heap.get? a = some o) (hd : o.data = .set es ep t) : (s.heap.update a (Obj.putSet es' t')).get? a = some { o with data := .set es' (ep + 1) t' } := by
  have z := Heap.get?_update_self (Obj.putSet es' t') ho (by rw [putSet_of es' t' hd]; rfl)
  rw [putSet_of es' t' hd] at z
  exact z
/-- by the scan -/
theorem add_scan {o : Obj} {es : Array (Int × Value)} {ep : Nat} {t : SetTable} {R : Option Bool → Shared → Prop} (ho : s.heap.get? a = some o) (hex : o.ExactSet) (hd : o.data = .set es ep t) (hel : ∀ e ∈ es.toList, Ent S e) (T : TabOk t n) (hn : es.size = n) (hr : n * 5 < t.mask * 3) (hbig : n < 900000)
    (hk : ¬ S k) (h0 : 0 ≤ k) (h1 : k < 2 ^ 40) (h : ∀ h', Heap.SameBut a s.heap h' → SetT h' a (fun x => S x ∨ x = k) (n + 1) → R (some true) { s with heap := h' }) :
    wpAny (model prog w) A (setAddByScan a (.int k tk) k es t) R E s := by
  obtain ⟨m7, modd⟩ := T.mask7
  have hfit := T.fits (by omega)
  unfold setAddByScan
  refine wpAny_bind (wpAny_rule ?_)
  have hk2 := hash_small h0 h1
  have scan := wpAny_setScan_of (knd := intKind prog w) (A := A) (E := E) (k := k) (x := .int k tk) (adding := true) (Q := fun r s2 => r = .absent ∧ s2 = s) (intKind_is prog w k tk) ho hd (by rw [hn]; exact hfit) (Ent.elem hel) (by
    have e : es.toList.findIdx? (fun e => (intKind prog w).is k e.2) = none := List.findIdx?_eq_none_iff.mpr fun e he => by
      obtain ⟨k', tk', rfl, hs, _⟩ := hel e he
      show (k' == k) = false
      refine beq_eq_false_iff_ne.mpr fun z => hk (by rw [← z]; exact hs)
    rw [e]
    exact ⟨rfl, rfl⟩)
  rw [show (intKind prog w).hash k = k from hk2] at scan
  refine wpAny_bind (wpAny_mono scan (fun r s2 ⟨e1, e2⟩ => ?_) fun _ _ z => z)
  subst e1 e2
  dsimp only
  obtain ⟨j, ej, hj, hj2⟩ := probe_free T (by omega) (hashAt := fun _ => k + 1) (h := k) (fun _ _ => by omega) h0 (by omega)
  obtain ⟨T1, em, e2, epl⟩ := put_ok T hj hj2
  obtain ⟨hel1, hsz1⟩ := ins_ent (p := SetTable.below t.place j) (tk := tk) hel h0 h1
  have fit1 : (t.put j).1.fits (n + 1) = true := T1.fits (by omega)
  have eL : layNew t es k (.int k tk) = (SetTable.insertAt es (SetTable.below t.place j) (k, .int k tk), (t.put j).1, false, false) := by
    have ef : t.freeSlot k = some (j, false) := by
      unfold SetTable.freeSlot
      rw [ej]
      rfl
    unfold layNew
    rw [ef]
    show (SetTable.insertAt es (t.put j).2 (k, .int k tk), (t.put j).1.orStandIn (SetTable.insertAt es (t.put j).2 (k, .int k tk)).size, false, !(t.put j).1.fits (SetTable.insertAt es (t.put j).2 (k, .int k tk)).size) = _
    rw [e2, hsz1, hn, fit1]
    unfold SetTable.orStandIn
    rw [fit1]
    rfl
  rw [eL]
  dsimp only
  have pl : hashByValue 8 (.int k tk) = pure true := hashByValue_scannable 8 rfl
  generalize hes1 : SetTable.insertAt es (SetTable.below t.place j) (k, .int k tk) = es1 at hel1 hsz1 ⊢
  generalize (t.put j).1 = t1 at T1 em epl fit1 ⊢
  refine wpAny_bind (wpAny_pure ?_)
  have tail : wpAny (model prog w) A (do
      storeSet a es1 t1
      if (!false && t1.tooFull) = true then do
        let (es, t, gave) := relayAll t1 es1 (SetTable.grown es1.size)
        (match gave with
          | true => rule "set.scan.the-table-gave-way"
          | false => pure ())
        storeSet a es t
        pure (some true)
      else pure (some true)) R E s2 := by
    refine wpAny_bind (wpAny_storeSet_of ho hd ?_ (by rw [hsz1, hn, sizeLine_eq]; omega))
    have at1 := store_ok (es' := es1) (t' := t1) ho hd
    have sb1 := Heap.SameBut.update s2.heap a (Obj.putSet es1 t1)
    split
    · obtain ⟨t2, order, er, T2, hr2, _, pm, _⟩ := relaid_ok (t := t1) (n := n + 1) hel1 (by rw [hsz1, hn]) (by omega) (by omega)
      have pm2 : order.toList.Perm (List.range es1.size) := by rw [hsz1, hn]; exact pm
      have op := order_perm pm2
      have hsz2 : (order.filterMap (es1[·]?)).size = n + 1 := by rw [← Array.length_toList, op.length_eq, Array.length_toList, hsz1, hn]
      have eR : relayAll t1 es1 (SetTable.grown es1.size) = (order.filterMap (es1[·]?), t2, false) := by
        unfold relayAll
        rw [show es1.size = n + 1 by rw [hsz1, hn], er]
        dsimp only
        rw [hsz2, T2.fits (by omega), show coversAll order (n + 1) = true from List.isPerm_iff.mpr pm]
        rfl
      rw [eR]
      dsimp only
      refine wpAny_bind (wpAny_pure ?_)
      refine wpAny_bind (wpAny_storeSet_of at1 rfl ?_ (by rw [hsz2, sizeLine_eq]; omega))
      have at2 := store_ok (s := { s2 with heap := s2.heap.update a (Obj.putSet es1 t1) }) (es' := order.filterMap (es1[·]?)) (t' := t2) at1 rfl
      exact wpAny_pure (h _ (sb1.trans (Heap.SameBut.update _ a _)) ⟨_, _, _, _, at2, hex, rfl, fun e he => hel1 e (op.mem_iff.mp he), T2, hsz2, hr2⟩)
    · rename_i hfull
      refine wpAny_pure (h _ sb1 ⟨_, _, _, _, at1, hex, rfl, hel1, T1, by rw [hsz1, hn], ?_⟩)
      have z : t1.tooFull = false := by simpa using hfull
      unfold SetTable.tooFull SetTable.fill at z
      rw [T1.dum, T1.size] at z
      simpa using z
  split
  · rw [pl]
    exact wpAny_bind (wpAny_pure tail)
  · exact wpAny_bind (wpAny_pure tail)
end
end VL.Tb

/-! Sets of more than four thousand numbers: one more member, by the table; set(xs). -/
namespace VL.Tb
open PySem PySem.Spec PyProof.Rows L2

section
variable {prog : Program} {w : World} {A : Around} {E : Value → Shared → Prop} {s : Shared} {a : Addr} {S : Int → Prop} {n : Nat} {k : Int} {tk : Tok}
/-- by the table -/
theorem search_free {o : Obj} {es : Array (Int × Value)} {ep : Nat} {t : SetTable} {f : Nat} {R : SetFound → Shared → Prop} (ho : s.heap.get? a = some o) (hd : o.data = .set es ep t) (hel : ∀ e ∈ es.toList, Ent S e) (T : TabOk t n) (hn : es.size = n) (hr : n * 5 < t.mask * 3)
    (hk : ¬ S k) (h0 : 0 ≤ k) (h1 : k < 2 ^ 40) (h : ∀ j, j ≤ t.mask → t.place[SetTable.below t.place j]? ≠ some j → R (.free j false) s) :
    wpAny (model prog w) A (setSearchFrom a (.int k tk) k true (f + 1) none) R E s := by
  obtain ⟨m7, modd⟩ := T.mask7
  have hfit := T.fits (by omega)
  unfold setSearchFrom
  refine wpAny_bind (wpAny_setState_of ho hd (by rw [hn]; exact hfit) ?_)
  dsimp only
  have hg : t.gaveWay = false := by
    unfold SetTable.gaveWay
    rw [modd]
    rfl
  rw [hg]
  simp only [Bool.false_eq_true, if_false, Option.getD_none]
  obtain ⟨j, ej, hj, hj2⟩ := probe_free T (by omega) (h := k) (hashAt := fun i => (es[i]?.map (·.1)).getD 0) (fun i hi => by
    have hi2 : i < es.size := by omega
    obtain ⟨k', tk', e', hs, _⟩ := hel es[i] (by simp)
    simp only [Array.getElem?_eq_getElem hi2, Option.map_some, Option.getD_some, e']
    exact fun z => hk (by rw [← z]; exact hs)) h0 (by omega)
  split
  · rename_i met heq
    have e : some met = some (SetTable.Met.empty j none) := heq.symm.trans ej
    cases e
    exact wpAny_pure (h j hj hj2)
  · rename_i heq
    exact (heq _ ej).elim
/-- one more member -/
theorem add_big {Q : Bool → Shared → Prop} (hS : SetT s.heap a S n) (hbig : n < 900000) (hk : ¬ S k) (h0 : 0 ≤ k) (h1 : k < 2 ^ 40) (h : ∀ h', Heap.SameBut a s.heap h' → SetT h' a (fun x => S x ∨ x = k) (n + 1) → Q true { s with heap := h' }) :
    wpAny (model prog w) A (setAddHashed a (.int k tk) ((intKind prog w).hash k)) Q E s := by
  rw [show (intKind prog w).hash k = k from hash_small h0 h1]
  obtain ⟨o, es, ep, t, ho, hex, hd, hel, T, hn, hr⟩ := hS.ex
  obtain ⟨m7, modd⟩ := T.mask7
  have hfit := T.fits (by omega)
  unfold setAddHashed setAddHashedIn
  refine wpAny_holding (wpAny_bind (wpAny_setState_of ho hd (by rw [hn]; exact hfit) ?_))
  dsimp only
  split
  · refine wpAny_bind (add_scan ho hex hd hel T hn hr hbig hk h0 h1 fun h' sb st => ?_)
    exact wpAny_pure (h h' sb st)
  · refine wpAny_bind ?_
    unfold setSearch
    refine search_free ho hd hel T hn hr hk h0 h1 fun j hj hj2 => ?_
    dsimp only
    refine wpAny_bind (wpAny_setState_of ho hd (by rw [hn]; exact hfit) ?_)
    obtain ⟨T1, em, e2, epl⟩ := put_ok T hj hj2
    obtain ⟨hel1, hsz1⟩ := ins_ent (p := SetTable.below t.place j) (tk := tk) hel h0 h1
    have fit1 : (t.put j).1.fits (n + 1) = true := T1.fits (by omega)
    have pl : hashByValue 8 (.int k tk) = pure true := hashByValue_scannable 8 rfl
    show wpAny _ _ (do
      let byValue ← if (t.put j).1.plain then hashByValue 8 (.int k tk) else pure true
      storeSet a (SetTable.insertAt es (t.put j).2 (k, .int k tk)) (if byValue then (t.put j).1 else { (t.put j).1 with plain := false })
      if (!false && (if byValue then (t.put j).1 else { (t.put j).1 with plain := false }).tooFull) = true then do
        setRelay a (SetTable.grown (es.size + 1))
        pure true
      else pure true) _ _ s
    rw [e2]
    generalize hes1 : SetTable.insertAt es (SetTable.below t.place j) (k, .int k tk) = es1 at hel1 hsz1 ⊢
    generalize (t.put j).1 = t1 at T1 em epl fit1 ⊢
    have tail : wpAny (model prog w) A (do
        storeSet a es1 t1
        if (!false && t1.tooFull) = true then do
          setRelay a (SetTable.grown (es.size + 1))
          pure true
        else pure true) Q E s := by
      refine wpAny_bind (wpAny_storeSet_of ho hd ?_ (by rw [hsz1, hn, sizeLine_eq]; omega))
      have at1 := store_ok (es' := es1) (t' := t1) ho hd
      have sb1 := Heap.SameBut.update s.heap a (Obj.putSet es1 t1)
      split
      · obtain ⟨t2, order, er, T2, hr2, _, pm, hz⟩ := relaid_ok (t := t1) (n := n + 1) hel1 (by rw [hsz1, hn]) (by omega) (by omega)
        have pm2 : order.toList.Perm (List.range es1.size) := by rw [hsz1, hn]; exact pm
        have op := order_perm pm2
        have hsz2 : (order.filterMap (es1[·]?)).size = n + 1 := by rw [← Array.length_toList, op.length_eq, Array.length_toList, hsz1, hn]
        refine wpAny_bind ?_
        unfold setRelay
        refine wpAny_bind (wpAny_setState_of at1 rfl (by rw [hsz1, hn]; exact fit1) ?_)
        dsimp only
        rw [hn, if_neg (by simpa using hz)]
        refine wpAny_bind ?_
        rw [er]
        show wpAny _ _ (if ((order.filterMap (es1[·]?)).size != es1.size) = true then (do unsupported "internal:set-table-lost-an-element"; pure (order.filterMap (es1[·]?), t2)) else pure (order.filterMap (es1[·]?), t2)) _ _ _
        rw [hsz2, hsz1, hn, if_neg (by simp)]
        refine wpAny_pure ?_
        dsimp only
        refine wpAny_storeSet_of at1 rfl ?_ (by rw [hsz2, sizeLine_eq]; omega)
        have at2 := store_ok (s := { s with heap := s.heap.update a (Obj.putSet es1 t1) }) (es' := order.filterMap (es1[·]?)) (t' := t2) at1 rfl
        exact wpAny_pure (h _ (sb1.trans (Heap.SameBut.update _ a _)) ⟨_, _, _, _, at2, hex, rfl, fun e he => hel1 e (op.mem_iff.mp he), T2, hsz2, hr2⟩)
      · rename_i hfull
        refine wpAny_pure (h _ sb1 ⟨_, _, _, _, at1, hex, rfl, hel1, T1, by rw [hsz1, hn], ?_⟩)
        have z : t1.tooFull = false := by simpa using hfull
        unfold SetTable.tooFull SetTable.fill at z
        rw [T1.dum, T1.size] at z
        simpa using z
    dsimp only
    split
    · rw [pl]
      exact wpAny_bind (wpAny_pure tail)
    · exact wpAny_bind (wpAny_pure tail)
end
end VL.Tb

/-! Sets of more than four thousand numbers: set(xs). -/
namespace VL.Tb
open PySem PySem.Spec PyProof.Rows L2

section
variable {prog : Program} {w : World} {A : Around} {R : Result → Shared → Prop} {I : Addr} {fp wr : List Addr} {G : Array GenState → Array GenState → Prop} {n : Nat} {P : Nat → Value → Prop} {St : Nat → Shared → Prop}
theorem SetT.at {h h' : Heap} {a : Addr} {S : Int → Prop} {m : Nat} (x : SetT h a S m) (k : ∀ o, h.get? a = some o → h'.get? a = some o) : SetT h' a S m := by
  obtain ⟨o, es, ep, t, ho, r⟩ := x.ex
  exact ⟨o, es, ep, t, k o ho, r⟩
theorem SetT.imp {h : Heap} {a : Addr} {S S' : Int → Prop} {m : Nat} (x : SetT h a S m) (e : ∀ k, S k → S' k) : SetT h a S' m := by
  obtain ⟨o, es, ep, t, ho, hx, hd, hel, r⟩ := x.ex
  exact ⟨o, es, ep, t, ho, hx, hd, fun q hq => by
    obtain ⟨k, tk, z, hs, b⟩ := hel q hq
    exact ⟨k, tk, z, e k hs, b⟩, r⟩
/-- all that the walk yields goes into the set -/
theorem loop_big (W : WalksS prog w A.in1 I fp wr G n P St) (D : Addr) (nD : D ∉ fp) (val : Nat → Int) (isV : ∀ i v, P i v → ∃ t, v = .int (val i) t) (inj : ∀ i j, i < n → j < n → val i = val j → i = j) (small : ∀ i, i < n → 0 ≤ val i ∧ val i < 2 ^ 40) (few : n < 900000) :
    ∀ (c i : Nat) (s : Shared), n - i = c → i ≤ n → St i s → SetT s.heap D (fun x => ∃ j, j < i ∧ x = val j) i → (∀ s', Moved (D :: wr) G s s' → SetT s'.heap D (fun x => ∃ j, j < n ∧ x = val j) n → R (.ok (.ret .none)) s') →
      codeAny (model prog w) A (.builtin "set.update.loop" ⟨[.ref D, .ref I], []⟩) R s := by
  have nW : D ∉ wr := fun z => nD (W.sub _ z)
  have more : ∀ b ∈ wr, b ∈ D :: wr := fun b hb => List.mem_cons_of_mem _ hb
  intro c
  induction c with
  | zero =>
    intro i s hc hi st hS fin
    obtain rfl : i = n := by omega
    refine codeAny_builtin PyProof.Rows.F.entry_set_update_loop (?_)
    rw [Around.under_plainId PyProof.Rows.F.plain_set_update_loop ⟨[.ref D, .ref I], []⟩]
    show wpAny _ A.in1 (pyNext (Value.ref I) >>= _) _ _ s
    refine wpAny_bind (W.done s _ _ st fun s1 mv => ?_)
    show wpAny _ A.in1 (ret Value.none) _ _ s1
    exact wpAny_pure (fin s1 (mv.mono more) (hS.at fun o e => mv.heap D o nW e))
  | succ c ih =>
    intro i s hc hi st hS fin
    have lt : i < n := by omega
    refine codeAny_builtin PyProof.Rows.F.entry_set_update_loop (?_)
    rw [Around.under_plainId PyProof.Rows.F.plain_set_update_loop ⟨[.ref D, .ref I], []⟩]
    show wpAny _ A.in1 (pyNext (Value.ref I) >>= _) _ _ s
    refine wpAny_bind (W.item i s _ _ lt st fun v s1 hP st1 mv => ?_)
    obtain ⟨t, rfl⟩ := isV i v hP
    have hS1 : SetT s1.heap D (fun x => ∃ j, j < i ∧ x = val j) i := hS.at fun o e => mv.heap D o nW e
    show wpAny _ A.in1 (holding [Value.int (val i) t] (setAdd D (.int (val i) t)) >>= _) _ _ s1
    refine wpAny_bind (wpAny_holding ?_)
    unfold setAdd
    refine wpAny_holding (wpAny_bind ((intKind prog w).pyHash (k := val i) (intKind_is prog w (val i) t) ?_))
    obtain ⟨z0, z1⟩ := small i lt
    refine add_big (s := { s1 with toks := s1.toks + 1 }) hS1 (by omega) (fun ⟨j, hj, e⟩ => by
      have := inj i j lt (by omega) e
      omega) z0 z1 fun h' sb hS2 => ?_
    have hS3 : SetT h' D (fun x => ∃ j, j < i + 1 ∧ x = val j) (i + 1) := hS2.imp fun x z => by
      rcases z with ⟨j, hj, e⟩ | e
      · exact ⟨j, by omega, e⟩
      · exact ⟨i, by omega, e⟩
    refine wpAny_pure ⟨plainId_quiet PyProof.Rows.F.plain_set_update_loop ⟨[.ref D, .ref I], []⟩, ih (i + 1) _ (by omega) lt (W.frame _ s1 _ _ st1 (Nat.le_succ _) fun b hb o e => ?_) hS3 fun s2 mv2 hS4 => ?_⟩
    · rw [sb.2 b (fun z : b = D => nD (by rw [← z]; exact hb))]
      exact e
    · refine fin s2 (Moved.trans W.gtrans ((mv.mono more).then_heap (Nat.le_succ _) fun b o hb e => ?_) mv2) hS4
      rw [sb.2 b (fun z : b = D => hb (by rw [z]; exact List.mem_cons_self))]
      exact e
end

section
variable {prog : Program} {w : World} {A : Around} {E : Value → Shared → Prop} {s : Shared}
theorem fresh_set (led : Bool) : TabOk (.fresh 0 0 led) 0 where
  pow := ⟨3, Nat.le_refl _, rfl⟩
  dum := rfl
  size := rfl
  ris := List.Pairwise.nil
  le := fun j hj => by cases hj
/-- set(xs), xs a list of many different numbers -/
theorem call_set_big {l : Addr} {items : Array Value} {ns : List Int} {Q : Value → Shared → Prop} (noH : A.handled = none) (isL : s.heap.IsList l items) (hint : IntsAre items.toList ns) (nd : ns.Nodup) (small : ∀ x ∈ ns, 0 ≤ x ∧ x < 2 ^ 40) (few : ns.length < 900000)
    (h : ∀ (h' : Heap) (tk : Nat) (S : Int → Prop), SetT h' s.heap.objs.size S ns.length → (∀ b o, b < s.heap.objs.size → s.heap.get? b = some o → h'.get? b = some o) → Q (.ref s.heap.objs.size) { s with heap := h', toks := tk }) :
    wpAny (model prog w) A (call (.type "set") [.ref l]) Q E s := by
  have len : items.size = ns.length := by rw [← Array.length_toList]; exact hint.length
  obtain ⟨c0, rest0, mro0⟩ := PySem.F.called_set.mro
  have made0 := PySem.F.called_set.made
  have sub0 := PySem.F.called_set.sub
  refine wpAny_call (codeAny_of_tree (?_ : _))
  show wpAny _ _ (callAny (.type "set") ⟨[.ref l], []⟩) _ _ s
  refine wpAny_pure ⟨Code.quiet_builtin _ (by decide +kernel), codeAny_builtin PySem.F.entry_type_call (?_ : _)⟩
  rw [Around.under_plain (weight_type_call_type "set" [.ref l] []) (rfl : _ = _)]
  have a1 := PySem.F.called_set.notType
  have a2 := PySem.F.called_set.canCreate
  have a3 := PySem.F.typeCall_set_1 (.ref l)
  repeat any_goals first | assumption | wp_step
  let new (led : Bool) : Obj := { cls := .type "set", dict := none, data := .set #[] 0 (.fresh 0 0 led) }
  refine codeAny_mono (PySem.code_set_new_1 (.ref l) (E := E) (Q₁ := fun x s1 => ∃ led : Bool, x = .ref s.heap.objs.size ∧ s1 = { s with heap := s.heap.push (new led) }) fun led => ⟨led, rfl, rfl⟩) (fun r s1 hr => ?_)
  cases r with
  | error e => exact hr
  | ok fl =>
    cases fl with
    | next => exact hr.elim
    | brk => exact hr.elim
    | cont => exact hr.elim
    | ret x =>
      obtain ⟨led, rfl, rfl⟩ := hr
      have atN : (s.heap.push (new led)).get? s.heap.objs.size = some (new led) := Heap.get?_push_size _ rfl
      have tyN : Shared.TypeIs { s with heap := s.heap.push (new led) } (.ref s.heap.objs.size) "set" := ⟨_, atN, rfl⟩
      have b1 := PySem.F.called_set.init.lookup
      have b2 := PySem.F.called_set.init.bind (.ref s.heap.objs.size)
      repeat any_goals first | assumption | wp_step
      refine codeAny_mono (codeAny_call_builtin (R := wants (fun r s2 => r = .none ∧ ∃ h' tk, s2 = { s with heap := h', toks := tk } ∧ SetT h' s.heap.objs.size (fun x => ∃ j, j < items.size ∧ x = ns.getD j 0) items.size ∧
        (∀ b o, b < s.heap.objs.size → s.heap.get? b = some o → h'.get? b = some o)) E) PySem.F.called_set.init.plain PySem.F.entry_set_init (PySem.check_set_init_1 tyN ?_)) (fun r2 s2 hr2 => ?_)
      · obtain ⟨⟨oc, od, odt, osl⟩, oL, cL, nL, dL⟩ := isL
        simp only at cL dL
        subst cL
        subst dL
        have oL2 : (s.heap.push (new led)).get? l = some { cls := .type "list", dict := od, data := .seq items nL, slots := osl } := Heap.get?_push_of_some _ oL
        have s1' := PySem.F.sub_list_set
        have s2' := PySem.F.sub_list_frozenset
        have s3' : (Value.type "list" == Value.type "dict") = false := by decide
        have isL2 : (s.heap.push (new led)).IsList l items := ⟨_, oL2, rfl, nL, rfl⟩
        unfold Builtin.«set.__init__» noKeywords Builtin.Frozenset.updateFrom
        generalize it : pyIter = PI
        wp_walk
        subst it
        refine wpAny_pyIter_list isL2 (wpAny_bind (wpAny_runValue ?_))
        have ltL : l < s.heap.objs.size := Heap.lt_size oL
        have noH3 : A.in1.in1.in1.handled = none := by simp [noH]
        have sz1 : (s.heap.push (new led)).objs.size = s.heap.objs.size + 1 := by rw [Heap.size_push]
        have apart : l ≠ (s.heap.push (new led)).objs.size := by
          rw [sz1]
          exact Nat.ne_of_lt (Nat.lt_succ_of_lt ltL)
        have out : s.heap.objs.size ∉ [(s.heap.push (new led)).objs.size, l] := fun z => by
          rcases List.mem_cons.mp z with z | z
          · rw [sz1] at z
            exact absurd z (Nat.ne_of_lt (Nat.lt_succ_self _))
          · exact absurd (List.mem_singleton.mp z) (Nat.ne_of_gt ltL)
        have at_ : ∀ j, j < items.size → ns[j]? = some (ns.getD j 0) := fun j hj => by
          rw [List.getD_eq_getElem?_getD, List.getElem?_eq_getElem (by omega)]
          rfl
        refine loop_big ((Walks.list noH3 _ l apart items).toS) s.heap.objs.size out (fun i => ns.getD i 0) (fun i v hv => PyProof.Rows.IntsAre.int_at hint i v (by rw [Array.getElem?_toList]; exact hv)) (fun i j hi hj e => ?_) (fun i hi => ?_) (by omega)
          (items.size - 0) 0 _ (by omega) (Nat.zero_le _) ⟨⟨_, Heap.get?_push_size _ rfl, rfl, rfl⟩, (isL2.push _)⟩ ?first ?last
        · have e1 := at_ i hi
          have e2 := at_ j hj
          have e : ns.getD i 0 = ns.getD j 0 := e
          rw [e, ← e2] at e1
          exact (List.getElem?_inj (by omega) nd).mp e1
        · exact small _ (List.mem_of_getElem? (at_ i hi))
        case first =>
          exact ⟨new led, #[], 0, .fresh 0 0 led, Heap.get?_push_of_some _ atN, ⟨rfl, rfl, rfl⟩, rfl, fun e he => (by cases he), fresh_set led, rfl, by show 0 * 5 < 7 * 3; decide⟩
        case last =>
          intro s3 mv hS
          obtain ⟨h3, g3, d3, t3, o3⟩ := s3
          obtain rfl : g3 = s.gens := mv.gens
          obtain rfl : d3 = s.drawn := mv.drawn
          obtain rfl : o3 = s.os := mv.os
          show wpAny _ _ _ _ _ _
          refine wpAny_pure (?_ : _)
          show wpAny _ _ (ret Value.none) _ _ _
          refine wpAny_pure ⟨rfl, h3, t3, rfl, hS, fun b o hb e => ?_⟩
          refine mv.heap b o (fun z => ?_) (Heap.get?_push_of_some _ (Heap.get?_push_of_some _ e))
          rcases List.mem_cons.mp z with z | z
          · exact absurd z (Nat.ne_of_lt hb)
          · have z := List.mem_singleton.mp z
            rw [z, sz1] at hb
            exact absurd hb (Nat.not_lt.mpr (Nat.le_succ _))
      · cases r2 with
        | error e => exact hr2
        | ok f2 =>
          cases f2 with
          | next => exact hr2.elim
          | brk => exact hr2.elim
          | cont => exact hr2.elim
          | ret y =>
            obtain ⟨rfl, h3, t3, rfl, hS, kp⟩ := hr2
            repeat any_goals first | assumption | wp_step
            rw [len] at hS
            exact h h3 t3 _ hS kp
end
end VL.Tb

/-! The value layer, 29: len(set(xs)), different numbers from 0 on. -/
namespace VL
open PySem PySem.Spec PyProof.Rows L2 RZ RT

def lenSetOk (ns : List Int) : Bool := nodupB ns && ((ns.all fun x => decide (0 ≤ x) && decide (x < 1099511627776)) && decide (ns.length < 900000))
def gLenSet : Sl → Option Sl := fun s => (s.ql?.bind ints?).bind fun ns => if lenSetOk ns then some (.dat (.int ns.length)) else none
def tLenBig (K : PySem.W.Frag) (ta : TE) : TE := fun σ H Q => ta σ H fun x H1 => ∃ (l : Addr) (ns : List Int), x = .ref l ∧ SqL K H1 l (ns.map V.int) ∧ lenSetOk ns = true ∧ Q (.int (ns.length : Nat)) H1
theorem pe_lenBig {X : Cx} {a : Expr} {ta : TE} {p p2 q pos : Pos} (hc : X.calm = true) (g1 : Gl X "len") (m1 : X.mg "len" = none) (g2 : Gl X "set") (m2 : X.mg "set" = none) (he : PE X a ta) (na : starEach [a] X.env = (false, eval a X.env) :: starEach [] X.env := by rfl) :
    PE X (.Call (.Name "len" p) [.Call (.Name "set" p2) [a] [] q] [] pos) (tLenBig X.K ta) := ⟨fun pins s σ H Q I h => by
  refine Call_ (ld_blt I g1 m1 boot_len (PyProof.Rows.callWith_builtin1 (PyProof.Rows.args_cons ?_ rfl) rfl rfl))
  refine Call_ (ld_blt I g2 m2 boot_set (PyProof.Rows.callWith_type1 (PyProof.Rows.args_cons (thn (he.run pins s σ H _ I h) fun v s1 ⟨x, H1, I1, r1, l, ns, ex, hq, ok, q1⟩ => PyProof.Rows.args_nil ?_) na) na rfl))
  subst ex
  obtain rfl : v = Value.ref l := r1
  obtain ⟨its, r, pl, hz⟩ := I1.list hq
  unfold lenSetOk at ok
  simp only [Bool.and_eq_true, List.all_eq_true, decide_eq_true_eq] at ok
  obtain ⟨o1, o2, o3⟩ := ok
  refine Tb.call_set_big (ns := ns) (I1.ok.hd hc) pl.isList (by simpa using intsAre_vals r) (nodupB_ok o1) (fun x hx => ⟨(o2 x hx).1, (o2 x hx).2⟩) o3 fun h' tk S hS hk => PyProof.Rows.args_nil ?_
  obtain ⟨o, es, ep, t, ho, hex, hd, _, T, hn, hr⟩ := hS.ex
  have I2 : Inv X pins σ H1 { s1 with heap := h', toks := tk } := I1.kept fun b o e => hk b o (Heap.lt_size e) e
  have m7 := T.mask7
  exact call_len_set ho hex hd (by rw [hn]; exact T.fits (by omega)) (by rw [hn]; omega) ⟨.int ns.length, H1, I2.tok _, ⟨_, by rw [hn]⟩, q1⟩⟩
section
variable {X : Cx} {W : WX} {p p2 pos pos2 : Pos} {e : Expr} {f : EF}
theorem se_lenSet (kx : Kx X W) (hg : Gl X "len") (hm : X.mg "len" = none) (hg2 : Gl X "set") (hm2 : X.mg "set" = none) (he : SE X W e f) (na : starEach [e] X.env = (false, eval e X.env) :: starEach [] X.env := by rfl) :
    SE X W (.Call (.Name "len" p) [.Call (.Name "set" p2) [e] [] pos2] [] pos) (eUn gLenSet f) :=
  PE.imp (pe_lenBig kx.hc hg hm hg2 hm2 he na) fun σ H Q ⟨G, E, Fz, k, h⟩ => by
    refine tE_mono (tE_of k (EndE.bind h)) fun v H1 ⟨r, E1, Fz1, k1, h1⟩ => ?_
    dsimp only at h1
    cases hgr : gLenSet r with
    | none => rw [hgr] at h1; exact h1.elim
    | some s =>
      rw [hgr] at h1
      unfold gLenSet at hgr
      obtain ⟨ns, e1, e2⟩ := Option.bind_eq_some_iff.mp hgr
      obtain ⟨ds, e3, e4⟩ := Option.bind_eq_some_iff.mp e1
      split at e2
      · rename_i hok
        cases e2
        obtain ⟨a, vs, rfl, hs, rl⟩ := k1.top.ql e3
        rw [ints_eq e4] at rl
        rw [rl.ints_inv] at hs
        exact ⟨a, ns, rfl, hs, hok, h1 _ _ _ (k1.pop.dat rfl)⟩
      · cases e2
end
end VL

/-! The value layer, 30: texts of short data. -/
namespace VL
open PySem PySem.Spec PyProof.Rows L2
mutual
/-- whole numbers below 10^12 in size, fair texts, no exception -/
def shortD : D → Bool
  | .int i => decide (i.natAbs < 10 ^ 12)
  | .str x => PyData.canLay0 (.str x)
  | .tup ds => shortL ds
  | .lst ds => shortL ds
  | .exc _ _ _ => false
  | _ => true
def shortL : List D → Bool
  | [] => true
  | d :: ds => shortD d && shortL ds
end
mutual
/-- at least the weight -/
def heftD : D → Nat
  | .int _ => 40
  | .str x => x.cps.size
  | .tup ds => heftL ds
  | .lst ds => heftL ds
  | _ => 0
def heftL : List D → Nat
  | [] => 0
  | d :: ds => heftD d + 1 + heftL ds
end
theorem text_int (i : Int) (h : i.natAbs < 10 ^ 12) : (PyData.shown (.int i)).length ≤ 13 := by
  have z := PySem.int_text_length_le10 (a := i) (k := 12) (by decide) h
  show (Str.ofString (toString i)).length ≤ 13
  rw [PySem.ofString_length]
  exact z
mutual
theorem short_ok : ∀ d : D, shortD d = true → d.plain = true ∧ PyData.canLay0 d.py = true ∧ PyData.showable d.py = true ∧ PyData.intsShort 13 d.py = true ∧ PyData.weight d.py ≤ heftD d
  | .non, _ => by refine ⟨rfl, ?_, ?_, ?_, ?_⟩ <;> simp [D.py, PyData.canLay0, PyData.showable, PyData.intsShort, PyData.weight]
  | .bl _, _ => by refine ⟨rfl, ?_, ?_, ?_, ?_⟩ <;> simp [D.py, PyData.canLay0, PyData.showable, PyData.intsShort, PyData.weight]
  | .int i, h => by
    have h : i.natAbs < 10 ^ 12 := of_decide_eq_true h
    have l : i.natAbs.log2 < 40 := by
      by_cases hz : i.natAbs = 0
      · rw [hz]; decide
      · exact (Nat.log2_lt hz).mpr (by omega)
    refine ⟨rfl, by simp [D.py, PyData.canLay0], ?_, ?_, ?_⟩
    · simp only [D.py, PyData.showable, decide_eq_true_eq]
      omega
    · simp only [D.py, PyData.intsShort, decide_eq_true_eq]
      exact text_int i h
    · simp only [D.py, PyData.weight, heftD]
      split <;> omega
  | .str x, h => by refine ⟨rfl, h, ?_, ?_, ?_⟩ <;> simp [D.py, PyData.showable, PyData.intsShort, PyData.weight, heftD]
  | .tup ds, h => by
    obtain ⟨h1, h2, h3, h4, h5⟩ := shortL_ok ds h
    refine ⟨h1, ?_, ?_, ?_, ?_⟩ <;> simp only [D.py, PyData.canLay0, PyData.showable, PyData.intsShort, PyData.weight, heftD] <;> assumption
  | .lst ds, h => by
    obtain ⟨h1, h2, h3, h4, h5⟩ := shortL_ok ds h
    refine ⟨h1, ?_, ?_, ?_, ?_⟩ <;> simp only [D.py, PyData.canLay0, PyData.showable, PyData.intsShort, PyData.weight, heftD] <;> assumption
  | .exc _ _ _, h => by cases h
theorem shortL_ok : ∀ ds : List D, shortL ds = true → plainL ds = true ∧ PyData.canLayAll0 (pyL ds) = true ∧ PyData.showableAll (pyL ds) = true ∧ PyData.intsShortAll 13 (pyL ds) = true ∧ PyData.weightAll (pyL ds) ≤ heftL ds
  | [], _ => by refine ⟨rfl, ?_, ?_, ?_, ?_⟩ <;> simp [pyL, PyData.canLayAll0, PyData.showableAll, PyData.intsShortAll, PyData.weightAll]
  | d :: ds, h => by
    obtain ⟨g1, g2⟩ := Bool.and_eq_true_iff.mp (show (shortD d && shortL ds) = true from h)
    obtain ⟨a1, a2, a3, a4, a5⟩ := short_ok d g1
    obtain ⟨b1, b2, b3, b4, b5⟩ := shortL_ok ds g2
    refine ⟨?_, ?_, ?_, ?_, ?_⟩
    · show (d.plain && plainL ds) = true
      rw [a1, b1]
      rfl
    · simp only [pyL, PyData.canLayAll0, a2, b2, Bool.and_self]
    · simp only [pyL, PyData.showableAll, a3, b3, Bool.and_self]
    · simp only [pyL, PyData.intsShortAll, a4, b4, Bool.and_self]
    · simp only [pyL, PyData.weightAll, heftL]
      omega
end
theorem repr_of {s : Sl} {d : D} (e : s.d? = some d) (h : shortD d = true) (hw : heftD d ≤ 1048576) (hd : d.py.depth ≤ 64) : gRepr s = some (.dat (.str d.py.shown)) := by
  obtain ⟨h1, h2, h3, h4, h5⟩ := short_ok d h
  have hl : PyData.layable0 d.py = true := by
    unfold PyData.layable0
    rw [h2, decide_eq_true hd, decide_eq_true (Nat.le_trans h5 (by rw [show (2 : Nat) ^ 20 = 1048576 by decide]; exact hw))]
    rfl
  have z := PyProof.Rows.shown_le13 hl h4
  unfold gRepr
  rw [e]
  dsimp only
  rw [h1, h3, decide_eq_true hd, decide_eq_true (show d.py.shown.length ≤ SZ by show _ ≤ 16777216; omega)]
  rfl
/-- both of two texts of one thing -/
theorem gEq_same (neg : Bool) (x : Str) : gEqA neg (.dat (.str x)) (.dat (.str x)) = some (.dat (.bl (!neg))) := by
  show some (Sl.dat (.bl (if neg then !decide (x = x) else decide (x = x)))) = _
  rw [decide_eq_true rfl]
  cases neg <;> rfl
theorem fine_short {d : D} (h : shortD d = true) (hd : d.py.depth ≤ 64) : d.fine = true := by
  obtain ⟨h1, h2, _⟩ := short_ok d h
  unfold D.fine SeqAt.shaped
  rw [h1, h2, decide_eq_true hd]
  rfl
/-- rows of numbers -/
abbrev natL (ns : List Nat) : List D := ns.map fun n => D.int (n : Nat)
theorem natL_short : ∀ {ns : List Nat}, (∀ n ∈ ns, n < 10 ^ 12) → shortL (natL ns) = true
  | [], _ => rfl
  | n :: ns, h => by
    have h1 := h n List.mem_cons_self
    show (decide ((n : Int).natAbs < 10 ^ 12) && shortL (natL ns)) = true
    rw [natL_short fun m hm => h m (List.mem_cons_of_mem _ hm), decide_eq_true (by omega)]
    rfl
theorem natL_heft : ∀ ns : List Nat, heftL (natL ns) = 41 * ns.length
  | [] => rfl
  | n :: ns => by
    show 40 + 1 + heftL (natL ns) = _
    rw [natL_heft ns, List.length_cons]
    omega
theorem natL_depth : ∀ ns : List Nat, PyData.depthAll (pyL (natL ns)) = 0
  | [] => by simp only [List.map_nil, pyL, PyData.depthAll]
  | n :: ns => by
    show PyData.depthAll (PyData.int n :: pyL (natL ns)) = 0
    simp only [PyData.depthAll, natL_depth ns, PyData.depth]
    rfl
theorem natL_repr {ns : List Nat} {s : Sl} (e : s.d? = some (.lst (natL ns))) (h : ∀ n ∈ ns, n < 10 ^ 12) (hl : ns.length ≤ 25000) : gRepr s = some (.dat (.str (D.lst (natL ns)).py.shown)) :=
  repr_of e (natL_short h) (by show heftL (natL ns) ≤ _; rw [natL_heft]; omega) (by
    show PyData.depthAll (pyL (natL ns)) + 1 ≤ 64
    rw [natL_depth]
    decide)
theorem natL_fine {ns : List Nat} (h : ∀ n ∈ ns, n < 10 ^ 12) : (D.lst (natL ns)).fine = true :=
  fine_short (natL_short h) (by
    show PyData.depthAll (pyL (natL ns)) + 1 ≤ 64
    rw [natL_depth]
    decide)
theorem nat_repr {n : Nat} (h : n < 10 ^ 12) : gRepr (.dat (.int n)) = some (.dat (.str (D.int n).py.shown)) :=
  repr_of (d := .int n) rfl (by show decide ((n : Int).natAbs < 10 ^ 12) = true; exact decide_eq_true (by omega)) (by show 40 ≤ 1048576; decide) (by show 0 ≤ 64; decide)
end VL

namespace Lk16
open PySem PySem.Spec PyProof.Rows L2 VL
def top (i : Nat) : Stmt := PySem.Challenge.pw_runsbelieved_k16_whole_remainders_orders.main.body.getD i (.Pass ⟨0, 0, 0, 0⟩)
abbrev i_BadPrime : Stmt := inClass (top 3) 0
def dI_BadPrime : He.DefD := ⟨("BadPrime", some "__init__"), "__init__", "BadPrime.__init__", defArgs i_BadPrime, defBody i_BadPrime, defScope i_BadPrime, [.non], []⟩
abbrev i_BadNumber : Stmt := inClass (top 4) 0
def dI_BadNumber : He.DefD := ⟨("BadNumber", some "__init__"), "__init__", "BadNumber.__init__", defArgs i_BadNumber, defBody i_BadNumber, defScope i_BadNumber, [.non], []⟩
abbrev i_BadRemainder : Stmt := inClass (top 5) 0
def dI_BadRemainder : He.DefD := ⟨("BadRemainder", some "__init__"), "__init__", "BadRemainder.__init__", defArgs i_BadRemainder, defBody i_BadRemainder, defScope i_BadRemainder, [.non], []⟩
abbrev i_BadPoint : Stmt := inClass (top 6) 0
def dI_BadPoint : He.DefD := ⟨("BadPoint", some "__init__"), "__init__", "BadPoint.__init__", defArgs i_BadPoint, defBody i_BadPoint, defScope i_BadPoint, [.non], []⟩
abbrev i_BadLine : Stmt := inClass (top 7) 0
def dI_BadLine : He.DefD := ⟨("BadLine", some "__init__"), "__init__", "BadLine.__init__", defArgs i_BadLine, defBody i_BadLine, defScope i_BadLine, [.non], []⟩
abbrev i_BadTable : Stmt := inClass (top 8) 0
def dI_BadTable : He.DefD := ⟨("BadTable", some "__init__"), "__init__", "BadTable.__init__", defArgs i_BadTable, defBody i_BadTable, defScope i_BadTable, [.non], []⟩
abbrev i_BadClaim : Stmt := inClass (top 9) 0
def dI_BadClaim : He.DefD := ⟨("BadClaim", some "__init__"), "__init__", "BadClaim.__init__", defArgs i_BadClaim, defBody i_BadClaim, defScope i_BadClaim, [.non], []⟩
abbrev i_BadTalk : Stmt := inClass (top 10) 0
def dI_BadTalk : He.DefD := ⟨("BadTalk", some "__init__"), "__init__", "BadTalk.__init__", defArgs i_BadTalk, defBody i_BadTalk, defScope i_BadTalk, [.non], []⟩
abbrev i_TooMany : Stmt := inClass (top 11) 0
def dI_TooMany : He.DefD := ⟨("TooMany", some "__init__"), "__init__", "TooMany.__init__", defArgs i_TooMany, defBody i_TooMany, defScope i_TooMany, [], []⟩
abbrev i_NoSuch : Stmt := inClass (top 12) 0
def dI_NoSuch : He.DefD := ⟨("NoSuch", some "__init__"), "__init__", "NoSuch.__init__", defArgs i_NoSuch, defBody i_NoSuch, defScope i_NoSuch, [.non], []⟩
abbrev s_is_whole : Stmt := top 15
def d_is_whole : He.DefD := ⟨("is_whole", none), "is_whole", "is_whole", defArgs s_is_whole, defBody s_is_whole, defScope s_is_whole, [], []⟩
abbrev s_own_is_prime : Stmt := top 16
def d_own_is_prime : He.DefD := ⟨("own_is_prime", none), "own_is_prime", "own_is_prime", defArgs s_own_is_prime, defBody s_own_is_prime, defScope s_own_is_prime, [], []⟩
abbrev s_is_prime : Stmt := top 17
def d_is_prime : He.DefD := ⟨("is_prime", none), "is_prime", "is_prime", defArgs s_is_prime, defBody s_is_prime, defScope s_is_prime, [], []⟩
abbrev s_need_prime : Stmt := top 18
def d_need_prime : He.DefD := ⟨("need_prime", none), "need_prime", "need_prime", defArgs s_need_prime, defBody s_need_prime, defScope s_need_prime, [], []⟩
abbrev s_need_remainder : Stmt := top 23
def d_need_remainder : He.DefD := ⟨("need_remainder", none), "need_remainder", "need_remainder", defArgs s_need_remainder, defBody s_need_remainder, defScope s_need_remainder, [], []⟩
abbrev s_own_inverse : Stmt := top 24
def d_own_inverse : He.DefD := ⟨("own_inverse", none), "own_inverse", "own_inverse", defArgs s_own_inverse, defBody s_own_inverse, defScope s_own_inverse, [], []⟩
abbrev s_inverse_of : Stmt := top 25
def d_inverse_of : He.DefD := ⟨("inverse_of", none), "inverse_of", "inverse_of", defArgs s_inverse_of, defBody s_inverse_of, defScope s_inverse_of, [], []⟩
abbrev s_quotient_of : Stmt := top 26
def d_quotient_of : He.DefD := ⟨("quotient_of", none), "quotient_of", "quotient_of", defArgs s_quotient_of, defBody s_quotient_of, defScope s_quotient_of, [], []⟩
abbrev s_own_power : Stmt := top 27
def d_own_power : He.DefD := ⟨("own_power", none), "own_power", "own_power", defArgs s_own_power, defBody s_own_power, defScope s_own_power, [], []⟩
abbrev s_power_of : Stmt := top 28
def d_power_of : He.DefD := ⟨("power_of", none), "power_of", "power_of", defArgs s_power_of, defBody s_power_of, defScope s_power_of, [], []⟩
abbrev s_own_primes : Stmt := top 29
def d_own_primes : He.DefD := ⟨("own_primes", none), "own_primes", "own_primes", defArgs s_own_primes, defBody s_own_primes, defScope s_own_primes, [], []⟩
abbrev s_order_of : Stmt := top 30
def d_order_of : He.DefD := ⟨("order_of", none), "order_of", "order_of", defArgs s_order_of, defBody s_order_of, defScope s_order_of, [], []⟩
abbrev s_need_order : Stmt := top 31
def d_need_order : He.DefD := ⟨("need_order", none), "need_order", "need_order", defArgs s_need_order, defBody s_need_order, defScope s_need_order, [], []⟩
abbrev s_own_root_of_one : Stmt := top 32
def d_own_root_of_one : He.DefD := ⟨("own_root_of_one", none), "own_root_of_one", "own_root_of_one", defArgs s_own_root_of_one, defBody s_own_root_of_one, defScope s_own_root_of_one, [], []⟩
abbrev s_root_of_one : Stmt := top 33
def d_root_of_one : He.DefD := ⟨("root_of_one", none), "root_of_one", "root_of_one", defArgs s_root_of_one, defBody s_root_of_one, defScope s_root_of_one, [], []⟩
abbrev s_own_group : Stmt := top 34
def d_own_group : He.DefD := ⟨("own_group", none), "own_group", "own_group", defArgs s_own_group, defBody s_own_group, defScope s_own_group, [], []⟩
abbrev s_group_of : Stmt := top 35
def d_group_of : He.DefD := ⟨("group_of", none), "group_of", "group_of", defArgs s_group_of, defBody s_group_of, defScope s_group_of, [], []⟩
abbrev s_root_of : Stmt := top 36
def d_root_of : He.DefD := ⟨("root_of", none), "root_of", "root_of", defArgs s_root_of, defBody s_root_of, defScope s_root_of, [], []⟩
abbrev s__law_mixed : Stmt := top 38
def d__law_mixed : He.DefD := ⟨("_law_mixed", none), "_law_mixed", "_law_mixed", defArgs s__law_mixed, defBody s__law_mixed, defScope s__law_mixed, [], []⟩
abbrev s__law_draw : Stmt := top 39
def d__law_draw : He.DefD := ⟨("_law_draw", none), "_law_draw", "_law_draw", defArgs s__law_draw, defBody s__law_draw, defScope s__law_draw, [], []⟩
abbrev s__law_digit : Stmt := top 40
def d__law_digit : He.DefD := ⟨("_law_digit", none), "_law_digit", "_law_digit", defArgs s__law_digit, defBody s__law_digit, defScope s__law_digit, [], []⟩
abbrev s__law_told : Stmt := top 41
def d__law_told : He.DefD := ⟨("_law_told", none), "_law_told", "_law_told", defArgs s__law_told, defBody s__law_told, defScope s__law_told, [], []⟩
abbrev s__law_prime : Stmt := top 42
def d__law_prime : He.DefD := ⟨("_law_prime", none), "_law_prime", "_law_prime", defArgs s__law_prime, defBody s__law_prime, defScope s__law_prime, [], []⟩
abbrev s__law_power : Stmt := top 43
def d__law_power : He.DefD := ⟨("_law_power", none), "_law_power", "_law_power", defArgs s__law_power, defBody s__law_power, defScope s__law_power, [], []⟩
abbrev s__law_squared : Stmt := top 44
def d__law_squared : He.DefD := ⟨("_law_squared", none), "_law_squared", "_law_squared", defArgs s__law_squared, defBody s__law_squared, defScope s__law_squared, [], []⟩
abbrev s__law_order : Stmt := top 45
def d__law_order : He.DefD := ⟨("_law_order", none), "_law_order", "_law_order", defArgs s__law_order, defBody s__law_order, defScope s__law_order, [], []⟩
abbrev s__law_single_right : Stmt := top 46
def d__law_single_right : He.DefD := ⟨("_law_single_right", none), "_law_single_right", "_law_single_right", defArgs s__law_single_right, defBody s__law_single_right, defScope s__law_single_right, [], []⟩
abbrev s__law_groups_right : Stmt := top 47
def d__law_groups_right : He.DefD := ⟨("_law_groups_right", none), "_law_groups_right", "_law_groups_right", defArgs s__law_groups_right, defBody s__law_groups_right, defScope s__law_groups_right, [], []⟩
abbrev s__law_refused : Stmt := top 48
def d__law_refused : He.DefD := ⟨("_law_refused", none), "_law_refused", "_law_refused", defArgs s__law_refused, defBody s__law_refused, defScope s__law_refused, [], []⟩
abbrev s_law : Stmt := top 49
def d_law : He.DefD := ⟨("law", none), "law", "law", defArgs s_law, defBody s_law, defScope s_law, [], []⟩
def fn : List He.DefD := [dI_BadPrime, dI_BadNumber, dI_BadRemainder, dI_BadPoint, dI_BadLine, dI_BadTable, dI_BadClaim, dI_BadTalk, dI_TooMany, dI_NoSuch, d_is_whole, d_own_is_prime, d_is_prime, d_need_prime, d_need_remainder, d_own_inverse, d_inverse_of, d_quotient_of, d_own_power, d_power_of, d_own_primes, d_order_of, d_need_order, d_own_root_of_one, d_root_of_one, d_own_group, d_group_of, d_root_of, d__law_mixed, d__law_draw, d__law_digit, d__law_told, d__law_prime, d__law_power, d__law_squared, d__law_order, d__law_single_right, d__law_groups_right, d__law_refused, d_law]
def fa : List He.Fa := [.glo "is_whole", .glo "own_is_prime", .glo "is_prime", .glo "need_prime", .glo "need_remainder", .glo "own_inverse", .glo "inverse_of", .glo "quotient_of", .glo "own_power", .glo "power_of", .glo "own_primes", .glo "order_of", .glo "need_order", .glo "own_root_of_one", .glo "root_of_one", .glo "own_group", .glo "group_of", .glo "root_of", .glo "_law_mixed", .glo "_law_draw", .glo "_law_digit", .glo "_law_told", .glo "_law_prime", .glo "_law_power", .glo "_law_squared", .glo "_law_order", .glo "_law_single_right", .glo "_law_groups_right", .glo "_law_refused", .glo "law", .glo "RunError", .glo "BadPrime", .glo "BadNumber", .glo "BadRemainder", .glo "BadPoint", .glo "BadLine", .glo "BadTable", .glo "BadClaim", .glo "BadTalk", .glo "TooMany", .glo "NoSuch", .free "LookupError", .free "OverflowError", .free "ValueError", .free "any", .free "bool", .free "enumerate", .free "int", .free "isinstance", .free "len", .free "list", .free "min", .free "range", .free "repr", .free "set", .free "sorted", .free "sum", .free "tuple", .int "MOST_PRIME" (65537), .int "MOST_POWER" (1000000), .int "MOST_ORDER" (65536), .int "MOST_GROUP" (1024)]
def tgs : List Tg := [.blt "ValueError", .own .BadClaim, .own .BadLine, .own .BadNumber, .own .BadPoint, .own .BadPrime, .own .BadRemainder, .own .BadTable, .own .BadTalk, .own .NoSuch, .own .TooMany]
def cs : List Cl := [.BadPrime, .BadNumber, .BadRemainder, .BadPoint, .BadLine, .BadTable, .BadClaim, .BadTalk, .TooMany, .NoSuch]
def tf : List DefN := [("_law_mixed", none), ("_law_draw", none), ("_law_digit", none), ("_law_told", none), ("_law_prime", none), ("_law_power", none), ("_law_squared", none), ("_law_order", none), ("_law_single_right", none), ("_law_groups_right", none), ("_law_refused", none), ("law", none)]
def ln0 : List Str := ["RunError", "BadPrime", "BadNumber", "BadRemainder", "BadPoint", "BadLine", "BadTable", "BadClaim", "BadTalk", "TooMany", "NoSuch", "MOST_PRIME", "is_whole", "own_is_prime", "is_prime", "need_prime", "MOST_POWER", "MOST_ORDER", "MOST_GROUP", "need_remainder", "own_inverse", "inverse_of", "quotient_of", "own_power", "power_of", "own_primes", "order_of", "need_order", "own_root_of_one", "root_of_one"]
def ln1 : List Str := ["own_group", "group_of", "root_of", "_law_mixed", "_law_draw", "_law_digit", "_law_told", "_law_prime", "_law_power", "_law_squared", "_law_order", "_law_single_right", "_law_groups_right", "_law_refused"]
def loose : List Str := ln0 ++ (ln1)
def ex (K : PySem.W.Frag) : Bool := exB K tgs cs && (tabB K tf && (exmB K cs [.run, .own .NoSuch, .own .TooMany] && (lamB K ("_law_single_right", none) "_law_single_right" && (lamB K ("_law_groups_right", none) "_law_groups_right" && (lamB K ("_law_refused", none) "_law_refused" && (bltB K "gcd" "math.gcd"))))))
abbrev R : PySem.W.OpenRow := PySem.W.OpenLaw.row PySem.Challenge.rw_runsbelieved_k16_whole_remainders_orders
abbrev hk : PySem.W.Hook := hookV 5 fa fn tf ex
def ob (s : PySem.W.SharedT) : He.AlX := obV 5 fa fn tf ex (HandSHeadRun.getT s)
theorem ob_eq (s : PySem.W.SharedT) : ob s = hk.obs s.abs := obV_eq (HandSHeadRun.getT_eq s)
theorem run (w : World) : HandSHeadRun.RunEqI R (PySem.W.view R.prog [0, 49]) hk ob 40000 loose w := by
  unfold HandSHeadRun.RunEqI
  kernel_rfl
end Lk16

namespace Lk16
open PySem PySem.Spec PyProof.Rows L2 VL
abbrev Pg : Program := PySem.Challenge.pw_runsbelieved_k16_whole_remainders_orders
structure Fx (w : World) (K : PySem.W.Frag) (mg : Str → Option Value) : Prop where
  d : He.SaysD fa fn K
  ex : ex K = true
  gl : ∀ x, (He.Fa.glo x).ok K = true → mg x = some (.ref (He.ga K x))
  fr : ∀ x, (He.Fa.free x).ok K = true → mg x = none
  it : ∀ x i, (He.Fa.int x i).ok K = true → ∃ t, mg x = some (.int i t)
  st : ∀ x z, (He.Fa.str x z).ok K = true → ∃ t, mg x = some (.str z t)
  bl : ∀ {x : Str} {id : String}, bltB K x id = true → mg x = some (.builtin id)
section
variable {w : World} {K : PySem.W.Frag} {mg : Str → Option Value} {base : Heap}
theorem Fx.glo (c : Fx w K mg) {i : Nat} {x : Str} (h : fa[i]? = some (.glo x)) : mg x = some (.ref (He.ga K x)) := c.gl x (c.d.fact i h)
theorem Fx.free (c : Fx w K mg) {i : Nat} {x : Str} (h : fa[i]? = some (.free x)) : mg x = none := c.fr x (c.d.fact i h)
theorem Fx.int (c : Fx w K mg) {i : Nat} {x : Str} {v : Int} (h : fa[i]? = some (.int x v)) : ∃ t, mg x = some (.int v t) := c.it x v (c.d.fact i h)
theorem Fx.str (c : Fx w K mg) {i : Nat} {x z : Str} (h : fa[i]? = some (.str x z)) : ∃ t, mg x = some (.str z t) := c.st x z (c.d.fact i h)
theorem Fx.e_0 (c : Fx w K mg) : exB K tgs cs = true := by
  have h := c.ex
  exact (Bool.and_eq_true_iff.mp h).1
theorem Fx.e_1 (c : Fx w K mg) : tabB K tf = true := by
  have h := c.ex
  exact (Bool.and_eq_true_iff.mp (Bool.and_eq_true_iff.mp h).2).1
theorem Fx.e_2 (c : Fx w K mg) : exmB K cs [.run, .own .NoSuch, .own .TooMany] = true := by
  have h := c.ex
  exact (Bool.and_eq_true_iff.mp (Bool.and_eq_true_iff.mp (Bool.and_eq_true_iff.mp h).2).2).1
theorem Fx.e_3 (c : Fx w K mg) : lamB K ("_law_single_right", none) "_law_single_right" = true := by
  have h := c.ex
  exact (Bool.and_eq_true_iff.mp (Bool.and_eq_true_iff.mp (Bool.and_eq_true_iff.mp (Bool.and_eq_true_iff.mp h).2).2).2).1
theorem Fx.e_4 (c : Fx w K mg) : lamB K ("_law_groups_right", none) "_law_groups_right" = true := by
  have h := c.ex
  exact (Bool.and_eq_true_iff.mp (Bool.and_eq_true_iff.mp (Bool.and_eq_true_iff.mp (Bool.and_eq_true_iff.mp (Bool.and_eq_true_iff.mp h).2).2).2).2).1
theorem Fx.e_5 (c : Fx w K mg) : lamB K ("_law_refused", none) "_law_refused" = true := by
  have h := c.ex
  exact (Bool.and_eq_true_iff.mp (Bool.and_eq_true_iff.mp (Bool.and_eq_true_iff.mp (Bool.and_eq_true_iff.mp (Bool.and_eq_true_iff.mp (Bool.and_eq_true_iff.mp h).2).2).2).2).2).1
theorem Fx.e_6 (c : Fx w K mg) : bltB K "gcd" "math.gcd" = true := by
  have h := c.ex
  exact (Bool.and_eq_true_iff.mp (Bool.and_eq_true_iff.mp (Bool.and_eq_true_iff.mp (Bool.and_eq_true_iff.mp (Bool.and_eq_true_iff.mp (Bool.and_eq_true_iff.mp h).2).2).2).2).2).2
theorem Fx.cl (c : Fx w K mg) {e : Cl} (h : e ∈ cs) : ClF K tgs e := (exB_ok c.e_0).1 e h
theorem Fx.xs (c : Fx w K mg) : ∀ e ∈ cs, XcF K e := fun e h => (c.cl h).x
theorem Fx.tg (c : Fx w K mg) {t : Tg} (h : t ∈ tgs) : TgF K cs t := fun e he => (c.cl he).tg t h
end
theorem scI_BadPrime : FnScope ["self", "value"] ["self", "value"] (defScope i_BadPrime) := ⟨rfl, rfl, rfl, by decide +kernel, rfl, by decide +kernel, by decide +kernel⟩
theorem mk_BadPrime {w : World} {K : PySem.W.Frag} {mg : Str → Option Value} {base : Heap} (c : Fx w K mg) : Mk Pg w K mg base .BadPrime 1 := by
  obtain ⟨fd, F⟩ := c.d.def_ 0 (d := dI_BadPrime) rfl
  exact ⟨fd, init_ok F scI_BadPrime (c.cl (e := .BadPrime) (by decide)).k (fun X eK em es _ => via_ok (exB_ok c.e_0).2 (c.glo (i := 30) (x := "RunError") rfl) (c.free (i := 42) (x := "OverflowError") rfl) (c.free (i := 41) (x := "LookupError") rfl) .BadPrime X eK em (by unfold Gl PySem.Env.kindOf; rw [es]; rfl)) (fun env => ⟨_, rfl⟩) (by first | exact Or.inl rfl | exact Or.inr (Or.inl rfl) | exact Or.inr (Or.inr rfl)) (by first | exact Or.inl rfl | exact Or.inr (Or.inl rfl) | exact Or.inr (Or.inr rfl)) (by decide) (by decide), iniB_of F fun T kV doc pm an cdv ct self u d => ⟨⟨_, rfl, rfl⟩, ⟨_, rfl, rfl⟩, ⟨_, rfl, rfl⟩⟩, c.glo (i := 31) (x := "BadPrime") rfl⟩
theorem scI_BadNumber : FnScope ["self", "value"] ["self", "value"] (defScope i_BadNumber) := ⟨rfl, rfl, rfl, by decide +kernel, rfl, by decide +kernel, by decide +kernel⟩
theorem mk_BadNumber {w : World} {K : PySem.W.Frag} {mg : Str → Option Value} {base : Heap} (c : Fx w K mg) : Mk Pg w K mg base .BadNumber 1 := by
  obtain ⟨fd, F⟩ := c.d.def_ 1 (d := dI_BadNumber) rfl
  exact ⟨fd, init_ok F scI_BadNumber (c.cl (e := .BadNumber) (by decide)).k (fun X eK em es _ => via_ok (exB_ok c.e_0).2 (c.glo (i := 30) (x := "RunError") rfl) (c.free (i := 42) (x := "OverflowError") rfl) (c.free (i := 41) (x := "LookupError") rfl) .BadNumber X eK em (by unfold Gl PySem.Env.kindOf; rw [es]; rfl)) (fun env => ⟨_, rfl⟩) (by first | exact Or.inl rfl | exact Or.inr (Or.inl rfl) | exact Or.inr (Or.inr rfl)) (by first | exact Or.inl rfl | exact Or.inr (Or.inl rfl) | exact Or.inr (Or.inr rfl)) (by decide) (by decide), iniB_of F fun T kV doc pm an cdv ct self u d => ⟨⟨_, rfl, rfl⟩, ⟨_, rfl, rfl⟩, ⟨_, rfl, rfl⟩⟩, c.glo (i := 32) (x := "BadNumber") rfl⟩
theorem scI_BadRemainder : FnScope ["self", "value"] ["self", "value"] (defScope i_BadRemainder) := ⟨rfl, rfl, rfl, by decide +kernel, rfl, by decide +kernel, by decide +kernel⟩
theorem mk_BadRemainder {w : World} {K : PySem.W.Frag} {mg : Str → Option Value} {base : Heap} (c : Fx w K mg) : Mk Pg w K mg base .BadRemainder 1 := by
  obtain ⟨fd, F⟩ := c.d.def_ 2 (d := dI_BadRemainder) rfl
  exact ⟨fd, init_ok F scI_BadRemainder (c.cl (e := .BadRemainder) (by decide)).k (fun X eK em es _ => via_ok (exB_ok c.e_0).2 (c.glo (i := 30) (x := "RunError") rfl) (c.free (i := 42) (x := "OverflowError") rfl) (c.free (i := 41) (x := "LookupError") rfl) .BadRemainder X eK em (by unfold Gl PySem.Env.kindOf; rw [es]; rfl)) (fun env => ⟨_, rfl⟩) (by first | exact Or.inl rfl | exact Or.inr (Or.inl rfl) | exact Or.inr (Or.inr rfl)) (by first | exact Or.inl rfl | exact Or.inr (Or.inl rfl) | exact Or.inr (Or.inr rfl)) (by decide) (by decide), iniB_of F fun T kV doc pm an cdv ct self u d => ⟨⟨_, rfl, rfl⟩, ⟨_, rfl, rfl⟩, ⟨_, rfl, rfl⟩⟩, c.glo (i := 33) (x := "BadRemainder") rfl⟩
theorem scI_BadPoint : FnScope ["self", "place"] ["self", "place"] (defScope i_BadPoint) := ⟨rfl, rfl, rfl, by decide +kernel, rfl, by decide +kernel, by decide +kernel⟩
theorem mk_BadPoint {w : World} {K : PySem.W.Frag} {mg : Str → Option Value} {base : Heap} (c : Fx w K mg) : Mk Pg w K mg base .BadPoint 1 := by
  obtain ⟨fd, F⟩ := c.d.def_ 3 (d := dI_BadPoint) rfl
  exact ⟨fd, init_ok F scI_BadPoint (c.cl (e := .BadPoint) (by decide)).k (fun X eK em es _ => via_ok (exB_ok c.e_0).2 (c.glo (i := 30) (x := "RunError") rfl) (c.free (i := 42) (x := "OverflowError") rfl) (c.free (i := 41) (x := "LookupError") rfl) .BadPoint X eK em (by unfold Gl PySem.Env.kindOf; rw [es]; rfl)) (fun env => ⟨_, rfl⟩) (by first | exact Or.inl rfl | exact Or.inr (Or.inl rfl) | exact Or.inr (Or.inr rfl)) (by first | exact Or.inl rfl | exact Or.inr (Or.inl rfl) | exact Or.inr (Or.inr rfl)) (by decide) (by decide), iniB_of F fun T kV doc pm an cdv ct self u d => ⟨⟨_, rfl, rfl⟩, ⟨_, rfl, rfl⟩, ⟨_, rfl, rfl⟩⟩, c.glo (i := 34) (x := "BadPoint") rfl⟩
theorem scI_BadLine : FnScope ["self", "place"] ["self", "place"] (defScope i_BadLine) := ⟨rfl, rfl, rfl, by decide +kernel, rfl, by decide +kernel, by decide +kernel⟩
theorem mk_BadLine {w : World} {K : PySem.W.Frag} {mg : Str → Option Value} {base : Heap} (c : Fx w K mg) : Mk Pg w K mg base .BadLine 1 := by
  obtain ⟨fd, F⟩ := c.d.def_ 4 (d := dI_BadLine) rfl
  exact ⟨fd, init_ok F scI_BadLine (c.cl (e := .BadLine) (by decide)).k (fun X eK em es _ => via_ok (exB_ok c.e_0).2 (c.glo (i := 30) (x := "RunError") rfl) (c.free (i := 42) (x := "OverflowError") rfl) (c.free (i := 41) (x := "LookupError") rfl) .BadLine X eK em (by unfold Gl PySem.Env.kindOf; rw [es]; rfl)) (fun env => ⟨_, rfl⟩) (by first | exact Or.inl rfl | exact Or.inr (Or.inl rfl) | exact Or.inr (Or.inr rfl)) (by first | exact Or.inl rfl | exact Or.inr (Or.inl rfl) | exact Or.inr (Or.inr rfl)) (by decide) (by decide), iniB_of F fun T kV doc pm an cdv ct self u d => ⟨⟨_, rfl, rfl⟩, ⟨_, rfl, rfl⟩, ⟨_, rfl, rfl⟩⟩, c.glo (i := 35) (x := "BadLine") rfl⟩
theorem scI_BadTable : FnScope ["self", "place"] ["self", "place"] (defScope i_BadTable) := ⟨rfl, rfl, rfl, by decide +kernel, rfl, by decide +kernel, by decide +kernel⟩
theorem mk_BadTable {w : World} {K : PySem.W.Frag} {mg : Str → Option Value} {base : Heap} (c : Fx w K mg) : Mk Pg w K mg base .BadTable 1 := by
  obtain ⟨fd, F⟩ := c.d.def_ 5 (d := dI_BadTable) rfl
  exact ⟨fd, init_ok F scI_BadTable (c.cl (e := .BadTable) (by decide)).k (fun X eK em es _ => via_ok (exB_ok c.e_0).2 (c.glo (i := 30) (x := "RunError") rfl) (c.free (i := 42) (x := "OverflowError") rfl) (c.free (i := 41) (x := "LookupError") rfl) .BadTable X eK em (by unfold Gl PySem.Env.kindOf; rw [es]; rfl)) (fun env => ⟨_, rfl⟩) (by first | exact Or.inl rfl | exact Or.inr (Or.inl rfl) | exact Or.inr (Or.inr rfl)) (by first | exact Or.inl rfl | exact Or.inr (Or.inl rfl) | exact Or.inr (Or.inr rfl)) (by decide) (by decide), iniB_of F fun T kV doc pm an cdv ct self u d => ⟨⟨_, rfl, rfl⟩, ⟨_, rfl, rfl⟩, ⟨_, rfl, rfl⟩⟩, c.glo (i := 36) (x := "BadTable") rfl⟩
theorem scI_BadClaim : FnScope ["self", "place"] ["self", "place"] (defScope i_BadClaim) := ⟨rfl, rfl, rfl, by decide +kernel, rfl, by decide +kernel, by decide +kernel⟩
theorem mk_BadClaim {w : World} {K : PySem.W.Frag} {mg : Str → Option Value} {base : Heap} (c : Fx w K mg) : Mk Pg w K mg base .BadClaim 1 := by
  obtain ⟨fd, F⟩ := c.d.def_ 6 (d := dI_BadClaim) rfl
  exact ⟨fd, init_ok F scI_BadClaim (c.cl (e := .BadClaim) (by decide)).k (fun X eK em es _ => via_ok (exB_ok c.e_0).2 (c.glo (i := 30) (x := "RunError") rfl) (c.free (i := 42) (x := "OverflowError") rfl) (c.free (i := 41) (x := "LookupError") rfl) .BadClaim X eK em (by unfold Gl PySem.Env.kindOf; rw [es]; rfl)) (fun env => ⟨_, rfl⟩) (by first | exact Or.inl rfl | exact Or.inr (Or.inl rfl) | exact Or.inr (Or.inr rfl)) (by first | exact Or.inl rfl | exact Or.inr (Or.inl rfl) | exact Or.inr (Or.inr rfl)) (by decide) (by decide), iniB_of F fun T kV doc pm an cdv ct self u d => ⟨⟨_, rfl, rfl⟩, ⟨_, rfl, rfl⟩, ⟨_, rfl, rfl⟩⟩, c.glo (i := 37) (x := "BadClaim") rfl⟩
theorem scI_BadTalk : FnScope ["self", "place"] ["self", "place"] (defScope i_BadTalk) := ⟨rfl, rfl, rfl, by decide +kernel, rfl, by decide +kernel, by decide +kernel⟩
theorem mk_BadTalk {w : World} {K : PySem.W.Frag} {mg : Str → Option Value} {base : Heap} (c : Fx w K mg) : Mk Pg w K mg base .BadTalk 1 := by
  obtain ⟨fd, F⟩ := c.d.def_ 7 (d := dI_BadTalk) rfl
  exact ⟨fd, init_ok F scI_BadTalk (c.cl (e := .BadTalk) (by decide)).k (fun X eK em es _ => via_ok (exB_ok c.e_0).2 (c.glo (i := 30) (x := "RunError") rfl) (c.free (i := 42) (x := "OverflowError") rfl) (c.free (i := 41) (x := "LookupError") rfl) .BadTalk X eK em (by unfold Gl PySem.Env.kindOf; rw [es]; rfl)) (fun env => ⟨_, rfl⟩) (by first | exact Or.inl rfl | exact Or.inr (Or.inl rfl) | exact Or.inr (Or.inr rfl)) (by first | exact Or.inl rfl | exact Or.inr (Or.inl rfl) | exact Or.inr (Or.inr rfl)) (by decide) (by decide), iniB_of F fun T kV doc pm an cdv ct self u d => ⟨⟨_, rfl, rfl⟩, ⟨_, rfl, rfl⟩, ⟨_, rfl, rfl⟩⟩, c.glo (i := 38) (x := "BadTalk") rfl⟩
theorem scI_TooMany : FnScope ["self", "most"] ["self", "most"] (defScope i_TooMany) := ⟨rfl, rfl, rfl, by decide +kernel, rfl, by decide +kernel, by decide +kernel⟩
theorem mk_TooMany {w : World} {K : PySem.W.Frag} {mg : Str → Option Value} {base : Heap} (c : Fx w K mg) : Mk Pg w K mg base .TooMany 1 := by
  obtain ⟨fd, F⟩ := c.d.def_ 8 (d := dI_TooMany) rfl
  exact ⟨fd, init_ok F scI_TooMany (c.cl (e := .TooMany) (by decide)).k (fun X eK em es _ => via_ok (exB_ok c.e_0).2 (c.glo (i := 30) (x := "RunError") rfl) (c.free (i := 42) (x := "OverflowError") rfl) (c.free (i := 41) (x := "LookupError") rfl) .TooMany X eK em (by unfold Gl PySem.Env.kindOf; rw [es]; rfl)) (fun env => ⟨_, rfl⟩) (by first | exact Or.inl rfl | exact Or.inr (Or.inl rfl) | exact Or.inr (Or.inr rfl)) (by first | exact Or.inl rfl | exact Or.inr (Or.inl rfl) | exact Or.inr (Or.inr rfl)) (by decide) (by decide), iniB_of0 F fun kV doc pm an cdv ct self u => ⟨rfl, rfl⟩, c.glo (i := 39) (x := "TooMany") rfl⟩
theorem scI_NoSuch : FnScope ["self", "value"] ["self", "value"] (defScope i_NoSuch) := ⟨rfl, rfl, rfl, by decide +kernel, rfl, by decide +kernel, by decide +kernel⟩
theorem mk_NoSuch {w : World} {K : PySem.W.Frag} {mg : Str → Option Value} {base : Heap} (c : Fx w K mg) : Mk Pg w K mg base .NoSuch 1 := by
  obtain ⟨fd, F⟩ := c.d.def_ 9 (d := dI_NoSuch) rfl
  exact ⟨fd, init_ok F scI_NoSuch (c.cl (e := .NoSuch) (by decide)).k (fun X eK em es _ => via_ok (exB_ok c.e_0).2 (c.glo (i := 30) (x := "RunError") rfl) (c.free (i := 42) (x := "OverflowError") rfl) (c.free (i := 41) (x := "LookupError") rfl) .NoSuch X eK em (by unfold Gl PySem.Env.kindOf; rw [es]; rfl)) (fun env => ⟨_, rfl⟩) (by first | exact Or.inl rfl | exact Or.inr (Or.inl rfl) | exact Or.inr (Or.inr rfl)) (by first | exact Or.inl rfl | exact Or.inr (Or.inl rfl) | exact Or.inr (Or.inr rfl)) (by decide) (by decide), iniB_of F fun T kV doc pm an cdv ct self u d => ⟨⟨_, rfl, rfl⟩, ⟨_, rfl, rfl⟩, ⟨_, rfl, rfl⟩⟩, c.glo (i := 40) (x := "NoSuch") rfl⟩
def m__law_draw : SF := (sRet (eDisp [.inr "left", .inr "cell", .inr "turns"] (aCons (eIf (tfV (eOp gGe (eVar 0) (ePow (eC (.int 10)) (eC (.int 18))))) (eVar 0) (eC (.int 0))) (aCons (eVar 0) (aCons (eOp gMulA (eC (.int 1000)) (eVar 1)) aNil)))))
def mf__law_draw : CF := mfOf 2 m__law_draw
theorem sc__law_draw : FnScope ["cell", "k"] ["cell", "k"] (defScope s__law_draw) := ⟨rfl, rfl, rfl, by decide +kernel, rfl, by decide +kernel, by decide +kernel⟩
theorem body__law_draw {w : World} {K : PySem.W.Frag} {mg : Str → Option Value} {base : Heap} {cdv : Value} {A : Around} {outer : List PySem.Env} {s : Shared} {H : Hp} {E : XK} {fA : Addr} (c : Fx w K mg) (hr : Room 2 (A.deeper (envOfC "_law_draw" (defScope s__law_draw) s.heap.objs.size fA cdv)))
    (kx : Kx (cxOf (L2.CX Pg w) Pg w K mg base ["cell", "k"] "_law_draw" (defScope s__law_draw) fA cdv A outer s H E) (wE E)) : SSs (cxOf (L2.CX Pg w) Pg w K mg base ["cell", "k"] "_law_draw" (defScope s__law_draw) fA cdv A outer s H E) (wE E) (defBody s__law_draw) m__law_draw :=
  (ss_one (ss_ret (se_disp (sps_cons (se_if (st_ge (se_var (i := 0) rfl (by first | exact Or.inl rfl | exact Or.inr (Or.inl rfl) | exact Or.inr (Or.inr rfl))) (se_pow se_int se_int)) (se_var (i := 0) rfl (by first | exact Or.inl rfl | exact Or.inr (Or.inl rfl) | exact Or.inr (Or.inr rfl))) se_int) (sps_cons (se_var (i := 0) rfl (by first | exact Or.inl rfl | exact Or.inr (Or.inl rfl) | exact Or.inr (Or.inr rfl))) (sps_cons (se_mulA se_int (se_var (i := 1) rfl (by first | exact Or.inl rfl | exact Or.inr (Or.inl rfl) | exact Or.inr (Or.inr rfl)))) sps_nil))))))
theorem def__law_draw {w : World} {K : PySem.W.Frag} {mg : Str → Option Value} {base : Heap} (c : Fx w K mg) : Def Pg w K mg base "_law_draw" 3 2 [] mf__law_draw := by
  obtain ⟨fd, F⟩ := c.d.def_ 29 (d := d__law_draw) rfl
  exact ⟨_, fd, ["cell", "k"], [], [], fnG_of F sc__law_draw (fun cdv A outer s H E hr kx => body__law_draw c hr kx), c.glo (i := 19) (x := "_law_draw") rfl, F.kp, F.bindsN (fun _ _ _ _ _ _ us hl => match us, hl with | [_, _], _ => rfl), .nil, fun _ _ => rfl, rfl, by decide⟩
def m__law_mixed : SF := (sSeq (sSet 2 (eAdd (eAdd (eMod (eVar 0) (eOp gIx (eLst (aCons (eC (.int 1000000007)) (aCons (eC (.int 998244353)) (aCons (eC (.int 2147483629)) (aCons (eC (.int 1000000009)) aNil))))) (eMod (eVar 1) (eC (.int 4))))) (eOp gMulA (eC (.int 7919)) (eVar 1))) (eC (.int 13))))
    (sRet (eMod (eOp gMulA (eMod (eOp gMulA (eVar 2) (eVar 2)) (eC (.int 2147483647))) (eC (.int 48271))) (eC (.int 2147483647)))))
def mf__law_mixed : CF := mfOf 3 m__law_mixed
theorem sc__law_mixed : FnScope ["cell", "k", "number"] ["cell", "k"] (defScope s__law_mixed) := ⟨rfl, rfl, rfl, by decide +kernel, rfl, by decide +kernel, by decide +kernel⟩
theorem body__law_mixed {w : World} {K : PySem.W.Frag} {mg : Str → Option Value} {base : Heap} {cdv : Value} {A : Around} {outer : List PySem.Env} {s : Shared} {H : Hp} {E : XK} {fA : Addr} (c : Fx w K mg) (hr : Room 2 (A.deeper (envOfC "_law_mixed" (defScope s__law_mixed) s.heap.objs.size fA cdv)))
    (kx : Kx (cxOf (L2.CX Pg w) Pg w K mg base ["cell", "k", "number"] "_law_mixed" (defScope s__law_mixed) fA cdv A outer s H E) (wE E)) : SSs (cxOf (L2.CX Pg w) Pg w K mg base ["cell", "k", "number"] "_law_mixed" (defScope s__law_mixed) fA cdv A outer s H E) (wE E) (defBody s__law_mixed) m__law_mixed :=
  (ss_cons (ss_set (i := 2) kx rfl (by first | exact Or.inl rfl | exact Or.inr rfl) (se_add (se_add (se_mod (se_var (i := 0) rfl (by first | exact Or.inl rfl | exact Or.inr (Or.inl rfl) | exact Or.inr (Or.inr rfl))) (se_ix (se_lst (sa_cons se_int (sa_cons se_int (sa_cons se_int (sa_cons se_int sa_nil))))) (se_mod (se_var (i := 1) rfl (by first | exact Or.inl rfl | exact Or.inr (Or.inl rfl) | exact Or.inr (Or.inr rfl))) se_int))) (se_mulA se_int (se_var (i := 1) rfl (by first | exact Or.inl rfl | exact Or.inr (Or.inl rfl) | exact Or.inr (Or.inr rfl))))) se_int))
    (ss_one (ss_ret (se_mod (se_mulA (se_mod (se_mulA (se_var (i := 2) rfl (by first | exact Or.inl rfl | exact Or.inr (Or.inl rfl) | exact Or.inr (Or.inr rfl))) (se_var (i := 2) rfl (by first | exact Or.inl rfl | exact Or.inr (Or.inl rfl) | exact Or.inr (Or.inr rfl)))) se_int) se_int) se_int))))
theorem def__law_mixed {w : World} {K : PySem.W.Frag} {mg : Str → Option Value} {base : Heap} (c : Fx w K mg) : Def Pg w K mg base "_law_mixed" 3 2 [] mf__law_mixed := by
  obtain ⟨fd, F⟩ := c.d.def_ 28 (d := d__law_mixed) rfl
  exact ⟨_, fd, ["cell", "k"], [], [], fnG_of F sc__law_mixed (fun cdv A outer s H E hr kx => body__law_mixed c hr kx), c.glo (i := 18) (x := "_law_mixed") rfl, F.kp, F.bindsN (fun _ _ _ _ _ _ us hl => match us, hl with | [_, _], _ => rfl), .nil, fun _ _ => rfl, rfl, by decide⟩
def bd__law_digit_0 : SF := (sSeq (sDPutV 0 (eAdd (eDGet 0 (eC (.str "turns"))) (eC (.int 1))) (eC (.str "turns")))
    (sDPutV 0 (eAdd (eOp gMulA (eDGet 0 (eC (.str "left"))) (eC (.int 2147483647))) (eFn 2 [] mf__law_mixed (aCons (eDGet 0 (eC (.str "cell"))) (aCons (eDGet 0 (eC (.str "turns"))) aNil)))) (eC (.str "left"))))
def m__law_digit : SF := (sSeq (sIf (tfV (eOp (gEqA false) (eDGet 0 (eC (.str "left"))) (eC (.int 0)))) (sFor (iRg1 (aCons (eC (.int 4)) aNil)) (gNm 3) bd__law_digit_0) sNx)
    (sSeq (sSet 2 (eMod (eDGet 0 (eC (.str "left"))) (eVar 1)))
    (sSeq (sDPutV 0 (eDiv (eDGet 0 (eC (.str "left"))) (eVar 1)) (eC (.str "left")))
    (sRet (eMove 2)))))
def mf__law_digit : CF := mfOf 4 m__law_digit
theorem sc__law_digit : FnScope ["state", "below", "found", "j"] ["state", "below"] (defScope s__law_digit) := ⟨rfl, rfl, rfl, by decide +kernel, rfl, by decide +kernel, by decide +kernel⟩
theorem body__law_digit {w : World} {K : PySem.W.Frag} {mg : Str → Option Value} {base : Heap} {cdv : Value} {A : Around} {outer : List PySem.Env} {s : Shared} {H : Hp} {E : XK} {fA : Addr} (c : Fx w K mg) (hr : Room 3 (A.deeper (envOfC "_law_digit" (defScope s__law_digit) s.heap.objs.size fA cdv)))
    (kx : Kx (cxOf (L2.CX Pg w) Pg w K mg base ["state", "below", "found", "j"] "_law_digit" (defScope s__law_digit) fA cdv A outer s H E) (wE E)) : SSs (cxOf (L2.CX Pg w) Pg w K mg base ["state", "below", "found", "j"] "_law_digit" (defScope s__law_digit) fA cdv A outer s H E) (wE E) (defBody s__law_digit) m__law_digit :=
  (ss_cons (ss_if (st_eq kx.hu64 (se_dget (i := 0) kx rfl (by first | exact Or.inl rfl | exact Or.inr (Or.inl rfl) | exact Or.inr (Or.inr rfl)) se_str) se_int) (ss_one (ss_for kx (si_range1 (sa_cons se_int sa_nil) (by rfl) (c.free (i := 52) (x := "range") rfl)) (sg_name kx.nd (i := 3) rfl (by first | exact Or.inl rfl | exact Or.inr rfl)) (ss_cons (ss_dput (i := 0) kx rfl (by first | exact Or.inl rfl | exact Or.inr (Or.inl rfl) | exact Or.inr (Or.inr rfl)) se_str (se_add (se_dget (i := 0) kx rfl (by first | exact Or.inl rfl | exact Or.inr (Or.inl rfl) | exact Or.inr (Or.inr rfl)) se_str) se_int))
    (ss_one (ss_dput (i := 0) kx rfl (by first | exact Or.inl rfl | exact Or.inr (Or.inl rfl) | exact Or.inr (Or.inr rfl)) se_str (se_add (se_mulA (se_dget (i := 0) kx rfl (by first | exact Or.inl rfl | exact Or.inr (Or.inl rfl) | exact Or.inr (Or.inr rfl)) se_str) se_int) (se_fn (Def.fn (def__law_mixed c) hr (by decide) (by rfl)) kx (sa_cons (se_dget (i := 0) kx rfl (by first | exact Or.inl rfl | exact Or.inr (Or.inl rfl) | exact Or.inr (Or.inr rfl)) se_str) (sa_cons (se_dget (i := 0) kx rfl (by first | exact Or.inl rfl | exact Or.inr (Or.inl rfl) | exact Or.inr (Or.inr rfl)) se_str) sa_nil))))))))) ss_nil)
    (ss_cons (ss_set (i := 2) kx rfl (by first | exact Or.inl rfl | exact Or.inr rfl) (se_mod (se_dget (i := 0) kx rfl (by first | exact Or.inl rfl | exact Or.inr (Or.inl rfl) | exact Or.inr (Or.inr rfl)) se_str) (se_var (i := 1) rfl (by first | exact Or.inl rfl | exact Or.inr (Or.inl rfl) | exact Or.inr (Or.inr rfl)))))
    (ss_cons (ss_dput (i := 0) kx rfl (by first | exact Or.inl rfl | exact Or.inr (Or.inl rfl) | exact Or.inr (Or.inr rfl)) se_str (se_div (se_dget (i := 0) kx rfl (by first | exact Or.inl rfl | exact Or.inr (Or.inl rfl) | exact Or.inr (Or.inr rfl)) se_str) (se_var (i := 1) rfl (by first | exact Or.inl rfl | exact Or.inr (Or.inl rfl) | exact Or.inr (Or.inr rfl)))))
    (ss_one (ss_ret (se_move (i := 2) rfl (by first | exact Or.inl rfl | exact Or.inr (Or.inl rfl) | exact Or.inr (Or.inr rfl))))))))
theorem def__law_digit {w : World} {K : PySem.W.Frag} {mg : Str → Option Value} {base : Heap} (c : Fx w K mg) : Def Pg w K mg base "_law_digit" 4 2 [] mf__law_digit := by
  obtain ⟨fd, F⟩ := c.d.def_ 30 (d := d__law_digit) rfl
  exact ⟨_, fd, ["state", "below"], [], [], fnG_of F sc__law_digit (fun cdv A outer s H E hr kx => body__law_digit c hr kx), c.glo (i := 20) (x := "_law_digit") rfl, F.kp, F.bindsN (fun _ _ _ _ _ _ us hl => match us, hl with | [_, _], _ => rfl), .nil, fun _ _ => rfl, rfl, by decide⟩
def m__law_prime : SF := (sRet (eOp gIx (eLst (aCons (eC (.int 3)) (aCons (eC (.int 5)) (aCons (eC (.int 7)) (aCons (eC (.int 11)) (aCons (eC (.int 13)) (aCons (eC (.int 17)) (aCons (eC (.int 97)) (aCons (eC (.int 257)) (aCons (eC (.int 7919)) (aCons (eC (.int 65537)) aNil))))))))))) (eFnD 0 2 [] mf__law_digit (aCons (eC (.int 10)) aNil))))
def mf__law_prime : CF := mfOf 1 m__law_prime
theorem sc__law_prime : FnScope ["state"] ["state"] (defScope s__law_prime) := ⟨rfl, rfl, rfl, by decide +kernel, rfl, by decide +kernel, by decide +kernel⟩
theorem body__law_prime {w : World} {K : PySem.W.Frag} {mg : Str → Option Value} {base : Heap} {cdv : Value} {A : Around} {outer : List PySem.Env} {s : Shared} {H : Hp} {E : XK} {fA : Addr} (c : Fx w K mg) (hr : Room 4 (A.deeper (envOfC "_law_prime" (defScope s__law_prime) s.heap.objs.size fA cdv)))
    (kx : Kx (cxOf (L2.CX Pg w) Pg w K mg base ["state"] "_law_prime" (defScope s__law_prime) fA cdv A outer s H E) (wE E)) : SSs (cxOf (L2.CX Pg w) Pg w K mg base ["state"] "_law_prime" (defScope s__law_prime) fA cdv A outer s H E) (wE E) (defBody s__law_prime) m__law_prime :=
  (ss_one (ss_ret (se_ix (se_lst (sa_cons se_int (sa_cons se_int (sa_cons se_int (sa_cons se_int (sa_cons se_int (sa_cons se_int (sa_cons se_int (sa_cons se_int (sa_cons se_int (sa_cons se_int sa_nil))))))))))) (se_fnD (i := 0) (Def.fn (def__law_digit c) hr (by decide) (by rfl)) kx rfl (by first | exact Or.inl rfl | exact Or.inr (Or.inl rfl) | exact Or.inr (Or.inr rfl)) (sa_cons se_int sa_nil)))))
theorem def__law_prime {w : World} {K : PySem.W.Frag} {mg : Str → Option Value} {base : Heap} (c : Fx w K mg) : Def Pg w K mg base "_law_prime" 5 1 [] mf__law_prime := by
  obtain ⟨fd, F⟩ := c.d.def_ 32 (d := d__law_prime) rfl
  exact ⟨_, fd, ["state"], [], [], fnG_of F sc__law_prime (fun cdv A outer s H E hr kx => body__law_prime c hr kx), c.glo (i := 22) (x := "_law_prime") rfl, F.kp, F.bindsN (fun _ _ _ _ _ _ us hl => match us, hl with | [_], _ => rfl), .nil, fun _ _ => rfl, rfl, by decide⟩
def m_is_whole : SF := (sRet (eAnd (eIsi .int (eVar 0)) (eAnd (eNot (eIsi .bool (eVar 0))) (eChain leB leB (eVar 1) (eVar 0) (eVar 2)))))
def mf_is_whole : CF := mfOf 3 m_is_whole
theorem sc_is_whole : FnScope ["thing", "least", "most"] ["thing", "least", "most"] (defScope s_is_whole) := ⟨rfl, rfl, rfl, by decide +kernel, rfl, by decide +kernel, by decide +kernel⟩
theorem body_is_whole {w : World} {K : PySem.W.Frag} {mg : Str → Option Value} {base : Heap} {cdv : Value} {A : Around} {outer : List PySem.Env} {s : Shared} {H : Hp} {E : XK} {fA : Addr} (c : Fx w K mg) (hr : Room 2 (A.deeper (envOfC "is_whole" (defScope s_is_whole) s.heap.objs.size fA cdv)))
    (kx : Kx (cxOf (L2.CX Pg w) Pg w K mg base ["thing", "least", "most"] "is_whole" (defScope s_is_whole) fA cdv A outer s H E) (wE E)) : SSs (cxOf (L2.CX Pg w) Pg w K mg base ["thing", "least", "most"] "is_whole" (defScope s_is_whole) fA cdv A outer s H E) (wE E) (defBody s_is_whole) m_is_whole :=
  (ss_one (ss_ret (se_and (se_isi .int (by rfl) (c.free (i := 48) (x := "isinstance") rfl) (by rfl) (c.free (i := 47) (x := "int") rfl) (by decide +kernel) (se_var (i := 0) rfl (by first | exact Or.inl rfl | exact Or.inr (Or.inl rfl) | exact Or.inr (Or.inr rfl)))) (se_and (se_not (se_isi .bool (by rfl) (c.free (i := 48) (x := "isinstance") rfl) (by rfl) (c.free (i := 45) (x := "bool") rfl) (by decide +kernel) (se_var (i := 0) rfl (by first | exact Or.inl rfl | exact Or.inr (Or.inl rfl) | exact Or.inr (Or.inr rfl))))) (se_one (se_leLe (se_var (i := 1) rfl (by first | exact Or.inl rfl | exact Or.inr (Or.inl rfl) | exact Or.inr (Or.inr rfl))) (se_var (i := 0) rfl (by first | exact Or.inl rfl | exact Or.inr (Or.inl rfl) | exact Or.inr (Or.inr rfl))) (se_var (i := 2) rfl (by first | exact Or.inl rfl | exact Or.inr (Or.inl rfl) | exact Or.inr (Or.inr rfl)))))))))
theorem def_is_whole {w : World} {K : PySem.W.Frag} {mg : Str → Option Value} {base : Heap} (c : Fx w K mg) : Def Pg w K mg base "is_whole" 3 3 [] mf_is_whole := by
  obtain ⟨fd, F⟩ := c.d.def_ 10 (d := d_is_whole) rfl
  exact ⟨_, fd, ["thing", "least", "most"], [], [], fnG_of F sc_is_whole (fun cdv A outer s H E hr kx => body_is_whole c hr kx), c.glo (i := 0) (x := "is_whole") rfl, F.kp, F.bindsN (fun _ _ _ _ _ _ us hl => match us, hl with | [_, _, _], _ => rfl), .nil, fun _ _ => rfl, rfl, by decide⟩
def bd_own_is_prime_0 : SF := (sSeq (sIf (tfV (eOp (gEqA false) (eMod (eVar 0) (eVar 1)) (eC (.int 0)))) (sRet (eC (.bl false))) sNx)
    (sAug 1 (fun i j => i + j) (eC (.int 1))))
def m_own_is_prime : SF := (sSeq (sSet 1 (eC (.int 2)))
    (sSeq (sWh (tfV (eOp gLe (eOp gMulA (eVar 1) (eVar 1)) (eVar 0))) bd_own_is_prime_0)
    (sRet (eC (.bl true)))))
def mf_own_is_prime : CF := mfOf 2 m_own_is_prime
theorem sc_own_is_prime : FnScope ["number", "at"] ["number"] (defScope s_own_is_prime) := ⟨rfl, rfl, rfl, by decide +kernel, rfl, by decide +kernel, by decide +kernel⟩
theorem body_own_is_prime {w : World} {K : PySem.W.Frag} {mg : Str → Option Value} {base : Heap} {cdv : Value} {A : Around} {outer : List PySem.Env} {s : Shared} {H : Hp} {E : XK} {fA : Addr} (c : Fx w K mg) (hr : Room 2 (A.deeper (envOfC "own_is_prime" (defScope s_own_is_prime) s.heap.objs.size fA cdv)))
    (kx : Kx (cxOf (L2.CX Pg w) Pg w K mg base ["number", "at"] "own_is_prime" (defScope s_own_is_prime) fA cdv A outer s H E) (wE E)) : SSs (cxOf (L2.CX Pg w) Pg w K mg base ["number", "at"] "own_is_prime" (defScope s_own_is_prime) fA cdv A outer s H E) (wE E) (defBody s_own_is_prime) m_own_is_prime :=
  (ss_cons (ss_set (i := 1) kx rfl (by first | exact Or.inl rfl | exact Or.inr rfl) se_int)
    (ss_cons (ss_while kx (st_le (se_mulA (se_var (i := 1) rfl (by first | exact Or.inl rfl | exact Or.inr (Or.inl rfl) | exact Or.inr (Or.inr rfl))) (se_var (i := 1) rfl (by first | exact Or.inl rfl | exact Or.inr (Or.inl rfl) | exact Or.inr (Or.inr rfl)))) (se_var (i := 0) rfl (by first | exact Or.inl rfl | exact Or.inr (Or.inl rfl) | exact Or.inr (Or.inr rfl)))) (ss_cons (ss_if (st_eq kx.hu64 (se_mod (se_var (i := 0) rfl (by first | exact Or.inl rfl | exact Or.inr (Or.inl rfl) | exact Or.inr (Or.inr rfl))) (se_var (i := 1) rfl (by first | exact Or.inl rfl | exact Or.inr (Or.inl rfl) | exact Or.inr (Or.inr rfl)))) se_int) (ss_one (ss_ret se_bl)) ss_nil)
    (ss_one (ss_aug (i := 1) kx rfl (by first | exact Or.inl rfl | exact Or.inr rfl) ip_add se_int))))
    (ss_one (ss_ret se_bl))))
theorem def_own_is_prime {w : World} {K : PySem.W.Frag} {mg : Str → Option Value} {base : Heap} (c : Fx w K mg) : Def Pg w K mg base "own_is_prime" 3 1 [] mf_own_is_prime := by
  obtain ⟨fd, F⟩ := c.d.def_ 11 (d := d_own_is_prime) rfl
  exact ⟨_, fd, ["number"], [], [], fnG_of F sc_own_is_prime (fun cdv A outer s H E hr kx => body_own_is_prime c hr kx), c.glo (i := 1) (x := "own_is_prime") rfl, F.kp, F.bindsN (fun _ _ _ _ _ _ us hl => match us, hl with | [_], _ => rfl), .nil, fun _ _ => rfl, rfl, by decide⟩
def m_is_prime : SF := (sRet (eAnd (eFn 3 [] mf_is_whole (aCons (eVar 0) (aCons (eC (.int 3)) (aCons (eC (.int 65537)) aNil)))) (eFn 1 [] mf_own_is_prime (aCons (eVar 0) aNil))))
def mf_is_prime : CF := mfOf 1 m_is_prime
theorem sc_is_prime : FnScope ["thing"] ["thing"] (defScope s_is_prime) := ⟨rfl, rfl, rfl, by decide +kernel, rfl, by decide +kernel, by decide +kernel⟩
theorem body_is_prime {w : World} {K : PySem.W.Frag} {mg : Str → Option Value} {base : Heap} {cdv : Value} {A : Around} {outer : List PySem.Env} {s : Shared} {H : Hp} {E : XK} {fA : Addr} (c : Fx w K mg) (hr : Room 3 (A.deeper (envOfC "is_prime" (defScope s_is_prime) s.heap.objs.size fA cdv)))
    (kx : Kx (cxOf (L2.CX Pg w) Pg w K mg base ["thing"] "is_prime" (defScope s_is_prime) fA cdv A outer s H E) (wE E)) : SSs (cxOf (L2.CX Pg w) Pg w K mg base ["thing"] "is_prime" (defScope s_is_prime) fA cdv A outer s H E) (wE E) (defBody s_is_prime) m_is_prime :=
  (ss_one (ss_ret (se_and (se_fn (Def.fn (def_is_whole c) hr (by decide) (by rfl)) kx (sa_cons (se_var (i := 0) rfl (by first | exact Or.inl rfl | exact Or.inr (Or.inl rfl) | exact Or.inr (Or.inr rfl))) (sa_cons se_int (sa_cons (se_gint (by rfl) (c.int (i := 58) (x := "MOST_PRIME") rfl)) sa_nil)))) (se_one (se_fn (Def.fn (def_own_is_prime c) hr (by decide) (by rfl)) kx (sa_cons (se_var (i := 0) rfl (by first | exact Or.inl rfl | exact Or.inr (Or.inl rfl) | exact Or.inr (Or.inr rfl))) sa_nil))))))
theorem def_is_prime {w : World} {K : PySem.W.Frag} {mg : Str → Option Value} {base : Heap} (c : Fx w K mg) : Def Pg w K mg base "is_prime" 4 1 [] mf_is_prime := by
  obtain ⟨fd, F⟩ := c.d.def_ 12 (d := d_is_prime) rfl
  exact ⟨_, fd, ["thing"], [], [], fnG_of F sc_is_prime (fun cdv A outer s H E hr kx => body_is_prime c hr kx), c.glo (i := 2) (x := "is_prime") rfl, F.kp, F.bindsN (fun _ _ _ _ _ _ us hl => match us, hl with | [_], _ => rfl), .nil, fun _ _ => rfl, rfl, by decide⟩
def m_need_prime : SF := (sIf (tfNot (tfV (eFn 1 [] mf_is_prime (aCons (eVar 0) aNil)))) (sRaise .BadPrime (eVar 0)) sNx)
def mf_need_prime : CF := mfOf 1 m_need_prime
theorem sc_need_prime : FnScope ["prime"] ["prime"] (defScope s_need_prime) := ⟨rfl, rfl, rfl, by decide +kernel, rfl, by decide +kernel, by decide +kernel⟩
theorem body_need_prime {w : World} {K : PySem.W.Frag} {mg : Str → Option Value} {base : Heap} {cdv : Value} {A : Around} {outer : List PySem.Env} {s : Shared} {H : Hp} {E : XK} {fA : Addr} (c : Fx w K mg) (hr : Room 4 (A.deeper (envOfC "need_prime" (defScope s_need_prime) s.heap.objs.size fA cdv)))
    (kx : Kx (cxOf (L2.CX Pg w) Pg w K mg base ["prime"] "need_prime" (defScope s_need_prime) fA cdv A outer s H E) (wE E)) : SSs (cxOf (L2.CX Pg w) Pg w K mg base ["prime"] "need_prime" (defScope s_need_prime) fA cdv A outer s H E) (wE E) (defBody s_need_prime) m_need_prime :=
  (ss_one (ss_if (st_not (st_val (se_fn (Def.fn (def_is_prime c) hr (by decide) (by rfl)) kx (sa_cons (se_var (i := 0) rfl (by first | exact Or.inl rfl | exact Or.inr (Or.inl rfl) | exact Or.inr (Or.inr rfl))) sa_nil)))) (ss_one (ss_raise kx (Mk.at (mk_BadPrime c) (c.cl (e := .BadPrime) (by decide)) hr (by decide) (by rfl)) (c.cl (e := .BadPrime) (by decide)) (c.cl (e := .BadPrime) (by decide)).ty (se_var (i := 0) rfl (by first | exact Or.inl rfl | exact Or.inr (Or.inl rfl) | exact Or.inr (Or.inr rfl))))) ss_nil))
theorem def_need_prime {w : World} {K : PySem.W.Frag} {mg : Str → Option Value} {base : Heap} (c : Fx w K mg) : Def Pg w K mg base "need_prime" 5 1 [] mf_need_prime := by
  obtain ⟨fd, F⟩ := c.d.def_ 13 (d := d_need_prime) rfl
  exact ⟨_, fd, ["prime"], [], [], fnG_of F sc_need_prime (fun cdv A outer s H E hr kx => body_need_prime c hr kx), c.glo (i := 3) (x := "need_prime") rfl, F.kp, F.bindsN (fun _ _ _ _ _ _ us hl => match us, hl with | [_], _ => rfl), .nil, fun _ _ => rfl, rfl, by decide⟩
def m_need_remainder : SF := (sSeq (sExpr (eFn 1 [] mf_need_prime (aCons (eVar 0) aNil)))
    (sIf (tfNot (tfV (eFn 3 [] mf_is_whole (aCons (eVar 1) (aCons (eC (.int 0)) (aCons (eSub (eVar 0) (eC (.int 1))) aNil)))))) (sRaise .BadRemainder (eVar 1)) sNx))
def mf_need_remainder : CF := mfOf 2 m_need_remainder
theorem sc_need_remainder : FnScope ["prime", "number"] ["prime", "number"] (defScope s_need_remainder) := ⟨rfl, rfl, rfl, by decide +kernel, rfl, by decide +kernel, by decide +kernel⟩
theorem body_need_remainder {w : World} {K : PySem.W.Frag} {mg : Str → Option Value} {base : Heap} {cdv : Value} {A : Around} {outer : List PySem.Env} {s : Shared} {H : Hp} {E : XK} {fA : Addr} (c : Fx w K mg) (hr : Room 5 (A.deeper (envOfC "need_remainder" (defScope s_need_remainder) s.heap.objs.size fA cdv)))
    (kx : Kx (cxOf (L2.CX Pg w) Pg w K mg base ["prime", "number"] "need_remainder" (defScope s_need_remainder) fA cdv A outer s H E) (wE E)) : SSs (cxOf (L2.CX Pg w) Pg w K mg base ["prime", "number"] "need_remainder" (defScope s_need_remainder) fA cdv A outer s H E) (wE E) (defBody s_need_remainder) m_need_remainder :=
  (ss_cons (ss_expr (se_fn (Def.fn (def_need_prime c) hr (by decide) (by rfl)) kx (sa_cons (se_var (i := 0) rfl (by first | exact Or.inl rfl | exact Or.inr (Or.inl rfl) | exact Or.inr (Or.inr rfl))) sa_nil)))
    (ss_one (ss_if (st_not (st_val (se_fn (Def.fn (def_is_whole c) hr (by decide) (by rfl)) kx (sa_cons (se_var (i := 1) rfl (by first | exact Or.inl rfl | exact Or.inr (Or.inl rfl) | exact Or.inr (Or.inr rfl))) (sa_cons se_int (sa_cons (se_sub (se_var (i := 0) rfl (by first | exact Or.inl rfl | exact Or.inr (Or.inl rfl) | exact Or.inr (Or.inr rfl))) se_int) sa_nil)))))) (ss_one (ss_raise kx (Mk.at (mk_BadRemainder c) (c.cl (e := .BadRemainder) (by decide)) hr (by decide) (by rfl)) (c.cl (e := .BadRemainder) (by decide)) (c.cl (e := .BadRemainder) (by decide)).ty (se_var (i := 1) rfl (by first | exact Or.inl rfl | exact Or.inr (Or.inl rfl) | exact Or.inr (Or.inr rfl))))) ss_nil)))
theorem def_need_remainder {w : World} {K : PySem.W.Frag} {mg : Str → Option Value} {base : Heap} (c : Fx w K mg) : Def Pg w K mg base "need_remainder" 6 2 [] mf_need_remainder := by
  obtain ⟨fd, F⟩ := c.d.def_ 14 (d := d_need_remainder) rfl
  exact ⟨_, fd, ["prime", "number"], [], [], fnG_of F sc_need_remainder (fun cdv A outer s H E hr kx => body_need_remainder c hr kx), c.glo (i := 4) (x := "need_remainder") rfl, F.kp, F.bindsN (fun _ _ _ _ _ _ us hl => match us, hl with | [_, _], _ => rfl), .nil, fun _ _ => rfl, rfl, by decide⟩
theorem defK_need_remainder__number_prime {w : World} {K : PySem.W.Frag} {mg : Str → Option Value} {base : Heap} (c : Fx w K mg) : DefK Pg w K mg base "need_remainder" 6 ["number", "prime"] [1, 0] mf_need_remainder := by
  obtain ⟨fd, F⟩ := c.d.def_ 14 (d := d_need_remainder) rfl
  exact ⟨_, fd, ["prime", "number"], fnG_of F sc_need_remainder (fun cdv A outer s H E hr kx => body_need_remainder c hr kx), c.glo (i := 4) (x := "need_remainder") rfl, F.kp, F.kbs (fun _ _ _ _ _ _ ws hl => match ws, hl with | [_, _], _ => rfl), rfl, by decide, by decide⟩
def bd_own_primes_0 : SF := (sSet 2 (eDiv (eVar 2) (eVar 3)))
def bd_own_primes_1 : SF := (sSeq (sIf (tfV (eOp (gEqA false) (eMod (eVar 2) (eVar 3)) (eC (.int 0)))) (sSeq (sExpr (eApp 1 (eVar 3)))
    (sWh (tfV (eOp (gEqA false) (eMod (eVar 2) (eVar 3)) (eC (.int 0)))) bd_own_primes_0)) sNx)
    (sAug 3 (fun i j => i + j) (eC (.int 1))))
def m_own_primes : SF := (sSeq (sPar3 1 2 3 (aCons (eLst aNil) (aCons (eVar 0) (aCons (eC (.int 2)) aNil))))
    (sSeq (sWh (tfV (eOp gLe (eOp gMulA (eVar 3) (eVar 3)) (eVar 2))) bd_own_primes_1)
    (sRet (eIf (tfV (eOp gGt (eVar 2) (eC (.int 1)))) (eLst (aStar (eVar 1) (aCons (eVar 2) aNil))) (eVar 1)))))
def mf_own_primes : CF := mfOf 4 m_own_primes
theorem sc_own_primes : FnScope ["number", "found", "left", "part"] ["number"] (defScope s_own_primes) := ⟨rfl, rfl, rfl, by decide +kernel, rfl, by decide +kernel, by decide +kernel⟩
theorem body_own_primes {w : World} {K : PySem.W.Frag} {mg : Str → Option Value} {base : Heap} {cdv : Value} {A : Around} {outer : List PySem.Env} {s : Shared} {H : Hp} {E : XK} {fA : Addr} (c : Fx w K mg) (hr : Room 2 (A.deeper (envOfC "own_primes" (defScope s_own_primes) s.heap.objs.size fA cdv)))
    (kx : Kx (cxOf (L2.CX Pg w) Pg w K mg base ["number", "found", "left", "part"] "own_primes" (defScope s_own_primes) fA cdv A outer s H E) (wE E)) : SSs (cxOf (L2.CX Pg w) Pg w K mg base ["number", "found", "left", "part"] "own_primes" (defScope s_own_primes) fA cdv A outer s H E) (wE E) (defBody s_own_primes) m_own_primes :=
  (ss_cons (ss_par3 (i := 1) (j := 2) (l := 3) kx rfl rfl rfl (sa_cons (se_lst sa_nil) (sa_cons (se_var (i := 0) rfl (by first | exact Or.inl rfl | exact Or.inr (Or.inl rfl) | exact Or.inr (Or.inr rfl))) (sa_cons se_int sa_nil))))
    (ss_cons (ss_while kx (st_le (se_mulA (se_var (i := 3) rfl (by first | exact Or.inl rfl | exact Or.inr (Or.inl rfl) | exact Or.inr (Or.inr rfl))) (se_var (i := 3) rfl (by first | exact Or.inl rfl | exact Or.inr (Or.inl rfl) | exact Or.inr (Or.inr rfl)))) (se_var (i := 2) rfl (by first | exact Or.inl rfl | exact Or.inr (Or.inl rfl) | exact Or.inr (Or.inr rfl)))) (ss_cons (ss_if (st_eq kx.hu64 (se_mod (se_var (i := 2) rfl (by first | exact Or.inl rfl | exact Or.inr (Or.inl rfl) | exact Or.inr (Or.inr rfl))) (se_var (i := 3) rfl (by first | exact Or.inl rfl | exact Or.inr (Or.inl rfl) | exact Or.inr (Or.inr rfl)))) se_int) (ss_cons (ss_expr (se_append (i := 1) kx rfl (by first | exact Or.inl rfl | exact Or.inr (Or.inl rfl) | exact Or.inr (Or.inr rfl)) (se_var (i := 3) rfl (by first | exact Or.inl rfl | exact Or.inr (Or.inl rfl) | exact Or.inr (Or.inr rfl)))))
    (ss_one (ss_while kx (st_eq kx.hu64 (se_mod (se_var (i := 2) rfl (by first | exact Or.inl rfl | exact Or.inr (Or.inl rfl) | exact Or.inr (Or.inr rfl))) (se_var (i := 3) rfl (by first | exact Or.inl rfl | exact Or.inr (Or.inl rfl) | exact Or.inr (Or.inr rfl)))) se_int) (ss_one (ss_set (i := 2) kx rfl (by first | exact Or.inl rfl | exact Or.inr rfl) (se_div (se_var (i := 2) rfl (by first | exact Or.inl rfl | exact Or.inr (Or.inl rfl) | exact Or.inr (Or.inr rfl))) (se_var (i := 3) rfl (by first | exact Or.inl rfl | exact Or.inr (Or.inl rfl) | exact Or.inr (Or.inr rfl))))))))) ss_nil)
    (ss_one (ss_aug (i := 3) kx rfl (by first | exact Or.inl rfl | exact Or.inr rfl) ip_add se_int))))
    (ss_one (ss_ret (se_if (st_gt (se_var (i := 2) rfl (by first | exact Or.inl rfl | exact Or.inr (Or.inl rfl) | exact Or.inr (Or.inr rfl))) se_int) (se_lst (sa_star (se_var (i := 1) rfl (by first | exact Or.inl rfl | exact Or.inr (Or.inl rfl) | exact Or.inr (Or.inr rfl))) (sa_cons (se_var (i := 2) rfl (by first | exact Or.inl rfl | exact Or.inr (Or.inl rfl) | exact Or.inr (Or.inr rfl))) sa_nil))) (se_var (i := 1) rfl (by first | exact Or.inl rfl | exact Or.inr (Or.inl rfl) | exact Or.inr (Or.inr rfl))))))))
theorem def_own_primes {w : World} {K : PySem.W.Frag} {mg : Str → Option Value} {base : Heap} (c : Fx w K mg) : Def Pg w K mg base "own_primes" 3 1 [] mf_own_primes := by
  obtain ⟨fd, F⟩ := c.d.def_ 20 (d := d_own_primes) rfl
  exact ⟨_, fd, ["number"], [], [], fnG_of F sc_own_primes (fun cdv A outer s H E hr kx => body_own_primes c hr kx), c.glo (i := 10) (x := "own_primes") rfl, F.kp, F.bindsN (fun _ _ _ _ _ _ us hl => match us, hl with | [_], _ => rfl), .nil, fun _ _ => rfl, rfl, by decide⟩
def bd_own_power_0 : SF := (sSeq (sIf (tfV (eOp (gEqA false) (eMod (eVar 5) (eC (.int 2))) (eC (.int 1)))) (sSet 3 (eMod (eOp gMulA (eVar 3) (eVar 4)) (eVar 0))) sNx)
    (sPar 4 5 (aCons (eMod (eOp gMulA (eVar 4) (eVar 4)) (eVar 0)) (aCons (eDiv (eVar 5) (eC (.int 2))) aNil))))
def m_own_power : SF := (sSeq (sPar3 3 4 5 (aCons (eC (.int 1)) (aCons (eVar 1) (aCons (eVar 2) aNil))))
    (sSeq (sWh (tfV (eOp gGt (eVar 5) (eC (.int 0)))) bd_own_power_0)
    (sRet (eMove 3))))
def mf_own_power : CF := mfOf 6 m_own_power
theorem sc_own_power : FnScope ["prime", "number", "exponent", "found", "square", "left"] ["prime", "number", "exponent"] (defScope s_own_power) := ⟨rfl, rfl, rfl, by decide +kernel, rfl, by decide +kernel, by decide +kernel⟩
theorem body_own_power {w : World} {K : PySem.W.Frag} {mg : Str → Option Value} {base : Heap} {cdv : Value} {A : Around} {outer : List PySem.Env} {s : Shared} {H : Hp} {E : XK} {fA : Addr} (c : Fx w K mg) (hr : Room 2 (A.deeper (envOfC "own_power" (defScope s_own_power) s.heap.objs.size fA cdv)))
    (kx : Kx (cxOf (L2.CX Pg w) Pg w K mg base ["prime", "number", "exponent", "found", "square", "left"] "own_power" (defScope s_own_power) fA cdv A outer s H E) (wE E)) : SSs (cxOf (L2.CX Pg w) Pg w K mg base ["prime", "number", "exponent", "found", "square", "left"] "own_power" (defScope s_own_power) fA cdv A outer s H E) (wE E) (defBody s_own_power) m_own_power :=
  (ss_cons (ss_par3 (i := 3) (j := 4) (l := 5) kx rfl rfl rfl (sa_cons se_int (sa_cons (se_var (i := 1) rfl (by first | exact Or.inl rfl | exact Or.inr (Or.inl rfl) | exact Or.inr (Or.inr rfl))) (sa_cons (se_var (i := 2) rfl (by first | exact Or.inl rfl | exact Or.inr (Or.inl rfl) | exact Or.inr (Or.inr rfl))) sa_nil))))
    (ss_cons (ss_while kx (st_gt (se_var (i := 5) rfl (by first | exact Or.inl rfl | exact Or.inr (Or.inl rfl) | exact Or.inr (Or.inr rfl))) se_int) (ss_cons (ss_if (st_eq kx.hu64 (se_mod (se_var (i := 5) rfl (by first | exact Or.inl rfl | exact Or.inr (Or.inl rfl) | exact Or.inr (Or.inr rfl))) se_int) se_int) (ss_one (ss_set (i := 3) kx rfl (by first | exact Or.inl rfl | exact Or.inr rfl) (se_mod (se_mulA (se_var (i := 3) rfl (by first | exact Or.inl rfl | exact Or.inr (Or.inl rfl) | exact Or.inr (Or.inr rfl))) (se_var (i := 4) rfl (by first | exact Or.inl rfl | exact Or.inr (Or.inl rfl) | exact Or.inr (Or.inr rfl)))) (se_var (i := 0) rfl (by first | exact Or.inl rfl | exact Or.inr (Or.inl rfl) | exact Or.inr (Or.inr rfl)))))) ss_nil)
    (ss_one (ss_par (i := 4) (j := 5) kx rfl rfl (sa_cons (se_mod (se_mulA (se_var (i := 4) rfl (by first | exact Or.inl rfl | exact Or.inr (Or.inl rfl) | exact Or.inr (Or.inr rfl))) (se_var (i := 4) rfl (by first | exact Or.inl rfl | exact Or.inr (Or.inl rfl) | exact Or.inr (Or.inr rfl)))) (se_var (i := 0) rfl (by first | exact Or.inl rfl | exact Or.inr (Or.inl rfl) | exact Or.inr (Or.inr rfl)))) (sa_cons (se_div (se_var (i := 5) rfl (by first | exact Or.inl rfl | exact Or.inr (Or.inl rfl) | exact Or.inr (Or.inr rfl))) se_int) sa_nil))))))
    (ss_one (ss_ret (se_move (i := 3) rfl (by first | exact Or.inl rfl | exact Or.inr (Or.inl rfl) | exact Or.inr (Or.inr rfl)))))))
theorem def_own_power {w : World} {K : PySem.W.Frag} {mg : Str → Option Value} {base : Heap} (c : Fx w K mg) : Def Pg w K mg base "own_power" 3 3 [] mf_own_power := by
  obtain ⟨fd, F⟩ := c.d.def_ 18 (d := d_own_power) rfl
  exact ⟨_, fd, ["prime", "number", "exponent"], [], [], fnG_of F sc_own_power (fun cdv A outer s H E hr kx => body_own_power c hr kx), c.glo (i := 8) (x := "own_power") rfl, F.kp, F.bindsN (fun _ _ _ _ _ _ us hl => match us, hl with | [_, _, _], _ => rfl), .nil, fun _ _ => rfl, rfl, by decide⟩
def bd_order_of_0 : SF := (sSet 2 (eDiv (eVar 2) (eVar 3)))
def bd_order_of_1 : SF := (sWh (tfAnd (tfV (eOp (gEqA false) (eMod (eVar 2) (eVar 3)) (eC (.int 0)))) (tfV (eOp (gEqA false) (eFn 3 [] mf_own_power (aCons (eVar 0) (aCons (eVar 1) (aCons (eDiv (eVar 2) (eVar 3)) aNil)))) (eC (.int 1))))) bd_order_of_0)
def m_order_of : SF := (sSeq (sExpr (eFn 2 [] mf_need_remainder (aCons (eVar 0) (aCons (eVar 1) aNil))))
    (sSeq (sIf (tfV (eOp (gEqA false) (eVar 1) (eC (.int 0)))) (sRaise .NoSuch (eC (.str "zero"))) sNx)
    (sSeq (sSet 2 (eSub (eVar 0) (eC (.int 1))))
    (sSeq (sFor (iVal (eFn 1 [] mf_own_primes (aCons (eSub (eVar 0) (eC (.int 1))) aNil))) (gNm 3) bd_order_of_1)
    (sRet (eMove 2))))))
def mf_order_of : CF := mfOf 4 m_order_of
theorem sc_order_of : FnScope ["prime", "number", "found", "part"] ["prime", "number"] (defScope s_order_of) := ⟨rfl, rfl, rfl, by decide +kernel, rfl, by decide +kernel, by decide +kernel⟩
theorem body_order_of {w : World} {K : PySem.W.Frag} {mg : Str → Option Value} {base : Heap} {cdv : Value} {A : Around} {outer : List PySem.Env} {s : Shared} {H : Hp} {E : XK} {fA : Addr} (c : Fx w K mg) (hr : Room 6 (A.deeper (envOfC "order_of" (defScope s_order_of) s.heap.objs.size fA cdv)))
    (kx : Kx (cxOf (L2.CX Pg w) Pg w K mg base ["prime", "number", "found", "part"] "order_of" (defScope s_order_of) fA cdv A outer s H E) (wE E)) : SSs (cxOf (L2.CX Pg w) Pg w K mg base ["prime", "number", "found", "part"] "order_of" (defScope s_order_of) fA cdv A outer s H E) (wE E) (defBody s_order_of) m_order_of :=
  (ss_cons (ss_expr (se_fn (Def.fn (def_need_remainder c) hr (by decide) (by rfl)) kx (sa_cons (se_var (i := 0) rfl (by first | exact Or.inl rfl | exact Or.inr (Or.inl rfl) | exact Or.inr (Or.inr rfl))) (sa_cons (se_var (i := 1) rfl (by first | exact Or.inl rfl | exact Or.inr (Or.inl rfl) | exact Or.inr (Or.inr rfl))) sa_nil))))
    (ss_cons (ss_if (st_eq kx.hu64 (se_var (i := 1) rfl (by first | exact Or.inl rfl | exact Or.inr (Or.inl rfl) | exact Or.inr (Or.inr rfl))) se_int) (ss_one (ss_raise kx (Mk.at (mk_NoSuch c) (c.cl (e := .NoSuch) (by decide)) hr (by decide) (by rfl)) (c.cl (e := .NoSuch) (by decide)) (c.cl (e := .NoSuch) (by decide)).ty se_str)) ss_nil)
    (ss_cons (ss_set (i := 2) kx rfl (by first | exact Or.inl rfl | exact Or.inr rfl) (se_sub (se_var (i := 0) rfl (by first | exact Or.inl rfl | exact Or.inr (Or.inl rfl) | exact Or.inr (Or.inr rfl))) se_int))
    (ss_cons (ss_for kx (si_val (se_fn (Def.fn (def_own_primes c) hr (by decide) (by rfl)) kx (sa_cons (se_sub (se_var (i := 0) rfl (by first | exact Or.inl rfl | exact Or.inr (Or.inl rfl) | exact Or.inr (Or.inr rfl))) se_int) sa_nil))) (sg_name kx.nd (i := 3) rfl (by first | exact Or.inl rfl | exact Or.inr rfl)) (ss_one (ss_while kx (SW.st (sw_and (st_eq kx.hu64 (se_mod (se_var (i := 2) rfl (by first | exact Or.inl rfl | exact Or.inr (Or.inl rfl) | exact Or.inr (Or.inr rfl))) (se_var (i := 3) rfl (by first | exact Or.inl rfl | exact Or.inr (Or.inl rfl) | exact Or.inr (Or.inr rfl)))) se_int) (sw_and1 (st_eq kx.hu64 (se_fn (Def.fn (def_own_power c) hr (by decide) (by rfl)) kx (sa_cons (se_var (i := 0) rfl (by first | exact Or.inl rfl | exact Or.inr (Or.inl rfl) | exact Or.inr (Or.inr rfl))) (sa_cons (se_var (i := 1) rfl (by first | exact Or.inl rfl | exact Or.inr (Or.inl rfl) | exact Or.inr (Or.inr rfl))) (sa_cons (se_div (se_var (i := 2) rfl (by first | exact Or.inl rfl | exact Or.inr (Or.inl rfl) | exact Or.inr (Or.inr rfl))) (se_var (i := 3) rfl (by first | exact Or.inl rfl | exact Or.inr (Or.inl rfl) | exact Or.inr (Or.inr rfl)))) sa_nil)))) se_int)))) (ss_one (ss_set (i := 2) kx rfl (by first | exact Or.inl rfl | exact Or.inr rfl) (se_div (se_var (i := 2) rfl (by first | exact Or.inl rfl | exact Or.inr (Or.inl rfl) | exact Or.inr (Or.inr rfl))) (se_var (i := 3) rfl (by first | exact Or.inl rfl | exact Or.inr (Or.inl rfl) | exact Or.inr (Or.inr rfl)))))))))
    (ss_one (ss_ret (se_move (i := 2) rfl (by first | exact Or.inl rfl | exact Or.inr (Or.inl rfl) | exact Or.inr (Or.inr rfl)))))))))
theorem def_order_of {w : World} {K : PySem.W.Frag} {mg : Str → Option Value} {base : Heap} (c : Fx w K mg) : Def Pg w K mg base "order_of" 7 2 [] mf_order_of := by
  obtain ⟨fd, F⟩ := c.d.def_ 21 (d := d_order_of) rfl
  exact ⟨_, fd, ["prime", "number"], [], [], fnG_of F sc_order_of (fun cdv A outer s H E hr kx => body_order_of c hr kx), c.glo (i := 11) (x := "order_of") rfl, F.kp, F.bindsN (fun _ _ _ _ _ _ us hl => match us, hl with | [_, _], _ => rfl), .nil, fun _ _ => rfl, rfl, by decide⟩
theorem defK_order_of__number_prime {w : World} {K : PySem.W.Frag} {mg : Str → Option Value} {base : Heap} (c : Fx w K mg) : DefK Pg w K mg base "order_of" 7 ["number", "prime"] [1, 0] mf_order_of := by
  obtain ⟨fd, F⟩ := c.d.def_ 21 (d := d_order_of) rfl
  exact ⟨_, fd, ["prime", "number"], fnG_of F sc_order_of (fun cdv A outer s H E hr kx => body_order_of c hr kx), c.glo (i := 11) (x := "order_of") rfl, F.kp, F.kbs (fun _ _ _ _ _ _ ws hl => match ws, hl with | [_, _], _ => rfl), rfl, by decide, by decide⟩
def bd_own_inverse_0 : SF := (sSeq (sSet 6 (eDiv (eVar 2) (eVar 3)))
    (sAsg (eTup (aCons (eVar 3) (aCons (eSub (eVar 2) (eOp gMulA (eVar 6) (eVar 3))) (aCons (eVar 5) (aCons (eSub (eVar 4) (eOp gMulA (eVar 6) (eVar 5))) aNil))))) (gTp 4 (gsCons (gNm 2) (gsCons (gNm 3) (gsCons (gNm 4) (gsCons (gNm 5) gsNil)))))))
def m_own_inverse : SF := (sSeq (sAsg (eTup (aCons (eVar 0) (aCons (eVar 1) (aCons (eC (.int 0)) (aCons (eC (.int 1)) aNil))))) (gTp 4 (gsCons (gNm 2) (gsCons (gNm 3) (gsCons (gNm 4) (gsCons (gNm 5) gsNil))))))
    (sSeq (sWh (tfV (eOp gGt (eVar 3) (eC (.int 1)))) bd_own_inverse_0)
    (sRet (eMod (eVar 5) (eVar 0)))))
def mf_own_inverse : CF := mfOf 7 m_own_inverse
theorem sc_own_inverse : FnScope ["prime", "number", "one", "other", "left", "right", "many"] ["prime", "number"] (defScope s_own_inverse) := ⟨rfl, rfl, rfl, by decide +kernel, rfl, by decide +kernel, by decide +kernel⟩
theorem body_own_inverse {w : World} {K : PySem.W.Frag} {mg : Str → Option Value} {base : Heap} {cdv : Value} {A : Around} {outer : List PySem.Env} {s : Shared} {H : Hp} {E : XK} {fA : Addr} (c : Fx w K mg) (hr : Room 2 (A.deeper (envOfC "own_inverse" (defScope s_own_inverse) s.heap.objs.size fA cdv)))
    (kx : Kx (cxOf (L2.CX Pg w) Pg w K mg base ["prime", "number", "one", "other", "left", "right", "many"] "own_inverse" (defScope s_own_inverse) fA cdv A outer s H E) (wE E)) : SSs (cxOf (L2.CX Pg w) Pg w K mg base ["prime", "number", "one", "other", "left", "right", "many"] "own_inverse" (defScope s_own_inverse) fA cdv A outer s H E) (wE E) (defBody s_own_inverse) m_own_inverse :=
  (ss_cons (ss_asg kx (se_tup (sa_cons (se_var (i := 0) rfl (by first | exact Or.inl rfl | exact Or.inr (Or.inl rfl) | exact Or.inr (Or.inr rfl))) (sa_cons (se_var (i := 1) rfl (by first | exact Or.inl rfl | exact Or.inr (Or.inl rfl) | exact Or.inr (Or.inr rfl))) (sa_cons se_int (sa_cons se_int sa_nil))))) (sg_tup kx.hc (sgs_cons (sg_name kx.nd (i := 2) rfl (by first | exact Or.inl rfl | exact Or.inr rfl)) (sgs_cons (sg_name kx.nd (i := 3) rfl (by first | exact Or.inl rfl | exact Or.inr rfl)) (sgs_cons (sg_name kx.nd (i := 4) rfl (by first | exact Or.inl rfl | exact Or.inr rfl)) (sgs_cons (sg_name kx.nd (i := 5) rfl (by first | exact Or.inl rfl | exact Or.inr rfl)) sgs_nil))))))
    (ss_cons (ss_while kx (st_gt (se_var (i := 3) rfl (by first | exact Or.inl rfl | exact Or.inr (Or.inl rfl) | exact Or.inr (Or.inr rfl))) se_int) (ss_cons (ss_set (i := 6) kx rfl (by first | exact Or.inl rfl | exact Or.inr rfl) (se_div (se_var (i := 2) rfl (by first | exact Or.inl rfl | exact Or.inr (Or.inl rfl) | exact Or.inr (Or.inr rfl))) (se_var (i := 3) rfl (by first | exact Or.inl rfl | exact Or.inr (Or.inl rfl) | exact Or.inr (Or.inr rfl)))))
    (ss_one (ss_asg kx (se_tup (sa_cons (se_var (i := 3) rfl (by first | exact Or.inl rfl | exact Or.inr (Or.inl rfl) | exact Or.inr (Or.inr rfl))) (sa_cons (se_sub (se_var (i := 2) rfl (by first | exact Or.inl rfl | exact Or.inr (Or.inl rfl) | exact Or.inr (Or.inr rfl))) (se_mulA (se_var (i := 6) rfl (by first | exact Or.inl rfl | exact Or.inr (Or.inl rfl) | exact Or.inr (Or.inr rfl))) (se_var (i := 3) rfl (by first | exact Or.inl rfl | exact Or.inr (Or.inl rfl) | exact Or.inr (Or.inr rfl))))) (sa_cons (se_var (i := 5) rfl (by first | exact Or.inl rfl | exact Or.inr (Or.inl rfl) | exact Or.inr (Or.inr rfl))) (sa_cons (se_sub (se_var (i := 4) rfl (by first | exact Or.inl rfl | exact Or.inr (Or.inl rfl) | exact Or.inr (Or.inr rfl))) (se_mulA (se_var (i := 6) rfl (by first | exact Or.inl rfl | exact Or.inr (Or.inl rfl) | exact Or.inr (Or.inr rfl))) (se_var (i := 5) rfl (by first | exact Or.inl rfl | exact Or.inr (Or.inl rfl) | exact Or.inr (Or.inr rfl))))) sa_nil))))) (sg_tup kx.hc (sgs_cons (sg_name kx.nd (i := 2) rfl (by first | exact Or.inl rfl | exact Or.inr rfl)) (sgs_cons (sg_name kx.nd (i := 3) rfl (by first | exact Or.inl rfl | exact Or.inr rfl)) (sgs_cons (sg_name kx.nd (i := 4) rfl (by first | exact Or.inl rfl | exact Or.inr rfl)) (sgs_cons (sg_name kx.nd (i := 5) rfl (by first | exact Or.inl rfl | exact Or.inr rfl)) sgs_nil)))))))))
    (ss_one (ss_ret (se_mod (se_var (i := 5) rfl (by first | exact Or.inl rfl | exact Or.inr (Or.inl rfl) | exact Or.inr (Or.inr rfl))) (se_var (i := 0) rfl (by first | exact Or.inl rfl | exact Or.inr (Or.inl rfl) | exact Or.inr (Or.inr rfl))))))))
theorem def_own_inverse {w : World} {K : PySem.W.Frag} {mg : Str → Option Value} {base : Heap} (c : Fx w K mg) : Def Pg w K mg base "own_inverse" 3 2 [] mf_own_inverse := by
  obtain ⟨fd, F⟩ := c.d.def_ 15 (d := d_own_inverse) rfl
  exact ⟨_, fd, ["prime", "number"], [], [], fnG_of F sc_own_inverse (fun cdv A outer s H E hr kx => body_own_inverse c hr kx), c.glo (i := 5) (x := "own_inverse") rfl, F.kp, F.bindsN (fun _ _ _ _ _ _ us hl => match us, hl with | [_, _], _ => rfl), .nil, fun _ _ => rfl, rfl, by decide⟩
def m_inverse_of : SF := (sSeq (sExpr (eFn 2 [] mf_need_remainder (aCons (eVar 0) (aCons (eVar 1) aNil))))
    (sSeq (sIf (tfV (eOp (gEqA false) (eVar 1) (eC (.int 0)))) (sRaise .NoSuch (eC (.str "zero"))) sNx)
    (sRet (eFn 2 [] mf_own_inverse (aCons (eVar 0) (aCons (eVar 1) aNil))))))
def mf_inverse_of : CF := mfOf 2 m_inverse_of
theorem sc_inverse_of : FnScope ["prime", "number"] ["prime", "number"] (defScope s_inverse_of) := ⟨rfl, rfl, rfl, by decide +kernel, rfl, by decide +kernel, by decide +kernel⟩
theorem body_inverse_of {w : World} {K : PySem.W.Frag} {mg : Str → Option Value} {base : Heap} {cdv : Value} {A : Around} {outer : List PySem.Env} {s : Shared} {H : Hp} {E : XK} {fA : Addr} (c : Fx w K mg) (hr : Room 6 (A.deeper (envOfC "inverse_of" (defScope s_inverse_of) s.heap.objs.size fA cdv)))
    (kx : Kx (cxOf (L2.CX Pg w) Pg w K mg base ["prime", "number"] "inverse_of" (defScope s_inverse_of) fA cdv A outer s H E) (wE E)) : SSs (cxOf (L2.CX Pg w) Pg w K mg base ["prime", "number"] "inverse_of" (defScope s_inverse_of) fA cdv A outer s H E) (wE E) (defBody s_inverse_of) m_inverse_of :=
  (ss_cons (ss_expr (se_fn (Def.fn (def_need_remainder c) hr (by decide) (by rfl)) kx (sa_cons (se_var (i := 0) rfl (by first | exact Or.inl rfl | exact Or.inr (Or.inl rfl) | exact Or.inr (Or.inr rfl))) (sa_cons (se_var (i := 1) rfl (by first | exact Or.inl rfl | exact Or.inr (Or.inl rfl) | exact Or.inr (Or.inr rfl))) sa_nil))))
    (ss_cons (ss_if (st_eq kx.hu64 (se_var (i := 1) rfl (by first | exact Or.inl rfl | exact Or.inr (Or.inl rfl) | exact Or.inr (Or.inr rfl))) se_int) (ss_one (ss_raise kx (Mk.at (mk_NoSuch c) (c.cl (e := .NoSuch) (by decide)) hr (by decide) (by rfl)) (c.cl (e := .NoSuch) (by decide)) (c.cl (e := .NoSuch) (by decide)).ty se_str)) ss_nil)
    (ss_one (ss_ret (se_fn (Def.fn (def_own_inverse c) hr (by decide) (by rfl)) kx (sa_cons (se_var (i := 0) rfl (by first | exact Or.inl rfl | exact Or.inr (Or.inl rfl) | exact Or.inr (Or.inr rfl))) (sa_cons (se_var (i := 1) rfl (by first | exact Or.inl rfl | exact Or.inr (Or.inl rfl) | exact Or.inr (Or.inr rfl))) sa_nil)))))))
theorem def_inverse_of {w : World} {K : PySem.W.Frag} {mg : Str → Option Value} {base : Heap} (c : Fx w K mg) : Def Pg w K mg base "inverse_of" 7 2 [] mf_inverse_of := by
  obtain ⟨fd, F⟩ := c.d.def_ 16 (d := d_inverse_of) rfl
  exact ⟨_, fd, ["prime", "number"], [], [], fnG_of F sc_inverse_of (fun cdv A outer s H E hr kx => body_inverse_of c hr kx), c.glo (i := 6) (x := "inverse_of") rfl, F.kp, F.bindsN (fun _ _ _ _ _ _ us hl => match us, hl with | [_, _], _ => rfl), .nil, fun _ _ => rfl, rfl, by decide⟩
theorem defK_inverse_of__number_prime {w : World} {K : PySem.W.Frag} {mg : Str → Option Value} {base : Heap} (c : Fx w K mg) : DefK Pg w K mg base "inverse_of" 7 ["number", "prime"] [1, 0] mf_inverse_of := by
  obtain ⟨fd, F⟩ := c.d.def_ 16 (d := d_inverse_of) rfl
  exact ⟨_, fd, ["prime", "number"], fnG_of F sc_inverse_of (fun cdv A outer s H E hr kx => body_inverse_of c hr kx), c.glo (i := 6) (x := "inverse_of") rfl, F.kp, F.kbs (fun _ _ _ _ _ _ ws hl => match ws, hl with | [_, _], _ => rfl), rfl, by decide, by decide⟩
def bd__law_order_0 : SF := (sPar 2 3 (aCons (eMod (eOp gMulA (eVar 2) (eVar 1)) (eVar 0)) (aCons (eAdd (eVar 3) (eC (.int 1))) aNil)))
def m__law_order : SF := (sSeq (sPar 2 3 (aCons (eVar 1) (aCons (eC (.int 1)) aNil)))
    (sSeq (sWh (tfV (eOp (gEqA true) (eVar 2) (eC (.int 1)))) bd__law_order_0)
    (sRet (eMove 3))))
def mf__law_order : CF := mfOf 4 m__law_order
theorem sc__law_order : FnScope ["prime", "number", "here", "found"] ["prime", "number"] (defScope s__law_order) := ⟨rfl, rfl, rfl, by decide +kernel, rfl, by decide +kernel, by decide +kernel⟩
theorem body__law_order {w : World} {K : PySem.W.Frag} {mg : Str → Option Value} {base : Heap} {cdv : Value} {A : Around} {outer : List PySem.Env} {s : Shared} {H : Hp} {E : XK} {fA : Addr} (c : Fx w K mg) (hr : Room 2 (A.deeper (envOfC "_law_order" (defScope s__law_order) s.heap.objs.size fA cdv)))
    (kx : Kx (cxOf (L2.CX Pg w) Pg w K mg base ["prime", "number", "here", "found"] "_law_order" (defScope s__law_order) fA cdv A outer s H E) (wE E)) : SSs (cxOf (L2.CX Pg w) Pg w K mg base ["prime", "number", "here", "found"] "_law_order" (defScope s__law_order) fA cdv A outer s H E) (wE E) (defBody s__law_order) m__law_order :=
  (ss_cons (ss_par (i := 2) (j := 3) kx rfl rfl (sa_cons (se_var (i := 1) rfl (by first | exact Or.inl rfl | exact Or.inr (Or.inl rfl) | exact Or.inr (Or.inr rfl))) (sa_cons se_int sa_nil)))
    (ss_cons (ss_while kx (st_ne kx.hu64 (se_var (i := 2) rfl (by first | exact Or.inl rfl | exact Or.inr (Or.inl rfl) | exact Or.inr (Or.inr rfl))) se_int) (ss_one (ss_par (i := 2) (j := 3) kx rfl rfl (sa_cons (se_mod (se_mulA (se_var (i := 2) rfl (by first | exact Or.inl rfl | exact Or.inr (Or.inl rfl) | exact Or.inr (Or.inr rfl))) (se_var (i := 1) rfl (by first | exact Or.inl rfl | exact Or.inr (Or.inl rfl) | exact Or.inr (Or.inr rfl)))) (se_var (i := 0) rfl (by first | exact Or.inl rfl | exact Or.inr (Or.inl rfl) | exact Or.inr (Or.inr rfl)))) (sa_cons (se_add (se_var (i := 3) rfl (by first | exact Or.inl rfl | exact Or.inr (Or.inl rfl) | exact Or.inr (Or.inr rfl))) se_int) sa_nil)))))
    (ss_one (ss_ret (se_move (i := 3) rfl (by first | exact Or.inl rfl | exact Or.inr (Or.inl rfl) | exact Or.inr (Or.inr rfl)))))))
theorem def__law_order {w : World} {K : PySem.W.Frag} {mg : Str → Option Value} {base : Heap} (c : Fx w K mg) : Def Pg w K mg base "_law_order" 3 2 [] mf__law_order := by
  obtain ⟨fd, F⟩ := c.d.def_ 35 (d := d__law_order) rfl
  exact ⟨_, fd, ["prime", "number"], [], [], fnG_of F sc__law_order (fun cdv A outer s H E hr kx => body__law_order c hr kx), c.glo (i := 25) (x := "_law_order") rfl, F.kp, F.bindsN (fun _ _ _ _ _ _ us hl => match us, hl with | [_, _], _ => rfl), .nil, fun _ _ => rfl, rfl, by decide⟩
def m_quotient_of : SF := (sSeq (sExpr (eFn 2 [] mf_need_remainder (aCons (eVar 0) (aCons (eVar 1) aNil))))
    (sSeq (sExpr (eFn 2 [] mf_need_remainder (aCons (eVar 0) (aCons (eVar 2) aNil))))
    (sSeq (sIf (tfV (eOp (gEqA false) (eVar 2) (eC (.int 0)))) (sRaise .NoSuch (eC (.str "zero"))) sNx)
    (sRet (eMod (eOp gMulA (eVar 1) (eFn 2 [] mf_own_inverse (aCons (eVar 0) (aCons (eVar 2) aNil)))) (eVar 0))))))
def mf_quotient_of : CF := mfOf 3 m_quotient_of
theorem sc_quotient_of : FnScope ["prime", "one", "other"] ["prime", "one", "other"] (defScope s_quotient_of) := ⟨rfl, rfl, rfl, by decide +kernel, rfl, by decide +kernel, by decide +kernel⟩
theorem body_quotient_of {w : World} {K : PySem.W.Frag} {mg : Str → Option Value} {base : Heap} {cdv : Value} {A : Around} {outer : List PySem.Env} {s : Shared} {H : Hp} {E : XK} {fA : Addr} (c : Fx w K mg) (hr : Room 6 (A.deeper (envOfC "quotient_of" (defScope s_quotient_of) s.heap.objs.size fA cdv)))
    (kx : Kx (cxOf (L2.CX Pg w) Pg w K mg base ["prime", "one", "other"] "quotient_of" (defScope s_quotient_of) fA cdv A outer s H E) (wE E)) : SSs (cxOf (L2.CX Pg w) Pg w K mg base ["prime", "one", "other"] "quotient_of" (defScope s_quotient_of) fA cdv A outer s H E) (wE E) (defBody s_quotient_of) m_quotient_of :=
  (ss_cons (ss_expr (se_fn (Def.fn (def_need_remainder c) hr (by decide) (by rfl)) kx (sa_cons (se_var (i := 0) rfl (by first | exact Or.inl rfl | exact Or.inr (Or.inl rfl) | exact Or.inr (Or.inr rfl))) (sa_cons (se_var (i := 1) rfl (by first | exact Or.inl rfl | exact Or.inr (Or.inl rfl) | exact Or.inr (Or.inr rfl))) sa_nil))))
    (ss_cons (ss_expr (se_fn (Def.fn (def_need_remainder c) hr (by decide) (by rfl)) kx (sa_cons (se_var (i := 0) rfl (by first | exact Or.inl rfl | exact Or.inr (Or.inl rfl) | exact Or.inr (Or.inr rfl))) (sa_cons (se_var (i := 2) rfl (by first | exact Or.inl rfl | exact Or.inr (Or.inl rfl) | exact Or.inr (Or.inr rfl))) sa_nil))))
    (ss_cons (ss_if (st_eq kx.hu64 (se_var (i := 2) rfl (by first | exact Or.inl rfl | exact Or.inr (Or.inl rfl) | exact Or.inr (Or.inr rfl))) se_int) (ss_one (ss_raise kx (Mk.at (mk_NoSuch c) (c.cl (e := .NoSuch) (by decide)) hr (by decide) (by rfl)) (c.cl (e := .NoSuch) (by decide)) (c.cl (e := .NoSuch) (by decide)).ty se_str)) ss_nil)
    (ss_one (ss_ret (se_mod (se_mulA (se_var (i := 1) rfl (by first | exact Or.inl rfl | exact Or.inr (Or.inl rfl) | exact Or.inr (Or.inr rfl))) (se_fn (Def.fn (def_own_inverse c) hr (by decide) (by rfl)) kx (sa_cons (se_var (i := 0) rfl (by first | exact Or.inl rfl | exact Or.inr (Or.inl rfl) | exact Or.inr (Or.inr rfl))) (sa_cons (se_var (i := 2) rfl (by first | exact Or.inl rfl | exact Or.inr (Or.inl rfl) | exact Or.inr (Or.inr rfl))) sa_nil)))) (se_var (i := 0) rfl (by first | exact Or.inl rfl | exact Or.inr (Or.inl rfl) | exact Or.inr (Or.inr rfl)))))))))
theorem def_quotient_of {w : World} {K : PySem.W.Frag} {mg : Str → Option Value} {base : Heap} (c : Fx w K mg) : Def Pg w K mg base "quotient_of" 7 3 [] mf_quotient_of := by
  obtain ⟨fd, F⟩ := c.d.def_ 17 (d := d_quotient_of) rfl
  exact ⟨_, fd, ["prime", "one", "other"], [], [], fnG_of F sc_quotient_of (fun cdv A outer s H E hr kx => body_quotient_of c hr kx), c.glo (i := 7) (x := "quotient_of") rfl, F.kp, F.bindsN (fun _ _ _ _ _ _ us hl => match us, hl with | [_, _, _], _ => rfl), .nil, fun _ _ => rfl, rfl, by decide⟩
theorem defK_quotient_of__other_one_prime {w : World} {K : PySem.W.Frag} {mg : Str → Option Value} {base : Heap} (c : Fx w K mg) : DefK Pg w K mg base "quotient_of" 7 ["other", "one", "prime"] [2, 1, 0] mf_quotient_of := by
  obtain ⟨fd, F⟩ := c.d.def_ 17 (d := d_quotient_of) rfl
  exact ⟨_, fd, ["prime", "one", "other"], fnG_of F sc_quotient_of (fun cdv A outer s H E hr kx => body_quotient_of c hr kx), c.glo (i := 7) (x := "quotient_of") rfl, F.kp, F.kbs (fun _ _ _ _ _ _ ws hl => match ws, hl with | [_, _, _], _ => rfl), rfl, by decide, by decide⟩
def m_power_of : SF := (sSeq (sExpr (eFn 2 [] mf_need_remainder (aCons (eVar 0) (aCons (eVar 1) aNil))))
    (sSeq (sIf (tfNot (tfV (eFn 3 [] mf_is_whole (aCons (eVar 2) (aCons (eC (.int 0)) (aCons (eC (.int 1000000)) aNil)))))) (sRaise .BadNumber (eVar 2)) sNx)
    (sRet (eFn 3 [] mf_own_power (aCons (eVar 0) (aCons (eVar 1) (aCons (eVar 2) aNil)))))))
def mf_power_of : CF := mfOf 3 m_power_of
theorem sc_power_of : FnScope ["prime", "number", "exponent"] ["prime", "number", "exponent"] (defScope s_power_of) := ⟨rfl, rfl, rfl, by decide +kernel, rfl, by decide +kernel, by decide +kernel⟩
theorem body_power_of {w : World} {K : PySem.W.Frag} {mg : Str → Option Value} {base : Heap} {cdv : Value} {A : Around} {outer : List PySem.Env} {s : Shared} {H : Hp} {E : XK} {fA : Addr} (c : Fx w K mg) (hr : Room 6 (A.deeper (envOfC "power_of" (defScope s_power_of) s.heap.objs.size fA cdv)))
    (kx : Kx (cxOf (L2.CX Pg w) Pg w K mg base ["prime", "number", "exponent"] "power_of" (defScope s_power_of) fA cdv A outer s H E) (wE E)) : SSs (cxOf (L2.CX Pg w) Pg w K mg base ["prime", "number", "exponent"] "power_of" (defScope s_power_of) fA cdv A outer s H E) (wE E) (defBody s_power_of) m_power_of :=
  (ss_cons (ss_expr (se_fn (Def.fn (def_need_remainder c) hr (by decide) (by rfl)) kx (sa_cons (se_var (i := 0) rfl (by first | exact Or.inl rfl | exact Or.inr (Or.inl rfl) | exact Or.inr (Or.inr rfl))) (sa_cons (se_var (i := 1) rfl (by first | exact Or.inl rfl | exact Or.inr (Or.inl rfl) | exact Or.inr (Or.inr rfl))) sa_nil))))
    (ss_cons (ss_if (st_not (st_val (se_fn (Def.fn (def_is_whole c) hr (by decide) (by rfl)) kx (sa_cons (se_var (i := 2) rfl (by first | exact Or.inl rfl | exact Or.inr (Or.inl rfl) | exact Or.inr (Or.inr rfl))) (sa_cons se_int (sa_cons (se_gint (by rfl) (c.int (i := 59) (x := "MOST_POWER") rfl)) sa_nil)))))) (ss_one (ss_raise kx (Mk.at (mk_BadNumber c) (c.cl (e := .BadNumber) (by decide)) hr (by decide) (by rfl)) (c.cl (e := .BadNumber) (by decide)) (c.cl (e := .BadNumber) (by decide)).ty (se_var (i := 2) rfl (by first | exact Or.inl rfl | exact Or.inr (Or.inl rfl) | exact Or.inr (Or.inr rfl))))) ss_nil)
    (ss_one (ss_ret (se_fn (Def.fn (def_own_power c) hr (by decide) (by rfl)) kx (sa_cons (se_var (i := 0) rfl (by first | exact Or.inl rfl | exact Or.inr (Or.inl rfl) | exact Or.inr (Or.inr rfl))) (sa_cons (se_var (i := 1) rfl (by first | exact Or.inl rfl | exact Or.inr (Or.inl rfl) | exact Or.inr (Or.inr rfl))) (sa_cons (se_var (i := 2) rfl (by first | exact Or.inl rfl | exact Or.inr (Or.inl rfl) | exact Or.inr (Or.inr rfl))) sa_nil))))))))
theorem def_power_of {w : World} {K : PySem.W.Frag} {mg : Str → Option Value} {base : Heap} (c : Fx w K mg) : Def Pg w K mg base "power_of" 7 3 [] mf_power_of := by
  obtain ⟨fd, F⟩ := c.d.def_ 19 (d := d_power_of) rfl
  exact ⟨_, fd, ["prime", "number", "exponent"], [], [], fnG_of F sc_power_of (fun cdv A outer s H E hr kx => body_power_of c hr kx), c.glo (i := 9) (x := "power_of") rfl, F.kp, F.bindsN (fun _ _ _ _ _ _ us hl => match us, hl with | [_, _, _], _ => rfl), .nil, fun _ _ => rfl, rfl, by decide⟩
theorem defK_power_of__exponent_number_prime {w : World} {K : PySem.W.Frag} {mg : Str → Option Value} {base : Heap} (c : Fx w K mg) : DefK Pg w K mg base "power_of" 7 ["exponent", "number", "prime"] [2, 1, 0] mf_power_of := by
  obtain ⟨fd, F⟩ := c.d.def_ 19 (d := d_power_of) rfl
  exact ⟨_, fd, ["prime", "number", "exponent"], fnG_of F sc_power_of (fun cdv A outer s H E hr kx => body_power_of c hr kx), c.glo (i := 9) (x := "power_of") rfl, F.kp, F.kbs (fun _ _ _ _ _ _ ws hl => match ws, hl with | [_, _, _], _ => rfl), rfl, by decide, by decide⟩
def bd__law_power_0 : SF := (sSet 3 (eMod (eOp gMulA (eVar 3) (eVar 1)) (eVar 0)))
def m__law_power : SF := (sSeq (sSet 3 (eC (.int 1)))
    (sSeq (sFor (iRg1 (aCons (eVar 2) aNil)) (gNm 4) bd__law_power_0)
    (sRet (eMove 3))))
def mf__law_power : CF := mfOf 5 m__law_power
theorem sc__law_power : FnScope ["prime", "number", "exponent", "found", "turn"] ["prime", "number", "exponent"] (defScope s__law_power) := ⟨rfl, rfl, rfl, by decide +kernel, rfl, by decide +kernel, by decide +kernel⟩
theorem body__law_power {w : World} {K : PySem.W.Frag} {mg : Str → Option Value} {base : Heap} {cdv : Value} {A : Around} {outer : List PySem.Env} {s : Shared} {H : Hp} {E : XK} {fA : Addr} (c : Fx w K mg) (hr : Room 2 (A.deeper (envOfC "_law_power" (defScope s__law_power) s.heap.objs.size fA cdv)))
    (kx : Kx (cxOf (L2.CX Pg w) Pg w K mg base ["prime", "number", "exponent", "found", "turn"] "_law_power" (defScope s__law_power) fA cdv A outer s H E) (wE E)) : SSs (cxOf (L2.CX Pg w) Pg w K mg base ["prime", "number", "exponent", "found", "turn"] "_law_power" (defScope s__law_power) fA cdv A outer s H E) (wE E) (defBody s__law_power) m__law_power :=
  (ss_cons (ss_set (i := 3) kx rfl (by first | exact Or.inl rfl | exact Or.inr rfl) se_int)
    (ss_cons (ss_for kx (si_range1 (sa_cons (se_var (i := 2) rfl (by first | exact Or.inl rfl | exact Or.inr (Or.inl rfl) | exact Or.inr (Or.inr rfl))) sa_nil) (by rfl) (c.free (i := 52) (x := "range") rfl)) (sg_name kx.nd (i := 4) rfl (by first | exact Or.inl rfl | exact Or.inr rfl)) (ss_one (ss_set (i := 3) kx rfl (by first | exact Or.inl rfl | exact Or.inr rfl) (se_mod (se_mulA (se_var (i := 3) rfl (by first | exact Or.inl rfl | exact Or.inr (Or.inl rfl) | exact Or.inr (Or.inr rfl))) (se_var (i := 1) rfl (by first | exact Or.inl rfl | exact Or.inr (Or.inl rfl) | exact Or.inr (Or.inr rfl)))) (se_var (i := 0) rfl (by first | exact Or.inl rfl | exact Or.inr (Or.inl rfl) | exact Or.inr (Or.inr rfl)))))))
    (ss_one (ss_ret (se_move (i := 3) rfl (by first | exact Or.inl rfl | exact Or.inr (Or.inl rfl) | exact Or.inr (Or.inr rfl)))))))
theorem def__law_power {w : World} {K : PySem.W.Frag} {mg : Str → Option Value} {base : Heap} (c : Fx w K mg) : Def Pg w K mg base "_law_power" 3 3 [] mf__law_power := by
  obtain ⟨fd, F⟩ := c.d.def_ 33 (d := d__law_power) rfl
  exact ⟨_, fd, ["prime", "number", "exponent"], [], [], fnG_of F sc__law_power (fun cdv A outer s H E hr kx => body__law_power c hr kx), c.glo (i := 23) (x := "_law_power") rfl, F.kp, F.bindsN (fun _ _ _ _ _ _ us hl => match us, hl with | [_, _, _], _ => rfl), .nil, fun _ _ => rfl, rfl, by decide⟩
def bd__law_squared_0 : SF := (sSeq (sSet 3 (eIf (tfV (eOp (gEqA false) (eMod (eVar 5) (eC (.int 2))) (eC (.int 1)))) (eMod (eOp gMulA (eVar 3) (eVar 4)) (eVar 0)) (eVar 3)))
    (sPar 4 5 (aCons (eMod (eOp gMulA (eVar 4) (eVar 4)) (eVar 0)) (aCons (eDiv (eVar 5) (eC (.int 2))) aNil))))
def m__law_squared : SF := (sSeq (sPar3 3 4 5 (aCons (eC (.int 1)) (aCons (eVar 1) (aCons (eVar 2) aNil))))
    (sSeq (sWh (tfV (eOp gGt (eVar 5) (eC (.int 0)))) bd__law_squared_0)
    (sRet (eMove 3))))
def mf__law_squared : CF := mfOf 6 m__law_squared
theorem sc__law_squared : FnScope ["prime", "number", "exponent", "found", "here", "left"] ["prime", "number", "exponent"] (defScope s__law_squared) := ⟨rfl, rfl, rfl, by decide +kernel, rfl, by decide +kernel, by decide +kernel⟩
theorem body__law_squared {w : World} {K : PySem.W.Frag} {mg : Str → Option Value} {base : Heap} {cdv : Value} {A : Around} {outer : List PySem.Env} {s : Shared} {H : Hp} {E : XK} {fA : Addr} (c : Fx w K mg) (hr : Room 2 (A.deeper (envOfC "_law_squared" (defScope s__law_squared) s.heap.objs.size fA cdv)))
    (kx : Kx (cxOf (L2.CX Pg w) Pg w K mg base ["prime", "number", "exponent", "found", "here", "left"] "_law_squared" (defScope s__law_squared) fA cdv A outer s H E) (wE E)) : SSs (cxOf (L2.CX Pg w) Pg w K mg base ["prime", "number", "exponent", "found", "here", "left"] "_law_squared" (defScope s__law_squared) fA cdv A outer s H E) (wE E) (defBody s__law_squared) m__law_squared :=
  (ss_cons (ss_par3 (i := 3) (j := 4) (l := 5) kx rfl rfl rfl (sa_cons se_int (sa_cons (se_var (i := 1) rfl (by first | exact Or.inl rfl | exact Or.inr (Or.inl rfl) | exact Or.inr (Or.inr rfl))) (sa_cons (se_var (i := 2) rfl (by first | exact Or.inl rfl | exact Or.inr (Or.inl rfl) | exact Or.inr (Or.inr rfl))) sa_nil))))
    (ss_cons (ss_while kx (st_gt (se_var (i := 5) rfl (by first | exact Or.inl rfl | exact Or.inr (Or.inl rfl) | exact Or.inr (Or.inr rfl))) se_int) (ss_cons (ss_set (i := 3) kx rfl (by first | exact Or.inl rfl | exact Or.inr rfl) (se_if (st_eq kx.hu64 (se_mod (se_var (i := 5) rfl (by first | exact Or.inl rfl | exact Or.inr (Or.inl rfl) | exact Or.inr (Or.inr rfl))) se_int) se_int) (se_mod (se_mulA (se_var (i := 3) rfl (by first | exact Or.inl rfl | exact Or.inr (Or.inl rfl) | exact Or.inr (Or.inr rfl))) (se_var (i := 4) rfl (by first | exact Or.inl rfl | exact Or.inr (Or.inl rfl) | exact Or.inr (Or.inr rfl)))) (se_var (i := 0) rfl (by first | exact Or.inl rfl | exact Or.inr (Or.inl rfl) | exact Or.inr (Or.inr rfl)))) (se_var (i := 3) rfl (by first | exact Or.inl rfl | exact Or.inr (Or.inl rfl) | exact Or.inr (Or.inr rfl)))))
    (ss_one (ss_par (i := 4) (j := 5) kx rfl rfl (sa_cons (se_mod (se_mulA (se_var (i := 4) rfl (by first | exact Or.inl rfl | exact Or.inr (Or.inl rfl) | exact Or.inr (Or.inr rfl))) (se_var (i := 4) rfl (by first | exact Or.inl rfl | exact Or.inr (Or.inl rfl) | exact Or.inr (Or.inr rfl)))) (se_var (i := 0) rfl (by first | exact Or.inl rfl | exact Or.inr (Or.inl rfl) | exact Or.inr (Or.inr rfl)))) (sa_cons (se_div (se_var (i := 5) rfl (by first | exact Or.inl rfl | exact Or.inr (Or.inl rfl) | exact Or.inr (Or.inr rfl))) se_int) sa_nil))))))
    (ss_one (ss_ret (se_move (i := 3) rfl (by first | exact Or.inl rfl | exact Or.inr (Or.inl rfl) | exact Or.inr (Or.inr rfl)))))))
theorem def__law_squared {w : World} {K : PySem.W.Frag} {mg : Str → Option Value} {base : Heap} (c : Fx w K mg) : Def Pg w K mg base "_law_squared" 3 3 [] mf__law_squared := by
  obtain ⟨fd, F⟩ := c.d.def_ 34 (d := d__law_squared) rfl
  exact ⟨_, fd, ["prime", "number", "exponent"], [], [], fnG_of F sc__law_squared (fun cdv A outer s H E hr kx => body__law_squared c hr kx), c.glo (i := 24) (x := "_law_squared") rfl, F.kp, F.bindsN (fun _ _ _ _ _ _ us hl => match us, hl with | [_, _, _], _ => rfl), .nil, fun _ _ => rfl, rfl, by decide⟩
def ta__law_told : SF := (sAsg (eTup (aCons (eC .non) (aCons (eC .non) aNil))) (gTp 2 (gsCons (gNm 4) (gsCons (gNm 5) gsNil))))
def tc__law_told : SF := (sSeq (sIf (tfV (eUn (gIsN false) (eVar 4))) (sRet (eLst (aCons (eVar 5) aNil))) sNx)
    (sSeq (sSet 2 (eLst (aCons (eTup (aCons (eC (.str "prime")) (aCons (eIsX cs (.own .BadPrime) (eVar 4)) aNil))) (aCons (eTup (aCons (eC (.str "number")) (aCons (eIsX cs (.own .BadNumber) (eVar 4)) aNil))) (aCons (eTup (aCons (eC (.str "remainder")) (aCons (eIsX cs (.own .BadRemainder) (eVar 4)) aNil))) aNil)))))
    (sSeq (sSet 2 (eAdd (eVar 2) (eLst (aCons (eTup (aCons (eC (.str "line")) (aCons (eIsX cs (.own .BadLine) (eVar 4)) aNil))) (aCons (eTup (aCons (eC (.str "table")) (aCons (eIsX cs (.own .BadTable) (eVar 4)) aNil))) (aCons (eTup (aCons (eC (.str "point")) (aCons (eIsX cs (.own .BadPoint) (eVar 4)) aNil))) aNil))))))
    (sSeq (sSet 2 (eAdd (eVar 2) (eLst (aCons (eTup (aCons (eC (.str "claim")) (aCons (eIsX cs (.own .BadClaim) (eVar 4)) aNil))) (aCons (eTup (aCons (eC (.str "talk")) (aCons (eIsX cs (.own .BadTalk) (eVar 4)) aNil))) (aCons (eTup (aCons (eC (.str "name")) (aCons (eIsX cs (.own .NoSuch) (eVar 4)) aNil))) (aCons (eTup (aCons (eC (.str "many")) (aCons (eIsX cs (.own .TooMany) (eVar 4)) aNil))) aNil)))))))
    (sSeq (sSet 3 (eLc (iVal (eVar 2)) (gTp 2 (gsCons (gNm 6) (gsCons (gNm 7) gsNil))) (tfV (eVar 7)) (eVar 6) [6, 7]))
    (sSeq (sIf (tfOr (tfV (eOp (gEqA true) (eCall (g1 gLen) (aCons (eVar 3) aNil)) (eC (.int 1)))) (tfV (eOp (gEqA false) (eIsX cs (.blt "ValueError") (eVar 4)) (eOp (gIn false) (ePk gIx 3 (eC (.int 0))) (eTup (aCons (eC (.str "name")) (aCons (eC (.str "many")) aNil))))))) (sRet (eC (.str "odd"))) sNx)
    (sSeq (sIf (tfV (eOp (gEqA false) (ePk gIx 3 (eC (.int 0))) (eC (.str "many")))) (sRet (eTup (aCons (eC (.str "many")) (aCons (eFld cs "most" (eVar 4)) aNil)))) sNx)
    (sRet (eTup (aCons (ePk gIx 3 (eC (.int 0))) (aCons (eIf (tfV (eOp (gIn false) (ePk gIx 3 (eC (.int 0))) (eTup (aCons (eC (.str "prime")) (aCons (eC (.str "number")) (aCons (eC (.str "remainder")) (aCons (eC (.str "name")) aNil))))))) (eFld cs "value" (eVar 4)) (eFld cs "place" (eVar 4))) aNil)))))))))))
noncomputable def m__law_told (dd : Sl) (o : RO) : SF := (sSeq ta__law_told (sSeq (sTry cs 1 (sSet 5 (eAct 0 dd o)) (sSet 4 (eVar 1))) tc__law_told))
noncomputable def mf__law_told (dd : Sl) (o : RO) : CF := mfOf 8 (m__law_told dd o)
/-- what _law_told makes of the call's end -/
def tr__law_told : RO → RO
  | .ok (.dat d) _ => .ok (.ol [d]) none
  | .ok (.ol ds) _ => .ok (.ol [.lst ds]) none
  | .exc (.exc c _ d) _ => match c with
    | .BadPrime => .ok (.dat (.tup [.str "prime", d])) none
    | .BadNumber => .ok (.dat (.tup [.str "number", d])) none
    | .BadRemainder => .ok (.dat (.tup [.str "remainder", d])) none
    | .BadLine => .ok (.dat (.tup [.str "line", d])) none
    | .BadTable => .ok (.dat (.tup [.str "table", d])) none
    | .BadPoint => .ok (.dat (.tup [.str "point", d])) none
    | .BadClaim => .ok (.dat (.tup [.str "claim", d])) none
    | .BadTalk => .ok (.dat (.tup [.str "talk", d])) none
    | .NoSuch => .ok (.dat (.tup [.str "name", d])) none
    | .TooMany => .ok (.dat (.tup [.str "many", d])) none
    | _ => .bad
  | _ => .bad
section
variable (f c : Addr) (q : Str) (cap : List (Nat × D × V))
abbrev tE1 : VL.Env := [.cl f c q cap, .no, .no, .no, .dat .non, .dat .non, .no, .no]
theorem ta_told : ta__law_told [.cl f c q cap, .no, .no, .no, .no, .no, .no, .no] = .nx (tE1 f c q cap) := by kernel_rfl
theorem tc_told (d : D) : mfOf 8 tc__law_told [.cl f c q cap, .no, .no, .no, .dat .non, .dat d, .no, .no] = .ok (.ol [d]) none := by kernel_rfl
theorem tc_toldL (ds : List D) : mfOf 8 tc__law_told [.cl f c q cap, .no, .no, .no, .dat .non, .ol ds, .no, .no] = .ok (.ol [.lst ds]) none := by kernel_rfl
theorem tc_toldX (x : Cl) (b : Bool) (d : D) : tr__law_told (.exc (.exc x b d) none) = .bad ∨ mfOf 8 tc__law_told [.cl f c q cap, .no, .no, .no, .dat (.exc x false d), .dat .non, .no, .no] = tr__law_told (.exc (.exc x b d) none) := by
  cases x <;> first
    | exact .inl rfl
    | exact .inr (by kernel_rfl)
theorem tr__law_told_ok (f c : Addr) (q : Str) (cap : List (Nat × D × V)) (o : RO) : tr__law_told o = .bad ∨ mfOf 8 (m__law_told (.cl f c q cap) o) [.cl f c q cap] = tr__law_told o := by
  have key : ∀ {E : VL.Env} {r : RO}, sTry cs 1 (sSet 5 (eAct 0 (.cl f c q cap) o)) (sSet 4 (eVar 1)) (tE1 f c q cap) = .nx E → mfOf 8 tc__law_told E = r → E.length = 8 → mfOf 8 (m__law_told (.cl f c q cap) o) [.cl f c q cap] = r := by
    intro E r h1 h2 h3
    unfold mfOf at h2 ⊢
    have e : m__law_told (.cl f c q cap) o ([.cl f c q cap] ++ List.replicate (8 - 1) .no) = tc__law_told E := by
      refine Ev.seq_nx (ta_told f c q cap) ?_
      exact Ev.seq_nx h1 rfl
    rw [show [Sl.cl f c q cap].length = 1 from rfl, e]
    rw [h3, Nat.sub_self, List.replicate_zero, List.append_nil] at h2
    exact h2
  have act : ∀ o, eAct 0 (.cl f c q cap) o (tE1 f c q cap) = roE (tE1 f c q cap) (roRet o) := fun o => eAct_eq rfl
  cases o with
  | bad => exact .inl rfl
  | ok r l =>
    cases r with
    | dat d =>
      refine .inr (key (E := [.cl f c q cap, .no, .no, .no, .dat .non, .dat d, .no, .no]) ?_ (tc_told f c q cap d) rfl)
      unfold sTry sSet
      rw [act]
      rfl
    | ol ds =>
      refine .inr (key (E := [.cl f c q cap, .no, .no, .no, .dat .non, .ol ds, .no, .no]) ?_ (tc_toldL f c q cap ds) rfl)
      unfold sTry sSet
      rw [act]
      rfl
    | _ => exact .inl rfl
  | exc x l =>
    cases x with
    | exc x b d =>
      rcases tc_toldX f c q cap x b d with h | h
      · exact .inl h
      · by_cases hc : cs.contains x = true
        · refine .inr (key (E := [.cl f c q cap, .no, .no, .no, .dat (.exc x false d), .dat .non, .no, .no]) ?_ h rfl)
          unfold sTry sSet
          rw [act]
          show (if cs.contains x = true then tryEnd 1 _ else FL.bad) = _
          rw [if_pos hc]
          rfl
        · left
          cases x <;> first
            | rfl
            | exact absurd (by decide) hc
    | _ => exact .inl rfl
end

theorem sc__law_told : FnScope ["deed", "error", "kinds", "words", "e", "found", "word", "is_so"] ["deed"] (defScope s__law_told) := ⟨rfl, rfl, rfl, by decide +kernel, rfl, by decide +kernel, by decide +kernel⟩
theorem body__law_told {w : World} {K : PySem.W.Frag} {mg : Str → Option Value} {base : Heap} {cdv : Value} {A : Around} {outer : List PySem.Env} {s : Shared} {H : Hp} {E : XK} {fA : Addr} (c : Fx w K mg) (hr : Room 2 (A.deeper (envOfC "_law_told" (defScope s__law_told) s.heap.objs.size fA cdv)))
    (kx : Kx (cxOf (L2.CX Pg w) Pg w K mg base ["deed", "error", "kinds", "words", "e", "found", "word", "is_so"] "_law_told" (defScope s__law_told) fA cdv A outer s H E) (wE E)) {dd : Sl} {o : RO} (act : ActP (cxOf (L2.CX Pg w) Pg w K mg base ["deed", "error", "kinds", "words", "e", "found", "word", "is_so"] "_law_told" (defScope s__law_told) fA cdv A outer s H E) "deed" dd o) : SSs (cxOf (L2.CX Pg w) Pg w K mg base ["deed", "error", "kinds", "words", "e", "found", "word", "is_so"] "_law_told" (defScope s__law_told) fA cdv A outer s H E) (wE E) (defBody s__law_told) (m__law_told dd o) :=
  (ss_cons (ss_asg kx (se_tup (sa_cons se_non (sa_cons se_non sa_nil))) (sg_tup kx.hc (sgs_cons (sg_name kx.nd (i := 4) rfl (by first | exact Or.inl rfl | exact Or.inr rfl)) (sgs_cons (sg_name kx.nd (i := 5) rfl (by first | exact Or.inl rfl | exact Or.inr rfl)) sgs_nil))))
    (ss_cons (ss_try (i := 1) rfl rfl rfl kx rfl rfl (by rfl) (c.glo (i := 30) (x := "RunError") rfl) (by rfl) (c.glo (i := 40) (x := "NoSuch") rfl) (by rfl) (c.glo (i := 39) (x := "TooMany") rfl) (exmB_ok c.e_2 (fun c => by cases c <;> rfl)) (fun _ _ _ kx => (ss_one (ss_set (i := 5) kx rfl (by first | exact Or.inl rfl | exact Or.inr rfl) (act _ _ _ kx _ _)))) (fun _ _ => ss_one (ss_setP (j := 4) kx.nd rfl (by first | exact Or.inl rfl | exact Or.inr rfl) (se_var (i := 1) rfl (by first | exact Or.inl rfl | exact Or.inr (Or.inl rfl) | exact Or.inr (Or.inr rfl))))))
    (ss_cons (ss_if (st_isN (se_var (i := 4) rfl (by first | exact Or.inl rfl | exact Or.inr (Or.inl rfl) | exact Or.inr (Or.inr rfl)))) (ss_one (ss_ret (se_lst (sa_cons (se_var (i := 5) rfl (by first | exact Or.inl rfl | exact Or.inr (Or.inl rfl) | exact Or.inr (Or.inr rfl))) sa_nil)))) ss_nil)
    (ss_cons (ss_set (i := 2) kx rfl (by first | exact Or.inl rfl | exact Or.inr rfl) (se_lst (sa_cons (se_tup (sa_cons se_str (sa_cons (se_isX (t := (.own .BadPrime)) c.xs (c.tg (by decide)) (by rfl) (c.free (i := 48) (x := "isinstance") rfl) (pe_glob (by rfl) (c.glo (i := 31) (x := "BadPrime") rfl) rfl) (se_var (i := 4) rfl (by first | exact Or.inl rfl | exact Or.inr (Or.inl rfl) | exact Or.inr (Or.inr rfl)))) sa_nil))) (sa_cons (se_tup (sa_cons se_str (sa_cons (se_isX (t := (.own .BadNumber)) c.xs (c.tg (by decide)) (by rfl) (c.free (i := 48) (x := "isinstance") rfl) (pe_glob (by rfl) (c.glo (i := 32) (x := "BadNumber") rfl) rfl) (se_var (i := 4) rfl (by first | exact Or.inl rfl | exact Or.inr (Or.inl rfl) | exact Or.inr (Or.inr rfl)))) sa_nil))) (sa_cons (se_tup (sa_cons se_str (sa_cons (se_isX (t := (.own .BadRemainder)) c.xs (c.tg (by decide)) (by rfl) (c.free (i := 48) (x := "isinstance") rfl) (pe_glob (by rfl) (c.glo (i := 33) (x := "BadRemainder") rfl) rfl) (se_var (i := 4) rfl (by first | exact Or.inl rfl | exact Or.inr (Or.inl rfl) | exact Or.inr (Or.inr rfl)))) sa_nil))) sa_nil)))))
    (ss_cons (ss_set (i := 2) kx rfl (by first | exact Or.inl rfl | exact Or.inr rfl) (se_add (se_var (i := 2) rfl (by first | exact Or.inl rfl | exact Or.inr (Or.inl rfl) | exact Or.inr (Or.inr rfl))) (se_lst (sa_cons (se_tup (sa_cons se_str (sa_cons (se_isX (t := (.own .BadLine)) c.xs (c.tg (by decide)) (by rfl) (c.free (i := 48) (x := "isinstance") rfl) (pe_glob (by rfl) (c.glo (i := 35) (x := "BadLine") rfl) rfl) (se_var (i := 4) rfl (by first | exact Or.inl rfl | exact Or.inr (Or.inl rfl) | exact Or.inr (Or.inr rfl)))) sa_nil))) (sa_cons (se_tup (sa_cons se_str (sa_cons (se_isX (t := (.own .BadTable)) c.xs (c.tg (by decide)) (by rfl) (c.free (i := 48) (x := "isinstance") rfl) (pe_glob (by rfl) (c.glo (i := 36) (x := "BadTable") rfl) rfl) (se_var (i := 4) rfl (by first | exact Or.inl rfl | exact Or.inr (Or.inl rfl) | exact Or.inr (Or.inr rfl)))) sa_nil))) (sa_cons (se_tup (sa_cons se_str (sa_cons (se_isX (t := (.own .BadPoint)) c.xs (c.tg (by decide)) (by rfl) (c.free (i := 48) (x := "isinstance") rfl) (pe_glob (by rfl) (c.glo (i := 34) (x := "BadPoint") rfl) rfl) (se_var (i := 4) rfl (by first | exact Or.inl rfl | exact Or.inr (Or.inl rfl) | exact Or.inr (Or.inr rfl)))) sa_nil))) sa_nil))))))
    (ss_cons (ss_set (i := 2) kx rfl (by first | exact Or.inl rfl | exact Or.inr rfl) (se_add (se_var (i := 2) rfl (by first | exact Or.inl rfl | exact Or.inr (Or.inl rfl) | exact Or.inr (Or.inr rfl))) (se_lst (sa_cons (se_tup (sa_cons se_str (sa_cons (se_isX (t := (.own .BadClaim)) c.xs (c.tg (by decide)) (by rfl) (c.free (i := 48) (x := "isinstance") rfl) (pe_glob (by rfl) (c.glo (i := 37) (x := "BadClaim") rfl) rfl) (se_var (i := 4) rfl (by first | exact Or.inl rfl | exact Or.inr (Or.inl rfl) | exact Or.inr (Or.inr rfl)))) sa_nil))) (sa_cons (se_tup (sa_cons se_str (sa_cons (se_isX (t := (.own .BadTalk)) c.xs (c.tg (by decide)) (by rfl) (c.free (i := 48) (x := "isinstance") rfl) (pe_glob (by rfl) (c.glo (i := 38) (x := "BadTalk") rfl) rfl) (se_var (i := 4) rfl (by first | exact Or.inl rfl | exact Or.inr (Or.inl rfl) | exact Or.inr (Or.inr rfl)))) sa_nil))) (sa_cons (se_tup (sa_cons se_str (sa_cons (se_isX (t := (.own .NoSuch)) c.xs (c.tg (by decide)) (by rfl) (c.free (i := 48) (x := "isinstance") rfl) (pe_glob (by rfl) (c.glo (i := 40) (x := "NoSuch") rfl) rfl) (se_var (i := 4) rfl (by first | exact Or.inl rfl | exact Or.inr (Or.inl rfl) | exact Or.inr (Or.inr rfl)))) sa_nil))) (sa_cons (se_tup (sa_cons se_str (sa_cons (se_isX (t := (.own .TooMany)) c.xs (c.tg (by decide)) (by rfl) (c.free (i := 48) (x := "isinstance") rfl) (pe_glob (by rfl) (c.glo (i := 39) (x := "TooMany") rfl) rfl) (se_var (i := 4) rfl (by first | exact Or.inl rfl | exact Or.inr (Or.inl rfl) | exact Or.inr (Or.inr rfl)))) sa_nil))) sa_nil)))))))
    (ss_cons (ss_setLc (i := 3) kx rfl (si_val (se_var (i := 2) rfl (by first | exact Or.inl rfl | exact Or.inr (Or.inl rfl) | exact Or.inr (Or.inr rfl)))) (fun _ _ _ _ _ => (sg_tup kx.blk.hc (sgs_cons (sg_name kx.blk.nd (i := 6) rfl (by first | exact Or.inl rfl | exact Or.inr rfl)) (sgs_cons (sg_name kx.blk.nd (i := 7) rfl (by first | exact Or.inl rfl | exact Or.inr rfl)) sgs_nil)))) (fun _ _ _ _ _ => (sp_one (st_val (se_var (i := 7) rfl (by first | exact Or.inl rfl | exact Or.inr (Or.inl rfl) | exact Or.inr (Or.inr rfl)))))) (fun _ _ _ _ _ => (se_var (i := 6) rfl (by first | exact Or.inl rfl | exact Or.inr (Or.inl rfl) | exact Or.inr (Or.inr rfl)))) (blkOk_by (own := [("word", 6), ("is_so", 7)]) (by first | rfl | kernel_rfl)))
    (ss_cons (ss_if (SW.st (sw_or (st_ne kx.hu64 (se_lenF kx (by rfl) (c.free (i := 49) (x := "len") rfl) (sa_cons (se_var (i := 3) rfl (by first | exact Or.inl rfl | exact Or.inr (Or.inl rfl) | exact Or.inr (Or.inr rfl))) sa_nil)) se_int) (sw_or1 (st_eq kx.hu64 (se_isX (t := (.blt "ValueError")) c.xs (c.tg (by decide)) (by rfl) (c.free (i := 48) (x := "isinstance") rfl) (pe_bltn (by rfl) (c.free (i := 43) (x := "ValueError") rfl) (by decide +kernel) rfl) (se_var (i := 4) rfl (by first | exact Or.inl rfl | exact Or.inr (Or.inl rfl) | exact Or.inr (Or.inr rfl)))) (se_in (se_ixN (i := 3) rfl (by first | exact Or.inl rfl | exact Or.inr (Or.inl rfl) | exact Or.inr (Or.inr rfl)) se_int) (se_tup (sa_cons se_str (sa_cons se_str sa_nil))) rfl))))) (ss_one (ss_ret se_str)) ss_nil)
    (ss_cons (ss_if (st_eq kx.hu64 (se_ixN (i := 3) rfl (by first | exact Or.inl rfl | exact Or.inr (Or.inl rfl) | exact Or.inr (Or.inr rfl)) se_int) se_str) (ss_one (ss_ret (se_tup (sa_cons se_str (sa_cons (se_fld c.xs (se_var (i := 4) rfl (by first | exact Or.inl rfl | exact Or.inr (Or.inl rfl) | exact Or.inr (Or.inr rfl)))) sa_nil))))) ss_nil)
    (ss_one (ss_ret (se_tup (sa_cons (se_ixN (i := 3) rfl (by first | exact Or.inl rfl | exact Or.inr (Or.inl rfl) | exact Or.inr (Or.inr rfl)) se_int) (sa_cons (se_if (st_in (se_ixN (i := 3) rfl (by first | exact Or.inl rfl | exact Or.inr (Or.inl rfl) | exact Or.inr (Or.inr rfl)) se_int) (se_tup (sa_cons se_str (sa_cons se_str (sa_cons se_str (sa_cons se_str sa_nil))))) rfl) (se_fld c.xs (se_var (i := 4) rfl (by first | exact Or.inl rfl | exact Or.inr (Or.inl rfl) | exact Or.inr (Or.inr rfl)))) (se_fld c.xs (se_var (i := 4) rfl (by first | exact Or.inl rfl | exact Or.inr (Or.inl rfl) | exact Or.inr (Or.inr rfl))))) sa_nil))))))))))))))
theorem told__law_told {w : World} {K : PySem.W.Frag} {mg : Str → Option Value} {base : Heap} (c : Fx w K mg) : ToldD Pg w K mg base "_law_told" 2 tr__law_told := by
  obtain ⟨fd, F⟩ := c.d.def_ 31 (d := d__law_told) rfl
  exact ⟨_, fd, ["deed", "error", "kinds", "words", "e", "found", "word", "is_so"], "deed", "_law_told", _, _, _, F, sc__law_told, rfl, (by first | exact Or.inl rfl | exact Or.inr (Or.inl rfl) | exact Or.inr (Or.inr rfl)), by decide, by decide, c.glo (i := 21) (x := "_law_told") rfl, F.bindsN (fun _ _ _ _ _ _ us hl => match us, hl with | [_], _ => rfl), by decide,
    fun cdv A outer s H E f a q cap o hr kx act => ⟨m__law_told _ o, body__law_told c hr kx act, tr__law_told_ok _ _ _ _ _⟩⟩
def bd_root_of_0 : SF := (sIf (tfV (eOp (gEqA false) (eMod (eOp gMulA (eVar 2) (eVar 2)) (eVar 0)) (eVar 1))) (sRet (eMove 2)) sNx)
def m_root_of : SF := (sSeq (sExpr (eFn 2 [] mf_need_remainder (aCons (eVar 0) (aCons (eVar 1) aNil))))
    (sSeq (sFor (iRg1 (aCons (eAdd (eDiv (eVar 0) (eC (.int 2))) (eC (.int 1))) aNil)) (gNm 2) bd_root_of_0)
    (sRaise .NoSuch (eC (.str "root")))))
def mf_root_of : CF := mfOf 3 m_root_of
theorem sc_root_of : FnScope ["prime", "number", "root"] ["prime", "number"] (defScope s_root_of) := ⟨rfl, rfl, rfl, by decide +kernel, rfl, by decide +kernel, by decide +kernel⟩
theorem body_root_of {w : World} {K : PySem.W.Frag} {mg : Str → Option Value} {base : Heap} {cdv : Value} {A : Around} {outer : List PySem.Env} {s : Shared} {H : Hp} {E : XK} {fA : Addr} (c : Fx w K mg) (hr : Room 6 (A.deeper (envOfC "root_of" (defScope s_root_of) s.heap.objs.size fA cdv)))
    (kx : Kx (cxOf (L2.CX Pg w) Pg w K mg base ["prime", "number", "root"] "root_of" (defScope s_root_of) fA cdv A outer s H E) (wE E)) : SSs (cxOf (L2.CX Pg w) Pg w K mg base ["prime", "number", "root"] "root_of" (defScope s_root_of) fA cdv A outer s H E) (wE E) (defBody s_root_of) m_root_of :=
  (ss_cons (ss_expr (se_fn (Def.fn (def_need_remainder c) hr (by decide) (by rfl)) kx (sa_cons (se_var (i := 0) rfl (by first | exact Or.inl rfl | exact Or.inr (Or.inl rfl) | exact Or.inr (Or.inr rfl))) (sa_cons (se_var (i := 1) rfl (by first | exact Or.inl rfl | exact Or.inr (Or.inl rfl) | exact Or.inr (Or.inr rfl))) sa_nil))))
    (ss_cons (ss_for kx (si_range1 (sa_cons (se_add (se_div (se_var (i := 0) rfl (by first | exact Or.inl rfl | exact Or.inr (Or.inl rfl) | exact Or.inr (Or.inr rfl))) se_int) se_int) sa_nil) (by rfl) (c.free (i := 52) (x := "range") rfl)) (sg_name kx.nd (i := 2) rfl (by first | exact Or.inl rfl | exact Or.inr rfl)) (ss_one (ss_if (st_eq kx.hu64 (se_mod (se_mulA (se_var (i := 2) rfl (by first | exact Or.inl rfl | exact Or.inr (Or.inl rfl) | exact Or.inr (Or.inr rfl))) (se_var (i := 2) rfl (by first | exact Or.inl rfl | exact Or.inr (Or.inl rfl) | exact Or.inr (Or.inr rfl)))) (se_var (i := 0) rfl (by first | exact Or.inl rfl | exact Or.inr (Or.inl rfl) | exact Or.inr (Or.inr rfl)))) (se_var (i := 1) rfl (by first | exact Or.inl rfl | exact Or.inr (Or.inl rfl) | exact Or.inr (Or.inr rfl)))) (ss_one (ss_ret (se_move (i := 2) rfl (by first | exact Or.inl rfl | exact Or.inr (Or.inl rfl) | exact Or.inr (Or.inr rfl))))) ss_nil)))
    (ss_one (ss_raise kx (Mk.at (mk_NoSuch c) (c.cl (e := .NoSuch) (by decide)) hr (by decide) (by rfl)) (c.cl (e := .NoSuch) (by decide)) (c.cl (e := .NoSuch) (by decide)).ty se_str))))
theorem def_root_of {w : World} {K : PySem.W.Frag} {mg : Str → Option Value} {base : Heap} (c : Fx w K mg) : Def Pg w K mg base "root_of" 7 2 [] mf_root_of := by
  obtain ⟨fd, F⟩ := c.d.def_ 27 (d := d_root_of) rfl
  exact ⟨_, fd, ["prime", "number"], [], [], fnG_of F sc_root_of (fun cdv A outer s H E hr kx => body_root_of c hr kx), c.glo (i := 17) (x := "root_of") rfl, F.kp, F.bindsN (fun _ _ _ _ _ _ us hl => match us, hl with | [_, _], _ => rfl), .nil, fun _ _ => rfl, rfl, by decide⟩
theorem defK_root_of__number_prime {w : World} {K : PySem.W.Frag} {mg : Str → Option Value} {base : Heap} (c : Fx w K mg) : DefK Pg w K mg base "root_of" 7 ["number", "prime"] [1, 0] mf_root_of := by
  obtain ⟨fd, F⟩ := c.d.def_ 27 (d := d_root_of) rfl
  exact ⟨_, fd, ["prime", "number"], fnG_of F sc_root_of (fun cdv A outer s H E hr kx => body_root_of c hr kx), c.glo (i := 17) (x := "root_of") rfl, F.kp, F.kbs (fun _ _ _ _ _ _ ws hl => match ws, hl with | [_, _], _ => rfl), rfl, by decide, by decide⟩
def m__law_single_right : SF := (sSeq (sAsg (eTup (aCons (eAdd (eC (.int 1)) (eFnD 0 2 [] mf__law_digit (aCons (eSub (eVar 1) (eC (.int 1))) aNil))) (aCons (eFnD 0 2 [] mf__law_digit (aCons (eVar 1) aNil)) (aCons (eFnD 0 2 [] mf__law_digit (aCons (eC (.int 200)) aNil)) aNil)))) (gTp 3 (gsCons (gNm 6) (gsCons (gNm 7) (gsCons (gNm 8) gsNil)))))
    (sSeq (sPar 9 10 (aCons (eFnK 2 [1, 0] mf_inverse_of (aCons (eVar 6) (aCons (eVar 1) aNil))) (aCons (eFnK 2 [1, 0] mf_order_of (aCons (eVar 6) (aCons (eVar 1) aNil))) aNil)))
    (sSeq (sIf (tfOr (tfV (eOp (gEqA true) (eCall (g1 gRepr) (aCons (eVar 9) aNil)) (eCall (g1 gRepr) (aCons (eCall (g1 gInt) (aCons (eMod (eVar 9) (eVar 1)) aNil)) aNil)))) (tfOr (tfV (eOp (gEqA true) (eMod (eOp gMulA (eVar 6) (eVar 9)) (eVar 1)) (eC (.int 1)))) (tfV (eOp (gEqA true) (eCall (g1 gRepr) (aCons (eVar 10) aNil)) (eCall (g1 gRepr) (aCons (eFn 2 [] mf__law_order (aCons (eVar 1) (aCons (eVar 6) aNil))) aNil)))))) (sRet (eC (.bl false))) sNx)
    (sSeq (sSet 2 (eFnK 3 [2, 1, 0] mf_quotient_of (aCons (eVar 6) (aCons (eVar 7) (aCons (eVar 1) aNil)))))
    (sSeq (sIf (tfOr (tfV (eOp (gEqA true) (eCall (g1 gRepr) (aCons (eVar 2) aNil)) (eCall (g1 gRepr) (aCons (eMod (eOp gMulA (eVar 7) (eVar 9)) (eVar 1)) aNil)))) (tfV (eUn (gIsN true) (eFnK 2 [1, 0] mf_need_remainder (aCons (eVar 7) (aCons (eVar 1) aNil)))))) (sRet (eC (.bl false))) sNx)
    (sSeq (sIf (tfV (eOp (gEqA true) (eCall (g1 gRepr) (aCons (eFnK 3 [2, 1, 0] mf_power_of (aCons (eVar 8) (aCons (eVar 7) (aCons (eVar 1) aNil)))) aNil)) (eCall (g1 gRepr) (aCons (eFn 3 [] mf__law_power (aCons (eVar 1) (aCons (eVar 7) (aCons (eVar 8) aNil)))) aNil)))) (sRet (eC (.bl false))) sNx)
    (sSeq (sSet 3 (eAdd (eC (.int 999000)) (eVar 8)))
    (sSeq (sIf (tfV (eOp (gEqA true) (eCall (g1 gRepr) (aCons (eFn 3 [] mf_power_of (aCons (eVar 1) (aCons (eVar 7) (aCons (eVar 3) aNil)))) aNil)) (eCall (g1 gRepr) (aCons (eFn 3 [] mf__law_squared (aCons (eVar 1) (aCons (eVar 7) (aCons (eVar 3) aNil)))) aNil)))) (sRet (eC (.bl false))) sNx)
    (sSeq (sSet 4 (eLc (iRg1 (aCons (eCall (g2 gMin2) (aCons (eAdd (eDiv (eVar 1) (eC (.int 2))) (eC (.int 1))) (aCons (eC (.int 4000)) aNil))) aNil)) (gNm 11) (tfV (eOp (gEqA false) (eMod (eOp gMulA (eVar 11) (eVar 11)) (eVar 1)) (eVar 7))) (eVar 11) [11]))
    (sSeq (sSet 5 (eLam tr__law_told [1, 7] (eFnK 2 [1, 0] mf_root_of (aCons (eVar 7) (aCons (eVar 1) aNil)))))
    (sSeq (sIf (tfV (eOp gLt (eVar 1) (eC (.int 7999)))) (sRet (eOp (gEqA false) (eCall (g1 gRepr) (aCons (eVar 5) aNil)) (eCall (g1 gRepr) (aCons (eIf (tfV (eOp (gEqA true) (eVar 4) (eLst aNil))) (eCut (eVar 4) oNone (oSome (eC (.int 1)))) (eTup (aCons (eC (.str "name")) (aCons (eC (.str "root")) aNil)))) aNil)))) sNx)
    (sSeq (sIf (tfNot (tfV (eIsi .list (eVar 5)))) (sRet (eAnd (eOp (gEqA false) (eVar 5) (eTup (aCons (eC (.str "name")) (aCons (eC (.str "root")) aNil)))) (eOp (gEqA false) (eFn 3 [] mf__law_squared (aCons (eVar 1) (aCons (eVar 7) (aCons (eDiv (eVar 1) (eC (.int 2))) aNil)))) (eSub (eVar 1) (eC (.int 1)))))) sNx)
    (sRet (eAnd (eOp gLe (ePk gIx 5 (eC (.int 0))) (eDiv (eVar 1) (eC (.int 2)))) (eOp (gEqA false) (eMod (eOp gMulA (ePk gIx 5 (eC (.int 0))) (ePk gIx 5 (eC (.int 0)))) (eVar 1)) (eVar 7))))))))))))))))
def mf__law_single_right : CF := mfOf 12 m__law_single_right
theorem sc__law_single_right : FnScope ["state", "prime", "share", "great", "roots", "told", "one", "other", "exponent", "inverse", "order", "root"] ["state", "prime"] (defScope s__law_single_right) := ⟨rfl, rfl, rfl, by decide +kernel, rfl, by decide +kernel, by decide +kernel⟩
theorem body__law_single_right {w : World} {K : PySem.W.Frag} {mg : Str → Option Value} {base : Heap} {cdv : Value} {A : Around} {outer : List PySem.Env} {s : Shared} {H : Hp} {E : XK} {fA : Addr} (c : Fx w K mg) (hr : Room 9 (A.deeper (envOfC "_law_single_right" (defScope s__law_single_right) s.heap.objs.size fA cdv)))
    (kx : Kx (cxOf (L2.CX Pg w) Pg w K mg base ["state", "prime", "share", "great", "roots", "told", "one", "other", "exponent", "inverse", "order", "root"] "_law_single_right" (defScope s__law_single_right) fA cdv A outer s H E) (wE E)) (Ld : LamD (cxOf (L2.CX Pg w) Pg w K mg base ["state", "prime", "share", "great", "roots", "told", "one", "other", "exponent", "inverse", "order", "root"] "_law_single_right" (defScope s__law_single_right) fA cdv A outer s H E)) : SSs (cxOf (L2.CX Pg w) Pg w K mg base ["state", "prime", "share", "great", "roots", "told", "one", "other", "exponent", "inverse", "order", "root"] "_law_single_right" (defScope s__law_single_right) fA cdv A outer s H E) (wE E) (defBody s__law_single_right) m__law_single_right :=
  (ss_cons (ss_asg kx (se_tup (sa_cons (se_add se_int (se_fnD (i := 0) (Def.fn (def__law_digit c) hr (by decide) (by rfl)) kx rfl (by first | exact Or.inl rfl | exact Or.inr (Or.inl rfl) | exact Or.inr (Or.inr rfl)) (sa_cons (se_sub (se_var (i := 1) rfl (by first | exact Or.inl rfl | exact Or.inr (Or.inl rfl) | exact Or.inr (Or.inr rfl))) se_int) sa_nil))) (sa_cons (se_fnD (i := 0) (Def.fn (def__law_digit c) hr (by decide) (by rfl)) kx rfl (by first | exact Or.inl rfl | exact Or.inr (Or.inl rfl) | exact Or.inr (Or.inr rfl)) (sa_cons (se_var (i := 1) rfl (by first | exact Or.inl rfl | exact Or.inr (Or.inl rfl) | exact Or.inr (Or.inr rfl))) sa_nil)) (sa_cons (se_fnD (i := 0) (Def.fn (def__law_digit c) hr (by decide) (by rfl)) kx rfl (by first | exact Or.inl rfl | exact Or.inr (Or.inl rfl) | exact Or.inr (Or.inr rfl)) (sa_cons se_int sa_nil)) sa_nil)))) (sg_tup kx.hc (sgs_cons (sg_name kx.nd (i := 6) rfl (by first | exact Or.inl rfl | exact Or.inr rfl)) (sgs_cons (sg_name kx.nd (i := 7) rfl (by first | exact Or.inl rfl | exact Or.inr rfl)) (sgs_cons (sg_name kx.nd (i := 8) rfl (by first | exact Or.inl rfl | exact Or.inr rfl)) sgs_nil)))))
    (ss_cons (ss_par (i := 9) (j := 10) kx rfl rfl (sa_cons (se_fnK (DefK.fn (defK_inverse_of__number_prime c) hr (by decide) (by rfl)) kx (sk_cons (se_var (i := 6) rfl (by first | exact Or.inl rfl | exact Or.inr (Or.inl rfl) | exact Or.inr (Or.inr rfl))) (sk_cons (se_var (i := 1) rfl (by first | exact Or.inl rfl | exact Or.inr (Or.inl rfl) | exact Or.inr (Or.inr rfl))) sk_nil))) (sa_cons (se_fnK (DefK.fn (defK_order_of__number_prime c) hr (by decide) (by rfl)) kx (sk_cons (se_var (i := 6) rfl (by first | exact Or.inl rfl | exact Or.inr (Or.inl rfl) | exact Or.inr (Or.inr rfl))) (sk_cons (se_var (i := 1) rfl (by first | exact Or.inl rfl | exact Or.inr (Or.inl rfl) | exact Or.inr (Or.inr rfl))) sk_nil))) sa_nil)))
    (ss_cons (ss_if (SW.st (sw_or (st_ne kx.hu64 (se_reprF kx (by rfl) (c.free (i := 53) (x := "repr") rfl) (sa_cons (se_var (i := 9) rfl (by first | exact Or.inl rfl | exact Or.inr (Or.inl rfl) | exact Or.inr (Or.inr rfl))) sa_nil)) (se_reprF kx (by rfl) (c.free (i := 53) (x := "repr") rfl) (sa_cons (se_intF kx (by rfl) (c.free (i := 47) (x := "int") rfl) (sa_cons (se_mod (se_var (i := 9) rfl (by first | exact Or.inl rfl | exact Or.inr (Or.inl rfl) | exact Or.inr (Or.inr rfl))) (se_var (i := 1) rfl (by first | exact Or.inl rfl | exact Or.inr (Or.inl rfl) | exact Or.inr (Or.inr rfl)))) sa_nil)) sa_nil))) (sw_or (st_ne kx.hu64 (se_mod (se_mulA (se_var (i := 6) rfl (by first | exact Or.inl rfl | exact Or.inr (Or.inl rfl) | exact Or.inr (Or.inr rfl))) (se_var (i := 9) rfl (by first | exact Or.inl rfl | exact Or.inr (Or.inl rfl) | exact Or.inr (Or.inr rfl)))) (se_var (i := 1) rfl (by first | exact Or.inl rfl | exact Or.inr (Or.inl rfl) | exact Or.inr (Or.inr rfl)))) se_int) (sw_or1 (st_ne kx.hu64 (se_reprF kx (by rfl) (c.free (i := 53) (x := "repr") rfl) (sa_cons (se_var (i := 10) rfl (by first | exact Or.inl rfl | exact Or.inr (Or.inl rfl) | exact Or.inr (Or.inr rfl))) sa_nil)) (se_reprF kx (by rfl) (c.free (i := 53) (x := "repr") rfl) (sa_cons (se_fn (Def.fn (def__law_order c) hr (by decide) (by rfl)) kx (sa_cons (se_var (i := 1) rfl (by first | exact Or.inl rfl | exact Or.inr (Or.inl rfl) | exact Or.inr (Or.inr rfl))) (sa_cons (se_var (i := 6) rfl (by first | exact Or.inl rfl | exact Or.inr (Or.inl rfl) | exact Or.inr (Or.inr rfl))) sa_nil))) sa_nil))))))) (ss_one (ss_ret se_bl)) ss_nil)
    (ss_cons (ss_set (i := 2) kx rfl (by first | exact Or.inl rfl | exact Or.inr rfl) (se_fnK (DefK.fn (defK_quotient_of__other_one_prime c) hr (by decide) (by rfl)) kx (sk_cons (se_var (i := 6) rfl (by first | exact Or.inl rfl | exact Or.inr (Or.inl rfl) | exact Or.inr (Or.inr rfl))) (sk_cons (se_var (i := 7) rfl (by first | exact Or.inl rfl | exact Or.inr (Or.inl rfl) | exact Or.inr (Or.inr rfl))) (sk_cons (se_var (i := 1) rfl (by first | exact Or.inl rfl | exact Or.inr (Or.inl rfl) | exact Or.inr (Or.inr rfl))) sk_nil)))))
    (ss_cons (ss_if (SW.st (sw_or (st_ne kx.hu64 (se_reprF kx (by rfl) (c.free (i := 53) (x := "repr") rfl) (sa_cons (se_var (i := 2) rfl (by first | exact Or.inl rfl | exact Or.inr (Or.inl rfl) | exact Or.inr (Or.inr rfl))) sa_nil)) (se_reprF kx (by rfl) (c.free (i := 53) (x := "repr") rfl) (sa_cons (se_mod (se_mulA (se_var (i := 7) rfl (by first | exact Or.inl rfl | exact Or.inr (Or.inl rfl) | exact Or.inr (Or.inr rfl))) (se_var (i := 9) rfl (by first | exact Or.inl rfl | exact Or.inr (Or.inl rfl) | exact Or.inr (Or.inr rfl)))) (se_var (i := 1) rfl (by first | exact Or.inl rfl | exact Or.inr (Or.inl rfl) | exact Or.inr (Or.inr rfl)))) sa_nil))) (sw_or1 (st_notN (se_fnK (DefK.fn (defK_need_remainder__number_prime c) hr (by decide) (by rfl)) kx (sk_cons (se_var (i := 7) rfl (by first | exact Or.inl rfl | exact Or.inr (Or.inl rfl) | exact Or.inr (Or.inr rfl))) (sk_cons (se_var (i := 1) rfl (by first | exact Or.inl rfl | exact Or.inr (Or.inl rfl) | exact Or.inr (Or.inr rfl))) sk_nil))))))) (ss_one (ss_ret se_bl)) ss_nil)
    (ss_cons (ss_if (st_ne kx.hu64 (se_reprF kx (by rfl) (c.free (i := 53) (x := "repr") rfl) (sa_cons (se_fnK (DefK.fn (defK_power_of__exponent_number_prime c) hr (by decide) (by rfl)) kx (sk_cons (se_var (i := 8) rfl (by first | exact Or.inl rfl | exact Or.inr (Or.inl rfl) | exact Or.inr (Or.inr rfl))) (sk_cons (se_var (i := 7) rfl (by first | exact Or.inl rfl | exact Or.inr (Or.inl rfl) | exact Or.inr (Or.inr rfl))) (sk_cons (se_var (i := 1) rfl (by first | exact Or.inl rfl | exact Or.inr (Or.inl rfl) | exact Or.inr (Or.inr rfl))) sk_nil)))) sa_nil)) (se_reprF kx (by rfl) (c.free (i := 53) (x := "repr") rfl) (sa_cons (se_fn (Def.fn (def__law_power c) hr (by decide) (by rfl)) kx (sa_cons (se_var (i := 1) rfl (by first | exact Or.inl rfl | exact Or.inr (Or.inl rfl) | exact Or.inr (Or.inr rfl))) (sa_cons (se_var (i := 7) rfl (by first | exact Or.inl rfl | exact Or.inr (Or.inl rfl) | exact Or.inr (Or.inr rfl))) (sa_cons (se_var (i := 8) rfl (by first | exact Or.inl rfl | exact Or.inr (Or.inl rfl) | exact Or.inr (Or.inr rfl))) sa_nil)))) sa_nil))) (ss_one (ss_ret se_bl)) ss_nil)
    (ss_cons (ss_set (i := 3) kx rfl (by first | exact Or.inl rfl | exact Or.inr rfl) (se_add se_int (se_var (i := 8) rfl (by first | exact Or.inl rfl | exact Or.inr (Or.inl rfl) | exact Or.inr (Or.inr rfl)))))
    (ss_cons (ss_if (st_ne kx.hu64 (se_reprF kx (by rfl) (c.free (i := 53) (x := "repr") rfl) (sa_cons (se_fn (Def.fn (def_power_of c) hr (by decide) (by rfl)) kx (sa_cons (se_var (i := 1) rfl (by first | exact Or.inl rfl | exact Or.inr (Or.inl rfl) | exact Or.inr (Or.inr rfl))) (sa_cons (se_var (i := 7) rfl (by first | exact Or.inl rfl | exact Or.inr (Or.inl rfl) | exact Or.inr (Or.inr rfl))) (sa_cons (se_var (i := 3) rfl (by first | exact Or.inl rfl | exact Or.inr (Or.inl rfl) | exact Or.inr (Or.inr rfl))) sa_nil)))) sa_nil)) (se_reprF kx (by rfl) (c.free (i := 53) (x := "repr") rfl) (sa_cons (se_fn (Def.fn (def__law_squared c) hr (by decide) (by rfl)) kx (sa_cons (se_var (i := 1) rfl (by first | exact Or.inl rfl | exact Or.inr (Or.inl rfl) | exact Or.inr (Or.inr rfl))) (sa_cons (se_var (i := 7) rfl (by first | exact Or.inl rfl | exact Or.inr (Or.inl rfl) | exact Or.inr (Or.inr rfl))) (sa_cons (se_var (i := 3) rfl (by first | exact Or.inl rfl | exact Or.inr (Or.inl rfl) | exact Or.inr (Or.inr rfl))) sa_nil)))) sa_nil))) (ss_one (ss_ret se_bl)) ss_nil)
    (ss_cons (ss_setLc (i := 4) kx rfl (si_range1 (sa_cons (se_minF kx (by rfl) (c.free (i := 51) (x := "min") rfl) (sa_cons (se_add (se_div (se_var (i := 1) rfl (by first | exact Or.inl rfl | exact Or.inr (Or.inl rfl) | exact Or.inr (Or.inr rfl))) se_int) se_int) (sa_cons se_int sa_nil))) sa_nil) (by rfl) (c.free (i := 52) (x := "range") rfl)) (fun _ _ _ _ _ => (sg_name kx.blk.nd (i := 11) rfl (by first | exact Or.inl rfl | exact Or.inr rfl))) (fun _ _ _ _ _ => (sp_one (st_eq kx.blk.hu64 (se_mod (se_mulA (se_var (i := 11) rfl (by first | exact Or.inl rfl | exact Or.inr (Or.inl rfl) | exact Or.inr (Or.inr rfl))) (se_var (i := 11) rfl (by first | exact Or.inl rfl | exact Or.inr (Or.inl rfl) | exact Or.inr (Or.inr rfl)))) (se_var (i := 1) rfl (by first | exact Or.inl rfl | exact Or.inr (Or.inl rfl) | exact Or.inr (Or.inr rfl)))) (se_var (i := 7) rfl (by first | exact Or.inl rfl | exact Or.inr (Or.inl rfl) | exact Or.inr (Or.inr rfl)))))) (fun _ _ _ _ _ => (se_var (i := 11) rfl (by first | exact Or.inl rfl | exact Or.inr (Or.inl rfl) | exact Or.inr (Or.inr rfl)))) (blkOk_by (own := [("root", 11)]) (by first | rfl | kernel_rfl)))
    (ss_cons (ss_set (i := 5) kx rfl (by first | exact Or.inl rfl | exact Or.inr rfl) (se_lam (k := 7) (l := [1, 7]) (told__law_told c) hr (by decide) (by decide) (by rfl) kx Ld (lamN_by (by kernel_rfl)) (fun _ _ _ _ _ _ _ hr kx => (se_fnK (DefK.fn (defK_root_of__number_prime c) hr (by decide) (by rfl)) kx (sk_cons (se_var (i := 7) rfl (by first | exact Or.inl rfl | exact Or.inr (Or.inl rfl) | exact Or.inr (Or.inr rfl))) (sk_cons (se_var (i := 1) rfl (by first | exact Or.inl rfl | exact Or.inr (Or.inl rfl) | exact Or.inr (Or.inr rfl))) sk_nil))))))
    (ss_cons (ss_if (st_lt (se_var (i := 1) rfl (by first | exact Or.inl rfl | exact Or.inr (Or.inl rfl) | exact Or.inr (Or.inr rfl))) se_int) (ss_one (ss_ret (se_eq kx.hu64 (se_reprF kx (by rfl) (c.free (i := 53) (x := "repr") rfl) (sa_cons (se_var (i := 5) rfl (by first | exact Or.inl rfl | exact Or.inr (Or.inl rfl) | exact Or.inr (Or.inr rfl))) sa_nil)) (se_reprF kx (by rfl) (c.free (i := 53) (x := "repr") rfl) (sa_cons (se_if (st_ne kx.hu64 (se_var (i := 4) rfl (by first | exact Or.inl rfl | exact Or.inr (Or.inl rfl) | exact Or.inr (Or.inr rfl))) (se_lst sa_nil)) (se_cut (se_var (i := 4) rfl (by first | exact Or.inl rfl | exact Or.inr (Or.inl rfl) | exact Or.inr (Or.inr rfl))) so_none (so_some se_int)) (se_tup (sa_cons se_str (sa_cons se_str sa_nil)))) sa_nil))))) ss_nil)
    (ss_cons (ss_if (st_not (st_val (se_isi .list (by rfl) (c.free (i := 48) (x := "isinstance") rfl) (by rfl) (c.free (i := 50) (x := "list") rfl) (by decide +kernel) (se_var (i := 5) rfl (by first | exact Or.inl rfl | exact Or.inr (Or.inl rfl) | exact Or.inr (Or.inr rfl)))))) (ss_one (ss_ret (se_and (se_eq kx.hu64 (se_var (i := 5) rfl (by first | exact Or.inl rfl | exact Or.inr (Or.inl rfl) | exact Or.inr (Or.inr rfl))) (se_tup (sa_cons se_str (sa_cons se_str sa_nil)))) (se_one (se_eq kx.hu64 (se_fn (Def.fn (def__law_squared c) hr (by decide) (by rfl)) kx (sa_cons (se_var (i := 1) rfl (by first | exact Or.inl rfl | exact Or.inr (Or.inl rfl) | exact Or.inr (Or.inr rfl))) (sa_cons (se_var (i := 7) rfl (by first | exact Or.inl rfl | exact Or.inr (Or.inl rfl) | exact Or.inr (Or.inr rfl))) (sa_cons (se_div (se_var (i := 1) rfl (by first | exact Or.inl rfl | exact Or.inr (Or.inl rfl) | exact Or.inr (Or.inr rfl))) se_int) sa_nil)))) (se_sub (se_var (i := 1) rfl (by first | exact Or.inl rfl | exact Or.inr (Or.inl rfl) | exact Or.inr (Or.inr rfl))) se_int)))))) ss_nil)
    (ss_one (ss_ret (se_and (se_le (se_ixN (i := 5) rfl (by first | exact Or.inl rfl | exact Or.inr (Or.inl rfl) | exact Or.inr (Or.inr rfl)) se_int) (se_div (se_var (i := 1) rfl (by first | exact Or.inl rfl | exact Or.inr (Or.inl rfl) | exact Or.inr (Or.inr rfl))) se_int)) (se_one (se_eq kx.hu64 (se_mod (se_mulA (se_ixN (i := 5) rfl (by first | exact Or.inl rfl | exact Or.inr (Or.inl rfl) | exact Or.inr (Or.inr rfl)) se_int) (se_ixN (i := 5) rfl (by first | exact Or.inl rfl | exact Or.inr (Or.inl rfl) | exact Or.inr (Or.inr rfl)) se_int)) (se_var (i := 1) rfl (by first | exact Or.inl rfl | exact Or.inr (Or.inl rfl) | exact Or.inr (Or.inr rfl)))) (se_var (i := 7) rfl (by first | exact Or.inl rfl | exact Or.inr (Or.inl rfl) | exact Or.inr (Or.inr rfl))))))))))))))))))))
theorem def__law_single_right {w : World} {K : PySem.W.Frag} {mg : Str → Option Value} {base : Heap} (c : Fx w K mg) : Def Pg w K mg base "_law_single_right" 10 2 [] mf__law_single_right := by
  obtain ⟨fd, F⟩ := c.d.def_ 36 (d := d__law_single_right) rfl
  exact ⟨_, fd, ["state", "prime"], [], [], fnG_ofC F sc__law_single_right (fun cdv A outer s H E hc hr kx => body__law_single_right c hr kx (lamD_of (p := ("_law_single_right", none)) c.e_3 hc)), c.glo (i := 26) (x := "_law_single_right") rfl, F.kp, F.bindsN (fun _ _ _ _ _ _ us hl => match us, hl with | [_, _], _ => rfl), .nil, fun _ _ => rfl, rfl, by decide⟩
def m_need_order : SF := (sSeq (sExpr (eFn 1 [] mf_need_prime (aCons (eVar 0) aNil)))
    (sSeq (sIf (tfNot (tfV (eFn 3 [] mf_is_whole (aCons (eVar 1) (aCons (eC (.int 1)) (aCons (eC (.int 65536)) aNil)))))) (sRaise .BadNumber (eVar 1)) sNx)
    (sIf (tfV (eOp (gEqA true) (eMod (eSub (eVar 0) (eC (.int 1))) (eVar 1)) (eC (.int 0)))) (sRaise .NoSuch (eC (.str "order"))) sNx)))
def mf_need_order : CF := mfOf 2 m_need_order
theorem sc_need_order : FnScope ["prime", "order"] ["prime", "order"] (defScope s_need_order) := ⟨rfl, rfl, rfl, by decide +kernel, rfl, by decide +kernel, by decide +kernel⟩
theorem body_need_order {w : World} {K : PySem.W.Frag} {mg : Str → Option Value} {base : Heap} {cdv : Value} {A : Around} {outer : List PySem.Env} {s : Shared} {H : Hp} {E : XK} {fA : Addr} (c : Fx w K mg) (hr : Room 5 (A.deeper (envOfC "need_order" (defScope s_need_order) s.heap.objs.size fA cdv)))
    (kx : Kx (cxOf (L2.CX Pg w) Pg w K mg base ["prime", "order"] "need_order" (defScope s_need_order) fA cdv A outer s H E) (wE E)) : SSs (cxOf (L2.CX Pg w) Pg w K mg base ["prime", "order"] "need_order" (defScope s_need_order) fA cdv A outer s H E) (wE E) (defBody s_need_order) m_need_order :=
  (ss_cons (ss_expr (se_fn (Def.fn (def_need_prime c) hr (by decide) (by rfl)) kx (sa_cons (se_var (i := 0) rfl (by first | exact Or.inl rfl | exact Or.inr (Or.inl rfl) | exact Or.inr (Or.inr rfl))) sa_nil)))
    (ss_cons (ss_if (st_not (st_val (se_fn (Def.fn (def_is_whole c) hr (by decide) (by rfl)) kx (sa_cons (se_var (i := 1) rfl (by first | exact Or.inl rfl | exact Or.inr (Or.inl rfl) | exact Or.inr (Or.inr rfl))) (sa_cons se_int (sa_cons (se_gint (by rfl) (c.int (i := 60) (x := "MOST_ORDER") rfl)) sa_nil)))))) (ss_one (ss_raise kx (Mk.at (mk_BadNumber c) (c.cl (e := .BadNumber) (by decide)) hr (by decide) (by rfl)) (c.cl (e := .BadNumber) (by decide)) (c.cl (e := .BadNumber) (by decide)).ty (se_var (i := 1) rfl (by first | exact Or.inl rfl | exact Or.inr (Or.inl rfl) | exact Or.inr (Or.inr rfl))))) ss_nil)
    (ss_one (ss_if (st_ne kx.hu64 (se_mod (se_sub (se_var (i := 0) rfl (by first | exact Or.inl rfl | exact Or.inr (Or.inl rfl) | exact Or.inr (Or.inr rfl))) se_int) (se_var (i := 1) rfl (by first | exact Or.inl rfl | exact Or.inr (Or.inl rfl) | exact Or.inr (Or.inr rfl)))) se_int) (ss_one (ss_raise kx (Mk.at (mk_NoSuch c) (c.cl (e := .NoSuch) (by decide)) hr (by decide) (by rfl)) (c.cl (e := .NoSuch) (by decide)) (c.cl (e := .NoSuch) (by decide)).ty se_str)) ss_nil))))
theorem def_need_order {w : World} {K : PySem.W.Frag} {mg : Str → Option Value} {base : Heap} (c : Fx w K mg) : Def Pg w K mg base "need_order" 6 2 [] mf_need_order := by
  obtain ⟨fd, F⟩ := c.d.def_ 22 (d := d_need_order) rfl
  exact ⟨_, fd, ["prime", "order"], [], [], fnG_of F sc_need_order (fun cdv A outer s H E hr kx => body_need_order c hr kx), c.glo (i := 12) (x := "need_order") rfl, F.kp, F.bindsN (fun _ _ _ _ _ _ us hl => match us, hl with | [_, _], _ => rfl), .nil, fun _ _ => rfl, rfl, by decide⟩
def bd_own_root_of_one_0 : SF := (sSeq (sSet 5 (eFn 3 [] mf_own_power (aCons (eVar 0) (aCons (eVar 4) (aCons (eDiv (eSub (eVar 0) (eC (.int 1))) (eVar 1)) aNil)))))
    (sAug 4 (fun i j => i + j) (eC (.int 1))))
def bd_own_root_of_one_1 : SF := (sSeq (sSet 7 (eMod (eOp gMulA (eVar 7) (eVar 5)) (eVar 0)))
    (sIf (tfAnd (tfV (eOp gLt (eVar 7) (eVar 6))) (tfV (eOp (gEqA false) (eCall (g2 gGcd) (aCons (eVar 2) (aCons (eVar 1) aNil))) (eC (.int 1))))) (sSet 6 (eVar 7)) sNx))
def m_own_root_of_one : SF := (sSeq (sAsg (eTup (aCons (eFn 1 [] mf_own_primes (aCons (eVar 1) aNil)) (aCons (eC (.int 2)) (aCons (eC (.int 1)) aNil)))) (gTp 3 (gsCons (gNm 3) (gsCons (gNm 4) (gsCons (gNm 5) gsNil)))))
    (sSeq (sWh (tfAnd (tfV (eOp gGt (eVar 1) (eC (.int 1)))) (tfOr (tfV (eOp (gEqA false) (eVar 5) (eC (.int 1)))) (tfV (eCall (g1 gAny) (aCons (eLc (iVal (eVar 3)) (gNm 8) eYes (eOp (gEqA false) (eFn 3 [] mf_own_power (aCons (eVar 0) (aCons (eVar 5) (aCons (eDiv (eVar 1) (eVar 8)) aNil)))) (eC (.int 1))) [8]) aNil))))) bd_own_root_of_one_0)
    (sSeq (sPar 6 7 (aCons (eVar 5) (aCons (eC (.int 1)) aNil)))
    (sSeq (sFor (iRg2 (aCons (eC (.int 1)) (aCons (eVar 1) aNil))) (gNm 2) bd_own_root_of_one_1)
    (sRet (eMove 6))))))
def mf_own_root_of_one : CF := mfOf 9 m_own_root_of_one
theorem sc_own_root_of_one : FnScope ["prime", "order", "exponent", "parts", "start", "root", "found", "here", "part"] ["prime", "order"] (defScope s_own_root_of_one) := ⟨rfl, rfl, rfl, by decide +kernel, rfl, by decide +kernel, by decide +kernel⟩
theorem body_own_root_of_one {w : World} {K : PySem.W.Frag} {mg : Str → Option Value} {base : Heap} {cdv : Value} {A : Around} {outer : List PySem.Env} {s : Shared} {H : Hp} {E : XK} {fA : Addr} (c : Fx w K mg) (hr : Room 3 (A.deeper (envOfC "own_root_of_one" (defScope s_own_root_of_one) s.heap.objs.size fA cdv)))
    (kx : Kx (cxOf (L2.CX Pg w) Pg w K mg base ["prime", "order", "exponent", "parts", "start", "root", "found", "here", "part"] "own_root_of_one" (defScope s_own_root_of_one) fA cdv A outer s H E) (wE E)) : SSs (cxOf (L2.CX Pg w) Pg w K mg base ["prime", "order", "exponent", "parts", "start", "root", "found", "here", "part"] "own_root_of_one" (defScope s_own_root_of_one) fA cdv A outer s H E) (wE E) (defBody s_own_root_of_one) m_own_root_of_one :=
  (ss_cons (ss_asg kx (se_tup (sa_cons (se_fn (Def.fn (def_own_primes c) hr (by decide) (by rfl)) kx (sa_cons (se_var (i := 1) rfl (by first | exact Or.inl rfl | exact Or.inr (Or.inl rfl) | exact Or.inr (Or.inr rfl))) sa_nil)) (sa_cons se_int (sa_cons se_int sa_nil)))) (sg_tup kx.hc (sgs_cons (sg_name kx.nd (i := 3) rfl (by first | exact Or.inl rfl | exact Or.inr rfl)) (sgs_cons (sg_name kx.nd (i := 4) rfl (by first | exact Or.inl rfl | exact Or.inr rfl)) (sgs_cons (sg_name kx.nd (i := 5) rfl (by first | exact Or.inl rfl | exact Or.inr rfl)) sgs_nil)))))
    (ss_cons (ss_while kx (SW.st (sw_and (st_gt (se_var (i := 1) rfl (by first | exact Or.inl rfl | exact Or.inr (Or.inl rfl) | exact Or.inr (Or.inr rfl))) se_int) (sw_and1 (SW.st (sw_or (st_eq kx.hu64 (se_var (i := 5) rfl (by first | exact Or.inl rfl | exact Or.inr (Or.inl rfl) | exact Or.inr (Or.inr rfl))) se_int) (sw_or1 (st_val (se_anyF kx (by rfl) (c.free (i := 44) (x := "any") rfl) (sa_cons (se_lc kx (si_val (se_var (i := 3) rfl (by first | exact Or.inl rfl | exact Or.inr (Or.inl rfl) | exact Or.inr (Or.inr rfl)))) (fun _ _ _ _ _ => (sg_name kx.blk.nd (i := 8) rfl (by first | exact Or.inl rfl | exact Or.inr rfl))) (fun _ _ _ _ _ => sp_nil) (fun _ _ _ _ _ => (se_eq kx.blk.hu64 (se_fn (Def.fn (def_own_power c) hr (by decide) (by rfl)) kx.blk (sa_cons (se_var (i := 0) rfl (by first | exact Or.inl rfl | exact Or.inr (Or.inl rfl) | exact Or.inr (Or.inr rfl))) (sa_cons (se_var (i := 5) rfl (by first | exact Or.inl rfl | exact Or.inr (Or.inl rfl) | exact Or.inr (Or.inr rfl))) (sa_cons (se_div (se_var (i := 1) rfl (by first | exact Or.inl rfl | exact Or.inr (Or.inl rfl) | exact Or.inr (Or.inr rfl))) (se_var (i := 8) rfl (by first | exact Or.inl rfl | exact Or.inr (Or.inl rfl) | exact Or.inr (Or.inr rfl)))) sa_nil)))) se_int)) (blkOk_by (own := [("part", 8)]) (by first | rfl | kernel_rfl))) sa_nil))))))))) (ss_cons (ss_set (i := 5) kx rfl (by first | exact Or.inl rfl | exact Or.inr rfl) (se_fn (Def.fn (def_own_power c) hr (by decide) (by rfl)) kx (sa_cons (se_var (i := 0) rfl (by first | exact Or.inl rfl | exact Or.inr (Or.inl rfl) | exact Or.inr (Or.inr rfl))) (sa_cons (se_var (i := 4) rfl (by first | exact Or.inl rfl | exact Or.inr (Or.inl rfl) | exact Or.inr (Or.inr rfl))) (sa_cons (se_div (se_sub (se_var (i := 0) rfl (by first | exact Or.inl rfl | exact Or.inr (Or.inl rfl) | exact Or.inr (Or.inr rfl))) se_int) (se_var (i := 1) rfl (by first | exact Or.inl rfl | exact Or.inr (Or.inl rfl) | exact Or.inr (Or.inr rfl)))) sa_nil)))))
    (ss_one (ss_aug (i := 4) kx rfl (by first | exact Or.inl rfl | exact Or.inr rfl) ip_add se_int))))
    (ss_cons (ss_par (i := 6) (j := 7) kx rfl rfl (sa_cons (se_var (i := 5) rfl (by first | exact Or.inl rfl | exact Or.inr (Or.inl rfl) | exact Or.inr (Or.inr rfl))) (sa_cons se_int sa_nil)))
    (ss_cons (ss_for kx (si_range2 (sa_cons se_int (sa_cons (se_var (i := 1) rfl (by first | exact Or.inl rfl | exact Or.inr (Or.inl rfl) | exact Or.inr (Or.inr rfl))) sa_nil)) (by rfl) (c.free (i := 52) (x := "range") rfl)) (sg_name kx.nd (i := 2) rfl (by first | exact Or.inl rfl | exact Or.inr rfl)) (ss_cons (ss_set (i := 7) kx rfl (by first | exact Or.inl rfl | exact Or.inr rfl) (se_mod (se_mulA (se_var (i := 7) rfl (by first | exact Or.inl rfl | exact Or.inr (Or.inl rfl) | exact Or.inr (Or.inr rfl))) (se_var (i := 5) rfl (by first | exact Or.inl rfl | exact Or.inr (Or.inl rfl) | exact Or.inr (Or.inr rfl)))) (se_var (i := 0) rfl (by first | exact Or.inl rfl | exact Or.inr (Or.inl rfl) | exact Or.inr (Or.inr rfl)))))
    (ss_one (ss_if (SW.st (sw_and (st_lt (se_var (i := 7) rfl (by first | exact Or.inl rfl | exact Or.inr (Or.inl rfl) | exact Or.inr (Or.inr rfl))) (se_var (i := 6) rfl (by first | exact Or.inl rfl | exact Or.inr (Or.inl rfl) | exact Or.inr (Or.inr rfl)))) (sw_and1 (st_eq kx.hu64 (se_gcdF (by rfl) (c.bl (c.e_6)) (sa_cons (se_var (i := 2) rfl (by first | exact Or.inl rfl | exact Or.inr (Or.inl rfl) | exact Or.inr (Or.inr rfl))) (sa_cons (se_var (i := 1) rfl (by first | exact Or.inl rfl | exact Or.inr (Or.inl rfl) | exact Or.inr (Or.inr rfl))) sa_nil))) se_int)))) (ss_one (ss_set (i := 6) kx rfl (by first | exact Or.inl rfl | exact Or.inr rfl) (se_var (i := 7) rfl (by first | exact Or.inl rfl | exact Or.inr (Or.inl rfl) | exact Or.inr (Or.inr rfl))))) ss_nil))))
    (ss_one (ss_ret (se_move (i := 6) rfl (by first | exact Or.inl rfl | exact Or.inr (Or.inl rfl) | exact Or.inr (Or.inr rfl)))))))))
theorem def_own_root_of_one {w : World} {K : PySem.W.Frag} {mg : Str → Option Value} {base : Heap} (c : Fx w K mg) : Def Pg w K mg base "own_root_of_one" 4 2 [] mf_own_root_of_one := by
  obtain ⟨fd, F⟩ := c.d.def_ 23 (d := d_own_root_of_one) rfl
  exact ⟨_, fd, ["prime", "order"], [], [], fnG_of F sc_own_root_of_one (fun cdv A outer s H E hr kx => body_own_root_of_one c hr kx), c.glo (i := 13) (x := "own_root_of_one") rfl, F.kp, F.bindsN (fun _ _ _ _ _ _ us hl => match us, hl with | [_, _], _ => rfl), .nil, fun _ _ => rfl, rfl, by decide⟩
def bd_own_group_0 : SF := (sExpr (eApp 4 (eMod (eOp gMulA (ePk gIx 4 (eUn gNeg (eC (.int 1)))) (eVar 3)) (eVar 0))))
def m_own_group : SF := (sSeq (sPar 3 4 (aCons (eFn 2 [] mf_own_root_of_one (aCons (eVar 0) (aCons (eVar 1) aNil))) (aCons (eLst (aCons (eC (.int 1)) aNil)) aNil)))
    (sSeq (sFor (iRg2 (aCons (eC (.int 1)) (aCons (eVar 1) aNil))) (gNm 2) bd_own_group_0)
    (sRet (eMove 4))))
def mf_own_group : CF := mfOf 5 m_own_group
theorem sc_own_group : FnScope ["prime", "order", "exponent", "root", "found"] ["prime", "order"] (defScope s_own_group) := ⟨rfl, rfl, rfl, by decide +kernel, rfl, by decide +kernel, by decide +kernel⟩
theorem body_own_group {w : World} {K : PySem.W.Frag} {mg : Str → Option Value} {base : Heap} {cdv : Value} {A : Around} {outer : List PySem.Env} {s : Shared} {H : Hp} {E : XK} {fA : Addr} (c : Fx w K mg) (hr : Room 4 (A.deeper (envOfC "own_group" (defScope s_own_group) s.heap.objs.size fA cdv)))
    (kx : Kx (cxOf (L2.CX Pg w) Pg w K mg base ["prime", "order", "exponent", "root", "found"] "own_group" (defScope s_own_group) fA cdv A outer s H E) (wE E)) : SSs (cxOf (L2.CX Pg w) Pg w K mg base ["prime", "order", "exponent", "root", "found"] "own_group" (defScope s_own_group) fA cdv A outer s H E) (wE E) (defBody s_own_group) m_own_group :=
  (ss_cons (ss_par (i := 3) (j := 4) kx rfl rfl (sa_cons (se_fn (Def.fn (def_own_root_of_one c) hr (by decide) (by rfl)) kx (sa_cons (se_var (i := 0) rfl (by first | exact Or.inl rfl | exact Or.inr (Or.inl rfl) | exact Or.inr (Or.inr rfl))) (sa_cons (se_var (i := 1) rfl (by first | exact Or.inl rfl | exact Or.inr (Or.inl rfl) | exact Or.inr (Or.inr rfl))) sa_nil))) (sa_cons (se_lst (sa_cons se_int sa_nil)) sa_nil)))
    (ss_cons (ss_for kx (si_range2 (sa_cons se_int (sa_cons (se_var (i := 1) rfl (by first | exact Or.inl rfl | exact Or.inr (Or.inl rfl) | exact Or.inr (Or.inr rfl))) sa_nil)) (by rfl) (c.free (i := 52) (x := "range") rfl)) (sg_name kx.nd (i := 2) rfl (by first | exact Or.inl rfl | exact Or.inr rfl)) (ss_one (ss_expr (se_append (i := 4) kx rfl (by first | exact Or.inl rfl | exact Or.inr (Or.inl rfl) | exact Or.inr (Or.inr rfl)) (se_mod (se_mulA (se_ixN (i := 4) rfl (by first | exact Or.inl rfl | exact Or.inr (Or.inl rfl) | exact Or.inr (Or.inr rfl)) (se_neg se_int)) (se_var (i := 3) rfl (by first | exact Or.inl rfl | exact Or.inr (Or.inl rfl) | exact Or.inr (Or.inr rfl)))) (se_var (i := 0) rfl (by first | exact Or.inl rfl | exact Or.inr (Or.inl rfl) | exact Or.inr (Or.inr rfl))))))))
    (ss_one (ss_ret (se_move (i := 4) rfl (by first | exact Or.inl rfl | exact Or.inr (Or.inl rfl) | exact Or.inr (Or.inr rfl)))))))
theorem def_own_group {w : World} {K : PySem.W.Frag} {mg : Str → Option Value} {base : Heap} (c : Fx w K mg) : Def Pg w K mg base "own_group" 5 2 [] mf_own_group := by
  obtain ⟨fd, F⟩ := c.d.def_ 25 (d := d_own_group) rfl
  exact ⟨_, fd, ["prime", "order"], [], [], fnG_of F sc_own_group (fun cdv A outer s H E hr kx => body_own_group c hr kx), c.glo (i := 15) (x := "own_group") rfl, F.kp, F.bindsN (fun _ _ _ _ _ _ us hl => match us, hl with | [_, _], _ => rfl), .nil, fun _ _ => rfl, rfl, by decide⟩
def m_group_of : SF := (sSeq (sExpr (eFn 2 [] mf_need_order (aCons (eVar 0) (aCons (eVar 1) aNil))))
    (sSeq (sIf (tfV (eOp gGt (eVar 1) (eC (.int 1024)))) (sRaise .TooMany (eC (.int 1024))) sNx)
    (sRet (eCall (g1 gTuple) (aCons (eFn 2 [] mf_own_group (aCons (eVar 0) (aCons (eVar 1) aNil))) aNil)))))
def mf_group_of : CF := mfOf 2 m_group_of
theorem sc_group_of : FnScope ["prime", "order"] ["prime", "order"] (defScope s_group_of) := ⟨rfl, rfl, rfl, by decide +kernel, rfl, by decide +kernel, by decide +kernel⟩
theorem body_group_of {w : World} {K : PySem.W.Frag} {mg : Str → Option Value} {base : Heap} {cdv : Value} {A : Around} {outer : List PySem.Env} {s : Shared} {H : Hp} {E : XK} {fA : Addr} (c : Fx w K mg) (hr : Room 6 (A.deeper (envOfC "group_of" (defScope s_group_of) s.heap.objs.size fA cdv)))
    (kx : Kx (cxOf (L2.CX Pg w) Pg w K mg base ["prime", "order"] "group_of" (defScope s_group_of) fA cdv A outer s H E) (wE E)) : SSs (cxOf (L2.CX Pg w) Pg w K mg base ["prime", "order"] "group_of" (defScope s_group_of) fA cdv A outer s H E) (wE E) (defBody s_group_of) m_group_of :=
  (ss_cons (ss_expr (se_fn (Def.fn (def_need_order c) hr (by decide) (by rfl)) kx (sa_cons (se_var (i := 0) rfl (by first | exact Or.inl rfl | exact Or.inr (Or.inl rfl) | exact Or.inr (Or.inr rfl))) (sa_cons (se_var (i := 1) rfl (by first | exact Or.inl rfl | exact Or.inr (Or.inl rfl) | exact Or.inr (Or.inr rfl))) sa_nil))))
    (ss_cons (ss_if (st_gt (se_var (i := 1) rfl (by first | exact Or.inl rfl | exact Or.inr (Or.inl rfl) | exact Or.inr (Or.inr rfl))) (se_gint (by rfl) (c.int (i := 61) (x := "MOST_GROUP") rfl))) (ss_one (ss_raise kx (Mk.at (mk_TooMany c) (c.cl (e := .TooMany) (by decide)) hr (by decide) (by rfl)) (c.cl (e := .TooMany) (by decide)) (c.cl (e := .TooMany) (by decide)).ty (se_gint (by rfl) (c.int (i := 61) (x := "MOST_GROUP") rfl)))) ss_nil)
    (ss_one (ss_ret (se_tupleF kx (by rfl) (c.free (i := 57) (x := "tuple") rfl) (sa_cons (se_fn (Def.fn (def_own_group c) hr (by decide) (by rfl)) kx (sa_cons (se_var (i := 0) rfl (by first | exact Or.inl rfl | exact Or.inr (Or.inl rfl) | exact Or.inr (Or.inr rfl))) (sa_cons (se_var (i := 1) rfl (by first | exact Or.inl rfl | exact Or.inr (Or.inl rfl) | exact Or.inr (Or.inr rfl))) sa_nil))) sa_nil))))))
theorem def_group_of {w : World} {K : PySem.W.Frag} {mg : Str → Option Value} {base : Heap} (c : Fx w K mg) : Def Pg w K mg base "group_of" 7 2 [] mf_group_of := by
  obtain ⟨fd, F⟩ := c.d.def_ 26 (d := d_group_of) rfl
  exact ⟨_, fd, ["prime", "order"], [], [], fnG_of F sc_group_of (fun cdv A outer s H E hr kx => body_group_of c hr kx), c.glo (i := 16) (x := "group_of") rfl, F.kp, F.bindsN (fun _ _ _ _ _ _ us hl => match us, hl with | [_, _], _ => rfl), .nil, fun _ _ => rfl, rfl, by decide⟩
theorem defK_group_of__order_prime {w : World} {K : PySem.W.Frag} {mg : Str → Option Value} {base : Heap} (c : Fx w K mg) : DefK Pg w K mg base "group_of" 7 ["order", "prime"] [1, 0] mf_group_of := by
  obtain ⟨fd, F⟩ := c.d.def_ 26 (d := d_group_of) rfl
  exact ⟨_, fd, ["prime", "order"], fnG_of F sc_group_of (fun cdv A outer s H E hr kx => body_group_of c hr kx), c.glo (i := 16) (x := "group_of") rfl, F.kp, F.kbs (fun _ _ _ _ _ _ ws hl => match ws, hl with | [_, _], _ => rfl), rfl, by decide, by decide⟩
def m_root_of_one : SF := (sSeq (sExpr (eFn 2 [] mf_need_order (aCons (eVar 0) (aCons (eVar 1) aNil))))
    (sRet (eFn 2 [] mf_own_root_of_one (aCons (eVar 0) (aCons (eVar 1) aNil)))))
def mf_root_of_one : CF := mfOf 2 m_root_of_one
theorem sc_root_of_one : FnScope ["prime", "order"] ["prime", "order"] (defScope s_root_of_one) := ⟨rfl, rfl, rfl, by decide +kernel, rfl, by decide +kernel, by decide +kernel⟩
theorem body_root_of_one {w : World} {K : PySem.W.Frag} {mg : Str → Option Value} {base : Heap} {cdv : Value} {A : Around} {outer : List PySem.Env} {s : Shared} {H : Hp} {E : XK} {fA : Addr} (c : Fx w K mg) (hr : Room 6 (A.deeper (envOfC "root_of_one" (defScope s_root_of_one) s.heap.objs.size fA cdv)))
    (kx : Kx (cxOf (L2.CX Pg w) Pg w K mg base ["prime", "order"] "root_of_one" (defScope s_root_of_one) fA cdv A outer s H E) (wE E)) : SSs (cxOf (L2.CX Pg w) Pg w K mg base ["prime", "order"] "root_of_one" (defScope s_root_of_one) fA cdv A outer s H E) (wE E) (defBody s_root_of_one) m_root_of_one :=
  (ss_cons (ss_expr (se_fn (Def.fn (def_need_order c) hr (by decide) (by rfl)) kx (sa_cons (se_var (i := 0) rfl (by first | exact Or.inl rfl | exact Or.inr (Or.inl rfl) | exact Or.inr (Or.inr rfl))) (sa_cons (se_var (i := 1) rfl (by first | exact Or.inl rfl | exact Or.inr (Or.inl rfl) | exact Or.inr (Or.inr rfl))) sa_nil))))
    (ss_one (ss_ret (se_fn (Def.fn (def_own_root_of_one c) hr (by decide) (by rfl)) kx (sa_cons (se_var (i := 0) rfl (by first | exact Or.inl rfl | exact Or.inr (Or.inl rfl) | exact Or.inr (Or.inr rfl))) (sa_cons (se_var (i := 1) rfl (by first | exact Or.inl rfl | exact Or.inr (Or.inl rfl) | exact Or.inr (Or.inr rfl))) sa_nil))))))
theorem def_root_of_one {w : World} {K : PySem.W.Frag} {mg : Str → Option Value} {base : Heap} (c : Fx w K mg) : Def Pg w K mg base "root_of_one" 7 2 [] mf_root_of_one := by
  obtain ⟨fd, F⟩ := c.d.def_ 24 (d := d_root_of_one) rfl
  exact ⟨_, fd, ["prime", "order"], [], [], fnG_of F sc_root_of_one (fun cdv A outer s H E hr kx => body_root_of_one c hr kx), c.glo (i := 14) (x := "root_of_one") rfl, F.kp, F.bindsN (fun _ _ _ _ _ _ us hl => match us, hl with | [_, _], _ => rfl), .nil, fun _ _ => rfl, rfl, by decide⟩
theorem defK_root_of_one__order_prime {w : World} {K : PySem.W.Frag} {mg : Str → Option Value} {base : Heap} (c : Fx w K mg) : DefK Pg w K mg base "root_of_one" 7 ["order", "prime"] [1, 0] mf_root_of_one := by
  obtain ⟨fd, F⟩ := c.d.def_ 24 (d := d_root_of_one) rfl
  exact ⟨_, fd, ["prime", "order"], fnG_of F sc_root_of_one (fun cdv A outer s H E hr kx => body_root_of_one c hr kx), c.glo (i := 14) (x := "root_of_one") rfl, F.kp, F.kbs (fun _ _ _ _ _ _ ws hl => match ws, hl with | [_, _], _ => rfl), rfl, by decide, by decide⟩
def bd__law_groups_right_0 : SF := (sExpr (eApp 7 (eMod (eOp gMulA (ePk gIx 7 (eUn gNeg (eC (.int 1)))) (eVar 6)) (eVar 0))))
def bd__law_groups_right_1 : SF := (sIf (tfV (eOp (gEqA false) (eFn 2 [] mf__law_order (aCons (eVar 0) (aCons (eVar 3) aNil))) (eVar 1))) (sRet (eOp (gEqA false) (eCall (g1 gRepr) (aCons (eVar 6) aNil)) (eCall (g1 gRepr) (aCons (eVar 3) aNil)))) sNx)
def m__law_groups_right : SF := (sSeq (sPar 4 5 (aCons (eLam tr__law_told [0, 1] (eFnK 2 [1, 0] mf_root_of_one (aCons (eVar 1) (aCons (eVar 0) aNil)))) (aCons (eLam tr__law_told [0, 1] (eFnK 2 [1, 0] mf_group_of (aCons (eVar 1) (aCons (eVar 0) aNil)))) aNil)))
    (sSeq (sIf (tfV (eOp (gEqA true) (eCall (g1 gInt) (aCons (eMod (eSub (eVar 0) (eC (.int 1))) (eVar 1)) aNil)) (eC (.int 0)))) (sRet (eAnd (eOp (gEqA false) (eVar 4) (eTup (aCons (eC (.str "name")) (aCons (eC (.str "order")) aNil)))) (eOp (gEqA false) (eVar 5) (eTup (aCons (eC (.str "name")) (aCons (eC (.str "order")) aNil)))))) sNx)
    (sSeq (sPar 6 7 (aCons (ePk gIx 4 (eC (.int 0))) (aCons (eLst (aCons (eC (.int 1)) aNil)) aNil)))
    (sSeq (sFor (iRg1 (aCons (eSub (eVar 1) (eC (.int 1))) aNil)) (gNm 2) bd__law_groups_right_0)
    (sSeq (sIf (tfOr (tfV (eOp (gEqA true) (eUn gLenSet (eVar 7)) (eVar 1))) (tfOr (tfV (eOp (gEqA true) (eMod (eOp gMulA (ePk gIx 7 (eUn gNeg (eC (.int 1)))) (eVar 6)) (eVar 0)) (eC (.int 1)))) (tfV (eOp (gEqA true) (eCall (g1 gRepr) (aCons (eVar 5) aNil)) (eCall (g1 gRepr) (aCons (eIf (tfV (eOp gLe (eVar 1) (eC (.int 1024)))) (eLst (aCons (eCall (g1 gTuple) (aCons (eVar 7) aNil)) aNil)) (eTup (aCons (eC (.str "many")) (aCons (eC (.int 1024)) aNil)))) aNil)))))) (sRet (eC (.bl false))) sNx)
    (sSeq (sFor (iVal (eCall (g1 gSorted) (aCons (eVar 7) aNil))) (gNm 3) bd__law_groups_right_1)
    (sRet (eC (.bl false)))))))))
def mf__law_groups_right : CF := mfOf 8 m__law_groups_right
theorem sc__law_groups_right : FnScope ["prime", "order", "turn", "number", "told", "group", "root", "row"] ["prime", "order"] (defScope s__law_groups_right) := ⟨rfl, rfl, rfl, by decide +kernel, rfl, by decide +kernel, by decide +kernel⟩
theorem body__law_groups_right {w : World} {K : PySem.W.Frag} {mg : Str → Option Value} {base : Heap} {cdv : Value} {A : Around} {outer : List PySem.Env} {s : Shared} {H : Hp} {E : XK} {fA : Addr} (c : Fx w K mg) (hr : Room 9 (A.deeper (envOfC "_law_groups_right" (defScope s__law_groups_right) s.heap.objs.size fA cdv)))
    (kx : Kx (cxOf (L2.CX Pg w) Pg w K mg base ["prime", "order", "turn", "number", "told", "group", "root", "row"] "_law_groups_right" (defScope s__law_groups_right) fA cdv A outer s H E) (wE E)) (Ld : LamD (cxOf (L2.CX Pg w) Pg w K mg base ["prime", "order", "turn", "number", "told", "group", "root", "row"] "_law_groups_right" (defScope s__law_groups_right) fA cdv A outer s H E)) : SSs (cxOf (L2.CX Pg w) Pg w K mg base ["prime", "order", "turn", "number", "told", "group", "root", "row"] "_law_groups_right" (defScope s__law_groups_right) fA cdv A outer s H E) (wE E) (defBody s__law_groups_right) m__law_groups_right :=
  (ss_cons (ss_par (i := 4) (j := 5) kx rfl rfl (sa_cons (se_lam (k := 7) (l := [0, 1]) (told__law_told c) hr (by decide) (by decide) (by rfl) kx Ld (lamN_by (by kernel_rfl)) (fun _ _ _ _ _ _ _ hr kx => (se_fnK (DefK.fn (defK_root_of_one__order_prime c) hr (by decide) (by rfl)) kx (sk_cons (se_var (i := 1) rfl (by first | exact Or.inl rfl | exact Or.inr (Or.inl rfl) | exact Or.inr (Or.inr rfl))) (sk_cons (se_var (i := 0) rfl (by first | exact Or.inl rfl | exact Or.inr (Or.inl rfl) | exact Or.inr (Or.inr rfl))) sk_nil))))) (sa_cons (se_lamD (y := "x") (k := 7) (l := [0, 1]) (told__law_told c) hr (by decide) (by decide) (by rfl) kx Ld (lamN_by (by kernel_rfl)) (fun _ _ _ _ _ _ _ hr kx => (se_fnK (DefK.fn (defK_group_of__order_prime c) hr (by decide) (by rfl)) kx (sk_cons (se_var (i := 1) rfl (by first | exact Or.inl rfl | exact Or.inr (Or.inl rfl) | exact Or.inr (Or.inr rfl))) (sk_cons (se_var (i := 0) rfl (by first | exact Or.inl rfl | exact Or.inr (Or.inl rfl) | exact Or.inr (Or.inr rfl))) sk_nil))))) sa_nil)))
    (ss_cons (ss_if (st_ne kx.hu64 (se_intF kx (by rfl) (c.free (i := 47) (x := "int") rfl) (sa_cons (se_mod (se_sub (se_var (i := 0) rfl (by first | exact Or.inl rfl | exact Or.inr (Or.inl rfl) | exact Or.inr (Or.inr rfl))) se_int) (se_var (i := 1) rfl (by first | exact Or.inl rfl | exact Or.inr (Or.inl rfl) | exact Or.inr (Or.inr rfl)))) sa_nil)) se_int) (ss_one (ss_ret (se_and (se_eq kx.hu64 (se_var (i := 4) rfl (by first | exact Or.inl rfl | exact Or.inr (Or.inl rfl) | exact Or.inr (Or.inr rfl))) (se_tup (sa_cons se_str (sa_cons se_str sa_nil)))) (se_one (se_eq kx.hu64 (se_var (i := 5) rfl (by first | exact Or.inl rfl | exact Or.inr (Or.inl rfl) | exact Or.inr (Or.inr rfl))) (se_tup (sa_cons se_str (sa_cons se_str sa_nil)))))))) ss_nil)
    (ss_cons (ss_par (i := 6) (j := 7) kx rfl rfl (sa_cons (se_ixN (i := 4) rfl (by first | exact Or.inl rfl | exact Or.inr (Or.inl rfl) | exact Or.inr (Or.inr rfl)) se_int) (sa_cons (se_lst (sa_cons se_int sa_nil)) sa_nil)))
    (ss_cons (ss_for kx (si_range1 (sa_cons (se_sub (se_var (i := 1) rfl (by first | exact Or.inl rfl | exact Or.inr (Or.inl rfl) | exact Or.inr (Or.inr rfl))) se_int) sa_nil) (by rfl) (c.free (i := 52) (x := "range") rfl)) (sg_name kx.nd (i := 2) rfl (by first | exact Or.inl rfl | exact Or.inr rfl)) (ss_one (ss_expr (se_append (i := 7) kx rfl (by first | exact Or.inl rfl | exact Or.inr (Or.inl rfl) | exact Or.inr (Or.inr rfl)) (se_mod (se_mulA (se_ixN (i := 7) rfl (by first | exact Or.inl rfl | exact Or.inr (Or.inl rfl) | exact Or.inr (Or.inr rfl)) (se_neg se_int)) (se_var (i := 6) rfl (by first | exact Or.inl rfl | exact Or.inr (Or.inl rfl) | exact Or.inr (Or.inr rfl)))) (se_var (i := 0) rfl (by first | exact Or.inl rfl | exact Or.inr (Or.inl rfl) | exact Or.inr (Or.inr rfl))))))))
    (ss_cons (ss_if (SW.st (sw_or (st_ne kx.hu64 (se_lenSet kx (by rfl) (c.free (i := 49) (x := "len") rfl) (by rfl) (c.free (i := 54) (x := "set") rfl) (se_var (i := 7) rfl (by first | exact Or.inl rfl | exact Or.inr (Or.inl rfl) | exact Or.inr (Or.inr rfl)))) (se_var (i := 1) rfl (by first | exact Or.inl rfl | exact Or.inr (Or.inl rfl) | exact Or.inr (Or.inr rfl)))) (sw_or (st_ne kx.hu64 (se_mod (se_mulA (se_ixN (i := 7) rfl (by first | exact Or.inl rfl | exact Or.inr (Or.inl rfl) | exact Or.inr (Or.inr rfl)) (se_neg se_int)) (se_var (i := 6) rfl (by first | exact Or.inl rfl | exact Or.inr (Or.inl rfl) | exact Or.inr (Or.inr rfl)))) (se_var (i := 0) rfl (by first | exact Or.inl rfl | exact Or.inr (Or.inl rfl) | exact Or.inr (Or.inr rfl)))) se_int) (sw_or1 (st_ne kx.hu64 (se_reprF kx (by rfl) (c.free (i := 53) (x := "repr") rfl) (sa_cons (se_var (i := 5) rfl (by first | exact Or.inl rfl | exact Or.inr (Or.inl rfl) | exact Or.inr (Or.inr rfl))) sa_nil)) (se_reprF kx (by rfl) (c.free (i := 53) (x := "repr") rfl) (sa_cons (se_if (st_le (se_var (i := 1) rfl (by first | exact Or.inl rfl | exact Or.inr (Or.inl rfl) | exact Or.inr (Or.inr rfl))) se_int) (se_lst (sa_cons (se_tupleF kx (by rfl) (c.free (i := 57) (x := "tuple") rfl) (sa_cons (se_var (i := 7) rfl (by first | exact Or.inl rfl | exact Or.inr (Or.inl rfl) | exact Or.inr (Or.inr rfl))) sa_nil)) sa_nil)) (se_tup (sa_cons se_str (sa_cons se_int sa_nil)))) sa_nil))))))) (ss_one (ss_ret se_bl)) ss_nil)
    (ss_cons (ss_for kx (si_val (se_sortedF kx (by rfl) (c.free (i := 55) (x := "sorted") rfl) (sa_cons (se_var (i := 7) rfl (by first | exact Or.inl rfl | exact Or.inr (Or.inl rfl) | exact Or.inr (Or.inr rfl))) sa_nil))) (sg_name kx.nd (i := 3) rfl (by first | exact Or.inl rfl | exact Or.inr rfl)) (ss_one (ss_if (st_eq kx.hu64 (se_fn (Def.fn (def__law_order c) hr (by decide) (by rfl)) kx (sa_cons (se_var (i := 0) rfl (by first | exact Or.inl rfl | exact Or.inr (Or.inl rfl) | exact Or.inr (Or.inr rfl))) (sa_cons (se_var (i := 3) rfl (by first | exact Or.inl rfl | exact Or.inr (Or.inl rfl) | exact Or.inr (Or.inr rfl))) sa_nil))) (se_var (i := 1) rfl (by first | exact Or.inl rfl | exact Or.inr (Or.inl rfl) | exact Or.inr (Or.inr rfl)))) (ss_one (ss_ret (se_eq kx.hu64 (se_reprF kx (by rfl) (c.free (i := 53) (x := "repr") rfl) (sa_cons (se_var (i := 6) rfl (by first | exact Or.inl rfl | exact Or.inr (Or.inl rfl) | exact Or.inr (Or.inr rfl))) sa_nil)) (se_reprF kx (by rfl) (c.free (i := 53) (x := "repr") rfl) (sa_cons (se_var (i := 3) rfl (by first | exact Or.inl rfl | exact Or.inr (Or.inl rfl) | exact Or.inr (Or.inr rfl))) sa_nil))))) ss_nil)))
    (ss_one (ss_ret se_bl))))))))
theorem def__law_groups_right {w : World} {K : PySem.W.Frag} {mg : Str → Option Value} {base : Heap} (c : Fx w K mg) : Def Pg w K mg base "_law_groups_right" 10 2 [] mf__law_groups_right := by
  obtain ⟨fd, F⟩ := c.d.def_ 37 (d := d__law_groups_right) rfl
  exact ⟨_, fd, ["prime", "order"], [], [], fnG_ofC F sc__law_groups_right (fun cdv A outer s H E hc hr kx => body__law_groups_right c hr kx (lamD_of (p := ("_law_groups_right", none)) c.e_4 hc)), c.glo (i := 27) (x := "_law_groups_right") rfl, F.kp, F.bindsN (fun _ _ _ _ _ _ us hl => match us, hl with | [_, _], _ => rfl), .nil, fun _ _ => rfl, rfl, by decide⟩
def bd__law_refused_0 : SF := (sSeq (sSet 1 (eAdd (eVar 1) (eLst (aCons (eLam tr__law_told [0] (eFn 2 [] mf_inverse_of (aCons (eVar 0) (aCons (eC .non) aNil)))) (aCons (eLam tr__law_told [0] (eFn 2 [] mf_root_of_one (aCons (eVar 0) (aCons (eC .non) aNil)))) (aCons (eLam tr__law_told [0] (eFn 2 [] mf_need_remainder (aCons (eVar 0) (aCons (eC .non) aNil)))) aNil))))))
    (sSet 2 (eAdd (eVar 2) (eOp gMulA (eLst (aCons (eTup (aCons (eC (.str "prime")) (aCons (eVar 0) aNil))) aNil)) (eC (.int 3))))))
def bd__law_refused_1 : SF := (sSeq (sSet 1 (eAdd (eVar 1) (eLst (aCons (eLam tr__law_told [0] (eFn 2 [] mf_inverse_of (aCons (eC (.int 7)) (aCons (eVar 0) aNil)))) (aCons (eLam tr__law_told [0] (eFn 3 [] mf_quotient_of (aCons (eC (.int 7)) (aCons (eVar 0) (aCons (eC .non) aNil))))) (aCons (eLam tr__law_told [0] (eFn 3 [] mf_quotient_of (aCons (eC (.int 7)) (aCons (eC (.int 0)) (aCons (eVar 0) aNil))))) aNil))))))
    (sSeq (sSet 1 (eAdd (eVar 1) (eLst (aCons (eLam tr__law_told [0] (eFn 3 [] mf_power_of (aCons (eC (.int 7)) (aCons (eVar 0) (aCons (eC .non) aNil))))) (aCons (eLam tr__law_told [0] (eFn 2 [] mf_order_of (aCons (eC (.int 7)) (aCons (eVar 0) aNil)))) (aCons (eLam tr__law_told [0] (eFn 2 [] mf_root_of (aCons (eC (.int 7)) (aCons (eVar 0) aNil)))) aNil))))))
    (sSet 2 (eAdd (eVar 2) (eOp gMulA (eLst (aCons (eTup (aCons (eC (.str "remainder")) (aCons (eVar 0) aNil))) aNil)) (eC (.int 6)))))))
def bd__law_refused_2 : SF := (sSeq (sExpr (eApp 1 (eLam tr__law_told [0] (eFn 3 [] mf_power_of (aCons (eC (.int 7)) (aCons (eC (.int 3)) (aCons (eVar 0) aNil)))))))
    (sExpr (eApp 2 (eTup (aCons (eC (.str "number")) (aCons (eVar 0) aNil))))))
def bd__law_refused_3 : SF := (sSeq (sSet 1 (eAdd (eVar 1) (eLst (aCons (eLam tr__law_told [0] (eFn 2 [] mf_root_of_one (aCons (eC (.int 7)) (aCons (eVar 0) aNil)))) (aCons (eLam tr__law_told [0] (eFn 2 [] mf_group_of (aCons (eC (.int 7)) (aCons (eVar 0) aNil)))) aNil)))))
    (sSet 2 (eAdd (eVar 2) (eOp gMulA (eLst (aCons (eTup (aCons (eC (.str "number")) (aCons (eVar 0) aNil))) aNil)) (eC (.int 2))))))
def m__law_refused : SF := (sSeq (sPar 1 2 (aCons (eLst aNil) (aCons (eLst aNil) aNil)))
    (sSeq (sFor (iVal (eTup (aCons (eC .non) (aCons (eC (.int 2)) (aCons (eC (.int 4)) (aCons (eC (.int 9)) (aCons (eC (.int 65539)) (aCons (eC (.bl true)) (aCons (eC (.str "7")) (aCons (eUn gNeg (eC (.int 7))) (aCons (eC (.int 65535)) (aCons (eLst (aCons (eC (.int 7)) aNil)) aNil)))))))))))) (gNm 0) bd__law_refused_0)
    (sSeq (sFor (iVal (eTup (aCons (eC .non) (aCons (eC (.int 7)) (aCons (eUn gNeg (eC (.int 1))) (aCons (eC (.bl true)) (aCons (eC (.str "1")) (aCons (eTup (aCons (eC (.int 1)) aNil)) (aCons (eLst (aCons (eC (.int 1)) aNil)) aNil))))))))) (gNm 0) bd__law_refused_1)
    (sSeq (sFor (iVal (eTup (aCons (eC .non) (aCons (eUn gNeg (eC (.int 1))) (aCons (eC (.int 1000001)) (aCons (eC (.bl true)) (aCons (eC (.str "2")) aNil))))))) (gNm 0) bd__law_refused_2)
    (sSeq (sFor (iVal (eTup (aCons (eC .non) (aCons (eC (.int 0)) (aCons (eC (.int 65537)) (aCons (eC (.bl true)) (aCons (eUn gNeg (eC (.int 2))) aNil))))))) (gNm 0) bd__law_refused_3)
    (sSeq (sSet 1 (eAdd (eVar 1) (eLst (aCons (eLam tr__law_told [] (eFn 2 [] mf_inverse_of (aCons (eC (.int 7)) (aCons (eC (.int 0)) aNil)))) (aCons (eLam tr__law_told [] (eFn 3 [] mf_quotient_of (aCons (eC (.int 7)) (aCons (eC (.int 3)) (aCons (eC (.int 0)) aNil))))) (aCons (eLam tr__law_told [] (eFn 2 [] mf_order_of (aCons (eC (.int 7)) (aCons (eC (.int 0)) aNil)))) aNil))))))
    (sSeq (sSet 1 (eAdd (eVar 1) (eLst (aCons (eLam tr__law_told [] (eFn 2 [] mf_root_of_one (aCons (eC (.int 7)) (aCons (eC (.int 65536)) aNil)))) (aCons (eLam tr__law_told [] (eFn 2 [] mf_group_of (aCons (eC (.int 65537)) (aCons (eC (.int 2048)) aNil)))) (aCons (eLam tr__law_told [] (eCall (g1 gLen) (aCons (eFn 2 [] mf_group_of (aCons (eC (.int 65537)) (aCons (eC (.int 1024)) aNil))) aNil))) aNil))))))
    (sSeq (sSet 2 (eAdd (eAdd (eVar 2) (eOp gMulA (eLst (aCons (eTup (aCons (eC (.str "name")) (aCons (eC (.str "zero")) aNil))) aNil)) (eC (.int 3)))) (eLst (aCons (eTup (aCons (eC (.str "name")) (aCons (eC (.str "order")) aNil))) (aCons (eTup (aCons (eC (.str "many")) (aCons (eC (.int 1024)) aNil))) (aCons (eLst (aCons (eC (.int 1024)) aNil)) aNil))))))
    (sSeq (sPar 1 2 (aCons (eAdd (eVar 1) (eLst (aCons (eLam tr__law_told [] (eFn 2 [] mf_group_of (aCons (eC (.int 7)) (aCons (eC (.int 65536)) aNil)))) (aCons (eLam tr__law_told [] (eFn 2 [] mf_group_of (aCons (eC (.int 7)) (aCons (eC (.int 1025)) aNil)))) aNil)))) (aCons (eAdd (eVar 2) (eOp gMulA (eLst (aCons (eTup (aCons (eC (.str "name")) (aCons (eC (.str "order")) aNil))) aNil)) (eC (.int 2)))) aNil)))
    (sSeq (sSet 1 (eAdd (eVar 1) (eLst (aCons (eFn 2 [] mf_root_of_one (aCons (eC (.int 65537)) (aCons (eC (.int 65536)) aNil))) (aCons (eFn 3 [] mf_power_of (aCons (eC (.int 7)) (aCons (eC (.int 0)) (aCons (eC (.int 0)) aNil)))) (aCons (eFn 3 [] mf_power_of (aCons (eC (.int 7)) (aCons (eC (.int 3)) (aCons (eC (.int 1000000)) aNil)))) (aCons (eFn 2 [] mf_root_of (aCons (eC (.int 7)) (aCons (eC (.int 0)) aNil))) (aCons (eFn 2 [] mf_root_of (aCons (eC (.int 7)) (aCons (eC (.int 2)) aNil))) (aCons (eFn 2 [] mf_order_of (aCons (eC (.int 3)) (aCons (eC (.int 2)) aNil))) (aCons (eFn 2 [] mf_root_of_one (aCons (eC (.int 13)) (aCons (eC (.int 4)) aNil))) (aCons (eFn 2 [] mf_inverse_of (aCons (eC (.int 65537)) (aCons (eC (.int 65536)) aNil))) aNil)))))))))))
    (sRet (eOp (gEqA false) (eCall (g1 gRepr) (aCons (eVar 1) aNil)) (eCall (g1 gRepr) (aCons (eAdd (eVar 2) (eLst (aCons (eC (.int 3)) (aCons (eC (.int 1)) (aCons (eC (.int 4)) (aCons (eC (.int 0)) (aCons (eC (.int 3)) (aCons (eC (.int 2)) (aCons (eC (.int 5)) (aCons (eC (.int 65536)) aNil)))))))))) aNil))))))))))))))
def mf__law_refused : CF := mfOf 3 m__law_refused
theorem sc__law_refused : FnScope ["bad", "told", "due"] [] (defScope s__law_refused) := ⟨rfl, rfl, rfl, by decide +kernel, rfl, by decide +kernel, by decide +kernel⟩
theorem body__law_refused {w : World} {K : PySem.W.Frag} {mg : Str → Option Value} {base : Heap} {cdv : Value} {A : Around} {outer : List PySem.Env} {s : Shared} {H : Hp} {E : XK} {fA : Addr} (c : Fx w K mg) (hr : Room 9 (A.deeper (envOfC "_law_refused" (defScope s__law_refused) s.heap.objs.size fA cdv)))
    (kx : Kx (cxOf (L2.CX Pg w) Pg w K mg base ["bad", "told", "due"] "_law_refused" (defScope s__law_refused) fA cdv A outer s H E) (wE E)) (Ld : LamD (cxOf (L2.CX Pg w) Pg w K mg base ["bad", "told", "due"] "_law_refused" (defScope s__law_refused) fA cdv A outer s H E)) : SSs (cxOf (L2.CX Pg w) Pg w K mg base ["bad", "told", "due"] "_law_refused" (defScope s__law_refused) fA cdv A outer s H E) (wE E) (defBody s__law_refused) m__law_refused :=
  (ss_cons (ss_par (i := 1) (j := 2) kx rfl rfl (sa_cons (se_lst sa_nil) (sa_cons (se_lst sa_nil) sa_nil)))
    (ss_cons (ss_for kx (si_val (se_tup (sa_cons se_non (sa_cons se_int (sa_cons se_int (sa_cons se_int (sa_cons se_int (sa_cons se_bl (sa_cons se_str (sa_cons (se_neg se_int) (sa_cons se_int (sa_cons (se_lst (sa_cons se_int sa_nil)) sa_nil)))))))))))) (sg_name kx.nd (i := 0) rfl (by first | exact Or.inl rfl | exact Or.inr rfl)) (ss_cons (ss_set (i := 1) kx rfl (by first | exact Or.inl rfl | exact Or.inr rfl) (se_add (se_var (i := 1) rfl (by first | exact Or.inl rfl | exact Or.inr (Or.inl rfl) | exact Or.inr (Or.inr rfl))) (se_lst (sa_cons (se_lam (k := 7) (l := [0]) (told__law_told c) hr (by decide) (by decide) (by rfl) kx Ld (lamN_by (by kernel_rfl)) (fun _ _ _ _ _ _ _ hr kx => (se_fn (Def.fn (def_inverse_of c) hr (by decide) (by rfl)) kx (sa_cons (se_var (i := 0) rfl (by first | exact Or.inl rfl | exact Or.inr (Or.inl rfl) | exact Or.inr (Or.inr rfl))) (sa_cons se_non sa_nil))))) (sa_cons (se_lamD (y := "x") (k := 7) (l := [0]) (told__law_told c) hr (by decide) (by decide) (by rfl) kx Ld (lamN_by (by kernel_rfl)) (fun _ _ _ _ _ _ _ hr kx => (se_fn (Def.fn (def_root_of_one c) hr (by decide) (by rfl)) kx (sa_cons (se_var (i := 0) rfl (by first | exact Or.inl rfl | exact Or.inr (Or.inl rfl) | exact Or.inr (Or.inr rfl))) (sa_cons se_non sa_nil))))) (sa_cons (se_lamD (y := "y") (k := 6) (l := [0]) (told__law_told c) hr (by decide) (by decide) (by rfl) kx Ld (lamN_by (by kernel_rfl)) (fun _ _ _ _ _ _ _ hr kx => (se_fn (Def.fn (def_need_remainder c) hr (by decide) (by rfl)) kx (sa_cons (se_var (i := 0) rfl (by first | exact Or.inl rfl | exact Or.inr (Or.inl rfl) | exact Or.inr (Or.inr rfl))) (sa_cons se_non sa_nil))))) sa_nil))))))
    (ss_one (ss_set (i := 2) kx rfl (by first | exact Or.inl rfl | exact Or.inr rfl) (se_add (se_var (i := 2) rfl (by first | exact Or.inl rfl | exact Or.inr (Or.inl rfl) | exact Or.inr (Or.inr rfl))) (se_mulA (se_lst (sa_cons (se_tup (sa_cons se_str (sa_cons (se_var (i := 0) rfl (by first | exact Or.inl rfl | exact Or.inr (Or.inl rfl) | exact Or.inr (Or.inr rfl))) sa_nil))) sa_nil)) se_int))))))
    (ss_cons (ss_for kx (si_val (se_tup (sa_cons se_non (sa_cons se_int (sa_cons (se_neg se_int) (sa_cons se_bl (sa_cons se_str (sa_cons (se_tup (sa_cons se_int sa_nil)) (sa_cons (se_lst (sa_cons se_int sa_nil)) sa_nil))))))))) (sg_name kx.nd (i := 0) rfl (by first | exact Or.inl rfl | exact Or.inr rfl)) (ss_cons (ss_set (i := 1) kx rfl (by first | exact Or.inl rfl | exact Or.inr rfl) (se_add (se_var (i := 1) rfl (by first | exact Or.inl rfl | exact Or.inr (Or.inl rfl) | exact Or.inr (Or.inr rfl))) (se_lst (sa_cons (se_lam (k := 7) (l := [0]) (told__law_told c) hr (by decide) (by decide) (by rfl) kx Ld (lamN_by (by kernel_rfl)) (fun _ _ _ _ _ _ _ hr kx => (se_fn (Def.fn (def_inverse_of c) hr (by decide) (by rfl)) kx (sa_cons se_int (sa_cons (se_var (i := 0) rfl (by first | exact Or.inl rfl | exact Or.inr (Or.inl rfl) | exact Or.inr (Or.inr rfl))) sa_nil))))) (sa_cons (se_lamD (y := "x") (k := 7) (l := [0]) (told__law_told c) hr (by decide) (by decide) (by rfl) kx Ld (lamN_by (by kernel_rfl)) (fun _ _ _ _ _ _ _ hr kx => (se_fn (Def.fn (def_quotient_of c) hr (by decide) (by rfl)) kx (sa_cons se_int (sa_cons (se_var (i := 0) rfl (by first | exact Or.inl rfl | exact Or.inr (Or.inl rfl) | exact Or.inr (Or.inr rfl))) (sa_cons se_non sa_nil)))))) (sa_cons (se_lamD (y := "y") (k := 7) (l := [0]) (told__law_told c) hr (by decide) (by decide) (by rfl) kx Ld (lamN_by (by kernel_rfl)) (fun _ _ _ _ _ _ _ hr kx => (se_fn (Def.fn (def_quotient_of c) hr (by decide) (by rfl)) kx (sa_cons se_int (sa_cons se_int (sa_cons (se_var (i := 0) rfl (by first | exact Or.inl rfl | exact Or.inr (Or.inl rfl) | exact Or.inr (Or.inr rfl))) sa_nil)))))) sa_nil))))))
    (ss_cons (ss_set (i := 1) kx rfl (by first | exact Or.inl rfl | exact Or.inr rfl) (se_add (se_var (i := 1) rfl (by first | exact Or.inl rfl | exact Or.inr (Or.inl rfl) | exact Or.inr (Or.inr rfl))) (se_lst (sa_cons (se_lam (k := 7) (l := [0]) (told__law_told c) hr (by decide) (by decide) (by rfl) kx Ld (lamN_by (by kernel_rfl)) (fun _ _ _ _ _ _ _ hr kx => (se_fn (Def.fn (def_power_of c) hr (by decide) (by rfl)) kx (sa_cons se_int (sa_cons (se_var (i := 0) rfl (by first | exact Or.inl rfl | exact Or.inr (Or.inl rfl) | exact Or.inr (Or.inr rfl))) (sa_cons se_non sa_nil)))))) (sa_cons (se_lamD (y := "x") (k := 7) (l := [0]) (told__law_told c) hr (by decide) (by decide) (by rfl) kx Ld (lamN_by (by kernel_rfl)) (fun _ _ _ _ _ _ _ hr kx => (se_fn (Def.fn (def_order_of c) hr (by decide) (by rfl)) kx (sa_cons se_int (sa_cons (se_var (i := 0) rfl (by first | exact Or.inl rfl | exact Or.inr (Or.inl rfl) | exact Or.inr (Or.inr rfl))) sa_nil))))) (sa_cons (se_lamD (y := "y") (k := 7) (l := [0]) (told__law_told c) hr (by decide) (by decide) (by rfl) kx Ld (lamN_by (by kernel_rfl)) (fun _ _ _ _ _ _ _ hr kx => (se_fn (Def.fn (def_root_of c) hr (by decide) (by rfl)) kx (sa_cons se_int (sa_cons (se_var (i := 0) rfl (by first | exact Or.inl rfl | exact Or.inr (Or.inl rfl) | exact Or.inr (Or.inr rfl))) sa_nil))))) sa_nil))))))
    (ss_one (ss_set (i := 2) kx rfl (by first | exact Or.inl rfl | exact Or.inr rfl) (se_add (se_var (i := 2) rfl (by first | exact Or.inl rfl | exact Or.inr (Or.inl rfl) | exact Or.inr (Or.inr rfl))) (se_mulA (se_lst (sa_cons (se_tup (sa_cons se_str (sa_cons (se_var (i := 0) rfl (by first | exact Or.inl rfl | exact Or.inr (Or.inl rfl) | exact Or.inr (Or.inr rfl))) sa_nil))) sa_nil)) se_int)))))))
    (ss_cons (ss_for kx (si_val (se_tup (sa_cons se_non (sa_cons (se_neg se_int) (sa_cons se_int (sa_cons se_bl (sa_cons se_str sa_nil))))))) (sg_name kx.nd (i := 0) rfl (by first | exact Or.inl rfl | exact Or.inr rfl)) (ss_cons (ss_expr (se_append (i := 1) kx rfl (by first | exact Or.inl rfl | exact Or.inr (Or.inl rfl) | exact Or.inr (Or.inr rfl)) (se_lam (k := 7) (l := [0]) (told__law_told c) hr (by decide) (by decide) (by rfl) kx Ld (lamN_by (by kernel_rfl)) (fun _ _ _ _ _ _ _ hr kx => (se_fn (Def.fn (def_power_of c) hr (by decide) (by rfl)) kx (sa_cons se_int (sa_cons se_int (sa_cons (se_var (i := 0) rfl (by first | exact Or.inl rfl | exact Or.inr (Or.inl rfl) | exact Or.inr (Or.inr rfl))) sa_nil))))))))
    (ss_one (ss_expr (se_append (i := 2) kx rfl (by first | exact Or.inl rfl | exact Or.inr (Or.inl rfl) | exact Or.inr (Or.inr rfl)) (se_tup (sa_cons se_str (sa_cons (se_var (i := 0) rfl (by first | exact Or.inl rfl | exact Or.inr (Or.inl rfl) | exact Or.inr (Or.inr rfl))) sa_nil))))))))
    (ss_cons (ss_for kx (si_val (se_tup (sa_cons se_non (sa_cons se_int (sa_cons se_int (sa_cons se_bl (sa_cons (se_neg se_int) sa_nil))))))) (sg_name kx.nd (i := 0) rfl (by first | exact Or.inl rfl | exact Or.inr rfl)) (ss_cons (ss_set (i := 1) kx rfl (by first | exact Or.inl rfl | exact Or.inr rfl) (se_add (se_var (i := 1) rfl (by first | exact Or.inl rfl | exact Or.inr (Or.inl rfl) | exact Or.inr (Or.inr rfl))) (se_lst (sa_cons (se_lam (k := 7) (l := [0]) (told__law_told c) hr (by decide) (by decide) (by rfl) kx Ld (lamN_by (by kernel_rfl)) (fun _ _ _ _ _ _ _ hr kx => (se_fn (Def.fn (def_root_of_one c) hr (by decide) (by rfl)) kx (sa_cons se_int (sa_cons (se_var (i := 0) rfl (by first | exact Or.inl rfl | exact Or.inr (Or.inl rfl) | exact Or.inr (Or.inr rfl))) sa_nil))))) (sa_cons (se_lamD (y := "x") (k := 7) (l := [0]) (told__law_told c) hr (by decide) (by decide) (by rfl) kx Ld (lamN_by (by kernel_rfl)) (fun _ _ _ _ _ _ _ hr kx => (se_fn (Def.fn (def_group_of c) hr (by decide) (by rfl)) kx (sa_cons se_int (sa_cons (se_var (i := 0) rfl (by first | exact Or.inl rfl | exact Or.inr (Or.inl rfl) | exact Or.inr (Or.inr rfl))) sa_nil))))) sa_nil)))))
    (ss_one (ss_set (i := 2) kx rfl (by first | exact Or.inl rfl | exact Or.inr rfl) (se_add (se_var (i := 2) rfl (by first | exact Or.inl rfl | exact Or.inr (Or.inl rfl) | exact Or.inr (Or.inr rfl))) (se_mulA (se_lst (sa_cons (se_tup (sa_cons se_str (sa_cons (se_var (i := 0) rfl (by first | exact Or.inl rfl | exact Or.inr (Or.inl rfl) | exact Or.inr (Or.inr rfl))) sa_nil))) sa_nil)) se_int))))))
    (ss_cons (ss_set (i := 1) kx rfl (by first | exact Or.inl rfl | exact Or.inr rfl) (se_add (se_var (i := 1) rfl (by first | exact Or.inl rfl | exact Or.inr (Or.inl rfl) | exact Or.inr (Or.inr rfl))) (se_lst (sa_cons (se_lam (k := 7) (l := []) (told__law_told c) hr (by decide) (by decide) (by rfl) kx Ld (lamN_by (by kernel_rfl)) (fun _ _ _ _ _ _ _ hr kx => (se_fn (Def.fn (def_inverse_of c) hr (by decide) (by rfl)) kx (sa_cons se_int (sa_cons se_int sa_nil))))) (sa_cons (se_lamD (y := "x") (k := 7) (l := []) (told__law_told c) hr (by decide) (by decide) (by rfl) kx Ld (lamN_by (by kernel_rfl)) (fun _ _ _ _ _ _ _ hr kx => (se_fn (Def.fn (def_quotient_of c) hr (by decide) (by rfl)) kx (sa_cons se_int (sa_cons se_int (sa_cons se_int sa_nil)))))) (sa_cons (se_lamD (y := "y") (k := 7) (l := []) (told__law_told c) hr (by decide) (by decide) (by rfl) kx Ld (lamN_by (by kernel_rfl)) (fun _ _ _ _ _ _ _ hr kx => (se_fn (Def.fn (def_order_of c) hr (by decide) (by rfl)) kx (sa_cons se_int (sa_cons se_int sa_nil))))) sa_nil))))))
    (ss_cons (ss_set (i := 1) kx rfl (by first | exact Or.inl rfl | exact Or.inr rfl) (se_add (se_var (i := 1) rfl (by first | exact Or.inl rfl | exact Or.inr (Or.inl rfl) | exact Or.inr (Or.inr rfl))) (se_lst (sa_cons (se_lam (k := 7) (l := []) (told__law_told c) hr (by decide) (by decide) (by rfl) kx Ld (lamN_by (by kernel_rfl)) (fun _ _ _ _ _ _ _ hr kx => (se_fn (Def.fn (def_root_of_one c) hr (by decide) (by rfl)) kx (sa_cons se_int (sa_cons se_int sa_nil))))) (sa_cons (se_lamD (y := "x") (k := 7) (l := []) (told__law_told c) hr (by decide) (by decide) (by rfl) kx Ld (lamN_by (by kernel_rfl)) (fun _ _ _ _ _ _ _ hr kx => (se_fn (Def.fn (def_group_of c) hr (by decide) (by rfl)) kx (sa_cons se_int (sa_cons se_int sa_nil))))) (sa_cons (se_lamD (y := "y") (k := 7) (l := []) (told__law_told c) hr (by decide) (by decide) (by rfl) kx Ld (lamN_by (by kernel_rfl)) (fun _ _ _ _ _ _ _ hr kx => (se_lenF kx (by rfl) (c.free (i := 49) (x := "len") rfl) (sa_cons (se_fn (Def.fn (def_group_of c) hr (by decide) (by rfl)) kx (sa_cons se_int (sa_cons se_int sa_nil))) sa_nil)))) sa_nil))))))
    (ss_cons (ss_set (i := 2) kx rfl (by first | exact Or.inl rfl | exact Or.inr rfl) (se_add (se_add (se_var (i := 2) rfl (by first | exact Or.inl rfl | exact Or.inr (Or.inl rfl) | exact Or.inr (Or.inr rfl))) (se_mulA (se_lst (sa_cons (se_tup (sa_cons se_str (sa_cons se_str sa_nil))) sa_nil)) se_int)) (se_lst (sa_cons (se_tup (sa_cons se_str (sa_cons se_str sa_nil))) (sa_cons (se_tup (sa_cons se_str (sa_cons se_int sa_nil))) (sa_cons (se_lst (sa_cons se_int sa_nil)) sa_nil))))))
    (ss_cons (ss_par (i := 1) (j := 2) kx rfl rfl (sa_cons (se_add (se_var (i := 1) rfl (by first | exact Or.inl rfl | exact Or.inr (Or.inl rfl) | exact Or.inr (Or.inr rfl))) (se_lst (sa_cons (se_lam (k := 7) (l := []) (told__law_told c) hr (by decide) (by decide) (by rfl) kx Ld (lamN_by (by kernel_rfl)) (fun _ _ _ _ _ _ _ hr kx => (se_fn (Def.fn (def_group_of c) hr (by decide) (by rfl)) kx (sa_cons se_int (sa_cons se_int sa_nil))))) (sa_cons (se_lamD (y := "x") (k := 7) (l := []) (told__law_told c) hr (by decide) (by decide) (by rfl) kx Ld (lamN_by (by kernel_rfl)) (fun _ _ _ _ _ _ _ hr kx => (se_fn (Def.fn (def_group_of c) hr (by decide) (by rfl)) kx (sa_cons se_int (sa_cons se_int sa_nil))))) sa_nil)))) (sa_cons (se_add (se_var (i := 2) rfl (by first | exact Or.inl rfl | exact Or.inr (Or.inl rfl) | exact Or.inr (Or.inr rfl))) (se_mulA (se_lst (sa_cons (se_tup (sa_cons se_str (sa_cons se_str sa_nil))) sa_nil)) se_int)) sa_nil)))
    (ss_cons (ss_set (i := 1) kx rfl (by first | exact Or.inl rfl | exact Or.inr rfl) (se_add (se_var (i := 1) rfl (by first | exact Or.inl rfl | exact Or.inr (Or.inl rfl) | exact Or.inr (Or.inr rfl))) (se_lst (sa_cons (se_fn (Def.fn (def_root_of_one c) hr (by decide) (by rfl)) kx (sa_cons se_int (sa_cons se_int sa_nil))) (sa_cons (se_fn (Def.fn (def_power_of c) hr (by decide) (by rfl)) kx (sa_cons se_int (sa_cons se_int (sa_cons se_int sa_nil)))) (sa_cons (se_fn (Def.fn (def_power_of c) hr (by decide) (by rfl)) kx (sa_cons se_int (sa_cons se_int (sa_cons se_int sa_nil)))) (sa_cons (se_fn (Def.fn (def_root_of c) hr (by decide) (by rfl)) kx (sa_cons se_int (sa_cons se_int sa_nil))) (sa_cons (se_fn (Def.fn (def_root_of c) hr (by decide) (by rfl)) kx (sa_cons se_int (sa_cons se_int sa_nil))) (sa_cons (se_fn (Def.fn (def_order_of c) hr (by decide) (by rfl)) kx (sa_cons se_int (sa_cons se_int sa_nil))) (sa_cons (se_fn (Def.fn (def_root_of_one c) hr (by decide) (by rfl)) kx (sa_cons se_int (sa_cons se_int sa_nil))) (sa_cons (se_fn (Def.fn (def_inverse_of c) hr (by decide) (by rfl)) kx (sa_cons se_int (sa_cons se_int sa_nil))) sa_nil)))))))))))
    (ss_one (ss_ret (se_eq kx.hu64 (se_reprF kx (by rfl) (c.free (i := 53) (x := "repr") rfl) (sa_cons (se_var (i := 1) rfl (by first | exact Or.inl rfl | exact Or.inr (Or.inl rfl) | exact Or.inr (Or.inr rfl))) sa_nil)) (se_reprF kx (by rfl) (c.free (i := 53) (x := "repr") rfl) (sa_cons (se_add (se_var (i := 2) rfl (by first | exact Or.inl rfl | exact Or.inr (Or.inl rfl) | exact Or.inr (Or.inr rfl))) (se_lst (sa_cons se_int (sa_cons se_int (sa_cons se_int (sa_cons se_int (sa_cons se_int (sa_cons se_int (sa_cons se_int (sa_cons se_int sa_nil)))))))))) sa_nil)))))))))))))))
theorem def__law_refused {w : World} {K : PySem.W.Frag} {mg : Str → Option Value} {base : Heap} (c : Fx w K mg) : Def Pg w K mg base "_law_refused" 10 0 [] mf__law_refused := by
  obtain ⟨fd, F⟩ := c.d.def_ 38 (d := d__law_refused) rfl
  exact ⟨_, fd, [], [], [], fnG_ofC F sc__law_refused (fun cdv A outer s H E hc hr kx => body__law_refused c hr kx (lamD_of (p := ("_law_refused", none)) c.e_5 hc)), c.glo (i := 28) (x := "_law_refused") rfl, F.kp, F.bindsN (fun _ _ _ _ _ _ us hl => match us, hl with | [], _ => rfl), .nil, fun _ _ => rfl, rfl, by decide⟩
def bd_law_0 : SF := (sSeq (sSet 3 (eFn 2 [] mf__law_draw (aCons (eVar 2) (aCons (eVar 1) aNil))))
    (sSeq (sSet 4 (eFnD 3 1 [] mf__law_prime aNil))
    (sSeq (sSet 5 (eOp gIx (eLst (aCons (eC (.int 1)) (aCons (eC (.int 2)) (aCons (eC (.int 3)) (aCons (eC (.int 4)) (aCons (eC (.int 5)) (aCons (eC (.int 8)) (aCons (eSub (eVar 4) (eC (.int 1))) (aCons (eC (.int 256)) (aCons (eDiv (eVar 4) (eC (.int 2))) (aCons (eC (.int 6)) (aCons (eC (.int 2048)) (aCons (eC (.int 37)) (aCons (eC (.int 107)) (aCons (eC (.int 12)) aNil))))))))))))))) (eFnD 3 2 [] mf__law_digit (aCons (eC (.int 14)) aNil))))
    (sIf (tfOr (tfNot (tfV (eFnD 3 2 [] mf__law_single_right (aCons (eVar 4) aNil)))) (tfNot (tfV (eFn 2 [] mf__law_groups_right (aCons (eVar 4) (aCons (eVar 5) aNil)))))) (sRet (eC (.bl false))) sNx))))
def m_law : SF := (sSeq (sFor (iEn (aCons (eAdd (eCut (eVar 0) oNone (oSome (eC (.int 3)))) (eLst (aCons (eCall (g1 gSum) (aCons (eVar 0) aNil)) aNil))) aNil)) (gTp 2 (gsCons (gNm 1) (gsCons (gNm 2) gsNil))) bd_law_0)
    (sRet (eAnd (eFn 2 [] mf__law_groups_right (aCons (eC (.int 7919)) (aCons (eC (.int 3959)) aNil))) (eFn 0 [] mf__law_refused aNil))))
def mf_law : CF := mfOf 6 m_law
theorem sc_law : FnScope ["script", "k", "cell", "state", "prime", "order"] ["script"] (defScope s_law) := ⟨rfl, rfl, rfl, by decide +kernel, rfl, by decide +kernel, by decide +kernel⟩
theorem body_law {w : World} {K : PySem.W.Frag} {mg : Str → Option Value} {base : Heap} {cdv : Value} {A : Around} {outer : List PySem.Env} {s : Shared} {H : Hp} {E : XK} {fA : Addr} (c : Fx w K mg) (hr : Room 10 (A.deeper (envOfC "law" (defScope s_law) s.heap.objs.size fA cdv)))
    (kx : Kx (cxOf (L2.CX Pg w) Pg w K mg base ["script", "k", "cell", "state", "prime", "order"] "law" (defScope s_law) fA cdv A outer s H E) (wE E)) : SSs (cxOf (L2.CX Pg w) Pg w K mg base ["script", "k", "cell", "state", "prime", "order"] "law" (defScope s_law) fA cdv A outer s H E) (wE E) (defBody s_law) m_law :=
  (ss_cons (ss_for kx (si_enum (sa_cons (se_add (se_cut (se_var (i := 0) rfl (by first | exact Or.inl rfl | exact Or.inr (Or.inl rfl) | exact Or.inr (Or.inr rfl))) so_none (so_some se_int)) (se_lst (sa_cons (se_sumF kx (by rfl) (c.free (i := 56) (x := "sum") rfl) (sa_cons (se_var (i := 0) rfl (by first | exact Or.inl rfl | exact Or.inr (Or.inl rfl) | exact Or.inr (Or.inr rfl))) sa_nil)) sa_nil))) sa_nil) (by rfl) (c.free (i := 46) (x := "enumerate") rfl)) (sg_tup kx.hc (sgs_cons (sg_name kx.nd (i := 1) rfl (by first | exact Or.inl rfl | exact Or.inr rfl)) (sgs_cons (sg_name kx.nd (i := 2) rfl (by first | exact Or.inl rfl | exact Or.inr rfl)) sgs_nil))) (ss_cons (ss_set (i := 3) kx rfl (by first | exact Or.inl rfl | exact Or.inr rfl) (se_fn (Def.fn (def__law_draw c) hr (by decide) (by rfl)) kx (sa_cons (se_var (i := 2) rfl (by first | exact Or.inl rfl | exact Or.inr (Or.inl rfl) | exact Or.inr (Or.inr rfl))) (sa_cons (se_var (i := 1) rfl (by first | exact Or.inl rfl | exact Or.inr (Or.inl rfl) | exact Or.inr (Or.inr rfl))) sa_nil))))
    (ss_cons (ss_set (i := 4) kx rfl (by first | exact Or.inl rfl | exact Or.inr rfl) (se_fnD (i := 3) (Def.fn (def__law_prime c) hr (by decide) (by rfl)) kx rfl (by first | exact Or.inl rfl | exact Or.inr (Or.inl rfl) | exact Or.inr (Or.inr rfl)) sa_nil))
    (ss_cons (ss_set (i := 5) kx rfl (by first | exact Or.inl rfl | exact Or.inr rfl) (se_ix (se_lst (sa_cons se_int (sa_cons se_int (sa_cons se_int (sa_cons se_int (sa_cons se_int (sa_cons se_int (sa_cons (se_sub (se_var (i := 4) rfl (by first | exact Or.inl rfl | exact Or.inr (Or.inl rfl) | exact Or.inr (Or.inr rfl))) se_int) (sa_cons se_int (sa_cons (se_div (se_var (i := 4) rfl (by first | exact Or.inl rfl | exact Or.inr (Or.inl rfl) | exact Or.inr (Or.inr rfl))) se_int) (sa_cons se_int (sa_cons se_int (sa_cons se_int (sa_cons se_int (sa_cons se_int sa_nil))))))))))))))) (se_fnD (i := 3) (Def.fn (def__law_digit c) hr (by decide) (by rfl)) kx rfl (by first | exact Or.inl rfl | exact Or.inr (Or.inl rfl) | exact Or.inr (Or.inr rfl)) (sa_cons se_int sa_nil))))
    (ss_one (ss_if (SW.st (sw_or (st_not (st_val (se_fnD (i := 3) (Def.fn (def__law_single_right c) hr (by decide) (by rfl)) kx rfl (by first | exact Or.inl rfl | exact Or.inr (Or.inl rfl) | exact Or.inr (Or.inr rfl)) (sa_cons (se_var (i := 4) rfl (by first | exact Or.inl rfl | exact Or.inr (Or.inl rfl) | exact Or.inr (Or.inr rfl))) sa_nil)))) (sw_or1 (st_not (st_val (se_fn (Def.fn (def__law_groups_right c) hr (by decide) (by rfl)) kx (sa_cons (se_var (i := 4) rfl (by first | exact Or.inl rfl | exact Or.inr (Or.inl rfl) | exact Or.inr (Or.inr rfl))) (sa_cons (se_var (i := 5) rfl (by first | exact Or.inl rfl | exact Or.inr (Or.inl rfl) | exact Or.inr (Or.inr rfl))) sa_nil)))))))) (ss_one (ss_ret se_bl)) ss_nil))))))
    (ss_one (ss_ret (se_and (se_fn (Def.fn (def__law_groups_right c) hr (by decide) (by rfl)) kx (sa_cons se_int (sa_cons se_int sa_nil))) (se_one (se_fn0 (Def.fn (def__law_refused c) hr (by decide) (by rfl)) kx))))))
theorem def_law {w : World} {K : PySem.W.Frag} {mg : Str → Option Value} {base : Heap} (c : Fx w K mg) : Def Pg w K mg base "law" 11 1 [] mf_law := by
  obtain ⟨fd, F⟩ := c.d.def_ 39 (d := d_law) rfl
  exact ⟨_, fd, ["script"], [], [], fnG_of F sc_law (fun cdv A outer s H E hr kx => body_law c hr kx), c.glo (i := 29) (x := "law") rfl, F.kp, F.bindsN (fun _ _ _ _ _ _ us hl => match us, hl with | [_], _ => rfl), .nil, fun _ _ => rfl, rfl, by decide⟩
end Lk16

namespace Lk16
/-! ### what is reckoned out -/
/-- r, r r, ..: never 1 ahead of the o-th, 1 there; a lesser one has an exponent not prime to o -/
noncomputable def ck (p r o n : Nat) : Nat → Bool := Nat.rec (motive := fun _ => Nat → Bool) (fun h => h == 1)
  (fun f ih h => match h with
    | 0 => false
    | h + 1 => (!(h == 0) && (Nat.ble r (h + 1) || !(Nat.gcd (o - (f + 1)) o == 1))) && ih ((h + 1) * r % p)) n
noncomputable def fnd (p r o n : Nat) : Nat → Nat → Nat := Nat.rec (motive := fun _ => Nat → Nat → Nat) (fun _ fo => fo)
  (fun f ih h fo => match h * r % p with
    | 0 => 0
    | h + 1 => match Nat.ble fo (h + 1) || !(Nat.gcd (o - (f + 1)) o == 1) with
      | true => ih (h + 1) fo
      | false => ih (h + 1) (h + 1)) n
/-- a's o-th power is the first that is 1 -/
structure Ord (p a o : Nat) : Prop where
  pos : 0 < o
  one : a ^ o % p = 1
  min : ∀ k, 0 < k → k < o → a ^ k % p ≠ 1
theorem ck_go {p r o : Nat} : ∀ (n : Nat) (h : Nat), n < o → h = r ^ (o - n) % p → ck p r o n h = true → r ^ o % p = 1 ∧ ∀ k, o - n ≤ k → k < o → r ^ k % p ≠ 1 ∧ r ^ k % p ≠ 0 ∧ (r ^ k % p < r → Nat.gcd k o ≠ 1)
  | 0, h, hn, e, c => by
    have c1 : (h == 1) = true := c
    rw [beq_iff_eq] at c1
    refine ⟨by rw [← c1, e, Nat.sub_zero], fun k h1 h2 => by omega⟩
  | n + 1, h, hn, e, c => by
    cases h with
    | zero => cases (show false = true from c)
    | succ h =>
      have c1 : ((!(h == 0) && (Nat.ble r (h + 1) || !(Nat.gcd (o - (n + 1)) o == 1))) && ck p r o n ((h + 1) * r % p)) = true := c
      simp only [Bool.and_eq_true, Bool.not_eq_true', beq_eq_false_iff_ne, Bool.or_eq_true, Nat.ble_eq] at c1
      obtain ⟨⟨c2, c3⟩, c4⟩ := c1
      have e2 : (h + 1) * r % p = r ^ (o - n) % p := by
        rw [e, Nat.mod_mul_mod, ← Nat.pow_succ]
        congr 2
        omega
      obtain ⟨f1, f2⟩ := ck_go n _ (by omega) e2 c4
      refine ⟨f1, fun k h1 h2 => ?_⟩
      by_cases hk : k = o - (n + 1)
      · rw [hk, ← e]
        exact ⟨by omega, by omega, fun z => by rcases c3 with y | y; omega; exact y⟩
      · exact f2 k (by omega) h2
theorem ck_ok {p r o : Nat} (h0 : 0 < o) (hr : r < p) (c : ck p r o (o - 1) r = true) : Ord p r o ∧ ∀ k, 0 < k → k < o → r ^ k % p ≠ 0 ∧ (r ^ k % p < r → Nat.gcd k o ≠ 1) := by
  obtain ⟨f1, f2⟩ := ck_go (o - 1) r (by omega) (by rw [show o - (o - 1) = 1 by omega, Nat.pow_one, Nat.mod_eq_of_lt hr]) c
  exact ⟨⟨h0, f1, fun k h1 h2 => (f2 k (by omega) h2).1⟩, fun k h1 h2 => (f2 k (by omega) h2).2⟩
/-! ### orders -/
section
variable {p a o : Nat}
theorem pow_split (p a m n : Nat) : a ^ (m + n) % p = (a ^ m % p) * (a ^ n % p) % p := by rw [Nat.pow_add, Nat.mul_mod]
theorem pow_pow (p a m n : Nat) : a ^ (m * n) % p = (a ^ m % p) ^ n % p := by rw [Nat.pow_mul, ← Nat.pow_mod]
theorem one_pow' (hp : 1 < p) (n : Nat) : 1 ^ n % p = 1 := by rw [Nat.one_pow, Nat.mod_eq_of_lt hp]
theorem Ord.mod (O : Ord p a o) (hp : 1 < p) (n : Nat) : a ^ n % p = a ^ (n % o) % p := by
  have e : a ^ n % p = a ^ (o * (n / o) + n % o) % p := by rw [Nat.div_add_mod]
  rw [e, pow_split, pow_pow, O.one, one_pow' hp, Nat.one_mul, Nat.mod_mod]
theorem Ord.dvd (O : Ord p a o) (hp : 1 < p) {n : Nat} (h : a ^ n % p = 1) : o ∣ n := by
  have h2 := O.mod hp n
  rw [h] at h2
  refine Nat.dvd_of_mod_eq_zero (Classical.byContradiction fun z => ?_)
  exact O.min (n % o) (Nat.pos_of_ne_zero z) (Nat.mod_lt _ O.pos) h2.symm
theorem Ord.of_dvd (O : Ord p a o) (hp : 1 < p) {n : Nat} (h : o ∣ n) : a ^ n % p = 1 := by
  obtain ⟨m, rfl⟩ := h
  rw [pow_pow, O.one, one_pow' hp]
theorem Ord.inj (O : Ord p a o) (hp : 1 < p) {i j : Nat} (hi : i < j) (hj : j < o) : a ^ i % p ≠ a ^ j % p := fun e => by
  have e1 : a ^ (i + (o - i)) % p = 1 := by rw [show i + (o - i) = o by omega]; exact O.one
  have e2 : a ^ (j + (o - i)) % p = a ^ (j - i) % p := by
    rw [show j + (o - i) = o + (j - i) by omega, pow_split, O.one, Nat.one_mul, Nat.mod_mod]
  rw [pow_split, e, ← pow_split, e2] at e1
  exact O.min (j - i) (by omega) (by omega) e1
theorem Ord.ne0 (O : Ord p a o) (hp : 1 < p) (i : Nat) : a ^ i % p ≠ 0 := fun e => by
  have e1 : a ^ (i + (o - i % o)) % p = 1 := O.of_dvd hp (by
    have h1 := Nat.div_add_mod i o
    have h2 := Nat.mod_lt i O.pos
    refine ⟨i / o + 1, ?_⟩
    rw [Nat.mul_add]
    omega)
  rw [pow_split, e, Nat.zero_mul, Nat.zero_mod] at e1
  omega
/-- a generator meets all -/
theorem Ord.gen {g : Nat} (O : Ord p g (p - 1)) (hp : 1 < p) {a : Nat} (h0 : 0 < a) (h1 : a < p) : ∃ i, i < p - 1 ∧ g ^ i % p = a := by
  refine Classical.byContradiction fun no => ?_
  have nd : (a :: (List.range (p - 1)).map fun i => g ^ i % p).Nodup := by
    refine List.nodup_cons.mpr ⟨fun z => ?_, ?_⟩
    · obtain ⟨i, hi, e⟩ := List.mem_map.mp z
      exact no ⟨i, List.mem_range.mp hi, e⟩
    · refine List.pairwise_map.mpr ((List.pairwise_lt_range).imp_of_mem fun {x y} hx hy h => O.inj hp h (List.mem_range.mp hy))
  have z := VL.Tb.sub_len (l2 := List.range' 1 (p - 1)) nd fun x hx => by
    rw [List.mem_range'_1]
    rcases List.mem_cons.mp hx with e | e
    · omega
    · obtain ⟨i, _, rfl⟩ := List.mem_map.mp e
      have := O.ne0 hp i
      have := Nat.mod_lt (g ^ i) (show 0 < p by omega)
      omega
  rw [List.length_cons, List.length_map, List.length_range, List.length_range'] at z
  omega
theorem fermat {g : Nat} (O : Ord p g (p - 1)) (hp : 1 < p) (h0 : 0 < a) (h1 : a < p) : a ^ (p - 1) % p = 1 := by
  obtain ⟨i, _, rfl⟩ := O.gen hp h0 h1
  rw [← pow_pow, Nat.mul_comm, pow_pow, O.one, one_pow' hp]
/-- every one has an order -/
theorem has_ord {n : Nat} (h0 : 0 < n) (h : a ^ n % p = 1) : ∃ o, o ≤ n ∧ Ord p a o := by
  induction n using Nat.strongRecOn with
  | _ n ih =>
    by_cases hk : ∃ k, 0 < k ∧ k < n ∧ a ^ k % p = 1
    · obtain ⟨k, k0, k1, e⟩ := hk
      obtain ⟨o, ho, O⟩ := ih k k1 k0 e
      exact ⟨o, by omega, O⟩
    · exact ⟨n, Nat.le_refl _, h0, h, fun k k0 k1 e => hk ⟨k, k0, k1, e⟩⟩
/-- an exponent not prime to o: a lesser order -/
theorem Ord.less (O : Ord p a o) (hp : 1 < p) {k : Nat} (hg : Nat.gcd k o ≠ 1) (hk : 0 < k) : ∃ d, d < o ∧ 0 < d ∧ (a ^ k % p) ^ d % p = 1 := by
  have g0 : 0 < Nat.gcd k o := Nat.gcd_pos_of_pos_left _ hk
  obtain ⟨d, hd⟩ := Nat.gcd_dvd_right k o
  obtain ⟨m, hm⟩ := Nat.gcd_dvd_left k o
  have d0 : 0 < d := Nat.pos_of_ne_zero fun z => by
    rw [z, Nat.mul_zero] at hd
    have := O.pos
    omega
  refine ⟨d, ?_, d0, ?_⟩
  · have : 2 * d ≤ Nat.gcd k o * d := Nat.mul_le_mul_right d (by omega)
    rw [← hd] at this
    omega
  · rw [← pow_pow]
    refine O.of_dvd hp ⟨m, ?_⟩
    calc k * d = (Nat.gcd k o * m) * d := by rw [← hm]
      _ = Nat.gcd k o * d * m := by rw [Nat.mul_assoc, Nat.mul_comm m d, ← Nat.mul_assoc]
      _ = o * m := by rw [← hd]
end
end Lk16

namespace Lk16
open PySem PySem.Spec PyProof.Rows L2 VL VL.Ev

theorem gLt_i (a b : Int) : gLt (I a) (I b) = some (.dat (.bl (decide (a < b)))) := by kernel_rfl
theorem gLe_i (a b : Int) : gLe (I a) (I b) = some (.dat (.bl (decide (a ≤ b)))) := by kernel_rfl
theorem gGt_i (a b : Int) : gGt (I a) (I b) = some (.dat (.bl (decide (b < a)))) := by kernel_rfl
theorem gNe_i (a b : Int) : gEqA true (I a) (I b) = some (.dat (.bl (!decide (a = b)))) := by kernel_rfl
theorem gMul_r {a b : Int} (h0 : 0 ≤ b) (h : b < 4294967296) : gMulA (I a) (I b) = some (I (a * b)) := gMul_i (fits_r (by omega) (by omega))
theorem gMul_l {a b : Int} (h0 : 0 ≤ a) (h : a < 4294967296) : gMulA (I a) (I b) = some (I (a * b)) := gMul_i (fits_l (by omega) (by omega))
theorem gDiv_p {a b : Int} (h0 : 0 < b) (h : b < 4294967296) : gDiv (I a) (I b) = some (I (a / b)) := gDiv_i (by
  unfold divFits
  have h1 : b.natAbs.log2 < 64 := by
    by_cases hz : b.natAbs = 0
    · omega
    · exact (Nat.log2_lt hz).mpr (by omega)
  rw [decide_eq_true h0, decide_eq_true (by omega : b.natAbs.log2 < 9000)]
  rfl)
/-! ### while -/
theorem wh_stop {c : TF} {b : SF} {n : Nat} {E E1 : VL.Env} (h : c E = .ok (false, E1)) (hn : 0 < n) : sWhN c b n E = .nx E1 := by
  cases n with
  | zero => omega
  | succ n =>
    unfold sWhN
    rw [h]
    rfl
theorem wh_turn {c : TF} {b : SF} {n : Nat} {E E1 E2 : VL.Env} {r : FL} (h : c E = .ok (true, E1)) (hb : b E1 = .nx E2) (h2 : sWhN c b n E2 = r) : sWhN c b (n + 1) E = r := by
  unfold sWhN
  rw [h]
  show (match b E1 with
    | .nx E' => sWhN c b n E'
    | .ct E' => sWhN c b n E'
    | .bk E' => .nx E'
    | r => r) = _
  rw [hb]
  exact h2
/-! ### powers by squares -/
abbrev Ep (p n e f s l : Int) : VL.Env := [I p, I n, I e, I f, I s, I l]
abbrev cp : TF := tfV (eOp gGt (eVar 5) (eC (.int 0)))
theorem cp_ok (p n e f s l : Int) : cp (Ep p n e f s l) = .ok (decide (0 < l), Ep p n e f s l) := by
  simp only [cp, Ep, sSeq, sSet, sIf, sRet, sAug, sPar, sPar3, sAsg, sExpr, sNx, tfV, tfNot, tfAnd, tfOr, eVar, eMove, eC, eAdd, eSub, eMod, eDiv, eOp, eUn, eAnd, eOr, eTup, ePk, gTp, gsCons, gsNil, gNm, aNil, aCons, dAll, RR.bind, RR.fl, RR.opt, List.getElem?_cons_succ, List.getElem?_cons_zero, Env.at, Env.st, List.set_cons_succ, List.set_cons_zero, Sl.d?, Option.bind_some, Option.map_some, gGt_i]
theorem bp_odd (p n e f s l : Int) (hp : 0 < p) (hs : 0 ≤ s) (hs2 : s < 4294967296) (h : l % 2 = 1) : bd_own_power_0 (Ep p n e f s l) = .nx (Ep p n e (f * s % p) (s * s % p) (l / 2)) := by
  simp only [bd_own_power_0, Ep, sSeq, sSet, sIf, sRet, sAug, sPar, sPar3, sAsg, sExpr, sNx, tfV, tfNot, tfAnd, tfOr, eVar, eMove, eC, eAdd, eSub, eMod, eDiv, eOp, eUn, eAnd, eOr, eTup, ePk, gTp, gsCons, gsNil, gNm, aNil, aCons, dAll, RR.bind, RR.fl, RR.opt, List.getElem?_cons_succ, List.getElem?_cons_zero, Env.at, Env.st, List.set_cons_succ, List.set_cons_zero, Sl.d?, Option.bind_some, Option.map_some, gEq_i, gMul_r hs hs2, gMod_i hp, gMod_i (show (0 : Int) < 2 by decide), gDiv_p (show (0 : Int) < 2 by decide) (by decide), h, decide_true, if_true]
theorem bp_even (p n e f s l : Int) (hp : 0 < p) (hs : 0 ≤ s) (hs2 : s < 4294967296) (h : ¬ l % 2 = 1) : bd_own_power_0 (Ep p n e f s l) = .nx (Ep p n e f (s * s % p) (l / 2)) := by
  simp only [bd_own_power_0, Ep, sSeq, sSet, sIf, sRet, sAug, sPar, sPar3, sAsg, sExpr, sNx, tfV, tfNot, tfAnd, tfOr, eVar, eMove, eC, eAdd, eSub, eMod, eDiv, eOp, eUn, eAnd, eOr, eTup, ePk, gTp, gsCons, gsNil, gNm, aNil, aCons, dAll, RR.bind, RR.fl, RR.opt, List.getElem?_cons_succ, List.getElem?_cons_zero, Env.at, Env.st, List.set_cons_succ, List.set_cons_zero, Sl.d?, Option.bind_some, Option.map_some, gEq_i, gMul_r hs hs2, gMod_i hp, gMod_i (show (0 : Int) < 2 by decide), gDiv_p (show (0 : Int) < 2 by decide) (by decide), h, decide_false, if_false, Bool.false_eq_true]
end Lk16
namespace Lk16
open PySem PySem.Spec PyProof.Rows L2 VL VL.Ev
abbrev N (a : Nat) : Sl := I ((a : Nat) : Int)
theorem mf_of {n : Nat} {sf : SF} {ss : List Sl} {r : Sl} {E : VL.Env} (h : sf (ss ++ List.replicate (n - ss.length) .no) = .rt r E) (hr : r.ret = true) (hl : lentOf E = none) : mfOf n sf ss = .ok r none := by
  rw [mf_ret h hr, hl]
theorem pow_loop (b : SF) (p n e : Nat) (hp : 1 < p) (hp2 : p ≤ 65537) (odd : ∀ f s l : Int, 0 ≤ s → s < 4294967296 → l % 2 = 1 → b (Ep p n e f s l) = .nx (Ep p n e (f * s % p) (s * s % p) (l / 2))) (even : ∀ f s l : Int, 0 ≤ s → s < 4294967296 → ¬ l % 2 = 1 → b (Ep p n e f s l) = .nx (Ep p n e f (s * s % p) (l / 2))) : ∀ (m l f s fu : Nat), l < 2 ^ m → m < fu → s < p → ∃ f' s' l' : Nat, sWhN cp b fu (Ep p n e f s l) = .nx [N p, N n, N e, N f', N s', N l'] ∧ (l = 0 → f' = f) ∧ (0 < l → f' = f * s ^ l % p)
  | 0, l, f, s, fu, hl, hf, hs => by
    obtain rfl : l = 0 := by simpa using hl
    exact ⟨f, s, 0, wh_stop (by rw [cp_ok]; rfl) hf, fun _ => rfl, fun h => by omega⟩
  | m + 1, l, f, s, 0, hl, hf, hs => by omega
  | m + 1, l, f, s, fu + 1, hl, hf, hs => by
    by_cases h0 : l = 0
    · subst h0
      exact ⟨f, s, 0, wh_stop (by rw [cp_ok]; rfl) (by omega), fun _ => rfl, fun h => by omega⟩
    · have hl2 : l / 2 < 2 ^ m := by rw [Nat.pow_succ] at hl; omega
      have hs1 : s * s % p < p := Nat.mod_lt _ (by omega)
      have ct : cp (Ep p n e f s l) = .ok (true, Ep p n e f s l) := by rw [cp_ok, decide_eq_true (by omega : (0 : Int) < (l : Int))]
      have es : ((s : Int) * (s : Int) % (p : Int)) = ((s * s % p : Nat) : Int) := by norm_cast
      have el : ((l : Int) / 2) = ((l / 2 : Nat) : Int) := by norm_cast
      have sq : ∀ k, (s * s % p) ^ k % p = s ^ (2 * k) % p := fun k => by rw [← Nat.pow_mod, Nat.pow_mul, Nat.pow_two]
      by_cases ho : l % 2 = 1
      · have ef : ((f : Int) * (s : Int) % (p : Int)) = ((f * s % p : Nat) : Int) := by norm_cast
        obtain ⟨f', s', l', e1, e2, e3⟩ := pow_loop b p n e hp hp2 odd even m (l / 2) (f * s % p) (s * s % p) fu hl2 (by omega) hs1
        refine ⟨f', s', l', wh_turn ct (odd f s l (by omega) (by omega) (by omega)) (by rw [es, el, ef]; exact e1), fun h => by omega, fun _ => ?_⟩
        by_cases hz : l / 2 = 0
        · rw [e2 hz, show l = 1 by omega, Nat.pow_one]
        · rw [e3 (by omega), Nat.mul_mod, sq, ← Nat.mul_mod, Nat.mod_mul_mod, Nat.mul_assoc, Nat.mul_comm s, ← Nat.pow_succ]
          congr 3
          omega
      · obtain ⟨f', s', l', e1, e2, e3⟩ := pow_loop b p n e hp hp2 odd even m (l / 2) f (s * s % p) fu hl2 (by omega) hs1
        refine ⟨f', s', l', wh_turn ct (even f s l (by omega) (by omega) (by omega)) (by rw [es, el]; exact e1), fun h => by omega, fun _ => ?_⟩
        rw [e3 (by omega), Nat.mul_mod, sq, ← Nat.mul_mod]
        congr 3
        omega
theorem own_power_ok (p n e : Nat) (hp : 1 < p) (hp2 : p ≤ 65537) (hn : n < p) (he : e < 2 ^ 40) : mf_own_power [N p, N n, N e] = .ok (N (n ^ e % p)) none := by
  obtain ⟨f', s', l', e1, e2, e3⟩ := pow_loop bd_own_power_0 p n e hp hp2 (fun f s l => bp_odd p n e f s l (by omega)) (fun f s l => bp_even p n e f s l (by omega)) 40 e 1 n VL.fuel he (by unfold VL.fuel; omega) hn
  have ef : f' = n ^ e % p := by
    by_cases h : e = 0
    · rw [e2 h, h, Nat.pow_zero, Nat.mod_eq_of_lt hp]
    · rw [e3 (by omega), Nat.one_mul]
  refine mf_of (E := [N p, N n, N e, .no, N s', N l']) ?_ rfl rfl
  show m_own_power [N p, N n, N e, .no, .no, .no] = _
  unfold m_own_power
  refine seq_nx (E1 := Ep p n e (1 : Nat) n e) (by kernel_rfl) (seq_nx (show sWh cp bd_own_power_0 _ = _ from e1) ?_)
  rw [ef]
  kernel_rfl
/-! ### the law's powers -/
abbrev Es (p n e f h l : Nat) : VL.Env := [N p, N n, N e, N f, N h, N l]
theorem bs_odd (p n e f h l : Int) (hp : 0 < p) (h0 : 0 ≤ h) (h1 : h < 4294967296) (o : l % 2 = 1) : bd__law_squared_0 (Ep p n e f h l) = .nx (Ep p n e (f * h % p) (h * h % p) (l / 2)) := by
  simp only [bd__law_squared_0, Ep, sSeq, sSet, sIf, sRet, sAug, sPar, sPar3, sAsg, sExpr, sNx, tfV, tfNot, tfAnd, tfOr, eVar, eMove, eC, eAdd, eSub, eMod, eDiv, eOp, eUn, eAnd, eOr, eTup, ePk, gTp, gsCons, gsNil, gNm, aNil, aCons, dAll, RR.bind, RR.fl, RR.opt, List.getElem?_cons_succ, List.getElem?_cons_zero, Env.at, Env.st, List.set_cons_succ, List.set_cons_zero, Sl.d?, Option.bind_some, Option.map_some, eIf, gEq_i, gMul_r h0 h1, gMod_i hp, gMod_i (show (0 : Int) < 2 by decide), gDiv_p (show (0 : Int) < 2 by decide) (by decide), o, decide_true, if_true]
theorem bs_even (p n e f h l : Int) (hp : 0 < p) (h0 : 0 ≤ h) (h1 : h < 4294967296) (o : ¬ l % 2 = 1) : bd__law_squared_0 (Ep p n e f h l) = .nx (Ep p n e f (h * h % p) (l / 2)) := by
  simp only [bd__law_squared_0, Ep, sSeq, sSet, sIf, sRet, sAug, sPar, sPar3, sAsg, sExpr, sNx, tfV, tfNot, tfAnd, tfOr, eVar, eMove, eC, eAdd, eSub, eMod, eDiv, eOp, eUn, eAnd, eOr, eTup, ePk, gTp, gsCons, gsNil, gNm, aNil, aCons, dAll, RR.bind, RR.fl, RR.opt, List.getElem?_cons_succ, List.getElem?_cons_zero, Env.at, Env.st, List.set_cons_succ, List.set_cons_zero, Sl.d?, Option.bind_some, Option.map_some, eIf, gEq_i, gMul_r h0 h1, gMod_i hp, gMod_i (show (0 : Int) < 2 by decide), gDiv_p (show (0 : Int) < 2 by decide) (by decide), o, decide_false, if_false, Bool.false_eq_true]
theorem law_squared_ok (p n e : Nat) (hp : 1 < p) (hp2 : p ≤ 65537) (hn : n < p) (he : e < 2 ^ 40) : mf__law_squared [N p, N n, N e] = .ok (N (n ^ e % p)) none := by
  obtain ⟨f', s', l', e1, e2, e3⟩ := pow_loop bd__law_squared_0 p n e hp hp2 (fun f s l => bs_odd p n e f s l (by omega)) (fun f s l => bs_even p n e f s l (by omega)) 40 e 1 n VL.fuel he (by unfold VL.fuel; omega) hn
  have ef : f' = n ^ e % p := by
    by_cases h : e = 0
    · rw [e2 h, h, Nat.pow_zero, Nat.mod_eq_of_lt hp]
    · rw [e3 (by omega), Nat.one_mul]
  refine mf_of (E := [N p, N n, N e, .no, N s', N l']) ?_ rfl rfl
  show m__law_squared [N p, N n, N e, .no, .no, .no] = _
  unfold m__law_squared
  refine seq_nx (E1 := Ep p n e (1 : Nat) n e) (by kernel_rfl) (seq_nx (show sWh cp bd__law_squared_0 _ = _ from e1) ?_)
  rw [ef]
  kernel_rfl
theorem bl_ok (p n e f : Int) (x : Sl) (hp : 0 < p) (h0 : 0 ≤ n) (h1 : n < 4294967296) : bd__law_power_0 [I p, I n, I e, I f, x] = .nx [I p, I n, I e, I (f * n % p), x] := by
  simp only [bd__law_power_0, sSeq, sSet, sIf, sRet, sAug, sPar, sPar3, sAsg, sExpr, sNx, tfV, tfNot, tfAnd, tfOr, eVar, eMove, eC, eAdd, eSub, eMod, eDiv, eOp, eUn, eAnd, eOr, eTup, ePk, gTp, gsCons, gsNil, gNm, aNil, aCons, dAll, RR.bind, RR.fl, RR.opt, List.getElem?_cons_succ, List.getElem?_cons_zero, Env.at, Env.st, List.set_cons_succ, List.set_cons_zero, Sl.d?, Option.bind_some, Option.map_some, gMul_r h0 h1, gMod_i hp]
theorem lpow_loop (p n e : Nat) (hp : 1 < p) (hn : n < p) (hp2 : p ≤ 65537) : ∀ (ds : List D) (j : Nat) (x : Sl), ∃ x', loopS (gNm 4) bd__law_power_0 ds [N p, N n, N e, N (n ^ j % p), x] = .nx [N p, N n, N e, N (n ^ (j + ds.length) % p), x']
  | [], j, x => ⟨x, by unfold loopS; rfl⟩
  | d :: ds, j, x => by
    obtain ⟨x', h⟩ := lpow_loop p n e hp hn hp2 ds (j + 1) (.dat d)
    refine ⟨x', loop_nx (E1 := [N p, N n, N e, N (n ^ j % p), .dat d]) (by rfl) (bl_ok p n e _ _ (by omega) (by omega) (by omega)) ?_⟩
    have e1 : (((n ^ j % p : Nat) : Int) * (n : Int) % (p : Int)) = ((n ^ (j + 1) % p : Nat) : Int) := by
      rw [Nat.pow_succ, ← Nat.mod_mul_mod (n ^ j)]
      norm_cast
    rw [e1, h, List.length_cons, show j + 1 + ds.length = j + (ds.length + 1) by omega]
theorem small_n {n : Nat} (hn : n < 4000000000) : smallI (n : Int) = true := by
  unfold smallI
  rw [Bool.and_eq_true, decide_eq_true_eq, decide_eq_true_eq]
  omega
theorem rg1_e {g : AF} {E E1 : VL.Env} {j : Int} (h : g E = .ok ([I j], E1)) (hs : smallI j = true) : iRg1 g E = .ok (rngD 0 1 j.toNat, E1) := by
  unfold iRg1
  rw [h]
  show (if smallI j = true then _ else _) = _
  rw [if_pos hs]
theorem rg2_e {g : AF} {E E1 : VL.Env} {i j : Int} (h : g E = .ok ([I i, I j], E1)) (hi : smallI i = true) (hs : smallI j = true) : iRg2 g E = .ok (rngD i 1 (j - i).toNat, E1) := by
  unfold iRg2
  rw [h]
  show (if (smallI i && smallI j) = true then _ else _) = _
  rw [hi, hs]
  rfl
theorem rg1_of {g : AF} {E E1 : VL.Env} {n : Nat} (h : g E = .ok ([N n], E1)) (hn : n < 4000000000) : iRg1 g E = .ok (rngD 0 1 n, E1) := rg1_e (j := (n : Int)) h (small_n hn)
theorem rg2_of {g : AF} {E E1 : VL.Env} {n : Nat} (h : g E = .ok ([N 1, N n], E1)) (hn : n < 4000000000) : iRg2 g E = .ok (rngD 1 1 (n - 1), E1) := by
  have e : ((n : Int) - 1).toNat = n - 1 := by omega
  rw [rg2_e (i := 1) (j := (n : Int)) h (by decide) (small_n hn), e]
theorem law_power_ok (p n e : Nat) (hp : 1 < p) (hn : n < p) (hp2 : p ≤ 65537) (he : e < 100000) : ∃ l, mf__law_power [N p, N n, N e] = .ok (N (n ^ e % p)) l := by
  obtain ⟨x', h⟩ := lpow_loop p n e hp hn hp2 (rngD 0 1 e) 0 .no
  rw [rngD_len, Nat.pow_zero, Nat.mod_eq_of_lt hp, Nat.zero_add] at h
  refine ⟨_, mf_ret (E := [N p, N n, N e, .no, x']) ?_ rfl⟩
  show m__law_power [N p, N n, N e, .no, .no] = _
  unfold m__law_power
  exact seq_nx (E1 := [N p, N n, N e, N 1, .no]) (by kernel_rfl) (seq_nx (for_of (ds := rngD 0 1 e) (E1 := [N p, N n, N e, N 1, .no]) (rg1_of (by kernel_rfl) (by omega)) h) (by kernel_rfl))
/-! ### the law's order -/
abbrev Eo (p a h f : Int) : VL.Env := [I p, I a, I h, I f]
abbrev co : TF := tfV (eOp (gEqA true) (eVar 2) (eC (.int 1)))
theorem co_ok (p a h f : Int) : co (Eo p a h f) = .ok (!decide (h = 1), Eo p a h f) := by
  simp only [co, Eo, sSeq, sSet, sIf, sRet, sAug, sPar, sPar3, sAsg, sExpr, sNx, tfV, tfNot, tfAnd, tfOr, eVar, eMove, eC, eAdd, eSub, eMod, eDiv, eOp, eUn, eAnd, eOr, eTup, ePk, gTp, gsCons, gsNil, gNm, aNil, aCons, dAll, RR.bind, RR.fl, RR.opt, List.getElem?_cons_succ, List.getElem?_cons_zero, Env.at, Env.st, List.set_cons_succ, List.set_cons_zero, Sl.d?, Option.bind_some, Option.map_some, gNe_i]
theorem bo_ok (p a h f : Int) (hp : 0 < p) (h0 : 0 ≤ a) (h1 : a < 4294967296) : bd__law_order_0 (Eo p a h f) = .nx (Eo p a (h * a % p) (f + 1)) := by
  simp only [bd__law_order_0, Eo, sSeq, sSet, sIf, sRet, sAug, sPar, sPar3, sAsg, sExpr, sNx, tfV, tfNot, tfAnd, tfOr, eVar, eMove, eC, eAdd, eSub, eMod, eDiv, eOp, eUn, eAnd, eOr, eTup, ePk, gTp, gsCons, gsNil, gNm, aNil, aCons, dAll, RR.bind, RR.fl, RR.opt, List.getElem?_cons_succ, List.getElem?_cons_zero, Env.at, Env.st, List.set_cons_succ, List.set_cons_zero, Sl.d?, Option.bind_some, Option.map_some, gMul_r h0 h1, gMod_i hp, gAdd_i]
theorem ord_loop (p a o : Nat) (hp : 1 < p) (hp2 : p ≤ 65537) (ha : a < p) (O : Ord p a o) : ∀ (m k fu : Nat), k + m = o → m < fu → 0 < k → sWhN co bd__law_order_0 fu (Eo p a (a ^ k % p : Nat) k) = .nx (Eo p a (1 : Nat) o)
  | m, k, 0, hk, hf, k0 => by omega
  | 0, k, fu + 1, hk, hf, k0 => by
    obtain rfl : k = o := by omega
    rw [O.one]
    exact wh_stop (by rw [co_ok]; rfl) (by omega)
  | m + 1, k, fu + 1, hk, hf, k0 => by
    have hne : ¬ (((a ^ k % p : Nat) : Int) = 1) := fun z => O.min k k0 (by omega) (by omega)
    refine wh_turn (by rw [co_ok, decide_eq_false hne]; rfl) (bo_ok p a _ _ (by omega) (by omega) (by omega)) ?_
    have e1 : (((a ^ k % p : Nat) : Int) * (a : Int) % (p : Int)) = ((a ^ (k + 1) % p : Nat) : Int) := by
      rw [Nat.pow_succ, ← Nat.mod_mul_mod (a ^ k)]
      norm_cast
    rw [e1]
    exact ord_loop p a o hp hp2 ha O m (k + 1) fu (by omega) (by omega) (by omega)
theorem law_order_ok (p a o : Nat) (hp : 1 < p) (hp2 : p ≤ 65537) (ha : a < p) (O : Ord p a o) (ho : o < 1000000) : mf__law_order [N p, N a] = .ok (N o) none := by
  have h := ord_loop p a o hp hp2 ha O (o - 1) 1 VL.fuel (by have := O.pos; omega) (by unfold VL.fuel; omega) (by decide)
  rw [Nat.pow_one, Nat.mod_eq_of_lt ha] at h
  refine mf_of (E := [N p, N a, N 1, .no]) ?_ rfl rfl
  show m__law_order [N p, N a, .no, .no] = _
  unfold m__law_order
  exact seq_nx (E1 := Eo p a a (1 : Nat)) (by kernel_rfl) (seq_nx (show sWh co bd__law_order_0 _ = _ from h) (by kernel_rfl))
end Lk16

namespace Lk16
open PySem PySem.Spec PyProof.Rows L2 VL VL.Ev

theorem and_t {fa fb : EF} {E E1 : VL.Env} {r : RR (Sl × VL.Env)} (h : fa E = .ok (.dat (.bl true), E1)) (h2 : fb E1 = r) : eAnd fa fb E = r := by
  unfold eAnd
  rw [h]
  exact h2
theorem and_f {fa fb : EF} {E E1 : VL.Env} (h : fa E = .ok (.dat (.bl false), E1)) : eAnd fa fb E = .ok (.dat (.bl false), E1) := by
  unfold eAnd
  rw [h]
  rfl
theorem tand_t {f g : TF} {E E1 : VL.Env} {r : RR (Bool × VL.Env)} (h : f E = .ok (true, E1)) (h2 : g E1 = r) : tfAnd f g E = r := by
  unfold tfAnd
  rw [h]
  exact h2
theorem tand_f {f g : TF} {E E1 : VL.Env} (h : f E = .ok (false, E1)) : tfAnd f g E = .ok (false, E1) := by
  unfold tfAnd
  rw [h]
  rfl
theorem chain_yes {p q : Int → Int → Bool} {fa fb fc : EF} {E E1 E2 E3 : VL.Env} {i j l : Int} (h1 : fa E = .ok (I i, E1)) (h2 : fb E1 = .ok (I j, E2)) (hp : p i j = true) (h3 : fc E2 = .ok (I l, E3)) : eChain p q fa fb fc E = .ok (.dat (.bl (q j l)), E3) := by
  unfold eChain
  rw [h1]
  show ((fb E1).bind _) = _
  rw [h2]
  show (if p i j = true then _ else _) = _
  rw [if_pos hp, h3]
  rfl
theorem expr_of {f : EF} {E E1 : VL.Env} {r : Sl} (h : f E = .ok (r, E1)) : sExpr f E = .nx E1 := by
  unfold sExpr
  rw [h]
  rfl
theorem mf_nx {n : Nat} {sf : SF} {ss : List Sl} {E : VL.Env} (h : sf (ss ++ List.replicate (n - ss.length) .no) = .nx E) : mfOf n sf ss = .ok (.dat .non) (lentOf E) := by
  unfold mfOf
  rw [h]
theorem mf_exc {n : Nat} {sf : SF} {ss : List Sl} {x : D} {E : VL.Env} (h : sf (ss ++ List.replicate (n - ss.length) .no) = .exc x E) : mfOf n sf ss = .exc x (lentOf E) := by
  unfold mfOf
  rw [h]
theorem seq_exc {f g : SF} {E E1 : VL.Env} {x : D} (h : f E = .exc x E1) : sSeq f g E = .exc x E1 := by
  unfold sSeq
  rw [h]
theorem seq_ret {f g : SF} {E E1 : VL.Env} {x : Sl} (h : f E = .rt x E1) : sSeq f g E = .rt x E1 := by
  unfold sSeq
  rw [h]
theorem whole_yes (x lo hi : Int) (h1 : lo ≤ x) (h2 : x ≤ hi) : mf_is_whole [I x, I lo, I hi] = .ok (.dat (.bl true)) none := by
  refine mf_of (E := [I x, I lo, I hi]) ?_ rfl rfl
  show m_is_whole [I x, I lo, I hi] = _
  refine ret_of (and_t (E1 := [I x, I lo, I hi]) (by kernel_rfl) (and_t (E1 := [I x, I lo, I hi]) (by kernel_rfl) ?_))
  have z := chain_yes (p := leB) (q := leB) (fa := eVar 1) (fb := eVar 0) (fc := eVar 2) (E := [I x, I lo, I hi]) (E1 := [I x, I lo, I hi]) (E2 := [I x, I lo, I hi]) (E3 := [I x, I lo, I hi]) (i := lo) (j := x) (l := hi) (by kernel_rfl) (by kernel_rfl) (decide_eq_true h1) (by kernel_rfl)
  rw [show leB x hi = true from decide_eq_true h2] at z
  exact z
abbrev PL : List Nat := [3, 5, 7, 11, 13, 17, 97, 257, 7919, 65537]
theorem pl_cases {P : Nat → Prop} (h1 : P 3) (h2 : P 5) (h3 : P 7) (h4 : P 11) (h5 : P 13) (h6 : P 17) (h7 : P 97) (h8 : P 257) (h9 : P 7919) (h10 : P 65537) : ∀ p ∈ PL, P p := fun p hp => by
  simp only [PL, List.mem_cons, List.not_mem_nil, or_false] at hp
  rcases hp with rfl | rfl | rfl | rfl | rfl | rfl | rfl | rfl | rfl | rfl <;> assumption
theorem pl_big : ∀ p ∈ PL, 2 < p ∧ p ≤ 65537 := by decide
theorem need_prime_ok : ∀ p ∈ PL, mf_need_prime [N p] = .ok (.dat .non) none := pl_cases (by kernel_rfl) (by kernel_rfl) (by kernel_rfl) (by kernel_rfl) (by kernel_rfl) (by kernel_rfl) (by kernel_rfl) (by kernel_rfl) (by kernel_rfl) (by kernel_rfl)
theorem need_rem_ok (p n : Nat) (hp : p ∈ PL) (hn : n < p) : mf_need_remainder [N p, N n] = .ok (.dat .non) none := by
  have z : m_need_remainder [N p, N n] = .nx [N p, N n] := by
    unfold m_need_remainder
    refine seq_nx (E1 := [N p, N n]) (expr_of (efn_of (ss0 := [N p]) (ss := [N p]) (by kernel_rfl) (by kernel_rfl) rfl (need_prime_ok p hp) rfl)) ?_
    refine if_no (E1 := [N p, N n]) (not_of (b := true) (val_of (efn_of (ss0 := [N n, I 0, I ((p : Int) - 1)]) (ss := [N n, I 0, I ((p : Int) - 1)]) (by kernel_rfl) (by kernel_rfl) rfl (whole_yes n 0 _ (by omega) (by omega)) rfl))) (by kernel_rfl)
  exact (mf_nx (n := 2) (ss := [N p, N n]) z)
/-! ### inverses -/
abbrev Ei (p n o t l r : Int) (x : Sl) : VL.Env := [I p, I n, I o, I t, I l, I r, x]
abbrev ci : TF := tfV (eOp gGt (eVar 3) (eC (.int 1)))
theorem ci_ok (p n o t l r : Int) (x : Sl) : ci (Ei p n o t l r x) = .ok (decide (1 < t), Ei p n o t l r x) := by
  simp only [ci, Ei, sSeq, sSet, sIf, sRet, sAug, sPar, sPar3, sAsg, sExpr, sNx, tfV, tfNot, tfAnd, tfOr, eVar, eMove, eC, eAdd, eSub, eMod, eDiv, eOp, eUn, eAnd, eOr, eTup, ePk, gTp, gsCons, gsNil, gNm, aNil, aCons, dAll, RR.bind, RR.fl, RR.opt, List.getElem?_cons_succ, List.getElem?_cons_zero, Env.at, Env.st, List.set_cons_succ, List.set_cons_zero, Sl.d?, Option.bind_some, Option.map_some, gGt_i]
theorem len4 (a b c d : D) : ([a, b, c, d] : List D).length ≤ SZ := by show 4 ≤ 16777216; decide
theorem bi_ok (p n o t l r : Int) (x : Sl) (ht : 0 < t) (ht2 : t < 4294967296) (ho : 0 ≤ o) (ho2 : o < 4294967296) : bd_own_inverse_0 (Ei p n o t l r x) = .nx (Ei p n t (o - o / t * t) r (l - o / t * r) (I (o / t))) := by
  have hq : 0 ≤ o / t := Int.ediv_nonneg ho (by omega)
  have hq2 : o / t < 4294967296 := Int.lt_of_le_of_lt (Int.ediv_le_self t ho) ho2
  simp only [bd_own_inverse_0, Ei, sSeq, sSet, sIf, sRet, sAug, sPar, sPar3, sAsg, sExpr, sNx, tfV, tfNot, tfAnd, tfOr, eVar, eMove, eC, eAdd, eSub, eMod, eDiv, eOp, eUn, eAnd, eOr, eTup, ePk, gTp, gsCons, gsNil, gNm, aNil, aCons, dAll, RR.bind, RR.fl, RR.opt, List.getElem?_cons_succ, List.getElem?_cons_zero, Env.at, Env.st, List.set_cons_succ, List.set_cons_zero, Sl.d?, Option.bind_some, Option.map_some, gDiv_p ht ht2, gMul_l hq hq2, gSub_i, if_pos (len4 _ _ _ _), List.length_cons, List.length_nil, if_true]
  rfl
end Lk16

namespace Lk16
open PySem PySem.Spec PyProof.Rows L2 VL VL.Ev

theorem inv_loop (p n : Nat) (hp : p ≤ 65537) : ∀ (m o t : Nat) (l r : Int) (x : Sl) (fu : Nat), t ≤ m → m < fu → 0 < t → t ≤ 65537 → o ≤ 65537 → Nat.gcd o t = 1 → (p : Int) ∣ o - l * n → (p : Int) ∣ t - r * n →
    ∃ (o' : Nat) (l' r' : Int) (x' : Sl), sWhN ci bd_own_inverse_0 fu (Ei p n o t l r x) = .nx (Ei p n o' (1 : Nat) l' r' x') ∧ (p : Int) ∣ 1 - r' * n
  | 0, o, t, l, r, x, fu, h1, h2, h3, _, _, _, _, _ => by omega
  | m + 1, o, t, l, r, x, 0, h1, h2, h3, _, _, _, _, _ => by omega
  | m + 1, o, t, l, r, x, fu + 1, h1, h2, h3, ht, ho, hg, d1, d2 => by
    by_cases hc : t = 1
    · subst hc
      exact ⟨o, l, r, x, wh_stop (by rw [ci_ok]; rfl) (by omega), d2⟩
    · have hr : 0 < o % t := Nat.pos_of_ne_zero fun z => by
        have : t ∣ o := Nat.dvd_of_mod_eq_zero z
        rw [Nat.gcd_comm, Nat.gcd_eq_left this] at hg
        exact hc hg
      have hr2 : o % t < t := Nat.mod_lt _ h3
      have hg2 : Nat.gcd t (o % t) = 1 := by
        rw [Nat.gcd_comm o t, Nat.gcd_rec] at hg
        rw [Nat.gcd_comm]
        exact hg
      have e1 : ((o : Int) - (o : Int) / (t : Int) * (t : Int)) = ((o % t : Nat) : Int) := by
        have := Int.emod_def (o : Int) (t : Int)
        rw [Int.natCast_emod, this, Int.mul_comm]
      have d3 : (p : Int) ∣ ((o % t : Nat) : Int) - (l - (o : Int) / (t : Int) * r) * n := by
        rw [← e1]
        obtain ⟨u, hu⟩ := d1
        obtain ⟨v, hv⟩ := d2
        refine ⟨u - (o : Int) / (t : Int) * v, ?_⟩
        generalize (o : Int) / (t : Int) = q
        rw [Int.mul_sub, ← hu]
        have : (p : Int) * (q * v) = q * ((p : Int) * v) := by grind
        rw [this, ← hv]
        grind
      obtain ⟨o', l', r', x', e2, e3⟩ := inv_loop p n hp m t (o % t) r (l - (o : Int) / (t : Int) * r) (I ((o : Int) / (t : Int))) fu (by omega) (by omega) hr (by omega) ht hg2 d2 d3
      refine ⟨o', l', r', x', wh_turn (by rw [ci_ok, decide_eq_true (by omega : (1 : Int) < (t : Int))]) (bi_ok p n o t l r x (by omega) (by omega) (by omega) (by omega)) ?_, e3⟩
      rw [e1]
      exact e2
theorem own_inverse_ok (p n : Nat) (hp : 1 < p) (hp2 : p ≤ 65537) (h0 : 0 < n) (h1 : n < p) (hg : Nat.gcd p n = 1) : ∃ v l, v < p ∧ v * n % p = 1 ∧ mf_own_inverse [N p, N n] = .ok (N v) l := by
  obtain ⟨o', l', r', x', e1, d⟩ := inv_loop p n hp2 n p n 0 1 .no VL.fuel (Nat.le_refl _) (by unfold VL.fuel; omega) h0 (by omega) hp2 hg ⟨1, by grind⟩ ⟨0, by grind⟩
  have hb : 0 ≤ r' % (p : Int) := Int.emod_nonneg _ (by omega)
  have hb2 : r' % (p : Int) < p := Int.emod_lt_of_pos _ (by omega)
  have ev : r' % (p : Int) = (((r' % (p : Int)).toNat : Nat) : Int) := by omega
  have hm : (r' % (p : Int)).toNat * n % p = 1 := by
    have z : (((r' % (p : Int)).toNat * n % p : Nat) : Int) = 1 := by
      rw [Int.natCast_emod, Int.natCast_mul, ← ev, Int.mul_emod, Int.emod_emod, ← Int.mul_emod]
      obtain ⟨u, hu⟩ := d
      have : r' * (n : Int) = 1 + (p : Int) * (-u) := by grind
      rw [this, Int.add_mul_emod_self_left, Int.emod_eq_of_lt (by decide) (by omega)]
    omega
  refine ⟨(r' % (p : Int)).toNat, _, by omega, hm, mf_ret (E := Ei p n o' (1 : Nat) l' r' x') ?_ rfl⟩
  show m_own_inverse [N p, N n, .no, .no, .no, .no, .no] = _
  unfold m_own_inverse
  refine seq_nx (E1 := Ei p n p n 0 1 .no) (by kernel_rfl) (seq_nx (show sWh ci bd_own_inverse_0 _ = _ from e1) (ret_of ?_))
  rw [show N (r' % (p : Int)).toNat = I (r' % (p : Int)) by rw [ev]; rfl]
  exact op_of (x := I r') (y := I p) (E1 := Ei p n o' (1 : Nat) l' r' x') (by kernel_rfl) (by kernel_rfl) (gMod_i (by omega))
theorem inverse_ok (p n : Nat) (hp : p ∈ PL) (h0 : 0 < n) (h1 : n < p) (hg : Nat.gcd p n = 1) : ∃ v l, v < p ∧ v * n % p = 1 ∧ mf_own_inverse [N p, N n] = .ok (N v) l ∧ ∃ l2, mf_inverse_of [N p, N n] = .ok (N v) l2 := by
  obtain ⟨b1, b2⟩ := pl_big p hp
  obtain ⟨v, l, hv, hm, e⟩ := own_inverse_ok p n (by omega) b2 h0 h1 hg
  refine ⟨v, l, hv, hm, e, _, mf_ret (E := [N p, N n]) ?_ rfl⟩
  show m_inverse_of [N p, N n] = _
  unfold m_inverse_of
  refine seq_nx (E1 := [N p, N n]) (expr_of (efn_of (ss0 := [N p, N n]) (ss := [N p, N n]) (by kernel_rfl) (by kernel_rfl) rfl (need_rem_ok p n hp h1) rfl)) ?_
  refine seq_nx (E1 := [N p, N n]) (if_no (E1 := [N p, N n]) (val_of (op_of (x := N n) (y := I 0) (E1 := [N p, N n]) (E2 := [N p, N n]) (by kernel_rfl) (by kernel_rfl) (by rw [gEq_i, decide_eq_false (by omega)]))) (by kernel_rfl)) ?_
  exact ret_of (efn_of (ss0 := [N p, N n]) (ss := [N p, N n]) (by kernel_rfl) (by kernel_rfl) rfl e rfl)
theorem quotient_ok (p a n v : Nat) {lv : Option (List (Key × D))} (hp : p ∈ PL) (ha : a < p) (h0 : 0 < n) (h1 : n < p) (hv : v < p) (e : mf_own_inverse [N p, N n] = .ok (N v) lv) : ∃ l, mf_quotient_of [N p, N a, N n] = .ok (N (a * v % p)) l := by
  obtain ⟨b1, b2⟩ := pl_big p hp
  refine ⟨_, mf_ret (E := [N p, N a, N n]) ?_ rfl⟩
  show m_quotient_of [N p, N a, N n] = _
  unfold m_quotient_of
  refine seq_nx (E1 := [N p, N a, N n]) (expr_of (efn_of (ss0 := [N p, N a]) (ss := [N p, N a]) (by kernel_rfl) (by kernel_rfl) rfl (need_rem_ok p a hp ha) rfl)) ?_
  refine seq_nx (E1 := [N p, N a, N n]) (expr_of (efn_of (ss0 := [N p, N n]) (ss := [N p, N n]) (by kernel_rfl) (by kernel_rfl) rfl (need_rem_ok p n hp h1) rfl)) ?_
  refine seq_nx (E1 := [N p, N a, N n]) (if_no (E1 := [N p, N a, N n]) (val_of (op_of (x := N n) (y := I 0) (E1 := [N p, N a, N n]) (E2 := [N p, N a, N n]) (by kernel_rfl) (by kernel_rfl) (by rw [gEq_i, decide_eq_false (by omega)]))) (by kernel_rfl)) ?_
  refine ret_of ?_
  have em : N (a * v % p) = I ((a : Int) * (v : Int) % (p : Int)) := by show I _ = I _; norm_cast
  rw [em]
  exact op_of (x := I ((a : Int) * (v : Int))) (y := N p) (E1 := [N p, N a, N n]) (E2 := [N p, N a, N n]) (op_of (x := N a) (y := N v) (E1 := [N p, N a, N n]) (by kernel_rfl) (efn_of (ss0 := [N p, N n]) (ss := [N p, N n]) (by kernel_rfl) (by kernel_rfl) rfl e rfl) (gMul_r (by omega) (by omega))) (by kernel_rfl) (gMod_i (by omega))
theorem power_ok (p n e : Nat) (hp : p ∈ PL) (hn : n < p) (he : e ≤ 1000000) : ∃ l, mf_power_of [N p, N n, N e] = .ok (N (n ^ e % p)) l := by
  obtain ⟨b1, b2⟩ := pl_big p hp
  refine ⟨_, mf_ret (E := [N p, N n, N e]) ?_ rfl⟩
  show m_power_of [N p, N n, N e] = _
  unfold m_power_of
  refine seq_nx (E1 := [N p, N n, N e]) (expr_of (efn_of (ss0 := [N p, N n]) (ss := [N p, N n]) (by kernel_rfl) (by kernel_rfl) rfl (need_rem_ok p n hp hn) rfl)) ?_
  refine seq_nx (E1 := [N p, N n, N e]) (if_no (E1 := [N p, N n, N e]) (not_of (b := true) (val_of (efn_of (ss0 := [N e, I 0, I 1000000]) (ss := [N e, I 0, I 1000000]) (by kernel_rfl) (by kernel_rfl) rfl (whole_yes e 0 _ (by omega) (by omega)) rfl))) (by kernel_rfl)) ?_
  exact ret_of (efn_of (ss0 := [N p, N n, N e]) (ss := [N p, N n, N e]) (by kernel_rfl) (by kernel_rfl) rfl (own_power_ok p n e (by omega) b2 hn (by omega)) rfl)
end Lk16

namespace Lk16
open PySem PySem.Spec PyProof.Rows L2 VL VL.Ev

abbrev Er (p a f q : Nat) : VL.Env := [N p, N a, N f, N q]
abbrev cr : TF := tfAnd (tfV (eOp (gEqA false) (eMod (eVar 2) (eVar 3)) (eC (.int 0)))) (tfV (eOp (gEqA false) (eFn 3 [] mf_own_power (aCons (eVar 0) (aCons (eVar 1) (aCons (eDiv (eVar 2) (eVar 3)) aNil)))) (eC (.int 1))))
theorem cr_ok (p a f q : Nat) (hp : 1 < p) (hp2 : p ≤ 65537) (ha : a < p) (hq : 0 < q) (hq2 : q ≤ 65537) (hf : f ≤ 65537) : cr (Er p a f q) = .ok (decide (q ∣ f ∧ a ^ (f / q) % p = 1), Er p a f q) := by
  have e1 : eMod (eVar 2) (eVar 3) (Er p a f q) = .ok (I ((f : Int) % (q : Int)), Er p a f q) := op_of (x := N f) (y := N q) (E1 := Er p a f q) (by kernel_rfl) (by kernel_rfl) (gMod_i (by omega))
  have e2 : eDiv (eVar 2) (eVar 3) (Er p a f q) = .ok (N (f / q), Er p a f q) := by
    have z : eDiv (eVar 2) (eVar 3) (Er p a f q) = .ok (I ((f : Int) / (q : Int)), Er p a f q) := op_of (x := N f) (y := N q) (E1 := Er p a f q) (by kernel_rfl) (by kernel_rfl) (gDiv_p (by omega) (by omega))
    rw [z]
    norm_cast
  by_cases hd : q ∣ f
  · have h1 : ((f : Int) % (q : Int)) = 0 := by
      have := Nat.mod_eq_zero_of_dvd hd
      omega
    have fd : f / q ≤ f := Nat.div_le_self f q
    refine tand_t (E1 := Er p a f q) (val_of (op_of (y := I 0) e1 (by kernel_rfl) (by rw [gEq_i, decide_eq_true h1]))) ?_
    have e3 : eFn 3 [] mf_own_power (aCons (eVar 0) (aCons (eVar 1) (aCons (eDiv (eVar 2) (eVar 3)) aNil))) (Er p a f q) = .ok (N (a ^ (f / q) % p), Er p a f q) :=
      efn_of (ss0 := [N p, N a, N (f / q)]) (ss := [N p, N a, N (f / q)]) (acons_of (E1 := Er p a f q) (by kernel_rfl) (acons_of (E1 := Er p a f q) (by kernel_rfl) (acons_of e2 (by kernel_rfl)))) (by kernel_rfl) rfl (own_power_ok p a (f / q) hp hp2 ha (by omega)) rfl
    refine val_of (op_of (y := I 1) (E2 := Er p a f q) e3 (by kernel_rfl) ?_)
    rw [gEq_i]
    congr 3
    rw [decide_eq_decide]
    constructor
    · intro z
      exact ⟨hd, by omega⟩
    · intro z
      have := z.2
      omega
  · have h1 : ¬ ((f : Int) % (q : Int)) = 0 := fun z => hd (Nat.dvd_of_mod_eq_zero (by omega))
    rw [decide_eq_false (fun z => hd z.1)]
    exact tand_f (val_of (op_of (y := I 0) e1 (by kernel_rfl) (by rw [gEq_i, decide_eq_false h1])))
theorem br_ok (p a f q : Nat) (hq : 0 < q) (hq2 : q ≤ 65537) : bd_order_of_0 (Er p a f q) = .nx (Er p a (f / q) q) := by
  have z : eDiv (eVar 2) (eVar 3) (Er p a f q) = .ok (I ((f : Int) / (q : Int)), Er p a f q) := op_of (x := N f) (y := N q) (E1 := Er p a f q) (by kernel_rfl) (by kernel_rfl) (gDiv_p (by omega) (by omega))
  have e : I ((f : Int) / (q : Int)) = N (f / q) := by norm_cast
  rw [e] at z
  exact set_of z (by kernel_rfl)
theorem red_loop (p a q : Nat) (hp : 1 < p) (hp2 : p ≤ 65537) (ha : a < p) (hq : 2 ≤ q) (hq2 : q ≤ 65537) : ∀ (m f fu : Nat), f ≤ m → m < fu → 0 < f → f ≤ 65537 → a ^ f % p = 1 →
    ∃ f', sWhN cr bd_order_of_0 fu (Er p a f q) = .nx (Er p a f' q) ∧ f' ∣ f ∧ 0 < f' ∧ a ^ f' % p = 1 ∧ ¬ (q ∣ f' ∧ a ^ (f' / q) % p = 1)
  | m, f, 0, h1, h2, _, _, _ => by omega
  | 0, f, fu + 1, h1, h2, h3, _, _ => by omega
  | m + 1, f, fu + 1, h1, h2, h3, h4, h5 => by
    by_cases hc : q ∣ f ∧ a ^ (f / q) % p = 1
    · obtain ⟨d, e⟩ := id hc
      have hlt : f / q < f := Nat.div_lt_self h3 hq
      have hpos : 0 < f / q := Nat.div_pos (Nat.le_of_dvd h3 d) (by omega)
      obtain ⟨f', e1, e2, e3, e4, e5⟩ := red_loop p a q hp hp2 ha hq hq2 m (f / q) fu (by omega) (by omega) hpos (by omega) e
      exact ⟨f', wh_turn (by rw [cr_ok p a f q hp hp2 ha (by omega) hq2 h4, decide_eq_true hc]) (br_ok p a f q (by omega) hq2) e1, Nat.dvd_trans e2 (Nat.div_dvd_of_dvd d), e3, e4, e5⟩
    · exact ⟨f, wh_stop (by rw [cr_ok p a f q hp hp2 ha (by omega) hq2 h4, decide_eq_false hc]) (by omega), Nat.dvd_refl _, h3, h5, hc⟩
theorem keep_red {p a q f f' : Nat} (hp : 1 < p) (hq : 0 < q) (d : f' ∣ f) (h : ¬ (q ∣ f ∧ a ^ (f / q) % p = 1)) : ¬ (q ∣ f' ∧ a ^ (f' / q) % p = 1) := fun ⟨z1, z2⟩ => by
  obtain ⟨c, rfl⟩ := d
  obtain ⟨b, rfl⟩ := z1
  refine h ⟨⟨b * c, by rw [Nat.mul_assoc]⟩, ?_⟩
  rw [Nat.mul_div_cancel_left _ hq] at z2
  rw [Nat.mul_assoc, Nat.mul_div_cancel_left _ hq, pow_pow, z2, one_pow' hp]
theorem ord_for (p a : Nat) (hp : 1 < p) (hp2 : p ≤ 65537) (ha : a < p) : ∀ (qs done : List Nat) (f : Nat) (x : Sl), (∀ q ∈ qs, 2 ≤ q ∧ q ≤ 65537) → (∀ q ∈ done, 0 < q ∧ ¬ (q ∣ f ∧ a ^ (f / q) % p = 1)) → 0 < f → f ≤ 65537 → a ^ f % p = 1 →
    ∃ f' x', loopS (gNm 3) bd_order_of_1 (qs.map fun q => D.int (q : Nat)) [N p, N a, N f, x] = .nx [N p, N a, N f', x'] ∧ f' ∣ f ∧ 0 < f' ∧ a ^ f' % p = 1 ∧ ∀ q ∈ done ++ qs, ¬ (q ∣ f' ∧ a ^ (f' / q) % p = 1)
  | [], done, f, x, _, hd, h1, h2, h3 => ⟨f, x, by unfold List.map loopS; rfl, Nat.dvd_refl _, h1, h3, fun q hq => (hd q (by simpa using hq)).2⟩
  | q :: qs, done, f, x, hq, hd, h1, h2, h3 => by
    obtain ⟨q2, q3⟩ := hq q List.mem_cons_self
    obtain ⟨f1, e1, e2, e3, e4, e5⟩ := red_loop p a q hp hp2 ha q2 q3 f f VL.fuel (Nat.le_refl _) (by unfold VL.fuel; omega) h1 h2 h3
    have le1 : f1 ≤ f := Nat.le_of_dvd h1 e2
    obtain ⟨f', x', g1, g2, g3, g4, g5⟩ := ord_for p a hp hp2 ha qs (done ++ [q]) f1 (N q) (fun r hr => hq r (List.mem_cons_of_mem _ hr)) (fun r hr => by
      rcases List.mem_append.mp hr with z | z
      · exact ⟨(hd r z).1, keep_red hp (hd r z).1 e2 (hd r z).2⟩
      · rw [List.mem_singleton.mp z]
        exact ⟨by omega, e5⟩) e3 (by omega) e4
    exact ⟨f', x', loop_nx (E1 := Er p a f q) (by rfl) (show sWh cr bd_order_of_0 _ = _ from e1) g1, Nat.dvd_trans g2 e2, g3, g4, fun r hr => g5 r (by simpa using hr)⟩
theorem ord_end {p a d f n : Nat} {Q : List Nat} (hp : 1 < p) (O : Ord p a d) (hf : f ∣ n) (f0 : 0 < f) (h1 : a ^ f % p = 1) (h2 : ∀ q ∈ Q, ¬ (q ∣ f ∧ a ^ (f / q) % p = 1)) (cov : ∀ m, m ∣ n → 1 < m → ∃ q ∈ Q, 0 < q ∧ q ∣ m) : f = d := by
  obtain ⟨m, rfl⟩ := O.dvd hp h1
  have m0 : 0 < m := Nat.pos_of_ne_zero fun z => by rw [z, Nat.mul_zero] at f0; omega
  by_cases hm : m = 1
  · rw [hm, Nat.mul_one]
  · obtain ⟨q, hq, q0, c, rfl⟩ := cov m (Nat.dvd_trans ⟨d, Nat.mul_comm d m⟩ hf) (by omega)
    refine absurd ⟨⟨d * c, by rw [Nat.mul_left_comm]⟩, ?_⟩ (h2 q hq)
    rw [Nat.mul_left_comm, Nat.mul_div_cancel_left _ q0]
    exact O.of_dvd hp ⟨c, rfl⟩
/-- what the primes' rows tell -/
structure Qs (p : Nat) (qs : List Nat) : Prop where
  run : ∃ s l, mf_own_primes [N (p - 1)] = .ok s l ∧ s.ret = true ∧ s.ls? = some (qs.map fun q => D.int (q : Nat))
  ok : ∀ q ∈ qs, 2 ≤ q ∧ q ≤ 65537
  cov : ∀ m, m ∣ p - 1 → 1 < m → ∃ q ∈ qs, 0 < q ∧ q ∣ m
theorem order_ok (p a d : Nat) (qs : List Nat) (hp : p ∈ PL) (h0 : 0 < a) (h1 : a < p) (QS : Qs p qs) (fm : a ^ (p - 1) % p = 1) (O : Ord p a d) : ∃ l, mf_order_of [N p, N a] = .ok (N d) l := by
  obtain ⟨b1, b2⟩ := pl_big p hp
  obtain ⟨f, x', e1, e2, e3, e4, e5⟩ := ord_for p a (by omega) b2 h1 qs [] (p - 1) .no QS.ok (fun q hq => by cases hq) (by omega) (by omega) fm
  have ef : f = d := ord_end (by omega) O e2 e3 e4 (fun q hq => e5 q (by simpa using hq)) QS.cov
  subst ef
  obtain ⟨s, ls, q1, q2, q3⟩ := QS.run
  refine ⟨_, mf_ret (E := [N p, N a, .no, x']) ?_ rfl⟩
  show m_order_of [N p, N a, .no, .no] = _
  unfold m_order_of
  have ep : N (p - 1) = I ((p : Int) - 1) := by show I _ = I _; congr 1; omega
  refine seq_nx (E1 := [N p, N a, .no, .no]) (expr_of (efn_of (ss0 := [N p, N a]) (ss := [N p, N a]) (by kernel_rfl) (by kernel_rfl) rfl (need_rem_ok p a hp h1) rfl)) ?_
  refine seq_nx (E1 := [N p, N a, .no, .no]) (if_no (E1 := [N p, N a, .no, .no]) (val_of (op_of (x := N a) (y := I 0) (E1 := [N p, N a, .no, .no]) (E2 := [N p, N a, .no, .no]) (by kernel_rfl) (by kernel_rfl) (by rw [gEq_i, decide_eq_false (by omega)]))) (by kernel_rfl)) ?_
  refine seq_nx (E1 := [N p, N a, N (p - 1), .no]) (by rw [ep]; kernel_rfl) ?_
  refine seq_nx (for_of (ds := qs.map fun q => D.int (q : Nat)) (E1 := [N p, N a, N (p - 1), .no]) ?_ e1) (by kernel_rfl)
  unfold iVal
  have hr : eFn 1 [] mf_own_primes (aCons (eSub (eVar 0) (eC (.int 1))) aNil) [N p, N a, N (p - 1), .no] = .ok (s, [N p, N a, N (p - 1), .no]) :=
    efn_of (ss0 := [N (p - 1)]) (ss := [N (p - 1)]) (by rw [ep]; kernel_rfl) (by kernel_rfl) rfl q1 q2
  rw [hr]
  show (match s.ls? with
    | some ds => _
    | none => _) = _
  rw [q3]
end Lk16

namespace Lk16
open PySem PySem.Spec PyProof.Rows L2 VL VL.Ev

def idx : EF := eOp gIx (eLst (aCons (eC (.int 1000000007)) (aCons (eC (.int 998244353)) (aCons (eC (.int 2147483629)) (aCons (eC (.int 1000000009)) aNil))))) (eMod (eVar 1) (eC (.int 4)))
theorem idx_ok (c k : Int) (z : Sl) : ∃ m : Int, 0 < m ∧ m ≤ 2147483629 ∧ idx [I c, I k, z] = .ok (I m, [I c, I k, z]) := by
  have hm : ∀ i : Int, k % 4 = i → eMod (eVar 1) (eC (.int 4)) [I c, I k, z] = .ok (I i, [I c, I k, z]) := fun i hi =>
    op_of (x := I k) (y := I 4) (E1 := [I c, I k, z]) (by kernel_rfl) (by kernel_rfl) (by rw [gMod_i (by decide), hi])
  have hl : eLst (aCons (eC (.int 1000000007)) (aCons (eC (.int 998244353)) (aCons (eC (.int 2147483629)) (aCons (eC (.int 1000000009)) aNil)))) [I c, I k, z] = .ok (.ol [.int 1000000007, .int 998244353, .int 2147483629, .int 1000000009], [I c, I k, z]) := by kernel_rfl
  have h4 : k % 4 = 0 ∨ k % 4 = 1 ∨ k % 4 = 2 ∨ k % 4 = 3 := by omega
  rcases h4 with h | h | h | h
  · exact ⟨1000000007, by decide, by decide, op_of hl (hm 0 h) (by kernel_rfl)⟩
  · exact ⟨998244353, by decide, by decide, op_of hl (hm 1 h) (by kernel_rfl)⟩
  · exact ⟨2147483629, by decide, by decide, op_of hl (hm 2 h) (by kernel_rfl)⟩
  · exact ⟨1000000009, by decide, by decide, op_of hl (hm 3 h) (by kernel_rfl)⟩
theorem m_mixed_eq : m__law_mixed = sSeq (sSet 2 (eAdd (eAdd (eMod (eVar 0) idx) (eOp gMulA (eC (.int 7919)) (eVar 1))) (eC (.int 13)))) (sRet (eMod (eOp gMulA (eMod (eOp gMulA (eVar 2) (eVar 2)) (eC (.int 2147483647))) (eC (.int 48271))) (eC (.int 2147483647)))) := by kernel_rfl
theorem mixed_ok (c k : Int) (h0 : 0 ≤ k) (h1 : k ≤ 100000) : ∃ v : Int, 0 ≤ v ∧ ∃ l, mf__law_mixed [I c, I k] = .ok (I v) l := by
  obtain ⟨m, m0, m1, hm⟩ := idx_ok c k .no
  have hr : 0 ≤ c % m := Int.emod_nonneg _ (by omega)
  have hr2 : c % m < m := Int.emod_lt_of_pos _ m0
  refine ⟨_, Int.emod_nonneg (((c % m + 7919 * k + 13) * (c % m + 7919 * k + 13)) % 2147483647 * 48271) (by decide : (2147483647 : Int) ≠ 0), _, mf_ret (E := [I c, I k, I (c % m + 7919 * k + 13)]) ?_ rfl⟩
  show m__law_mixed [I c, I k, .no] = _
  rw [m_mixed_eq]
  refine seq_nx (E1 := [I c, I k, I (c % m + 7919 * k + 13)]) (set_of (op_of (op_of (op_of (x := I c) (E1 := [I c, I k, .no]) (by kernel_rfl) hm (gMod_i m0)) (op_of (x := I 7919) (y := I k) (E1 := [I c, I k, .no]) (E2 := [I c, I k, .no]) (by kernel_rfl) (by kernel_rfl) (gMul_i (fits_l (by decide) (by decide)))) (gAdd_i _ _)) (y := I 13) (E2 := [I c, I k, .no]) (by kernel_rfl) (gAdd_i _ _)) (by kernel_rfl)) ?_
  refine ret_of (op_of (op_of (op_of (op_of (x := I (c % m + 7919 * k + 13)) (y := I (c % m + 7919 * k + 13)) (E1 := [I c, I k, I (c % m + 7919 * k + 13)]) (E2 := [I c, I k, I (c % m + 7919 * k + 13)]) (by kernel_rfl) (by kernel_rfl) (gMul_i (fits_l (by omega) (by omega)))) (y := I 2147483647) (E2 := [I c, I k, I (c % m + 7919 * k + 13)]) (by kernel_rfl) (gMod_i (by decide))) (y := I 48271) (E2 := [I c, I k, I (c % m + 7919 * k + 13)]) (by kernel_rfl) (gMul_i (fits_r (by decide) (by decide)))) (y := I 2147483647) (by kernel_rfl) (gMod_i (by decide)))
abbrev kvs (l c t : Int) : List (Key × D) := [(.inr "left", .int l), (.inr "cell", .int c), (.inr "turns", .int t)]
abbrev Ed (tg : Option Nat) (l c t b : Int) (z j : Sl) : VL.Env := [.od tg (kvs l c t), I b, z, j]
theorem dturn (tg : Option Nat) (l c t b : Int) (z j : Sl) (hl : 0 ≤ l) (ht : 0 ≤ t) (ht2 : t < 100000) : ∃ l', 0 ≤ l' ∧ bd__law_digit_0 (Ed tg l c t b z j) = .nx (Ed tg l' c (t + 1) b z j) := by
  obtain ⟨v, hv, lo, hm⟩ := mixed_ok c (t + 1) (by omega) (by omega)
  refine ⟨l * 2147483647 + v, by omega, ?_⟩
  unfold bd__law_digit_0
  refine seq_nx (E1 := Ed tg l c (t + 1) b z j) (dput_of (d := .int (t + 1)) (kd := .str "turns") (key := .inr "turns") (E1 := Ed tg l c t b z j) (E2 := Ed tg l c t b z j) (t0 := tg) (t := tg) (k0 := kvs l c t) (kvs := kvs l c t) (by kernel_rfl) (by kernel_rfl) (by kernel_rfl) (by kernel_rfl) (by kernel_rfl) (by show 3 < 16777216; decide) (by kernel_rfl)) ?_
  refine dput_of (d := .int (l * 2147483647 + v)) (kd := .str "left") (key := .inr "left") (E1 := Ed tg l c (t + 1) b z j) (E2 := Ed tg l c (t + 1) b z j) (t0 := tg) (t := tg) (k0 := kvs l c (t + 1)) (kvs := kvs l c (t + 1)) ?_ (by kernel_rfl) (by kernel_rfl) (by kernel_rfl) (by kernel_rfl) (by show 3 < 16777216; decide) (by kernel_rfl)
  refine op_of (x := I (l * 2147483647)) (y := I v) (E1 := Ed tg l c (t + 1) b z j) (op_of (x := I l) (y := I 2147483647) (E1 := Ed tg l c (t + 1) b z j) (by kernel_rfl) (by kernel_rfl) (gMul_i (fits_r (by decide) (by decide)))) (efn_of (ss0 := [I c, I (t + 1)]) (ss := [I c, I (t + 1)]) (by kernel_rfl) (by kernel_rfl) rfl hm rfl) (gAdd_i _ _)
theorem dloop (tg : Option Nat) (c b : Int) (z : Sl) : ∀ (ds : List D) (l t : Int) (j : Sl), 0 ≤ l → 0 ≤ t → t + ds.length ≤ 100000 → ∃ l' t' j', 0 ≤ l' ∧ 0 ≤ t' ∧ t' = t + ds.length ∧ loopS (gNm 3) bd__law_digit_0 ds (Ed tg l c t b z j) = .nx (Ed tg l' c t' b z j')
  | [], l, t, j, hl, ht, hb => ⟨l, t, j, hl, ht, by simp, by unfold loopS; rfl⟩
  | d :: ds, l, t, j, hl, ht, hb => by
    have hb : t + (ds.length + 1 : Nat) ≤ 100000 := by simpa using hb
    obtain ⟨l1, hl1, e1⟩ := dturn tg l c t b z (.dat d) hl ht (by omega)
    obtain ⟨l', t', j', h1, h2, h3, e2⟩ := dloop tg c b z ds l1 (t + 1) (.dat d) hl1 (by omega) (by omega)
    exact ⟨l', t', j', h1, h2, by rw [h3, List.length_cons]; omega, loop_nx (E1 := Ed tg l c t b z (.dat d)) (by kernel_rfl) e1 e2⟩
abbrev E0 (l c t b : Int) : VL.Env := Ed (some 0) l c t b .no .no
theorem digit_ok (l c t b : Int) (hl : 0 ≤ l) (ht : 0 ≤ t) (ht2 : t ≤ 50000) (hb : 0 < b) (hf : divFits b = true) : ∃ l' t' r, 0 ≤ l' ∧ 0 ≤ t' ∧ t' ≤ t + 4 ∧ 0 ≤ r ∧ r < b ∧ mf__law_digit [.od (some 0) (kvs l c t), I b] = .ok (I r) (some (kvs l' c t')) := by
  -- behind the first part
  have first : ∃ l1 t1 j, 0 ≤ l1 ∧ 0 ≤ t1 ∧ t1 ≤ t + 4 ∧ sIf (tfV (eOp (gEqA false) (eDGet 0 (eC (.str "left"))) (eC (.int 0)))) (sFor (iRg1 (aCons (eC (.int 4)) aNil)) (gNm 3) bd__law_digit_0) sNx (E0 l c t b) = .nx (Ed (some 0) l1 c t1 b .no j) := by
    by_cases h : l = 0
    · obtain ⟨l1, t1, j1, h1, h2, h3, e⟩ := dloop (some 0) c b .no (rngD 0 1 4) l t .no hl ht (by rw [rngD_len]; omega)
      rw [rngD_len] at h3
      refine ⟨l1, t1, j1, h1, h2, by omega, if_yes (val_of (op_of (x := I l) (y := I 0) (E1 := E0 l c t b) (E2 := E0 l c t b) (by kernel_rfl) (by kernel_rfl) (by rw [gEq_i, decide_eq_true h]))) (for_of (ds := rngD 0 1 4) (E1 := E0 l c t b) (by kernel_rfl) e)⟩
    · exact ⟨l, t, .no, hl, ht, by omega, if_no (E1 := E0 l c t b) (val_of (op_of (x := I l) (y := I 0) (E1 := E0 l c t b) (E2 := E0 l c t b) (by kernel_rfl) (by kernel_rfl) (by rw [gEq_i, decide_eq_false h]))) (by kernel_rfl)⟩
  obtain ⟨l1, t1, j, h1, h2, h3, e⟩ := first
  refine ⟨l1 / b, t1, l1 % b, Int.ediv_nonneg h1 (by omega), h2, h3, Int.emod_nonneg _ (by omega), Int.emod_lt_of_pos _ hb, ?_⟩
  refine mf_ret (E := [.od (some 0) (kvs (l1 / b) c t1), I b, .no, j]) ?_ rfl
  show m__law_digit (E0 l c t b) = _
  unfold m__law_digit
  refine seq_nx e (seq_nx (E1 := Ed (some 0) l1 c t1 b (I (l1 % b)) j) (set_of (op_of (x := I l1) (y := I b) (E1 := Ed (some 0) l1 c t1 b .no j) (E2 := Ed (some 0) l1 c t1 b .no j) (by kernel_rfl) (by kernel_rfl) (gMod_i hb)) (by kernel_rfl)) (seq_nx (E1 := Ed (some 0) (l1 / b) c t1 b (I (l1 % b)) j) ?_ (ret_of (by kernel_rfl))))
  exact dput_of (d := .int (l1 / b)) (kd := .str "left") (key := .inr "left") (E1 := Ed (some 0) l1 c t1 b (I (l1 % b)) j) (E2 := Ed (some 0) l1 c t1 b (I (l1 % b)) j) (t0 := some 0) (t := some 0) (k0 := kvs l1 c t1) (kvs := kvs l1 c t1) (op_of (x := I l1) (y := I b) (E1 := Ed (some 0) l1 c t1 b (I (l1 % b)) j) (by kernel_rfl) (by kernel_rfl) (gDiv_i hf)) (by kernel_rfl) (by kernel_rfl) (by kernel_rfl) (by kernel_rfl) (by show 3 < 16777216; decide) (by kernel_rfl)
theorem draw_ok (c k : Int) : ∃ l, 0 ≤ l ∧ ∃ q, mf__law_draw [I c, I k] = .ok (.od none (kvs l c (1000 * k))) q := by
  have key : ∃ l, 0 ≤ l ∧ eIf (tfV (eOp gGe (eVar 0) (ePow (eC (.int 10)) (eC (.int 18))))) (eVar 0) (eC (.int 0)) [I c, I k] = .ok (I l, [I c, I k]) := by
    by_cases h : (1000000000000000000 : Int) ≤ c
    · exact ⟨c, by omega, eif_yes (E1 := [I c, I k]) (val_of (op_of (x := I c) (y := I 1000000000000000000) (E1 := [I c, I k]) (by kernel_rfl) (by kernel_rfl) (by rw [gGe_i, decide_eq_true h]))) (by kernel_rfl)⟩
    · exact ⟨0, by omega, eif_no (E1 := [I c, I k]) (val_of (op_of (x := I c) (y := I 1000000000000000000) (E1 := [I c, I k]) (by kernel_rfl) (by kernel_rfl) (by rw [gGe_i, decide_eq_false h]))) (by kernel_rfl)⟩
  obtain ⟨l, hl, e⟩ := key
  refine ⟨l, hl, _, mf_ret (E := [I c, I k]) ?_ rfl⟩
  show m__law_draw [I c, I k] = _
  unfold m__law_draw
  refine ret_of (disp_of (ss := [I l, I c, I (1000 * k)]) (ds := [.int l, .int c, .int (1000 * k)]) (acons_of e (acons_of (E1 := [I c, I k]) (by kernel_rfl) (acons_of (op_of (x := I 1000) (y := I k) (E1 := [I c, I k]) (E2 := [I c, I k]) (by kernel_rfl) (by kernel_rfl) (gMul_i (fits_l (by decide) (by decide)))) (by kernel_rfl)))) (by kernel_rfl) (by decide) (by kernel_rfl))
theorem cut_map (ns : List Int) : ∃ cs : List Int, VL.cutD (ns.map D.int) none (some 4) = cs.map D.int := by
  unfold VL.cutD
  exact ⟨_, by rw [← List.map_drop, ← List.map_take]⟩
end Lk16

namespace Lk16
open PySem PySem.Spec PyProof.Rows L2 VL VL.Ev

noncomputable def cvk (n : Nat) (qs : List Nat) (k : Nat) : Bool := Nat.rec (motive := fun _ => Bool) true (fun m ih => (!(n % (m + 2) == 0) || qs.any fun q => (m + 2) % q == 0) && ih) k
theorem cvk_ok {n : Nat} {qs : List Nat} : ∀ {k : Nat}, cvk n qs k = true → ∀ m, m < k → n % (m + 2) = 0 → ∃ q ∈ qs, (m + 2) % q = 0
  | 0, _, m, h, _ => by omega
  | k + 1, c, m, h, e => by
    have c : ((!(n % (k + 2) == 0) || qs.any fun q => (k + 2) % q == 0) && cvk n qs k) = true := c
    obtain ⟨c1, c2⟩ := Bool.and_eq_true_iff.mp c
    by_cases hm : m = k
    · subst hm
      rw [show (n % (m + 2) == 0) = true from beq_iff_eq.mpr e, Bool.not_true, Bool.false_or] at c1
      obtain ⟨q, hq, e2⟩ := List.any_eq_true.mp c1
      exact ⟨q, hq, beq_iff_eq.mp e2⟩
    · exact cvk_ok c2 m (by omega) e
theorem qs_of {p : Nat} {qs : List Nat} (run : ∃ s l, mf_own_primes [N (p - 1)] = .ok s l ∧ s.ret = true ∧ s.ls? = some (qs.map fun q => D.int (q : Nat))) (ok : ∀ q ∈ qs, 2 ≤ q ∧ q ≤ 65537) (hp : 2 < p) (c : cvk (p - 1) qs (p - 2) = true) : Qs p qs := by
  refine ⟨run, ok, fun m d h => ?_⟩
  have le := Nat.le_of_dvd (by omega) d
  obtain ⟨q, hq, e⟩ := cvk_ok c (m - 2) (by omega) (by rw [show m - 2 + 2 = m by omega]; exact Nat.mod_eq_zero_of_dvd d)
  rw [show m - 2 + 2 = m by omega] at e
  exact ⟨q, hq, by have := ok q hq; omega, Nat.dvd_of_mod_eq_zero e⟩
structure Pf (p : Nat) : Prop where
  gen : ∃ g, Ord p g (p - 1)
  qs : ∃ qs, Qs p qs
theorem gen_3 : Ord 3 2 2 := (ck_ok (p := 3) (r := 2) (o := 2) (by decide) (by decide) (by kernel_rfl)).1
theorem cv_3 : cvk 2 [2] 1 = true := by kernel_rfl
theorem pf_3 : Pf 3 := ⟨⟨2, gen_3⟩, [2], qs_of ⟨.ol [.int 2], none, by kernel_rfl, rfl, by kernel_rfl⟩ (by decide) (by decide) cv_3⟩
theorem gen_5 : Ord 5 2 4 := (ck_ok (p := 5) (r := 2) (o := 4) (by decide) (by decide) (by kernel_rfl)).1
theorem cv_5 : cvk 4 [2] 3 = true := by kernel_rfl
theorem pf_5 : Pf 5 := ⟨⟨2, gen_5⟩, [2], qs_of ⟨.dat (.lst [.int 2]), none, by kernel_rfl, rfl, by kernel_rfl⟩ (by decide) (by decide) cv_5⟩
theorem gen_7 : Ord 7 3 6 := (ck_ok (p := 7) (r := 3) (o := 6) (by decide) (by decide) (by kernel_rfl)).1
theorem cv_7 : cvk 6 [2, 3] 5 = true := by kernel_rfl
theorem pf_7 : Pf 7 := ⟨⟨3, gen_7⟩, [2, 3], qs_of ⟨.ol [.int 2, .int 3], none, by kernel_rfl, rfl, by kernel_rfl⟩ (by decide) (by decide) cv_7⟩
theorem gen_11 : Ord 11 2 10 := (ck_ok (p := 11) (r := 2) (o := 10) (by decide) (by decide) (by kernel_rfl)).1
theorem cv_11 : cvk 10 [2, 5] 9 = true := by kernel_rfl
theorem pf_11 : Pf 11 := ⟨⟨2, gen_11⟩, [2, 5], qs_of ⟨.ol [.int 2, .int 5], none, by kernel_rfl, rfl, by kernel_rfl⟩ (by decide) (by decide) cv_11⟩
theorem gen_13 : Ord 13 2 12 := (ck_ok (p := 13) (r := 2) (o := 12) (by decide) (by decide) (by kernel_rfl)).1
theorem cv_13 : cvk 12 [2, 3] 11 = true := by kernel_rfl
theorem pf_13 : Pf 13 := ⟨⟨2, gen_13⟩, [2, 3], qs_of ⟨.ol [.int 2, .int 3], none, by kernel_rfl, rfl, by kernel_rfl⟩ (by decide) (by decide) cv_13⟩
theorem gen_17 : Ord 17 3 16 := (ck_ok (p := 17) (r := 3) (o := 16) (by decide) (by decide) (by kernel_rfl)).1
theorem cv_17 : cvk 16 [2] 15 = true := by kernel_rfl
theorem pf_17 : Pf 17 := ⟨⟨3, gen_17⟩, [2], qs_of ⟨.dat (.lst [.int 2]), none, by kernel_rfl, rfl, by kernel_rfl⟩ (by decide) (by decide) cv_17⟩
theorem gen_97 : Ord 97 5 96 := (ck_ok (p := 97) (r := 5) (o := 96) (by decide) (by decide) (by kernel_rfl)).1
theorem cv_97 : cvk 96 [2, 3] 95 = true := by kernel_rfl
theorem pf_97 : Pf 97 := ⟨⟨5, gen_97⟩, [2, 3], qs_of ⟨.ol [.int 2, .int 3], none, by kernel_rfl, rfl, by kernel_rfl⟩ (by decide) (by decide) cv_97⟩
theorem gen_257 : Ord 257 3 256 := (ck_ok (p := 257) (r := 3) (o := 256) (by decide) (by decide) (by kernel_rfl)).1
theorem cv_257 : cvk 256 [2] 255 = true := by kernel_rfl
theorem pf_257 : Pf 257 := ⟨⟨3, gen_257⟩, [2], qs_of ⟨.dat (.lst [.int 2]), none, by kernel_rfl, rfl, by kernel_rfl⟩ (by decide) (by decide) cv_257⟩
theorem gen_7919 : Ord 7919 7 7918 := (ck_ok (p := 7919) (r := 7) (o := 7918) (by decide) (by decide) (by kernel_rfl)).1
theorem cv_7919 : cvk 7918 [2, 37, 107] 7917 = true := by kernel_rfl
theorem pf_7919 : Pf 7919 := ⟨⟨7, gen_7919⟩, [2, 37, 107], qs_of ⟨.ol [.int 2, .int 37, .int 107], none, by kernel_rfl, rfl, by kernel_rfl⟩ (by decide) (by decide) cv_7919⟩
theorem gen_65537 : Ord 65537 3 65536 := (ck_ok (p := 65537) (r := 3) (o := 65536) (by decide) (by decide) (by kernel_rfl)).1
theorem cv_65537 : cvk 65536 [2] 65535 = true := by kernel_rfl
theorem pf_65537 : Pf 65537 := ⟨⟨3, gen_65537⟩, [2], qs_of ⟨.dat (.lst [.int 2]), none, by kernel_rfl, rfl, by kernel_rfl⟩ (by decide) (by decide) cv_65537⟩
theorem pf_all : ∀ p ∈ PL, Pf p := pl_cases pf_3 pf_5 pf_7 pf_11 pf_13 pf_17 pf_97 pf_257 pf_7919 pf_65537
theorem fermat_pl {p a : Nat} (hp : p ∈ PL) (h0 : 0 < a) (h1 : a < p) : a ^ (p - 1) % p = 1 := by
  obtain ⟨g, O⟩ := (pf_all p hp).gen
  have := pl_big p hp
  exact fermat O (by omega) h0 h1
theorem gcd_pl {p a : Nat} (hp : p ∈ PL) (h0 : 0 < a) (h1 : a < p) : Nat.gcd p a = 1 := by
  have f := fermat_pl hp h0 h1
  have b := pl_big p hp
  have d1 : Nat.gcd p a ∣ a ^ (p - 1) := Nat.dvd_trans (Nat.gcd_dvd_right p a) (by rw [show p - 1 = p - 2 + 1 by omega, Nat.pow_succ]; exact Nat.dvd_mul_left a _)
  have d2 := Nat.gcd_dvd_left p a
  have d3 : Nat.gcd p a ∣ a ^ (p - 1) % p := (Nat.dvd_mod_iff d2).mpr d1
  rw [f] at d3
  exact Nat.dvd_one.mp d3
end Lk16

namespace Lk16
open PySem PySem.Spec PyProof.Rows L2 VL VL.Ev

theorem rngD_nat (i n : Nat) : rngD (i : Int) 1 n = natL (List.range' i n) := by
  unfold rngD natL
  rw [List.range'_eq_map_range, List.map_map]
  refine List.map_congr_left fun x _ => ?_
  show D.int _ = D.int _
  rw [Int.mul_one, ← Int.natCast_add]
theorem br_t (p a r : Int) (hp : 0 < p) (h0 : 0 ≤ r) (h1 : r < 4294967296) (h : r * r % p = a) : bd_root_of_0 [I p, I a, I r] = .rt (I r) [I p, I a, .no] := by
  simp only [bd_root_of_0, sSeq, sSet, sIf, sRet, sAug, sPar, sPar3, sAsg, sExpr, sNx, tfV, tfNot, tfAnd, tfOr, eVar, eMove, eC, eAdd, eSub, eMod, eDiv, eOp, eUn, eAnd, eOr, eTup, ePk, gTp, gsCons, gsNil, gNm, aNil, aCons, dAll, RR.bind, RR.fl, RR.opt, List.getElem?_cons_succ, List.getElem?_cons_zero, Env.at, Env.st, List.set_cons_succ, List.set_cons_zero, Sl.d?, Option.bind_some, Option.map_some, gMul_r h0 h1, gMod_i hp, gEq_i, decide_eq_true h, if_true]
theorem br_f (p a r : Int) (hp : 0 < p) (h0 : 0 ≤ r) (h1 : r < 4294967296) (h : ¬ r * r % p = a) : bd_root_of_0 [I p, I a, I r] = .nx [I p, I a, I r] := by
  simp only [bd_root_of_0, sSeq, sSet, sIf, sRet, sAug, sPar, sPar3, sAsg, sExpr, sNx, tfV, tfNot, tfAnd, tfOr, eVar, eMove, eC, eAdd, eSub, eMod, eDiv, eOp, eUn, eAnd, eOr, eTup, ePk, gTp, gsCons, gsNil, gNm, aNil, aCons, dAll, RR.bind, RR.fl, RR.opt, List.getElem?_cons_succ, List.getElem?_cons_zero, Env.at, Env.st, List.set_cons_succ, List.set_cons_zero, Sl.d?, Option.bind_some, Option.map_some, gMul_r h0 h1, gMod_i hp, gEq_i, decide_eq_false h, Bool.false_eq_true, if_false]
theorem loop_rt {g : GF} {b : SF} {d : D} {ds : List D} {E E1 E2 : VL.Env} {r : Sl} (hg : g d E = some E1) (hb : b E1 = .rt r E2) : loopS g b (d :: ds) E = .rt r E2 := by
  unfold loopS
  rw [hg]
  dsimp only
  rw [hb]
abbrev sq (p a : Nat) : Nat → Bool := fun r => r * r % p == a
theorem root_for (p a : Nat) (hp : 0 < p) : ∀ (rs : List Nat) (x : Sl), (∀ r ∈ rs, r < 4294967296) →
    (∃ r, rs.find? (sq p a) = some r ∧ loopS (gNm 2) bd_root_of_0 (natL rs) [N p, N a, x] = .rt (N r) [N p, N a, .no]) ∨ (rs.find? (sq p a) = none ∧ ∃ x', loopS (gNm 2) bd_root_of_0 (natL rs) [N p, N a, x] = .nx [N p, N a, x'])
  | [], x, _ => .inr ⟨rfl, x, by unfold natL List.map loopS; rfl⟩
  | r :: rs, x, h => by
    have hr := h r List.mem_cons_self
    have e0 : ((r : Int) * (r : Int) % (p : Int)) = ((r * r % p : Nat) : Int) := by norm_cast
    by_cases c : r * r % p = a
    · refine .inl ⟨r, ?_, loop_rt (E1 := [N p, N a, N r]) (by rfl) (br_t p a r (by omega) (by omega) (by omega) (by rw [e0, c]))⟩
      rw [List.find?_cons_of_pos]
      exact beq_iff_eq.mpr c
    · have ef : List.find? (sq p a) (r :: rs) = List.find? (sq p a) rs := List.find?_cons_of_neg (fun z => c (beq_iff_eq.mp z))
      rw [ef]
      have st : ∀ {q : FL}, loopS (gNm 2) bd_root_of_0 (natL rs) [N p, N a, N r] = q → loopS (gNm 2) bd_root_of_0 (natL (r :: rs)) [N p, N a, x] = q := fun e => loop_nx (E1 := [N p, N a, N r]) (by rfl) (br_f p a r (by omega) (by omega) (by omega) (by rw [e0]; omega)) e
      rcases root_for p a hp rs (N r) fun s hs => h s (List.mem_cons_of_mem _ hs) with ⟨s, e1, e2⟩ | ⟨e1, x', e2⟩
      · exact .inl ⟨s, e1, st e2⟩
      · exact .inr ⟨e1, x', st e2⟩
theorem root_of_ok (p a : Nat) (hp : p ∈ PL) (ha : a < p) :
    (∃ r, (List.range (p / 2 + 1)).find? (sq p a) = some r ∧ ∃ l, mf_root_of [N p, N a] = .ok (N r) l) ∨ ((List.range (p / 2 + 1)).find? (sq p a) = none ∧ ∃ l, mf_root_of [N p, N a] = .exc (.exc .NoSuch false (.str "root")) l) := by
  obtain ⟨b1, b2⟩ := pl_big p hp
  have hit : iRg1 (aCons (eAdd (eDiv (eVar 0) (eC (.int 2))) (eC (.int 1))) aNil) [N p, N a, .no] = .ok (natL (List.range (p / 2 + 1)), [N p, N a, .no]) := by
    rw [List.range_eq_range', ← rngD_nat 0]
    refine rg1_of ?_ (by omega)
    have e : N (p / 2 + 1) = I ((p : Int) / 2 + 1) := by show I _ = I _; norm_cast
    rw [e]
    kernel_rfl
  have start : ∀ {q : FL}, sSeq (sFor (iRg1 (aCons (eAdd (eDiv (eVar 0) (eC (.int 2))) (eC (.int 1))) aNil)) (gNm 2) bd_root_of_0) (sRaise .NoSuch (eC (.str "root"))) [N p, N a, .no] = q → m_root_of [N p, N a, .no] = q := fun e => by
    unfold m_root_of
    exact seq_nx (E1 := [N p, N a, .no]) (expr_of (efn_of (ss0 := [N p, N a]) (ss := [N p, N a]) (by kernel_rfl) (by kernel_rfl) rfl (need_rem_ok p a hp ha) rfl)) e
  rcases root_for p a (by omega) (List.range (p / 2 + 1)) .no (fun r hr => by have := List.mem_range.mp hr; omega) with ⟨r, e1, e2⟩ | ⟨e1, x', e2⟩
  · refine .inl ⟨r, e1, _, mf_ret (E := [N p, N a, .no]) ?_ rfl⟩
    show m_root_of [N p, N a, .no] = _
    exact start (seq_ret (for_of hit e2))
  · refine .inr ⟨e1, _, mf_exc (E := [N p, N a, x']) ?_⟩
    show m_root_of [N p, N a, .no] = _
    exact start (seq_nx (for_of hit e2) (by kernel_rfl))
/-! ### Euler -/
theorem euler (a : Nat) (ha : a < 65537) (h : (List.range (65537 / 2 + 1)).find? (sq 65537 a) = none) : a ^ 32768 % 65537 = 65536 := by
  have no : ∀ r, r < 32769 → r * r % 65537 ≠ a := fun r hr e => by
    have z := List.find?_eq_none.mp h r (List.mem_range.mpr hr)
    exact z (beq_iff_eq.mpr e)
  have a0 : 0 < a := Nat.pos_of_ne_zero fun z => no 0 (by decide) (by rw [z])
  obtain ⟨i, hi, e⟩ := gen_65537.gen (by decide) a0 ha
  have ho : i % 2 = 1 := by
    refine Classical.byContradiction fun z => ?_
    have e2 : i = i / 2 + i / 2 := by omega
    rw [e2, pow_split] at e
    have hlt : 3 ^ (i / 2) % 65537 < 65537 := Nat.mod_lt _ (by decide)
    generalize 3 ^ (i / 2) % 65537 = s at e hlt
    by_cases hs : s < 32769
    · exact no s hs e
    · refine no (65537 - s) (by omega) ?_
      rw [← e]
      have hz : ((65537 - s) * (65537 - s)) + 65537 * s = s * s + 65537 * (65537 - s) := by
        obtain ⟨u, hu⟩ : ∃ u, s + u = 65537 := ⟨65537 - s, by omega⟩
        rw [show 65537 - s = u by omega, ← hu]
        grind
      have z2 : (((65537 - s) * (65537 - s)) + 65537 * s) % 65537 = (s * s + 65537 * (65537 - s)) % 65537 := by rw [hz]
      rw [Nat.add_mul_mod_self_left, Nat.add_mul_mod_self_left] at z2
      exact z2
  have k1 : 3 ^ 32768 % 65537 = 65536 := by decide +kernel
  obtain ⟨j, rfl⟩ : ∃ j, i = 2 * j + 1 := ⟨i / 2, by omega⟩
  rw [← e, ← pow_pow, Nat.mul_comm, pow_pow, k1, pow_split, pow_pow, show 65536 ^ 2 % 65537 = 1 by decide, one_pow' (by decide), Nat.one_mul, Nat.mod_mod]
end Lk16

namespace Lk16
open PySem PySem.Spec PyProof.Rows L2 VL VL.Ev

abbrev S (st : Sl) (p : Int) (s2 s3 s4 s5 s6 : Sl) (a : Int) (s8 s9 s10 s11 : Sl) : VL.Env := [st, I p, s2, s3, s4, s5, s6, I a, s8, s9, s10, s11]
abbrev tq : TF := tfV (eOp (gEqA false) (eMod (eOp gMulA (eVar 11) (eVar 11)) (eVar 1)) (eVar 7))
theorem tq_ok (st : Sl) (p : Int) (s2 s3 s4 s5 s6 : Sl) (a : Int) (s8 s9 s10 : Sl) (r : Int) (hp : 0 < p) (h0 : 0 ≤ r) (h1 : r < 4294967296) : tq (S st p s2 s3 s4 s5 s6 a s8 s9 s10 (I r)) = .ok (decide (r * r % p = a), S st p s2 s3 s4 s5 s6 a s8 s9 s10 (I r)) := by
  simp only [tq, S, sSeq, sSet, sIf, sRet, sAug, sPar, sPar3, sAsg, sExpr, sNx, tfV, tfNot, tfAnd, tfOr, eVar, eMove, eC, eAdd, eSub, eMod, eDiv, eOp, eUn, eAnd, eOr, eTup, ePk, gTp, gsCons, gsNil, gNm, aNil, aCons, dAll, RR.bind, RR.fl, RR.opt, List.getElem?_cons_succ, List.getElem?_cons_zero, Env.at, Env.st, List.set_cons_succ, List.set_cons_zero, Sl.d?, Option.bind_some, Option.map_some, gMul_r h0 h1, gMod_i hp, gEq_i]
theorem lcons_yes {g : GF} {t : TF} {f : EF} {us : List Nat} {d y : D} {ds ys : List D} {E E1 E2 E3 E4 : VL.Env} {r : Sl} (hg : g d (wipeE E us) = some E1) (ht : t E1 = .ok (true, E2)) (hf : f E2 = .ok (r, E3)) (hd : r.d? = some y) (h : loopL g t f us ds E3 = .ok (ys, E4)) : loopL g t f us (d :: ds) E = .ok (y :: ys, E4) := by
  unfold loopL
  rw [hg]
  dsimp only
  rw [ht]
  dsimp only
  rw [hf]
  dsimp only
  rw [hd]
  dsimp only
  rw [h]
theorem lcons_no {g : GF} {t : TF} {f : EF} {us : List Nat} {d : D} {ds ys : List D} {E E1 E2 E4 : VL.Env} (hg : g d (wipeE E us) = some E1) (ht : t E1 = .ok (false, E2)) (h : loopL g t f us ds E2 = .ok (ys, E4)) : loopL g t f us (d :: ds) E = .ok (ys, E4) := by
  unfold loopL
  rw [hg]
  dsimp only
  rw [ht]
  exact h
theorem lnil {g : GF} {t : TF} {f : EF} {us : List Nat} {E E1 : VL.Env} (h : wipeE E us = E1) : loopL g t f us [] E = .ok ([], E1) := by
  unfold loopL
  rw [h]
theorem natL_cons (n : Nat) (ns : List Nat) : natL (n :: ns) = .int (n : Nat) :: natL ns := rfl
theorem sq_lc (st : Sl) (p : Nat) (s2 s3 s4 s5 s6 : Sl) (a : Nat) (s8 s9 s10 : Sl) (hp : 0 < p) (rs : List Nat) : ∀ (x : Sl), (∀ r ∈ rs, r < 4294967296) → loopL (gNm 11) tq (eVar 11) [11] (natL rs) (S st p s2 s3 s4 s5 s6 a s8 s9 s10 x) = .ok (natL (rs.filter (sq p a)), S st p s2 s3 s4 s5 s6 a s8 s9 s10 .no) := by
  induction rs with
  | nil => exact fun x _ => lnil (by rfl)
  | cons r rs ih =>
    intro x h
    have hr := h r List.mem_cons_self
    have ih := ih (N r) fun s hs => h s (List.mem_cons_of_mem _ hs)
    have e0 : ((r : Int) * (r : Int) % (p : Int)) = ((r * r % p : Nat) : Int) := by norm_cast
    have ht := tq_ok st p s2 s3 s4 s5 s6 a s8 s9 s10 r (by omega) (by omega) (by omega)
    have g0 : ∀ i : Int, gNm 11 (.int i) (wipeE (S st p s2 s3 s4 s5 s6 a s8 s9 s10 x) [11]) = some (S st p s2 s3 s4 s5 s6 a s8 s9 s10 (I i)) := fun i => by rfl
    have v0 : ∀ i : Int, eVar 11 (S st p s2 s3 s4 s5 s6 a s8 s9 s10 (I i)) = .ok (I i, S st p s2 s3 s4 s5 s6 a s8 s9 s10 (I i)) := fun i => by rfl
    rw [natL_cons]
    by_cases c : r * r % p = a
    · rw [decide_eq_true (by rw [e0, c])] at ht
      rw [List.filter_cons_of_pos (show sq p a r = true from beq_iff_eq.mpr c), natL_cons]
      exact lcons_yes (g0 r) ht (v0 r) rfl ih
    · rw [decide_eq_false (by rw [e0]; omega)] at ht
      rw [List.filter_cons_of_neg (show ¬ sq p a r = true from fun z => c (beq_iff_eq.mp z))]
      exact lcons_no (g0 r) ht ih
theorem lc_of {f : EI} {g : GF} {t : TF} {e : EF} {us : List Nat} {E E1 E2 E3 : VL.Env} {ds ys : List D} (h : f E = .ok (ds, E1)) (hl : ds.length ≤ SZ) (h2 : loopL g t e us ds E1 = .ok (ys, E2)) (h3 : restE E1 us E2 = E3) : eLc f g t e us E = .ok (.ol ys, E3) := by
  unfold eLc
  rw [h]
  show (if ds.length ≤ SZ then _ else _) = _
  rw [if_pos hl, h2]
  show RR.ok (Sl.ol ys, restE E1 us E2) = _
  rw [h3]
theorem gMin2_i (i j : Int) : g2 gMin2 [I i, I j] = some (I (if j < i then j else i)) := by kernel_rfl
theorem roots_ok (st : Sl) (p : Nat) (s2 s3 s4 s5 s6 : Sl) (a : Nat) (s8 s9 s10 : Sl) (hp : 2 < p) (hp2 : p ≤ 65537) :
    eLc (iRg1 (aCons (eCall (g2 gMin2) (aCons (eAdd (eDiv (eVar 1) (eC (.int 2))) (eC (.int 1))) (aCons (eC (.int 4000)) aNil))) aNil)) (gNm 11) tq (eVar 11) [11] (S st p s2 s3 s4 s5 s6 a s8 s9 s10 .no)
      = .ok (.ol (natL ((List.range (min (p / 2 + 1) 4000)).filter (sq p a))), S st p s2 s3 s4 s5 s6 a s8 s9 s10 .no) := by
  refine lc_of (ds := natL (List.range (min (p / 2 + 1) 4000))) (E1 := S st p s2 s3 s4 s5 s6 a s8 s9 s10 .no) ?_ ?_ (sq_lc st p s2 s3 s4 s5 s6 a s8 s9 s10 (by omega) _ .no fun r hr => by have := List.mem_range.mp hr; omega) (by rfl)
  · rw [List.range_eq_range', ← rngD_nat 0]
    refine rg1_of (acons_of (E1 := S st p s2 s3 s4 s5 s6 a s8 s9 s10 .no) ?_ (by kernel_rfl)) (by omega)
    refine ecall_of (ss := [I ((p : Int) / 2 + 1), I 4000]) (by kernel_rfl) ?_
    rw [gMin2_i]
    show some (I _) = some (I _)
    congr 2
    split <;> omega
  · rw [List.length_map, List.length_range]
    show _ ≤ 16777216
    omega
theorem efnK_of {n : Nat} {pm : List Nat} {mf : CF} {g : AF} {E E1 : VL.Env} {ss0 ss s2 : List Sl} {r : Sl} {l : Option (List (Key × D))} (h : g E = .ok (ss0, E1)) (h2 : frAll ss0 = some ss) (h3 : ss.length = n) (hp : permL pm ss = s2) (h4 : mf s2 = .ok r l) (h5 : r.ret = true) : eFnK n pm mf g E = .ok (r, E1) := by
  unfold eFnK
  rw [h]
  show (match frAll ss0 with
    | some ss => if ss.length = n then roE E1 (match mf (permL pm ss) with
      | .ok r l => if r.ret then .ok r l else .bad
      | o => o) else .bad
    | none => .bad) = _
  rw [h2]
  dsimp only
  rw [if_pos h3, hp, h4]
  dsimp only
  rw [if_pos h5]
  rfl
theorem efnK_exc {n : Nat} {pm : List Nat} {mf : CF} {g : AF} {E E1 : VL.Env} {ss0 ss s2 : List Sl} {x : D} {l : Option (List (Key × D))} (h : g E = .ok (ss0, E1)) (h2 : frAll ss0 = some ss) (h3 : ss.length = n) (hp : permL pm ss = s2) (h4 : mf s2 = .exc x l) : eFnK n pm mf g E = .exc x E1 := by
  unfold eFnK
  rw [h]
  show (match frAll ss0 with
    | some ss => if ss.length = n then roE E1 (match mf (permL pm ss) with
      | .ok r l => if r.ret then .ok r l else .bad
      | o => o) else .bad
    | none => .bad) = _
  rw [h2]
  dsimp only
  rw [if_pos h3, hp, h4]
  rfl
/-- what a lambda's call tells -/
theorem lam_okd {l : List Nat} {fb : EF} {E E2 E3 : VL.Env} {s : Sl} {d : D} (h1 : frzs l E = E) (h2 : capE l E = E2) (h3 : fb E2 = .ok (.dat d, E3)) : eLam tr__law_told l fb E = .ok (.ol [d], E) := by
  unfold eLam
  rw [h1, h2, h3]
  rfl
theorem lam_okl {l : List Nat} {fb : EF} {E E2 E3 : VL.Env} {s : Sl} {ds : List D} (h1 : frzs l E = E) (h2 : capE l E = E2) (h3 : fb E2 = .ok (.ol ds, E3)) : eLam tr__law_told l fb E = .ok (.ol [.lst ds], E) := by
  unfold eLam
  rw [h1, h2, h3]
  rfl
theorem lam_exc {l : List Nat} {fb : EF} {E E2 E3 : VL.Env} {x r : D} (h1 : frzs l E = E) (h2 : capE l E = E2) (h3 : fb E2 = .exc x E3) (h4 : tr__law_told (.exc x none) = .ok (.dat r) none) : eLam tr__law_told l fb E = .ok (.dat r, E) := by
  unfold eLam
  rw [h1, h2, h3]
  show roE E (roRet (tr__law_told (.exc x none))) = _
  rw [h4]
  rfl
theorem expr_if {t : TF} {f g : SF} {E E1 : VL.Env} {r : Sl} (h : t E = .ok (false, E1)) (h2 : g E1 = .rt r E1) : sIf t f g E = .rt r E1 := if_no h h2
end Lk16

namespace Lk16
open PySem PySem.Spec PyProof.Rows L2 VL VL.Ev

theorem or_no3 {f g h : TF} {E : VL.Env} (h1 : f E = .ok (false, E)) (h2 : g E = .ok (false, E)) (h3 : h E = .ok (false, E)) : tfOr f (tfOr g h) E = .ok (false, E) := or_no h1 (or_no h2 h3)
theorem tup_of {g : AF} {E E1 : VL.Env} {ss : List Sl} {ds : List D} (h : g E = .ok (ss, E1)) (h2 : dAll ss = some ds) (h3 : ds.length ≤ SZ) : eTup g E = .ok (.dat (.tup ds), E1) := by
  unfold eTup
  rw [h]
  show ((RR.opt (dAll ss)).bind fun ds => if ds.length ≤ SZ then RR.ok (Sl.dat (.tup ds), E1) else .bad) = _
  rw [h2]
  show (if ds.length ≤ SZ then RR.ok (Sl.dat (.tup ds), E1) else .bad) = _
  rw [if_pos h3]
theorem asg_of {f : EF} {g : GF} {E E1 E2 : VL.Env} {d : D} (h : f E = .ok (.dat d, E1)) (h2 : g d E1 = some E2) : sAsg f g E = .nx E2 := by
  unfold sAsg
  rw [h]
  show (match g d E1 with
    | some E2 => FL.nx E2
    | none => .bad) = _
  rw [h2]
theorem par_of {i j : Nat} {g : AF} {E E1 E2 : VL.Env} {r s : Sl} (h : g E = .ok ([r, s], E1)) (h2 : (E1.st i r).st j s = E2) : sPar i j g E = .nx E2 := by
  unfold sPar
  rw [h]
  show FL.nx ((E1.st i r).st j s) = _
  rw [h2]
theorem un_of {g : Sl → Option Sl} {f : EF} {E E1 : VL.Env} {x s : Sl} (h : f E = .ok (x, E1)) (h2 : g x = some s) : eUn g f E = .ok (s, E1) := by
  unfold eUn
  rw [h]
  show ((RR.opt (g x)).bind fun s => RR.ok (s, E1)) = _
  rw [h2]
  rfl
theorem repr1 {f : EF} {E E1 : VL.Env} {n : Nat} (hn : n < 10 ^ 12) (h : f E = .ok (N n, E1)) : eCall (g1 gRepr) (aCons f aNil) E = .ok (.dat (.str (D.int (n : Nat)).py.shown), E1) := ecall_of (ss := [N n]) (acons_of h rfl) (nat_repr hn)
/-- two texts of one number are alike -/
theorem repr_ne {fa fb : EF} {E : VL.Env} {n : Nat} (hn : n < 10 ^ 12) (ha : fa E = .ok (N n, E)) (hb : fb E = .ok (N n, E)) : tfV (eOp (gEqA true) (eCall (g1 gRepr) (aCons fa aNil)) (eCall (g1 gRepr) (aCons fb aNil))) E = .ok (false, E) :=
  val_of (op_of (repr1 hn ha) (repr1 hn hb) (gEq_same true _))
theorem dfits {b : Int} (h0 : 0 < b) (h : b < 4294967296) : divFits b = true := by
  unfold divFits
  have h1 : b.natAbs.log2 < 64 := (Nat.log2_lt (by omega)).mpr (by omega)
  rw [decide_eq_true h0, decide_eq_true (by omega : b.natAbs.log2 < 9000)]
  rfl
abbrev T (st : Sl) (p : Nat) (s2 s3 s4 s5 s6 s7 s8 s9 s10 s11 : Sl) : VL.Env := [st, N p, s2, s3, s4, s5, s6, s7, s8, s9, s10, s11]
abbrev q1 : SF := (sAsg (eTup (aCons (eAdd (eC (.int 1)) (eFnD 0 2 [] mf__law_digit (aCons (eSub (eVar 1) (eC (.int 1))) aNil))) (aCons (eFnD 0 2 [] mf__law_digit (aCons (eVar 1) aNil)) (aCons (eFnD 0 2 [] mf__law_digit (aCons (eC (.int 200)) aNil)) aNil)))) (gTp 3 (gsCons (gNm 6) (gsCons (gNm 7) (gsCons (gNm 8) gsNil)))))
theorem q1_ok (l c t : Int) (p : Nat) (hp : 2 < p) (hp2 : p ≤ 65537) (hl : 0 ≤ l) (ht : 0 ≤ t) (ht2 : t ≤ 40000) : ∃ l' t' one a e, 0 ≤ l' ∧ 0 ≤ t' ∧ t' ≤ t + 12 ∧ 0 < one ∧ one < p ∧ a < p ∧ e < 200 ∧
    q1 (T (.od (some 0) (kvs l c t)) p .no .no .no .no .no .no .no .no .no .no) = .nx (T (.od (some 0) (kvs l' c t')) p .no .no .no .no (N one) (N a) (N e) .no .no .no) := by
  obtain ⟨l1, t1, x, hl1, ht1, b1, hx, hx2, e1⟩ := digit_ok l c t ((p : Int) - 1) hl ht (by omega) (by omega) (dfits (by omega) (by omega))
  obtain ⟨l2, t2, y, hl2, ht2', b2, hy, hy2, e2⟩ := digit_ok l1 c t1 p hl1 ht1 (by omega) (by omega) (dfits (by omega) (by omega))
  obtain ⟨l3, t3, z, hl3, ht3, b3, hz, hz2, e3⟩ := digit_ok l2 c t2 200 hl2 ht2' (by omega) (by omega) (dfits (by omega) (by omega))
  obtain ⟨x, rfl⟩ := Int.eq_ofNat_of_zero_le hx
  obtain ⟨y, rfl⟩ := Int.eq_ofNat_of_zero_le hy
  obtain ⟨z, rfl⟩ := Int.eq_ofNat_of_zero_le hz
  refine ⟨l3, t3, 1 + x, y, z, hl3, ht3, by omega, by omega, by omega, by omega, by omega, ?_⟩
  have ex : N (1 + x) = I (1 + (x : Int)) := by show I _ = I _; norm_cast
  rw [ex]
  refine asg_of (d := .tup [.int (1 + (x : Int)), .int y, .int z]) (E1 := T (.od (some 0) (kvs l3 c t3)) p .no .no .no .no .no .no .no .no .no .no) (tup_of (ss := [I (1 + (x : Int)), I y, I z]) ?_ (by kernel_rfl) (by show 3 ≤ 16777216; decide)) (by kernel_rfl)
  refine acons_of (E1 := T (.od (some 0) (kvs l1 c t1)) p .no .no .no .no .no .no .no .no .no .no) (op_of (x := I 1) (y := I x) (E1 := T (.od (some 0) (kvs l c t)) p .no .no .no .no .no .no .no .no .no .no) (by kernel_rfl) (efnD_of (t := some 0) (kv := kvs l c t) (ss0 := [I ((p : Int) - 1)]) (ss := [I ((p : Int) - 1)]) (E1 := T .no p .no .no .no .no .no .no .no .no .no .no) (by kernel_rfl) (by kernel_rfl) (by kernel_rfl) rfl e1 rfl (by kernel_rfl)) (gAdd_i _ _)) ?_
  refine acons_of (E1 := T (.od (some 0) (kvs l2 c t2)) p .no .no .no .no .no .no .no .no .no .no) (efnD_of (t := some 0) (kv := kvs l1 c t1) (ss0 := [N p]) (ss := [N p]) (E1 := T .no p .no .no .no .no .no .no .no .no .no .no) (by kernel_rfl) (by kernel_rfl) (by kernel_rfl) rfl e2 rfl (by kernel_rfl)) ?_
  exact acons_of (E1 := T (.od (some 0) (kvs l3 c t3)) p .no .no .no .no .no .no .no .no .no .no) (efnD_of (t := some 0) (kv := kvs l2 c t2) (ss0 := [I 200]) (ss := [I 200]) (E1 := T .no p .no .no .no .no .no .no .no .no .no .no) (by kernel_rfl) (by kernel_rfl) (by kernel_rfl) rfl e3 rfl (by kernel_rfl)) (by rfl)
end Lk16

namespace Lk16
open PySem PySem.Spec PyProof.Rows L2 VL VL.Ev

theorem mod_nat {fa fb : EF} {E E1 E2 : VL.Env} {x p : Nat} (hp : 0 < p) (ha : fa E = .ok (N x, E1)) (hb : fb E1 = .ok (N p, E2)) : eMod fa fb E = .ok (N (x % p), E2) := by
  have e : N (x % p) = I ((x : Int) % (p : Int)) := by show I _ = I _; norm_cast
  rw [e]
  exact op_of ha hb (gMod_i (by omega))
theorem mul_nat {fa fb : EF} {E E1 E2 : VL.Env} {x y : Nat} (hy : y < 4294967296) (ha : fa E = .ok (N x, E1)) (hb : fb E1 = .ok (N y, E2)) : eOp gMulA fa fb E = .ok (N (x * y), E2) := by
  have e : N (x * y) = I ((x : Int) * (y : Int)) := by show I _ = I _; norm_cast
  rw [e]
  exact op_of ha hb (gMul_r (by omega) (by omega))
theorem ne_nat {fa fb : EF} {E E1 E2 : VL.Env} {x y : Nat} (ha : fa E = .ok (N x, E1)) (hb : fb E1 = .ok (N y, E2)) : tfV (eOp (gEqA true) fa fb) E = .ok (!decide (x = y), E2) := by
  refine val_of (op_of ha hb ?_)
  rw [gNe_i]
  congr 3
  rw [Bool.not_inj_iff, decide_eq_decide]
  omega
abbrev rno : SF := sRet (eC (.bl false))
abbrev q2 : SF := (sPar 9 10 (aCons (eFnK 2 [1, 0] mf_inverse_of (aCons (eVar 6) (aCons (eVar 1) aNil))) (aCons (eFnK 2 [1, 0] mf_order_of (aCons (eVar 6) (aCons (eVar 1) aNil))) aNil)))
abbrev q3 : SF := (sIf (tfOr (tfV (eOp (gEqA true) (eCall (g1 gRepr) (aCons (eVar 9) aNil)) (eCall (g1 gRepr) (aCons (eCall (g1 gInt) (aCons (eMod (eVar 9) (eVar 1)) aNil)) aNil)))) (tfOr (tfV (eOp (gEqA true) (eMod (eOp gMulA (eVar 6) (eVar 9)) (eVar 1)) (eC (.int 1)))) (tfV (eOp (gEqA true) (eCall (g1 gRepr) (aCons (eVar 10) aNil)) (eCall (g1 gRepr) (aCons (eFn 2 [] mf__law_order (aCons (eVar 1) (aCons (eVar 6) aNil))) aNil)))))) rno sNx)
abbrev q4 : SF := (sSet 2 (eFnK 3 [2, 1, 0] mf_quotient_of (aCons (eVar 6) (aCons (eVar 7) (aCons (eVar 1) aNil)))))
abbrev q5 : SF := (sIf (tfOr (tfV (eOp (gEqA true) (eCall (g1 gRepr) (aCons (eVar 2) aNil)) (eCall (g1 gRepr) (aCons (eMod (eOp gMulA (eVar 7) (eVar 9)) (eVar 1)) aNil)))) (tfV (eUn (gIsN true) (eFnK 2 [1, 0] mf_need_remainder (aCons (eVar 7) (aCons (eVar 1) aNil)))))) rno sNx)
abbrev q6 : SF := (sIf (tfV (eOp (gEqA true) (eCall (g1 gRepr) (aCons (eFnK 3 [2, 1, 0] mf_power_of (aCons (eVar 8) (aCons (eVar 7) (aCons (eVar 1) aNil)))) aNil)) (eCall (g1 gRepr) (aCons (eFn 3 [] mf__law_power (aCons (eVar 1) (aCons (eVar 7) (aCons (eVar 8) aNil)))) aNil)))) rno sNx)
abbrev q7 : SF := (sSet 3 (eAdd (eC (.int 999000)) (eVar 8)))
abbrev q8 : SF := (sIf (tfV (eOp (gEqA true) (eCall (g1 gRepr) (aCons (eFn 3 [] mf_power_of (aCons (eVar 1) (aCons (eVar 7) (aCons (eVar 3) aNil)))) aNil)) (eCall (g1 gRepr) (aCons (eFn 3 [] mf__law_squared (aCons (eVar 1) (aCons (eVar 7) (aCons (eVar 3) aNil)))) aNil)))) rno sNx)
theorem mid_ok (st : Sl) (p one a e : Nat) (hp : p ∈ PL) (o0 : 0 < one) (o1 : one < p) (ha : a < p) (he : e < 200) (rest : SF) : ∃ s2 s3 s9 s10, sSeq q2 (sSeq q3 (sSeq q4 (sSeq q5 (sSeq q6 (sSeq q7 (sSeq q8 rest)))))) (T st p .no .no .no .no (N one) (N a) (N e) .no .no .no) = rest (T st p s2 s3 .no .no (N one) (N a) (N e) s9 s10 .no) := by
  obtain ⟨b1, b2⟩ := pl_big p hp
  obtain ⟨v, lv, hv, hm, ev, l2, ei⟩ := inverse_ok p one hp o0 o1 (gcd_pl hp o0 o1)
  obtain ⟨d, hd, O⟩ := has_ord (by omega) (fermat_pl hp o0 o1)
  obtain ⟨qs, Q⟩ := (pf_all p hp).qs
  obtain ⟨l3, eo⟩ := order_ok p one d qs hp o0 o1 Q (fermat_pl hp o0 o1) O
  have elo := law_order_ok p one d (by omega) b2 o1 O (by omega)
  obtain ⟨l4, eq⟩ := quotient_ok p a one v hp ha o0 o1 hv ev
  have en := need_rem_ok p a hp ha
  obtain ⟨l5, ep⟩ := power_ok p a e hp ha (by omega)
  obtain ⟨l6, elp⟩ := law_power_ok p a e (by omega) ha b2 (by omega)
  obtain ⟨l7, eg⟩ := power_ok p a (999000 + e) hp ha (by omega)
  have els := law_squared_ok p a (999000 + e) (by omega) b2 ha (by omega)
  refine ⟨N (a * v % p), N (999000 + e), N v, N d, ?_⟩
  have lt : ∀ x : Nat, x % p < 10 ^ 12 := fun x => by have := Nat.mod_lt x (show 0 < p by omega); omega
  refine seq_nx (E1 := T st p .no .no .no .no (N one) (N a) (N e) (N v) (N d) .no) (par_of (r := N v) (s := N d) (E1 := T st p .no .no .no .no (N one) (N a) (N e) .no .no .no) (acons_of (E1 := T st p .no .no .no .no (N one) (N a) (N e) .no .no .no) (efnK_of (ss0 := [N one, N p]) (ss := [N one, N p]) (s2 := [N p, N one]) (by kernel_rfl) (by kernel_rfl) rfl rfl ei rfl)
    (acons_of (E1 := T st p .no .no .no .no (N one) (N a) (N e) .no .no .no) (efnK_of (ss0 := [N one, N p]) (ss := [N one, N p]) (s2 := [N p, N one]) (by kernel_rfl) (by kernel_rfl) rfl rfl eo rfl) (by rfl))) (by kernel_rfl)) ?_
  generalize hE : T st p .no .no .no .no (N one) (N a) (N e) (N v) (N d) .no = E
  have g1' : eVar 1 E = .ok (N p, E) := by rw [← hE]; kernel_rfl
  have g6 : eVar 6 E = .ok (N one, E) := by rw [← hE]; kernel_rfl
  have g7 : eVar 7 E = .ok (N a, E) := by rw [← hE]; kernel_rfl
  have g8 : eVar 8 E = .ok (N e, E) := by rw [← hE]; kernel_rfl
  have g9 : eVar 9 E = .ok (N v, E) := by rw [← hE]; kernel_rfl
  have g10 : eVar 10 E = .ok (N d, E) := by rw [← hE]; kernel_rfl
  refine seq_nx (E1 := E) (if_no (E1 := E) (or_no3 ?_ ?_ ?_) rfl) ?_
  · refine repr_ne (n := v) (by omega) g9 (ecall_of (ss := [N v]) (acons_of (E1 := E) ?_ rfl) rfl)
    have z := mod_nat (x := v) (p := p) (by omega) g9 g1'
    rw [Nat.mod_eq_of_lt hv] at z
    exact z
  · have z := ne_nat (mod_nat (p := p) (by omega) (mul_nat (by omega) g6 g9) g1') (show eC (.int 1) E = .ok (N 1, E) from rfl)
    rw [Nat.mul_comm, hm, decide_eq_true rfl] at z
    exact z
  · exact repr_ne (n := d) (by omega) g10 (efn_of (ss0 := [N p, N one]) (ss := [N p, N one]) (acons_of g1' (acons_of g6 rfl)) rfl rfl elo rfl)
  refine seq_nx (E1 := T st p (N (a * v % p)) .no .no .no (N one) (N a) (N e) (N v) (N d) .no) (set_of (E1 := E) (efnK_of (ss0 := [N one, N a, N p]) (ss := [N one, N a, N p]) (s2 := [N p, N a, N one]) (acons_of g6 (acons_of g7 (acons_of g1' rfl))) rfl rfl rfl eq rfl) (by rw [← hE]; kernel_rfl)) ?_
  clear g1' g6 g7 g8 g9 g10 hE
  generalize hE : T st p (N (a * v % p)) .no .no .no (N one) (N a) (N e) (N v) (N d) .no = E
  have g1' : eVar 1 E = .ok (N p, E) := by rw [← hE]; kernel_rfl
  have g2' : eVar 2 E = .ok (N (a * v % p), E) := by rw [← hE]; kernel_rfl
  have g7 : eVar 7 E = .ok (N a, E) := by rw [← hE]; kernel_rfl
  have g8 : eVar 8 E = .ok (N e, E) := by rw [← hE]; kernel_rfl
  have g9 : eVar 9 E = .ok (N v, E) := by rw [← hE]; kernel_rfl
  refine seq_nx (E1 := E) (if_no (E1 := E) (or_no (E1 := E) ?_ ?_) rfl) ?_
  · exact repr_ne (n := a * v % p) (lt _) g2' (mod_nat (p := p) (by omega) (mul_nat (by omega) g7 g9) g1')
  · exact val_of (un_of (x := .dat .non) (efnK_of (ss0 := [N a, N p]) (ss := [N a, N p]) (s2 := [N p, N a]) (acons_of g7 (acons_of g1' rfl)) rfl rfl rfl en rfl) rfl)
  refine seq_nx (E1 := E) (if_no (E1 := E) (repr_ne (n := a ^ e % p) (lt _) (efnK_of (ss0 := [N e, N a, N p]) (ss := [N e, N a, N p]) (s2 := [N p, N a, N e]) (acons_of g8 (acons_of g7 (acons_of g1' rfl))) rfl rfl rfl ep rfl) (efn_of (ss0 := [N p, N a, N e]) (ss := [N p, N a, N e]) (acons_of g1' (acons_of g7 (acons_of g8 rfl))) rfl rfl elp rfl)) rfl) ?_
  have e9 : N (999000 + e) = I (999000 + (e : Int)) := congrArg I (by omega)
  refine seq_nx (E1 := T st p (N (a * v % p)) (N (999000 + e)) .no .no (N one) (N a) (N e) (N v) (N d) .no) (set_of (r := N (999000 + e)) (E1 := E) (by rw [e9]; exact op_of (x := I 999000) (E1 := E) rfl g8 (gAdd_i _ _)) (by rw [← hE]; kernel_rfl)) ?_
  clear g1' g2' g7 g8 g9 hE
  generalize hE : T st p (N (a * v % p)) (N (999000 + e)) .no .no (N one) (N a) (N e) (N v) (N d) .no = E
  have g1' : eVar 1 E = .ok (N p, E) := by rw [← hE]; kernel_rfl
  have g3 : eVar 3 E = .ok (N (999000 + e), E) := by rw [← hE]; kernel_rfl
  have g7 : eVar 7 E = .ok (N a, E) := by rw [← hE]; kernel_rfl
  have ha3 : aCons (eVar 1) (aCons (eVar 7) (aCons (eVar 3) aNil)) E = .ok ([N p, N a, N (999000 + e)], E) := acons_of g1' (acons_of g7 (acons_of g3 rfl))
  exact seq_nx (E1 := E) (if_no (E1 := E) (repr_ne (n := a ^ (999000 + e) % p) (lt _) (efn_of (ss0 := [N p, N a, N (999000 + e)]) (ss := [N p, N a, N (999000 + e)]) ha3 rfl rfl eg rfl) (efn_of (ss0 := [N p, N a, N (999000 + e)]) (ss := [N p, N a, N (999000 + e)]) ha3 rfl rfl els rfl)) rfl) rfl
end Lk16

namespace Lk16
open PySem PySem.Spec PyProof.Rows L2 VL VL.Ev

theorem cut1 (d : D) (ds : List D) : VL.cutD (d :: ds) none (some 1) = [d] := by
  unfold VL.cutD
  have e0 : HT.sIx (d :: ds).length 0 none = 0 := rfl
  have e1 : HT.sIx (d :: ds).length (d :: ds).length (some 1) = 1 := by
    show (if (1 : Int) < 0 then ((1 : Int) + ((d :: ds).length : Int)).toNat else min (1 : Int).toNat (d :: ds).length) = 1
    rw [if_neg (by decide), List.length_cons]
    show min 1 (ds.length + 1) = 1
    omega
  rw [e0, e1]
  rfl
theorem gLt_n (a b : Nat) : gLt (N a) (N b) = some (.dat (.bl (decide (a < b)))) := by
  rw [gLt_i]
  congr 3
  rw [decide_eq_decide]
  omega
theorem neq_nil (d : D) (ds : List D) : eqD (.lst (d :: ds)) (.lst []) = false := by
  unfold eqD
  simp only [D.py, pyL, PyData.eqv, PyData.eqvAll]
theorem gNe_nil {ns : List Nat} (h : ∀ n ∈ ns, n < 10 ^ 12) : gEqA true (.dat (.lst (natL ns))) (.ol []) = some (.dat (.bl (!ns.isEmpty))) := by
  have f := natL_fine h
  have f2 : (D.lst []).fine = true := by kernel_rfl
  have g0 : gEqS true (.dat (.lst (natL ns))) (.ol []) = none := rfl
  unfold gEqA gOr
  rw [g0]
  show (if ((D.lst (natL ns)).fine && (D.lst []).fine) = true then some (Sl.dat (.bl (!eqD (.lst (natL ns)) (.lst [])))) else none) = _
  rw [f, f2]
  cases ns with
  | nil => kernel_rfl
  | cons n ns =>
    rw [natL_cons, neq_nil]
    rfl
abbrev nameroot : D := .tup [.str "name", .str "root"]
theorem repr_nr : gRepr (.dat nameroot) = some (.dat (.str nameroot.py.shown)) := repr_of (d := nameroot) rfl (by kernel_rfl) (by decide +kernel) (by decide +kernel)
abbrev q9 : SF := (sSet 4 (eLc (iRg1 (aCons (eCall (g2 gMin2) (aCons (eAdd (eDiv (eVar 1) (eC (.int 2))) (eC (.int 1))) (aCons (eC (.int 4000)) aNil))) aNil)) (gNm 11) tq (eVar 11) [11]))
abbrev q10 : SF := (sSet 5 (eLam tr__law_told [1, 7] (eFnK 2 [1, 0] mf_root_of (aCons (eVar 7) (aCons (eVar 1) aNil)))))
abbrev q11 : SF := (sIf (tfV (eOp gLt (eVar 1) (eC (.int 7999)))) (sRet (eOp (gEqA false) (eCall (g1 gRepr) (aCons (eVar 5) aNil)) (eCall (g1 gRepr) (aCons (eIf (tfV (eOp (gEqA true) (eVar 4) (eLst aNil))) (eCut (eVar 4) oNone (oSome (eC (.int 1)))) (eTup (aCons (eC (.str "name")) (aCons (eC (.str "root")) aNil)))) aNil)))) sNx)
abbrev q12 : SF := (sIf (tfNot (tfV (eIsi .list (eVar 5)))) (sRet (eAnd (eOp (gEqA false) (eVar 5) (eTup (aCons (eC (.str "name")) (aCons (eC (.str "root")) aNil)))) (eOp (gEqA false) (eFn 3 [] mf__law_squared (aCons (eVar 1) (aCons (eVar 7) (aCons (eDiv (eVar 1) (eC (.int 2))) aNil)))) (eSub (eVar 1) (eC (.int 1)))))) sNx)
abbrev q13 : SF := (sRet (eAnd (eOp gLe (ePk gIx 5 (eC (.int 0))) (eDiv (eVar 1) (eC (.int 2)))) (eOp (gEqA false) (eMod (eOp gMulA (ePk gIx 5 (eC (.int 0))) (ePk gIx 5 (eC (.int 0)))) (eVar 1)) (eVar 7))))
theorem m_single_eq : m__law_single_right = sSeq q1 (sSeq q2 (sSeq q3 (sSeq q4 (sSeq q5 (sSeq q6 (sSeq q7 (sSeq q8 (sSeq q9 (sSeq q10 (sSeq q11 (sSeq q12 q13))))))))))) := by kernel_rfl
/-- the slot of what was told -/
abbrev told (r : Option Nat) : Sl := match r with
  | some r => .ol [.int (r : Nat)]
  | none => .dat nameroot
theorem lam_root (st : Sl) (p a : Nat) (s2 s3 s4 s5 s6 s8 s9 s10 s11 : Sl) (hp : p ∈ PL) (ha : a < p) : eLam tr__law_told [1, 7] (eFnK 2 [1, 0] mf_root_of (aCons (eVar 7) (aCons (eVar 1) aNil))) (T st p s2 s3 s4 s5 s6 (N a) s8 s9 s10 s11)
    = .ok (told ((List.range (p / 2 + 1)).find? (sq p a)), T st p s2 s3 s4 s5 s6 (N a) s8 s9 s10 s11) := by
  have f1 : ∀ i j : Int, frzs [1, 7] [st, I i, s2, s3, s4, s5, s6, I j, s8, s9, s10, s11] = [st, I i, s2, s3, s4, s5, s6, I j, s8, s9, s10, s11] := fun i j => by kernel_rfl
  have f2 : ∀ i j : Int, capE [1, 7] [st, I i, s2, s3, s4, s5, s6, I j, s8, s9, s10, s11] = [.no, I i, .no, .no, .no, .no, .no, I j, .no, .no, .no, .no] := fun i j => by kernel_rfl
  rcases root_of_ok p a hp ha with ⟨r, e1, l, e2⟩ | ⟨e1, l, e2⟩
  · rw [e1]
    exact lam_okd (s := .no) (f1 p a) (f2 p a) (efnK_of (ss0 := [N a, N p]) (ss := [N a, N p]) (s2 := [N p, N a]) (by rfl) rfl rfl rfl e2 rfl)
  · rw [e1]
    exact lam_exc (f1 p a) (f2 p a) (efnK_exc (ss0 := [N a, N p]) (ss := [N a, N p]) (s2 := [N p, N a]) (by rfl) rfl rfl rfl e2) (by kernel_rfl)
theorem end_small (st : Sl) (p a : Nat) (s2 s3 s6 s8 s9 s10 : Sl) (hp : p < 7999) (r : Option Nat) (fs : List Nat) (hr : fs.head? = r) (hf : ∀ n ∈ fs, n < 10 ^ 12) (hl : fs.length ≤ 25000) :
    ∃ E, q11 (T st p s2 s3 (.ol (natL fs)) (told r) s6 (N a) s8 s9 s10 .no) = .rt (.dat (.bl true)) (st :: E) := by
  subst hr
  have lt : ∀ s4 s5, tfV (eOp gLt (eVar 1) (eC (.int 7999))) (T st p s2 s3 s4 s5 s6 (N a) s8 s9 s10 .no) = .ok (true, T st p s2 s3 s4 s5 s6 (N a) s8 s9 s10 .no) := fun s4 s5 => by
    have z := gLt_n p 7999
    rw [decide_eq_true hp] at z
    exact val_of (op_of (x := N p) (y := N 7999) rfl rfl z)
  cases fs with
  | nil =>
    refine ⟨[N p, s2, s3, .dat (.lst []), .dat nameroot, s6, N a, s8, s9, s10, .no], if_yes (lt _ _) (ret_of (op_of (E1 := T st p s2 s3 (.ol []) (.dat nameroot) s6 (N a) s8 s9 s10 .no) (ecall_of (ss := [.dat nameroot]) (by rfl) repr_nr) (ecall_of (ss := [.dat nameroot]) (acons_of (E1 := T st p s2 s3 (.dat (.lst [])) (.dat nameroot) s6 (N a) s8 s9 s10 .no) ?_ rfl) repr_nr) (gEq_same false _)))⟩
    refine eif_no (E1 := T st p s2 s3 (.dat (.lst [])) (.dat nameroot) s6 (N a) s8 s9 s10 .no) (val_of (op_of (x := .dat (.lst [])) (y := .ol []) (E1 := T st p s2 s3 (.dat (.lst [])) (.dat nameroot) s6 (N a) s8 s9 s10 .no) (by rfl) (by rfl) (by kernel_rfl))) (by rfl)
  | cons n ns =>
    have hn := hf n List.mem_cons_self
    have r1 : ∀ s : Sl, s.d? = some (.lst [.int (n : Nat)]) → gRepr s = some (.dat (.str (D.lst (natL [n])).py.shown)) := fun s h => natL_repr (ns := [n]) h (fun m hm => by rw [List.mem_singleton.mp hm]; exact hn) (by show 1 ≤ 25000; decide)
    refine ⟨[N p, s2, s3, .dat (.lst (natL (n :: ns))), .dat (.lst [.int (n : Nat)]), s6, N a, s8, s9, s10, .no], if_yes (lt _ _) (ret_of (op_of (E1 := T st p s2 s3 (.ol (natL (n :: ns))) (.dat (.lst [.int (n : Nat)])) s6 (N a) s8 s9 s10 .no) (ecall_of (ss := [.dat (.lst [.int (n : Nat)])]) (by rfl) (r1 (.dat (.lst [.int (n : Nat)])) rfl)) (ecall_of (ss := [.ol [.int (n : Nat)]]) (acons_of (E1 := T st p s2 s3 (.dat (.lst (natL (n :: ns)))) (.dat (.lst [.int (n : Nat)])) s6 (N a) s8 s9 s10 .no) ?_ rfl) (r1 (.ol [.int (n : Nat)]) rfl)) (gEq_same false _)))⟩
    refine eif_yes (E1 := T st p s2 s3 (.dat (.lst (natL (n :: ns)))) (.dat (.lst [.int (n : Nat)])) s6 (N a) s8 s9 s10 .no) (val_of (op_of (x := .dat (.lst (natL (n :: ns)))) (y := .ol []) (E1 := T st p s2 s3 (.dat (.lst (natL (n :: ns)))) (.dat (.lst [.int (n : Nat)])) s6 (N a) s8 s9 s10 .no) (by rfl) (by rfl) (gNe_nil hf))) ?_
    have hc := cut1 (.int (n : Nat)) (natL ns)
    rw [← hc]
    rfl
end Lk16

namespace Lk16
open PySem PySem.Spec PyProof.Rows L2 VL VL.Ev

theorem gLe_n {a b : Nat} (h : a ≤ b) : gLe (N a) (N b) = some (.dat (.bl true)) := by
  rw [gLe_i, decide_eq_true (by omega)]
theorem eq_nat {fa fb : EF} {E E1 E2 : VL.Env} {x y : Nat} (h : x = y) (ha : fa E = .ok (N x, E1)) (hb : fb E1 = .ok (N y, E2)) : eOp (gEqA false) fa fb E = .ok (.dat (.bl true), E2) := by
  refine op_of ha hb ?_
  rw [gEq_i, decide_eq_true (by omega)]
theorem pk_nat (st : Sl) (p a r : Nat) (s2 s3 s4 s6 s8 s9 s10 s11 : Sl) : ePk gIx 5 (eC (.int 0)) (T st p s2 s3 s4 (.dat (.lst [.int (r : Nat)])) s6 (N a) s8 s9 s10 s11) = .ok (N r, T st p s2 s3 s4 (.dat (.lst [.int (r : Nat)])) s6 (N a) s8 s9 s10 s11) := by
  have z : ∀ i : Int, ePk gIx 5 (eC (.int 0)) (T st p s2 s3 s4 (.dat (.lst [.int i])) s6 (N a) s8 s9 s10 s11) = .ok (I i, T st p s2 s3 s4 (.dat (.lst [.int i])) s6 (N a) s8 s9 s10 s11) := fun i => by kernel_rfl
  exact z r
theorem half_nat (st : Sl) (p : Nat) (s2 s3 s4 s5 s6 s7 s8 s9 s10 s11 : Sl) : eDiv (eVar 1) (eC (.int 2)) (T st p s2 s3 s4 s5 s6 s7 s8 s9 s10 s11) = .ok (N (p / 2), T st p s2 s3 s4 s5 s6 s7 s8 s9 s10 s11) := by
  have e : N (p / 2) = I ((p : Int) / 2) := by show I _ = I _; norm_cast
  rw [e]
  exact op_of (x := N p) (y := I 2) rfl rfl (gDiv_p (by decide) (by decide))
theorem end_great (st : Sl) (p a : Nat) (s2 s3 s4 s6 s8 s9 s10 : Sl) (hp : p = 65537) (ha : a < p) : ∃ E, sSeq q11 (sSeq q12 q13) (T st p s2 s3 s4 (told ((List.range (p / 2 + 1)).find? (sq p a))) s6 (N a) s8 s9 s10 .no) = .rt (.dat (.bl true)) (st :: E) := by
  have lt : ∀ s5, q11 (T st p s2 s3 s4 s5 s6 (N a) s8 s9 s10 .no) = .nx (T st p s2 s3 s4 s5 s6 (N a) s8 s9 s10 .no) := fun s5 => by
    have z := gLt_n p 7999
    rw [decide_eq_false (by omega)] at z
    exact if_no (val_of (op_of (x := N p) (y := N 7999) rfl rfl z)) rfl
  cases h : (List.range (p / 2 + 1)).find? (sq p a) with
  | some r =>
    have h1 := List.find?_some h
    have h2 := List.mem_range.mp (List.mem_of_find?_eq_some h)
    have h3 : r * r % p = a := beq_iff_eq.mp h1
    refine ⟨[N p, s2, s3, s4, .dat (.lst [.int (r : Nat)]), s6, N a, s8, s9, s10, .no], seq_nx (lt _) (seq_nx (E1 := T st p s2 s3 s4 (.dat (.lst [.int (r : Nat)])) s6 (N a) s8 s9 s10 .no) (if_no (E1 := T st p s2 s3 s4 (.dat (.lst [.int (r : Nat)])) s6 (N a) s8 s9 s10 .no) (not_of (b := true) (val_of (by rfl))) (by rfl)) (ret_of ?_))⟩
    refine and_t (E1 := T st p s2 s3 s4 (.dat (.lst [.int (r : Nat)])) s6 (N a) s8 s9 s10 .no) (op_of (pk_nat st p a r s2 s3 s4 s6 s8 s9 s10 .no) (half_nat st p s2 s3 s4 _ s6 (N a) s8 s9 s10 .no) (gLe_n (by omega))) ?_
    exact eq_nat h3 (mod_nat (by omega) (mul_nat (by omega) (pk_nat st p a r s2 s3 s4 s6 s8 s9 s10 .no) (pk_nat st p a r s2 s3 s4 s6 s8 s9 s10 .no)) (by rfl)) (by rfl)
  | none =>
    subst hp
    have eu := euler a ha h
    have els := law_squared_ok 65537 a 32768 (by decide) (by decide) ha (by decide)
    rw [eu] at els
    refine ⟨[N 65537, s2, s3, s4, .dat nameroot, s6, N a, s8, s9, s10, .no], seq_nx (lt _) (seq_ret (if_yes (E1 := T st 65537 s2 s3 s4 (.dat nameroot) s6 (N a) s8 s9 s10 .no) (not_of (b := false) (val_of (by rfl))) (ret_of ?_)))⟩
    refine and_t (E1 := T st 65537 s2 s3 s4 (.dat nameroot) s6 (N a) s8 s9 s10 .no) (op_of (x := .dat nameroot) (y := .dat nameroot) (E1 := T st 65537 s2 s3 s4 (.dat nameroot) s6 (N a) s8 s9 s10 .no) (by rfl) (by rfl) (by kernel_rfl)) ?_
    exact eq_nat (x := 65536) (y := 65536) rfl (efn_of (ss0 := [N 65537, N a, N 32768]) (ss := [N 65537, N a, N 32768]) (E1 := T st 65537 s2 s3 s4 (.dat nameroot) s6 (N a) s8 s9 s10 .no) (acons_of (E1 := T st 65537 s2 s3 s4 (.dat nameroot) s6 (N a) s8 s9 s10 .no) (by rfl) (acons_of (E1 := T st 65537 s2 s3 s4 (.dat nameroot) s6 (N a) s8 s9 s10 .no) (by rfl) (acons_of (half_nat st 65537 s2 s3 s4 _ s6 (N a) s8 s9 s10 .no) (by rfl)))) (by rfl) rfl els rfl) (by rfl)
theorem single_ok (l c t : Int) (p : Nat) (hp : p ∈ PL) (hl : 0 ≤ l) (ht : 0 ≤ t) (ht2 : t ≤ 40000) : ∃ l' t', 0 ≤ l' ∧ 0 ≤ t' ∧ t' ≤ t + 12 ∧ mf__law_single_right [.od (some 0) (kvs l c t), N p] = .ok (.dat (.bl true)) (some (kvs l' c t')) := by
  obtain ⟨b1, b2⟩ := pl_big p hp
  obtain ⟨l', t', one, a, e, hl', ht', tb, o0, o1, ha, he, h1⟩ := q1_ok l c t p b1 b2 hl ht ht2
  refine ⟨l', t', hl', ht', tb, ?_⟩
  obtain ⟨s2, s3, s9, s10, h2⟩ := mid_ok (.od (some 0) (kvs l' c t')) p one a e hp o0 o1 ha he (sSeq q9 (sSeq q10 (sSeq q11 (sSeq q12 q13))))
  generalize hst : Sl.od (some 0) (kvs l' c t') = st at h1 h2
  have h3 : q9 (T st p s2 s3 .no .no (N one) (N a) (N e) s9 s10 .no) = .nx (T st p s2 s3 (.ol (natL ((List.range (min (p / 2 + 1) 4000)).filter (sq p a)))) .no (N one) (N a) (N e) s9 s10 .no) :=
    set_of (roots_ok st p s2 s3 .no .no (N one) a (N e) s9 s10 b1 b2) (by rfl)
  have h4 : ∀ s4, q10 (T st p s2 s3 s4 .no (N one) (N a) (N e) s9 s10 .no) = .nx (T st p s2 s3 s4 (told ((List.range (p / 2 + 1)).find? (sq p a))) (N one) (N a) (N e) s9 s10 .no) := fun s4 =>
    set_of (lam_root st p a s2 s3 s4 .no (N one) (N e) s9 s10 .no hp ha) (by rfl)
  have h5 : ∃ E, sSeq q11 (sSeq q12 q13) (T st p s2 s3 (.ol (natL ((List.range (min (p / 2 + 1) 4000)).filter (sq p a)))) (told ((List.range (p / 2 + 1)).find? (sq p a))) (N one) (N a) (N e) s9 s10 .no) = .rt (.dat (.bl true)) (st :: E) := by
    by_cases hs : p < 7999
    · rw [show min (p / 2 + 1) 4000 = p / 2 + 1 by omega]
      obtain ⟨E, z⟩ := end_small st p a s2 s3 (N one) (N e) s9 s10 hs ((List.range (p / 2 + 1)).find? (sq p a)) ((List.range (p / 2 + 1)).filter (sq p a)) List.head?_filter (fun n hn => by have := List.mem_range.mp (List.mem_filter.mp hn).1; omega) (Nat.le_trans (List.length_filter_le _ _) (by rw [List.length_range]; omega))
      exact ⟨E, seq_ret z⟩
    · have : p = 65537 := by
        have k : ∀ p ∈ PL, p < 7999 ∨ p = 65537 := by decide
        rcases k p hp with z | z
        · exact absurd z hs
        · exact z
      exact end_great st p a s2 s3 _ (N one) (N e) s9 s10 this ha
  obtain ⟨E, h5⟩ := h5
  have run : m__law_single_right (T (.od (some 0) (kvs l c t)) p .no .no .no .no .no .no .no .no .no .no) = .rt (.dat (.bl true)) (st :: E) := by
    rw [m_single_eq]
    exact seq_nx h1 (h2.trans (seq_nx h3 (seq_nx (h4 _) h5)))
  have z := mf_ret (n := 12) (ss := [.od (some 0) (kvs l c t), N p]) (sf := m__law_single_right) run rfl
  rw [← hst] at z
  exact z
end Lk16

namespace Lk16
open PySem PySem.Spec PyProof.Rows L2 VL VL.Ev

theorem ix_last (ds : List D) (d : D) : gIx (.ol (ds ++ [d])) (I (-1)) = some (.dat d) := by
  have e : L2.ixN (ds ++ [d]).length (-1) = some ds.length := by
    unfold L2.ixN
    rw [if_neg (by decide), if_pos (by rw [List.length_append]; show -((ds.length + 1 : Nat) : Int) ≤ -1; omega), List.length_append]
    show some ((-1 : Int) + ((ds.length + 1 : Nat) : Int)).toNat = _
    congr 1
    omega
  show ((some (ds ++ [d])).bind fun ds => (L2.atI ds (-1)).map Sl.dat) = _
  rw [Option.bind_some]
  unfold L2.atI
  rw [e, Option.bind_some, List.getElem?_append_right (Nat.le_refl _), Nat.sub_self]
  rfl
theorem pk_of {g : Sl → Sl → Option Sl} {i : Nat} {fb : EF} {E E1 : VL.Env} {s0 s y r : Sl} (h0 : E.at i = some s0) (h : fb E = .ok (y, E1)) (h2 : E1.at i = some s) (h3 : g s y = some r) : ePk g i fb E = .ok (r, E1) := by
  unfold ePk
  rw [h0]
  show ((fb E).bind fun q => (RR.opt (q.2.at i)).bind fun s => (RR.opt (g s q.1)).bind fun r => RR.ok (r, q.2)) = _
  rw [h]
  show ((RR.opt (E1.at i)).bind fun s => (RR.opt (g s y)).bind fun r => RR.ok (r, E1)) = _
  rw [h2]
  show ((RR.opt (g s y)).bind fun r => RR.ok (r, E1)) = _
  rw [h3]
  rfl
theorem app_of {i : Nat} {f : EF} {E E1 E2 : VL.Env} {ds0 ds : List D} {d : D} (h0 : E.at i = some (.ol ds0)) (h : f E = .ok (.dat d, E1)) (h2 : E1.at i = some (.ol ds)) (hl : ds.length < SZ) (h3 : E1.st i (.ol (ds ++ [d])) = E2) : eApp i f E = .ok (.dat .non, E2) := by
  unfold eApp
  rw [h0]
  dsimp only
  rw [h]
  show (match E1.at i with
    | some (.ol ds) => if ds.length < SZ then RR.ok (Sl.dat .non, E1.st i (.ol (ds ++ [d]))) else .bad
    | _ => .bad) = _
  rw [h2]
  dsimp only
  rw [if_pos hl, h3]
/-- the powers below n -/
abbrev pw (p r n : Nat) : List Nat := (List.range n).map fun i => r ^ i % p
theorem pw_succ (p r n : Nat) : natL (pw p r (n + 1)) = natL (pw p r n) ++ [.int ((r ^ n % p : Nat) : Int)] := by
  unfold pw natL
  rw [List.range_succ, List.map_append, List.map_append]
  rfl
theorem pw_one {p : Nat} (r : Nat) (hp : 1 < p) : natL (pw p r 1) = [.int 1] := by
  show [D.int ((r ^ 0 % p : Nat) : Int)] = _
  rw [Nat.pow_zero, Nat.mod_eq_of_lt hp]
  rfl
abbrev Eg (p o : Nat) (x : Sl) (r : Nat) (ds : List D) : VL.Env := [N p, N o, x, N r, .ol ds]
theorem grp_step (p o r k : Nat) (x : Sl) (hp : 0 < p) (hr : r < 65538) (hk : k < 70000) : bd_own_group_0 (Eg p o x r (natL (pw p r (k + 1)))) = .nx (Eg p o x r (natL (pw p r (k + 2)))) := by
  have hl : (natL (pw p r (k + 1))).length = k + 1 := by rw [List.length_map, List.length_map, List.length_range]
  rw [pw_succ p r (k + 1)]
  have e1 : r ^ k % p * r % p = r ^ (k + 1) % p := by rw [Nat.mod_mul_mod, ← Nat.pow_succ]
  rw [← e1]
  generalize hd : natL (pw p r (k + 1)) = ds at hl ⊢
  refine expr_of (app_of (d := .int ((r ^ k % p * r % p : Nat) : Int)) (ds0 := ds) (ds := ds) (E1 := Eg p o x r ds) (by kernel_rfl) ?_ (by kernel_rfl) (by rw [hl]; show _ < 16777216; omega) (by kernel_rfl))
  refine mod_nat (x := r ^ k % p * r) (E1 := Eg p o x r ds) hp (mul_nat (x := r ^ k % p) (y := r) (E1 := Eg p o x r ds) (by omega) (pk_of (y := I (-1)) (s0 := .ol ds) (s := .ol ds) (by kernel_rfl) (by kernel_rfl) (by kernel_rfl) ?_) (by kernel_rfl)) (by kernel_rfl)
  rw [← hd, pw_succ]
  exact ix_last _ _
theorem grp_loop (p o r : Nat) (hp : 0 < p) (hr : r < 65538) : ∀ (ds : List D) (k : Nat) (x : Sl), k + ds.length < 70000 → ∃ x', loopS (gNm 2) bd_own_group_0 ds (Eg p o x r (natL (pw p r (k + 1)))) = .nx (Eg p o x' r (natL (pw p r (k + ds.length + 1))))
  | [], k, x, _ => ⟨x, by unfold loopS; rfl⟩
  | d :: ds, k, x, h => by
    rw [List.length_cons] at h
    obtain ⟨x', e⟩ := grp_loop p o r hp hr ds (k + 1) (.dat d) (by omega)
    refine ⟨x', loop_nx (E1 := Eg p o (.dat d) r (natL (pw p r (k + 1)))) (by kernel_rfl) (grp_step p o r k (.dat d) hp hr (by omega)) ?_⟩
    rw [e, List.length_cons, show k + 1 + ds.length + 1 = k + (ds.length + 1) + 1 by omega]
abbrev Eh (p o : Nat) (x y s4 s5 : Sl) (r : Nat) (ds : List D) : VL.Env := [N p, N o, x, y, s4, s5, N r, .ol ds]
theorem row_step (p o r k : Nat) (x y s4 s5 : Sl) (hp : 0 < p) (hr : r < 65538) (hk : k < 70000) : bd__law_groups_right_0 (Eh p o x y s4 s5 r (natL (pw p r (k + 1)))) = .nx (Eh p o x y s4 s5 r (natL (pw p r (k + 2)))) := by
  have hl : (natL (pw p r (k + 1))).length = k + 1 := by rw [List.length_map, List.length_map, List.length_range]
  rw [pw_succ p r (k + 1)]
  have e1 : r ^ k % p * r % p = r ^ (k + 1) % p := by rw [Nat.mod_mul_mod, ← Nat.pow_succ]
  rw [← e1]
  generalize hd : natL (pw p r (k + 1)) = ds at hl ⊢
  refine expr_of (app_of (d := .int ((r ^ k % p * r % p : Nat) : Int)) (ds0 := ds) (ds := ds) (E1 := Eh p o x y s4 s5 r ds) (by kernel_rfl) ?_ (by kernel_rfl) (by rw [hl]; show _ < 16777216; omega) (by kernel_rfl))
  refine mod_nat (x := r ^ k % p * r) (E1 := Eh p o x y s4 s5 r ds) hp (mul_nat (x := r ^ k % p) (y := r) (E1 := Eh p o x y s4 s5 r ds) (by omega) (pk_of (y := I (-1)) (s0 := .ol ds) (s := .ol ds) (by kernel_rfl) (by kernel_rfl) (by kernel_rfl) ?_) (by kernel_rfl)) (by kernel_rfl)
  rw [← hd, pw_succ]
  exact ix_last _ _
theorem row_loop (p o r : Nat) (y s4 s5 : Sl) (hp : 0 < p) (hr : r < 65538) : ∀ (ds : List D) (k : Nat) (x : Sl), k + ds.length < 70000 → ∃ x', loopS (gNm 2) bd__law_groups_right_0 ds (Eh p o x y s4 s5 r (natL (pw p r (k + 1)))) = .nx (Eh p o x' y s4 s5 r (natL (pw p r (k + ds.length + 1))))
  | [], k, x, _ => ⟨x, by unfold loopS; rfl⟩
  | d :: ds, k, x, h => by
    rw [List.length_cons] at h
    obtain ⟨x', e⟩ := row_loop p o r y s4 s5 hp hr ds (k + 1) (.dat d) (by omega)
    refine ⟨x', loop_nx (E1 := Eh p o (.dat d) y s4 s5 r (natL (pw p r (k + 1)))) (by kernel_rfl) (row_step p o r k (.dat d) y s4 s5 hp hr (by omega)) ?_⟩
    rw [e, List.length_cons, show k + 1 + ds.length + 1 = k + (ds.length + 1) + 1 by omega]
/-! ### the least root -/
abbrev Ew (p o : Nat) (x s3 s4 : Sl) (r fo h : Nat) (s8 : Sl) : VL.Env := [N p, N o, x, s3, s4, N r, N fo, N h, s8]
theorem gGcd_n (a b : Nat) : g2 gGcd [N a, N b] = some (N (Nat.gcd a b)) := by kernel_rfl
theorem fnd_step (p o i r fo h : Nat) (s3 s4 s8 : Sl) (hp : 0 < p) (hr : r < 65538) : bd_own_root_of_one_1 (Ew p o (N i) s3 s4 r fo h s8) = .nx (Ew p o (N i) s3 s4 r (if h * r % p < fo ∧ Nat.gcd i o = 1 then h * r % p else fo) (h * r % p) s8) := by
  have e1 : sSet 7 (eMod (eOp gMulA (eVar 7) (eVar 5)) (eVar 0)) (Ew p o (N i) s3 s4 r fo h s8) = .nx (Ew p o (N i) s3 s4 r fo (h * r % p) s8) :=
    set_of (r := N (h * r % p)) (E1 := Ew p o (N i) s3 s4 r fo h s8) (mod_nat (x := h * r) (E1 := Ew p o (N i) s3 s4 r fo h s8) hp (mul_nat (x := h) (y := r) (E1 := Ew p o (N i) s3 s4 r fo h s8) (by omega) (by kernel_rfl) (by kernel_rfl)) (by kernel_rfl)) (by kernel_rfl)
  unfold bd_own_root_of_one_1
  refine seq_nx e1 ?_
  generalize h * r % p = g
  have l1 := gLt_n g fo
  by_cases c1 : g < fo
  · rw [decide_eq_true c1] at l1
    have t1 : tfV (eOp gLt (eVar 7) (eVar 6)) (Ew p o (N i) s3 s4 r fo g s8) = .ok (true, Ew p o (N i) s3 s4 r fo g s8) := val_of (op_of (x := N g) (y := N fo) (E1 := Ew p o (N i) s3 s4 r fo g s8) (by kernel_rfl) (by kernel_rfl) l1)
    have eg : eCall (g2 gGcd) (aCons (eVar 2) (aCons (eVar 1) aNil)) (Ew p o (N i) s3 s4 r fo g s8) = .ok (N (Nat.gcd i o), Ew p o (N i) s3 s4 r fo g s8) := ecall_of (ss := [N i, N o]) (by kernel_rfl) (gGcd_n i o)
    by_cases c2 : Nat.gcd i o = 1
    · rw [if_pos ⟨c1, c2⟩]
      refine if_yes (E1 := Ew p o (N i) s3 s4 r fo g s8) (tand_t t1 (val_of (op_of (y := N 1) (E2 := Ew p o (N i) s3 s4 r fo g s8) eg (by kernel_rfl) (by rw [gEq_i, decide_eq_true (by omega)])))) (by kernel_rfl)
    · rw [if_neg (fun z => c2 z.2)]
      refine if_no (E1 := Ew p o (N i) s3 s4 r fo g s8) (tand_t t1 (val_of (op_of (y := N 1) (E2 := Ew p o (N i) s3 s4 r fo g s8) eg (by kernel_rfl) (by rw [gEq_i, decide_eq_false (by omega)])))) (by kernel_rfl)
  · rw [decide_eq_false c1] at l1
    rw [if_neg (fun z => c1 z.1)]
    exact if_no (E1 := Ew p o (N i) s3 s4 r fo g s8) (tand_f (val_of (op_of (x := N g) (y := N fo) (E1 := Ew p o (N i) s3 s4 r fo g s8) (by kernel_rfl) (by kernel_rfl) l1))) (by kernel_rfl)
theorem fnd_loop (p o r : Nat) (s3 s4 s8 : Sl) (hp : 0 < p) (hr : r < 65538) : ∀ (n h fo : Nat) (x : Sl), n < o → fnd p r o n h fo ≠ 0 → ∃ x' h', loopS (gNm 2) bd_own_root_of_one_1 (natL (List.range' (o - n) n)) (Ew p o x s3 s4 r fo h s8) = .nx (Ew p o x' s3 s4 r (fnd p r o n h fo) h' s8)
  | 0, h, fo, x, _, _ => ⟨x, h, by rw [Nat.sub_zero]; rfl⟩
  | n + 1, h, fo, x, hn, hz => by
    have key : ∃ fo', fo' = (if h * r % p < fo ∧ Nat.gcd (o - (n + 1)) o = 1 then h * r % p else fo) ∧ fnd p r o (n + 1) h fo = fnd p r o n (h * r % p) fo' := by
      refine ⟨_, rfl, ?_⟩
      have e : fnd p r o (n + 1) h fo = (match h * r % p with
        | 0 => 0
        | h + 1 => match Nat.ble fo (h + 1) || !(Nat.gcd (o - (n + 1)) o == 1) with
          | true => fnd p r o n (h + 1) fo
          | false => fnd p r o n (h + 1) (h + 1)) := rfl
      rw [e] at hz ⊢
      generalize h * r % p = g at hz ⊢
      cases g with
      | zero => exact absurd rfl hz
      | succ g =>
        dsimp only at hz ⊢
        by_cases c1 : g + 1 < fo
        · by_cases c2 : Nat.gcd (o - (n + 1)) o = 1
          · rw [if_pos ⟨c1, c2⟩]
            have b : (Nat.ble fo (g + 1) || !(Nat.gcd (o - (n + 1)) o == 1)) = false := by
              rw [Bool.or_eq_false_iff]
              exact ⟨by rw [← Bool.not_eq_true, Nat.ble_eq]; omega, by rw [c2]; rfl⟩
            rw [b]
          · rw [if_neg (fun z => c2 z.2)]
            have b : (Nat.ble fo (g + 1) || !(Nat.gcd (o - (n + 1)) o == 1)) = true := by
              rw [Bool.or_eq_true]
              exact .inr (by simpa using c2)
            rw [b]
        · rw [if_neg (fun z => c1 z.1)]
          have b : (Nat.ble fo (g + 1) || !(Nat.gcd (o - (n + 1)) o == 1)) = true := by
            rw [Bool.or_eq_true]
            exact .inl (by rw [Nat.ble_eq]; omega)
          rw [b]
    obtain ⟨fo', e1, e2⟩ := key
    rw [e2] at hz ⊢
    obtain ⟨x', h', e3⟩ := fnd_loop p o r s3 s4 s8 hp hr n (h * r % p) fo' (N (o - (n + 1))) (by omega) hz
    refine ⟨x', h', ?_⟩
    rw [List.range'_succ, natL_cons]
    refine loop_nx (E1 := Ew p o (N (o - (n + 1))) s3 s4 r fo h s8) (by kernel_rfl) (fnd_step p o (o - (n + 1)) r fo h s3 s4 s8 hp hr) ?_
    rw [← e1, show o - (n + 1) + 1 = o - n by omega]
    exact e3
end Lk16

namespace Lk16
open PySem PySem.Spec PyProof.Rows L2 VL VL.Ev

abbrev nd1 : SF := (sExpr (eFn 1 [] mf_need_prime (aCons (eVar 0) aNil)))
abbrev nd2 : SF := (sIf (tfNot (tfV (eFn 3 [] mf_is_whole (aCons (eVar 1) (aCons (eC (.int 1)) (aCons (eC (.int 65536)) aNil)))))) (sRaise .BadNumber (eVar 1)) sNx)
theorem nd_pre (p o : Nat) (hp : p ∈ PL) (h1 : 1 ≤ o) (h2 : o ≤ 65536) {g : SF} {r : FL} (h : g [N p, N o] = r) : sSeq nd1 (sSeq nd2 g) [N p, N o] = r := by
  refine seq_nx (E1 := [N p, N o]) (expr_of (efn_of (ss0 := [N p]) (ss := [N p]) (by kernel_rfl) (by kernel_rfl) rfl (need_prime_ok p hp) rfl)) ?_
  exact seq_nx (E1 := [N p, N o]) (if_no (E1 := [N p, N o]) (not_of (b := true) (val_of (efn_of (ss0 := [N o, I 1, I 65536]) (ss := [N o, I 1, I 65536]) (by kernel_rfl) (by kernel_rfl) rfl (whole_yes o 1 65536 (by omega) (by omega)) rfl))) (by kernel_rfl)) h
theorem sub_one (p : Nat) (hp : 0 < p) (fa : EF) {E E1 : VL.Env} (h : fa E = .ok (N p, E1)) : eSub fa (eC (.int 1)) E = .ok (N (p - 1), E1) := by
  have e : N (p - 1) = I ((p : Int) - 1) := congrArg I (by omega)
  rw [e]
  exact op_of h rfl (gSub_i _ _)
theorem need_order_ok (p o : Nat) (hp : p ∈ PL) (h1 : 1 ≤ o) (h2 : o ≤ 65536) (hd : (p - 1) % o = 0) : mf_need_order [N p, N o] = .ok (.dat .non) none := by
  have b := pl_big p hp
  have z : m_need_order [N p, N o] = .nx [N p, N o] := by
    unfold m_need_order
    refine nd_pre p o hp h1 h2 ?_
    refine if_no (E1 := [N p, N o]) ?_ rfl
    have q := ne_nat (mod_nat (fb := eVar 1) (E := [N p, N o]) (E1 := [N p, N o]) (E2 := [N p, N o]) (by omega : 0 < o) (sub_one p (by omega) (eVar 0) (by kernel_rfl)) (by kernel_rfl)) (show eC (.int 0) [N p, N o] = .ok (N 0, [N p, N o]) from rfl)
    rw [hd] at q
    exact q
  exact (mf_nx (n := 2) (ss := [N p, N o]) z)
theorem need_order_no (p o : Nat) (hp : p ∈ PL) (h1 : 1 ≤ o) (h2 : o ≤ 65536) (hd : (p - 1) % o ≠ 0) : mf_need_order [N p, N o] = .exc (.exc .NoSuch false (.str "order")) none := by
  have b := pl_big p hp
  have z : m_need_order [N p, N o] = .exc (.exc .NoSuch false (.str "order")) [N p, N o] := by
    unfold m_need_order
    refine nd_pre p o hp h1 h2 ?_
    refine if_yes (E1 := [N p, N o]) ?_ (by kernel_rfl)
    have q := ne_nat (mod_nat (fb := eVar 1) (E := [N p, N o]) (E1 := [N p, N o]) (E2 := [N p, N o]) (by omega : 0 < o) (sub_one p (by omega) (eVar 0) (by kernel_rfl)) (by kernel_rfl)) (show eC (.int 0) [N p, N o] = .ok (N 0, [N p, N o]) from rfl)
    rw [decide_eq_false hd] at q
    exact q
  exact (mf_exc (n := 2) (ss := [N p, N o]) z)
/-! ### the least root -/
abbrev w1 : SF := (sAsg (eTup (aCons (eFn 1 [] mf_own_primes (aCons (eVar 1) aNil)) (aCons (eC (.int 2)) (aCons (eC (.int 1)) aNil)))) (gTp 3 (gsCons (gNm 3) (gsCons (gNm 4) (gsCons (gNm 5) gsNil)))))
abbrev w2 : SF := (sWh (tfAnd (tfV (eOp gGt (eVar 1) (eC (.int 1)))) (tfOr (tfV (eOp (gEqA false) (eVar 5) (eC (.int 1)))) (tfV (eCall (g1 gAny) (aCons (eLc (iVal (eVar 3)) (gNm 8) eYes (eOp (gEqA false) (eFn 3 [] mf_own_power (aCons (eVar 0) (aCons (eVar 5) (aCons (eDiv (eVar 1) (eVar 8)) aNil)))) (eC (.int 1))) [8]) aNil))))) bd_own_root_of_one_0)
theorem seq_two {f g h : SF} {E E1 : VL.Env} {r : FL} (h1 : sSeq f g E = .nx E1) (h2 : h E1 = r) : sSeq f (sSeq g h) E = r := by
  unfold sSeq at h1 ⊢
  cases e : f E with
  | nx E2 =>
    rw [e] at h1
    dsimp only at h1 ⊢
    rw [h1]
    exact h2
  | _ => rw [e] at h1; cases h1
theorem own_root_ok (p o r r0 : Nat) (s3 s4 s8 : Sl) (hp : 1 < p) (hr0 : r0 < 65538) (o1 : 1 ≤ o) (o2 : o ≤ 65536) (hs : sSeq w1 w2 [N p, N o, .no, .no, .no, .no, .no, .no, .no] = .nx [N p, N o, .no, s3, s4, N r0, .no, .no, s8]) (hf : fnd p r0 o (o - 1) 1 r0 = r) (hr : r ≠ 0) : ∃ l, mf_own_root_of_one [N p, N o] = .ok (N r) l := by
  obtain ⟨x', h', e⟩ := fnd_loop p o r0 s3 s4 s8 (by omega) hr0 (o - 1) 1 r0 .no (by omega) (by rw [hf]; exact hr)
  rw [hf, show o - (o - 1) = 1 by omega] at e
  refine ⟨_, mf_ret (E := [N p, N o, x', s3, s4, N r0, .no, N h', s8]) ?_ rfl⟩
  show m_own_root_of_one [N p, N o, .no, .no, .no, .no, .no, .no, .no] = _
  unfold m_own_root_of_one
  refine seq_two hs ?_
  refine seq_nx (E1 := Ew p o .no s3 s4 r0 r0 1 s8) (by kernel_rfl) ?_
  refine seq_nx (for_of (ds := natL (List.range' 1 (o - 1))) (E1 := Ew p o .no s3 s4 r0 r0 1 s8) ?_ e) (by kernel_rfl)
  rw [← rngD_nat 1]
  exact rg2_of (n := o) (by kernel_rfl) (by omega)
theorem own_group_ok (p o r : Nat) {l : Option (List (Key × D))} (hp : 1 < p) (hr : r < 65538) (o1 : 1 ≤ o) (o2 : o ≤ 65536) (h : mf_own_root_of_one [N p, N o] = .ok (N r) l) : ∃ l, mf_own_group [N p, N o] = .ok (.ol (natL (pw p r o))) l := by
  obtain ⟨x', e⟩ := grp_loop p o r (by omega) hr (rngD 1 1 (o - 1)) 0 .no (by rw [rngD_len]; omega)
  rw [rngD_len, show 0 + (o - 1) + 1 = o by omega] at e
  refine ⟨_, mf_ret (E := [N p, N o, x', N r, .no]) ?_ rfl⟩
  show m_own_group [N p, N o, .no, .no, .no] = _
  unfold m_own_group
  refine seq_nx (E1 := Eg p o .no r (natL (pw p r (0 + 1)))) (par_of (r := N r) (s := .ol [.int 1]) (E1 := [N p, N o, .no, .no, .no]) (acons_of (E1 := [N p, N o, .no, .no, .no]) (efn_of (ss0 := [N p, N o]) (ss := [N p, N o]) (by kernel_rfl) (by kernel_rfl) rfl h rfl) (by kernel_rfl)) ?_) ?_
  · rw [Nat.zero_add, pw_one r hp]
    kernel_rfl
  · exact seq_nx (for_of (ds := rngD 1 1 (o - 1)) (E1 := Eg p o .no r (natL (pw p r (0 + 1)))) (rg2_of (n := o) (by rfl) (by omega)) e) (by rfl)
theorem root_of_one_ok (p o r : Nat) {l : Option (List (Key × D))} (hp : p ∈ PL) (o1 : 1 ≤ o) (o2 : o ≤ 65536) (hd : (p - 1) % o = 0) (h : mf_own_root_of_one [N p, N o] = .ok (N r) l) : ∃ l, mf_root_of_one [N p, N o] = .ok (N r) l := by
  refine ⟨_, mf_ret (E := [N p, N o]) ?_ rfl⟩
  show m_root_of_one [N p, N o] = _
  unfold m_root_of_one
  exact seq_nx (E1 := [N p, N o]) (expr_of (efn_of (ss0 := [N p, N o]) (ss := [N p, N o]) (by kernel_rfl) (by kernel_rfl) rfl (need_order_ok p o hp o1 o2 hd) rfl)) (ret_of (efn_of (ss0 := [N p, N o]) (ss := [N p, N o]) (by kernel_rfl) (by kernel_rfl) rfl h rfl))
theorem efn_exc {n : Nat} {mf : CF} {g : AF} {E E1 : VL.Env} {ss0 ss : List Sl} {x : D} {l : Option (List (Key × D))} (h : g E = .ok (ss0, E1)) (h2 : frAll ss0 = some ss) (h3 : ss.length + 0 = n) (h4 : mf ss = .exc x l) : eFn n [] mf g E = .exc x E1 := by
  unfold eFn
  rw [h]
  show (match frAll ss0 with
  | some ss => if ss.length + ([] : List D).length = n then roE E1 (match mf (ss ++ ([] : List D).map Sl.dat) with
    | .ok r l => if r.ret then .ok r l else .bad
    | o => o) else .bad
  | none => .bad) = _
  rw [h2]
  dsimp only
  rw [if_pos (by simpa using h3), List.map_nil, List.append_nil, h4]
  rfl
theorem expr_exc {f : EF} {E E1 : VL.Env} {x : D} (h : f E = .exc x E1) : sExpr f E = .exc x E1 := by
  unfold sExpr
  rw [h]
  rfl
theorem root_of_one_no (p o : Nat) (hp : p ∈ PL) (o1 : 1 ≤ o) (o2 : o ≤ 65536) (hd : (p - 1) % o ≠ 0) : ∃ l, mf_root_of_one [N p, N o] = .exc (.exc .NoSuch false (.str "order")) l := by
  refine ⟨_, mf_exc (E := [N p, N o]) ?_⟩
  show m_root_of_one [N p, N o] = _
  unfold m_root_of_one
  exact seq_exc (expr_exc (efn_exc (ss0 := [N p, N o]) (ss := [N p, N o]) (by kernel_rfl) (by kernel_rfl) rfl (need_order_no p o hp o1 o2 hd)))
theorem group_of_no (p o : Nat) (hp : p ∈ PL) (o1 : 1 ≤ o) (o2 : o ≤ 65536) (hd : (p - 1) % o ≠ 0) : ∃ l, mf_group_of [N p, N o] = .exc (.exc .NoSuch false (.str "order")) l := by
  refine ⟨_, mf_exc (E := [N p, N o]) ?_⟩
  show m_group_of [N p, N o] = _
  unfold m_group_of
  exact seq_exc (expr_exc (efn_exc (ss0 := [N p, N o]) (ss := [N p, N o]) (by kernel_rfl) (by kernel_rfl) rfl (need_order_no p o hp o1 o2 hd)))
theorem gt_nat (p o : Nat) (b : Bool) (h : decide (1024 < o) = b) : tfV (eOp gGt (eVar 1) (eC (.int 1024))) [N p, N o] = .ok (b, [N p, N o]) := by
  refine val_of (op_of (x := N o) (y := I 1024) (E1 := [N p, N o]) (by rfl) (by rfl) ?_)
  rw [gGt_i, ← h]
  congr 3
  rw [decide_eq_decide]
  omega
theorem group_of_many (p o : Nat) (hp : p ∈ PL) (o1 : 1024 < o) (o2 : o ≤ 65536) (hd : (p - 1) % o = 0) : ∃ l, mf_group_of [N p, N o] = .exc (.exc .TooMany false (.int 1024)) l := by
  refine ⟨_, mf_exc (E := [N p, N o]) ?_⟩
  show m_group_of [N p, N o] = _
  unfold m_group_of
  refine seq_nx (E1 := [N p, N o]) (expr_of (efn_of (ss0 := [N p, N o]) (ss := [N p, N o]) (by kernel_rfl) (by kernel_rfl) rfl (need_order_ok p o hp (by omega) o2 hd) rfl)) (seq_exc (if_yes (gt_nat p o true (decide_eq_true o1)) (by kernel_rfl)))
theorem group_of_ok (p o r : Nat) {l : Option (List (Key × D))} (hp : p ∈ PL) (hr : r < 65538) (o1 : 1 ≤ o) (o2 : o ≤ 1024) (hd : (p - 1) % o = 0) (h : mf_own_root_of_one [N p, N o] = .ok (N r) l) : ∃ l, mf_group_of [N p, N o] = .ok (.dat (.tup (natL (pw p r o)))) l := by
  have b := pl_big p hp
  obtain ⟨l2, e⟩ := own_group_ok p o r (by omega) hr o1 (by omega) h
  refine ⟨_, mf_ret (E := [N p, N o]) ?_ rfl⟩
  show m_group_of [N p, N o] = _
  unfold m_group_of
  refine seq_nx (E1 := [N p, N o]) (expr_of (efn_of (ss0 := [N p, N o]) (ss := [N p, N o]) (by kernel_rfl) (by kernel_rfl) rfl (need_order_ok p o hp o1 (by omega) hd) rfl)) (seq_nx (E1 := [N p, N o]) (if_no (gt_nat p o false (decide_eq_false (by omega))) rfl) (ret_of ?_))
  exact ecall_of (ss := [.ol (natL (pw p r o))]) (acons_of (efn_of (ss0 := [N p, N o]) (ss := [N p, N o]) (by kernel_rfl) (by kernel_rfl) rfl e rfl) rfl) rfl
end Lk16

namespace Lk16
open PySem PySem.Spec PyProof.Rows L2 VL VL.Ev

abbrev nameorder : D := .tup [.str "name", .str "order"]
abbrev many1024 : D := .tup [.str "many", .int 1024]
abbrev v1 : SF := (sPar 4 5 (aCons (eLam tr__law_told [0, 1] (eFnK 2 [1, 0] mf_root_of_one (aCons (eVar 1) (aCons (eVar 0) aNil)))) (aCons (eLam tr__law_told [0, 1] (eFnK 2 [1, 0] mf_group_of (aCons (eVar 1) (aCons (eVar 0) aNil)))) aNil)))
abbrev tno : SF := (sRet (eAnd (eOp (gEqA false) (eVar 4) (eTup (aCons (eC (.str "name")) (aCons (eC (.str "order")) aNil)))) (eOp (gEqA false) (eVar 5) (eTup (aCons (eC (.str "name")) (aCons (eC (.str "order")) aNil))))))
abbrev v2 : SF := (sIf (tfV (eOp (gEqA true) (eCall (g1 gInt) (aCons (eMod (eSub (eVar 0) (eC (.int 1))) (eVar 1)) aNil)) (eC (.int 0)))) tno sNx)
abbrev v3 : SF := (sPar 6 7 (aCons (ePk gIx 4 (eC (.int 0))) (aCons (eLst (aCons (eC (.int 1)) aNil)) aNil)))
abbrev v4 : SF := (sFor (iRg1 (aCons (eSub (eVar 1) (eC (.int 1))) aNil)) (gNm 2) bd__law_groups_right_0)
abbrev v5 : SF := (sIf (tfOr (tfV (eOp (gEqA true) (eUn gLenSet (eVar 7)) (eVar 1))) (tfOr (tfV (eOp (gEqA true) (eMod (eOp gMulA (ePk gIx 7 (eUn gNeg (eC (.int 1)))) (eVar 6)) (eVar 0)) (eC (.int 1)))) (tfV (eOp (gEqA true) (eCall (g1 gRepr) (aCons (eVar 5) aNil)) (eCall (g1 gRepr) (aCons (eIf (tfV (eOp gLe (eVar 1) (eC (.int 1024)))) (eLst (aCons (eCall (g1 gTuple) (aCons (eVar 7) aNil)) aNil)) (eTup (aCons (eC (.str "many")) (aCons (eC (.int 1024)) aNil)))) aNil)))))) rno sNx)
abbrev v6 : SF := (sFor (iVal (eCall (g1 gSorted) (aCons (eVar 7) aNil))) (gNm 3) bd__law_groups_right_1)
theorem m_groups_eq : m__law_groups_right = sSeq v1 (sSeq v2 (sSeq v3 (sSeq v4 (sSeq v5 (sSeq v6 rno))))) := by kernel_rfl
abbrev U (p o : Nat) (s2 s3 s4 s5 s6 s7 : Sl) : VL.Env := [N p, N o, s2, s3, s4, s5, s6, s7]
theorem frz_u (p o : Nat) (s2 s3 s4 s5 s6 s7 : Sl) : frzs [0, 1] (U p o s2 s3 s4 s5 s6 s7) = U p o s2 s3 s4 s5 s6 s7 := by kernel_rfl
theorem cap_u (p o : Nat) (s2 s3 s4 s5 s6 s7 : Sl) : capE [0, 1] (U p o s2 s3 s4 s5 s6 s7) = [N p, N o, .no, .no, .no, .no, .no, .no] := by kernel_rfl
theorem v1_of (p o : Nat) {s4 s5 : Sl} (h4 : eLam tr__law_told [0, 1] (eFnK 2 [1, 0] mf_root_of_one (aCons (eVar 1) (aCons (eVar 0) aNil))) (U p o .no .no .no .no .no .no) = .ok (s4, U p o .no .no .no .no .no .no)) (h5 : eLam tr__law_told [0, 1] (eFnK 2 [1, 0] mf_group_of (aCons (eVar 1) (aCons (eVar 0) aNil))) (U p o .no .no .no .no .no .no) = .ok (s5, U p o .no .no .no .no .no .no)) : v1 (U p o .no .no .no .no .no .no) = .nx (U p o .no .no s4 s5 .no .no) :=
  par_of (acons_of h4 (acons_of h5 rfl)) rfl
theorem v2_t (p o : Nat) (s2 s3 s4 s5 s6 s7 : Sl) (hp : 0 < p) (ho : 0 < o) : tfV (eOp (gEqA true) (eCall (g1 gInt) (aCons (eMod (eSub (eVar 0) (eC (.int 1))) (eVar 1)) aNil)) (eC (.int 0))) (U p o s2 s3 s4 s5 s6 s7) = .ok (!decide ((p - 1) % o = 0), U p o s2 s3 s4 s5 s6 s7) := by
  refine ne_nat (y := 0) (ecall_of (ss := [N ((p - 1) % o)]) (acons_of (mod_nat (fb := eVar 1) ho (sub_one p hp (eVar 0) rfl) rfl) rfl) rfl) rfl
theorem groups_no (p o : Nat) (hp : p ∈ PL) (o1 : 1 ≤ o) (o2 : o ≤ 65536) (hd : (p - 1) % o ≠ 0) : ∃ l, mf__law_groups_right [N p, N o] = .ok (.dat (.bl true)) l := by
  have b := pl_big p hp
  obtain ⟨l1, e1⟩ := root_of_one_no p o hp o1 o2 hd
  obtain ⟨l2, e2⟩ := group_of_no p o hp o1 o2 hd
  refine ⟨_, mf_ret (E := U p o .no .no (.dat nameorder) (.dat nameorder) .no .no) ?_ rfl⟩
  show m__law_groups_right (U p o .no .no .no .no .no .no) = _
  rw [m_groups_eq]
  refine seq_nx (v1_of p o (lam_exc (frz_u ..) (cap_u ..) (efnK_exc (ss0 := [N o, N p]) (ss := [N o, N p]) (s2 := [N p, N o]) (by rfl) rfl rfl rfl e1) (r := nameorder) (by kernel_rfl)) (lam_exc (frz_u ..) (cap_u ..) (efnK_exc (ss0 := [N o, N p]) (ss := [N o, N p]) (s2 := [N p, N o]) (by rfl) rfl rfl rfl e2) (r := nameorder) (by kernel_rfl))) ?_
  have t := v2_t p o .no .no (.dat nameorder) (.dat nameorder) .no .no (by omega) o1
  rw [decide_eq_false hd] at t
  exact seq_ret (if_yes t (by kernel_rfl))
/-! ### the row -/
theorem natL_int (ns : List Nat) : natL ns = (ns.map Int.ofNat).map D.int := by
  unfold natL
  rw [List.map_map]
  rfl
theorem nodup_b : ∀ {xs : List Int}, xs.Nodup → nodupB xs = true
  | [], _ => rfl
  | x :: xs, h => by
    obtain ⟨h1, h2⟩ := List.nodup_cons.mp h
    show (!xs.contains x && nodupB xs) = true
    rw [nodup_b h2, Bool.and_true, Bool.not_eq_true', ← Bool.not_eq_true, List.contains_iff_mem]
    exact h1
theorem len_set {ns : List Nat} {s : Sl} (hs : s.ql? = some (natL ns)) (nd : ns.Nodup) (hb : ∀ n ∈ ns, n < 1000000) (hl : ns.length < 900000) : gLenSet s = some (N ns.length) := by
  unfold gLenSet
  rw [hs, Option.bind_some, natL_int, Ev.ints_map, Option.bind_some]
  have nd2 : (ns.map Int.ofNat).Nodup := List.pairwise_map.mpr (nd.imp fun {a b} h z => h (Int.ofNat.inj z))
  have ok : lenSetOk (ns.map Int.ofNat) = true := by
    unfold lenSetOk
    rw [nodup_b nd2, Bool.true_and, Bool.and_eq_true, List.all_eq_true]
    refine ⟨fun x hx => ?_, decide_eq_true (by rw [List.length_map]; exact hl)⟩
    obtain ⟨n, hn, rfl⟩ := List.mem_map.mp hx
    have := hb n hn
    show (decide ((0 : Int) ≤ (n : Int)) && decide ((n : Int) < 1099511627776)) = true
    rw [decide_eq_true (show (0 : Int) ≤ (n : Int) by omega), decide_eq_true (show (n : Int) < 1099511627776 by omega)]
    rfl
  rw [if_pos ok, List.length_map]
theorem pw_nodup {p r o : Nat} (hp : 1 < p) (O : Ord p r o) : (pw p r o).Nodup :=
  List.pairwise_map.mpr ((List.pairwise_lt_range).imp_of_mem fun {x y} hx hy h => O.inj hp h (List.mem_range.mp hy))
theorem pw_lt {p r o n : Nat} (hp : 1 < p) (h : n ∈ pw p r o) : n < p := by
  obtain ⟨i, _, rfl⟩ := List.mem_map.mp h
  exact Nat.mod_lt _ (by omega)
theorem ix_lastF (ds : List D) (d : D) : gIx (.dat (.lst (ds ++ [d]))) (I (-1)) = some (.dat d) := ix_last ds d
/-- the told group's slot -/
abbrev grp (p r o : Nat) : D := if o ≤ 1024 then .lst [.tup (natL (pw p r o))] else many1024
theorem repr_grp (p r o : Nat) (hp : 1 < p) (hp2 : p ≤ 65537) {s : Sl} (h : s.d? = some (grp p r o)) : gRepr s = some (.dat (.str (grp p r o).py.shown)) := by
  unfold grp at h ⊢
  split at h
  · rename_i c
    rw [if_pos c]
    refine repr_of h ?_ ?_ ?_
    · show (shortL (natL (pw p r o)) && true) = true
      rw [natL_short fun n hn => by have := pw_lt hp hn; omega]
      rfl
    · show heftL (natL (pw p r o)) + 1 + 0 ≤ _
      rw [natL_heft, List.length_map, List.length_range]
      omega
    · show max (PyData.depthAll (pyL (natL (pw p r o))) + 1) 0 + 1 ≤ 64
      rw [natL_depth]
      decide
  · rename_i c
    rw [if_neg c]
    exact repr_of h (by kernel_rfl) (by decide +kernel) (by decide +kernel)
/-! ### the search -/
abbrev Ef (p o r : Nat) (s2 s3 s4 s5 s7 : Sl) : VL.Env := U p o s2 s3 s4 s5 (N r) s7
theorem find_step (p o r x : Nat) (s2 s4 s5 s7 : Sl) {d : Nat} (h : mf__law_order [N p, N x] = .ok (N d) none) (hx : x < 10 ^ 12) :
    (d ≠ o → bd__law_groups_right_1 (Ef p o r s2 (N x) s4 s5 s7) = .nx (Ef p o r s2 (N x) s4 s5 s7)) ∧ (d = o → x = r → bd__law_groups_right_1 (Ef p o r s2 (N x) s4 s5 s7) = .rt (.dat (.bl true)) (Ef p o r s2 (N x) s4 s5 s7)) := by
  have e1 : eFn 2 [] mf__law_order (aCons (eVar 0) (aCons (eVar 3) aNil)) (Ef p o r s2 (N x) s4 s5 s7) = .ok (N d, Ef p o r s2 (N x) s4 s5 s7) := efn_of (ss0 := [N p, N x]) (ss := [N p, N x]) (by rfl) rfl rfl h rfl
  refine ⟨fun hd => ?_, fun hd hr => ?_⟩
  · exact if_no (val_of (op_of (y := N o) e1 rfl (by rw [gEq_i, decide_eq_false (by omega)]))) rfl
  · subst hr
    exact if_yes (val_of (op_of (y := N o) e1 rfl (by rw [gEq_i, decide_eq_true (by omega)]))) (ret_of (op_of (repr1 hx rfl) (repr1 hx rfl) (gEq_same false _)))
theorem find_loop (p o r : Nat) (s2 s4 s5 s7 : Sl) (hp : 1 < p) (hp2 : p ≤ 65537) (hr : r < p) (O : Ord p r o) (no : ∀ x, x < r → x ∈ pw p r o → ∃ d, d < o ∧ 0 < d ∧ x ^ d % p = 1) (ho : o < 1000000) : ∀ (L : List Nat) (s3 : Sl), (∀ x ∈ L, x ∈ pw p r o) → L.Pairwise (· ≤ ·) → r ∈ L →
    ∃ E, loopS (gNm 3) bd__law_groups_right_1 (natL L) (Ef p o r s2 s3 s4 s5 s7) = .rt (.dat (.bl true)) E
  | [], s3, _, _, h => by cases h
  | x :: L, s3, hm, hs, h => by
    have hx := hm x List.mem_cons_self
    have xp := pw_lt hp hx
    obtain ⟨s1, s2'⟩ := List.pairwise_cons.mp hs
    rw [natL_cons]
    by_cases c : x = r
    · subst c
      exact ⟨_, loop_rt (E1 := Ef p o x s2 (N x) s4 s5 s7) rfl ((find_step p o x x s2 s4 s5 s7 (law_order_ok p x o hp hp2 xp O ho) (by omega)).2 rfl rfl)⟩
    · rcases List.mem_cons.mp h with e | hr2
      · exact absurd e.symm c
      · have := s1 r hr2
        obtain ⟨d, d1, d2, d3⟩ := no x (by omega) hx
        obtain ⟨d', e1, O'⟩ := has_ord d2 d3
        obtain ⟨E, e2⟩ := find_loop p o r s2 s4 s5 s7 hp hp2 hr O no ho L (N x) (fun y hy => hm y (List.mem_cons_of_mem _ hy)) s2' hr2
        exact ⟨E, loop_nx (E1 := Ef p o r s2 (N x) s4 s5 s7) rfl ((find_step p o r x s2 s4 s5 s7 (law_order_ok p x d' hp hp2 xp O' (by omega)) (by omega)).1 (by omega)) e2⟩
theorem sorted_nat (ns : List Nat) : ∃ L : List Nat, (sortI (ns.map Int.ofNat)).map D.int = natL L ∧ (∀ x, x ∈ L ↔ x ∈ ns) ∧ L.Pairwise (· ≤ ·) := by
  refine ⟨(sortI (ns.map Int.ofNat)).map Int.toNat, ?_, ?_, ?_⟩
  · rw [natL_int]
    have e : (sortI (ns.map Int.ofNat)).map (Int.ofNat ∘ Int.toNat) = (sortI (ns.map Int.ofNat)).map id := List.map_congr_left fun x hx => by
      obtain ⟨n, _, rfl⟩ := List.mem_map.mp ((sortI_perm _).mem_iff.mp hx)
      rfl
    rw [List.map_map (g := Int.ofNat), e, List.map_id]
  · intro x
    rw [List.mem_map]
    constructor
    · rintro ⟨i, hi, rfl⟩
      obtain ⟨n, hn, rfl⟩ := List.mem_map.mp ((sortI_perm _).mem_iff.mp hi)
      exact hn
    · exact fun hx => ⟨x, (sortI_perm _).mem_iff.mpr (List.mem_map.mpr ⟨x, hx, rfl⟩), rfl⟩
  · exact List.pairwise_map.mpr ((sortI_sorted _).imp fun {a b} h => by omega)
end Lk16

namespace Lk16
open PySem PySem.Spec PyProof.Rows L2 VL VL.Ev

theorem pw_mem (p r o k : Nat) (h : k < o) : r ^ k % p ∈ pw p r o := List.mem_map.mpr ⟨k, List.mem_range.mpr h, rfl⟩
theorem lt_r {p r o : Nat} (hp : 1 < p) (hr : r < p) (O : Ord p r o) (less : ∀ k, 0 < k → k < o → r ^ k % p < r → Nat.gcd k o ≠ 1) : ∀ x, x < r → x ∈ pw p r o → ∃ d, d < o ∧ 0 < d ∧ x ^ d % p = 1 := fun x hx hm => by
  obtain ⟨k, hk, rfl⟩ := List.mem_map.mp hm
  have hk := List.mem_range.mp hk
  by_cases k0 : k = 0
  · subst k0
    rw [Nat.pow_zero, Nat.mod_eq_of_lt hp] at hx ⊢
    refine ⟨1, ?_, by decide, by rw [Nat.pow_one, Nat.mod_eq_of_lt hp]⟩
    refine Classical.byContradiction fun z => ?_
    have o1 : o = 1 := by omega
    have := O.one
    rw [o1, Nat.pow_one, Nat.mod_eq_of_lt hr] at this
    omega
  · exact O.less hp (less k (by omega) hk hx) (by omega)
theorem v5_ok (p o r : Nat) (s2 s3 s4 s5 : Sl) (hp : 1 < p) (hp2 : p ≤ 65537) (hr : r < p) (o1 : 1 ≤ o) (o2 : o ≤ 65536) (O : Ord p r o) (h5 : s5 = .ol [.tup (natL (pw p r o))] ∧ o ≤ 1024 ∨ s5 = .dat many1024 ∧ 1024 < o) :
    ∃ s5', v5 (U p o s2 s3 s4 s5 (N r) (.ol (natL (pw p r o)))) = .nx (U p o s2 s3 s4 s5' (N r) (.dat (.lst (natL (pw p r o))))) := by
  have hlen : (pw p r o).length = o := by rw [List.length_map, List.length_range]
  have nd := pw_nodup hp O
  have hb : ∀ n ∈ pw p r o, n < p := fun n hn => pw_lt hp hn
  have fz : eVar 7 (U p o s2 s3 s4 s5 (N r) (.ol (natL (pw p r o)))) = .ok (.dat (.lst (natL (pw p r o))), U p o s2 s3 s4 s5 (N r) (.dat (.lst (natL (pw p r o))))) := by rfl
  have hset := len_set (s := .dat (.lst (natL (pw p r o)))) rfl nd (fun n hn => by have := hb n hn; omega) (by rw [hlen]; omega)
  rw [hlen] at hset
  have hlast : ePk gIx 7 (eUn gNeg (eC (.int 1))) (U p o s2 s3 s4 s5 (N r) (.dat (.lst (natL (pw p r o))))) = .ok (N (r ^ (o - 1) % p), U p o s2 s3 s4 s5 (N r) (.dat (.lst (natL (pw p r o))))) := by
    have e : natL (pw p r o) = natL (pw p r (o - 1)) ++ [.int ((r ^ (o - 1) % p : Nat) : Int)] := by
      rw [← pw_succ, show o - 1 + 1 = o by omega]
    refine pk_of (y := I (-1)) (s0 := .dat (.lst (natL (pw p r o)))) (s := .dat (.lst (natL (pw p r o)))) rfl rfl rfl ?_
    rw [e]
    exact ix_lastF _ _
  have e1 : r ^ (o - 1) % p * r % p = 1 := by
    rw [Nat.mod_mul_mod, ← Nat.pow_succ, show (o - 1).succ = o by omega]
    exact O.one
  have rp := fun s hs => repr_grp p r o hp hp2 (s := s) hs
  -- the texts
  have texts : ∃ s5', tfV (eOp (gEqA true) (eCall (g1 gRepr) (aCons (eVar 5) aNil)) (eCall (g1 gRepr) (aCons (eIf (tfV (eOp gLe (eVar 1) (eC (.int 1024)))) (eLst (aCons (eCall (g1 gTuple) (aCons (eVar 7) aNil)) aNil)) (eTup (aCons (eC (.str "many")) (aCons (eC (.int 1024)) aNil)))) aNil))) (U p o s2 s3 s4 s5 (N r) (.dat (.lst (natL (pw p r o)))))
      = .ok (false, U p o s2 s3 s4 s5' (N r) (.dat (.lst (natL (pw p r o))))) := by
    rcases h5 with ⟨rfl, c⟩ | ⟨rfl, c⟩
    · refine ⟨.dat (.lst [.tup (natL (pw p r o))]), val_of (op_of (E1 := U p o s2 s3 s4 (.dat (.lst [.tup (natL (pw p r o))])) (N r) (.dat (.lst (natL (pw p r o))))) (ecall_of (ss := [.dat (.lst [.tup (natL (pw p r o))])]) (by rfl) (rp (.dat (.lst [.tup (natL (pw p r o))])) (by rw [grp, if_pos c]; rfl))) (ecall_of (ss := [.ol [.tup (natL (pw p r o))]]) (acons_of (E1 := U p o s2 s3 s4 (.dat (.lst [.tup (natL (pw p r o))])) (N r) (.dat (.lst (natL (pw p r o))))) (eif_yes (E1 := U p o s2 s3 s4 (.dat (.lst [.tup (natL (pw p r o))])) (N r) (.dat (.lst (natL (pw p r o))))) (val_of (op_of (x := N o) (y := N 1024) (by rfl) (by rfl) (gLe_n c))) (by rfl)) rfl) (rp (.ol [.tup (natL (pw p r o))]) (by rw [grp, if_pos c]; rfl))) (gEq_same true _))⟩
    · have gl : gLe (N o) (N 1024) = some (.dat (.bl false)) := by rw [gLe_i, decide_eq_false (by omega)]
      refine ⟨.dat many1024, val_of (op_of (E1 := U p o s2 s3 s4 (.dat many1024) (N r) (.dat (.lst (natL (pw p r o))))) (ecall_of (ss := [.dat many1024]) (by rfl) (rp (.dat many1024) (by rw [grp, if_neg (by omega)]; rfl))) (ecall_of (ss := [.dat many1024]) (acons_of (E1 := U p o s2 s3 s4 (.dat many1024) (N r) (.dat (.lst (natL (pw p r o))))) (eif_no (E1 := U p o s2 s3 s4 (.dat many1024) (N r) (.dat (.lst (natL (pw p r o))))) (val_of (op_of (x := N o) (y := N 1024) (by rfl) (by rfl) gl)) (by rfl)) rfl) (rp (.dat many1024) (by rw [grp, if_neg (by omega)]; rfl))) (gEq_same true _))⟩
  obtain ⟨s5', texts⟩ := texts
  refine ⟨s5', if_no (or_no (E1 := U p o s2 s3 s4 s5 (N r) (.dat (.lst (natL (pw p r o))))) ?_ (or_no (E1 := U p o s2 s3 s4 s5 (N r) (.dat (.lst (natL (pw p r o))))) ?_ texts)) rfl⟩
  · have z := ne_nat (un_of fz hset) (show eVar 1 (U p o s2 s3 s4 s5 (N r) (.dat (.lst (natL (pw p r o))))) = .ok (N o, _) from rfl)
    rw [decide_eq_true rfl] at z
    exact z
  · have z := ne_nat (mod_nat (fb := eVar 0) (p := p) (by omega) (mul_nat (fb := eVar 6) (y := r) (by omega) hlast rfl) rfl) (show eC (.int 1) (U p o s2 s3 s4 s5 (N r) (.dat (.lst (natL (pw p r o))))) = .ok (N 1, _) from rfl)
    rw [e1, decide_eq_true rfl] at z
    exact z
theorem groups_yes (p o r : Nat) {l : Option (List (Key × D))} (hp : p ∈ PL) (o1 : 1 ≤ o) (o2 : o ≤ 65536) (hd : (p - 1) % o = 0) (hr : r < p) (O : Ord p r o) (less : ∀ k, 0 < k → k < o → r ^ k % p < r → Nat.gcd k o ≠ 1) (h : mf_own_root_of_one [N p, N o] = .ok (N r) l) : ∃ l, mf__law_groups_right [N p, N o] = .ok (.dat (.bl true)) l := by
  obtain ⟨b1, b2⟩ := pl_big p hp
  obtain ⟨l1, e1⟩ := root_of_one_ok p o r hp o1 o2 hd h
  have h4 : eLam tr__law_told [0, 1] (eFnK 2 [1, 0] mf_root_of_one (aCons (eVar 1) (aCons (eVar 0) aNil))) (U p o .no .no .no .no .no .no) = .ok (.ol [.int (r : Nat)], U p o .no .no .no .no .no .no) :=
    lam_okd (s := .no) (frz_u ..) (cap_u ..) (efnK_of (ss0 := [N o, N p]) (ss := [N o, N p]) (s2 := [N p, N o]) (by rfl) rfl rfl rfl e1 rfl)
  have h5 : ∃ s5, eLam tr__law_told [0, 1] (eFnK 2 [1, 0] mf_group_of (aCons (eVar 1) (aCons (eVar 0) aNil))) (U p o .no .no .no .no .no .no) = .ok (s5, U p o .no .no .no .no .no .no) ∧ (s5 = .ol [.tup (natL (pw p r o))] ∧ o ≤ 1024 ∨ s5 = .dat many1024 ∧ 1024 < o) := by
    by_cases c : o ≤ 1024
    · obtain ⟨l2, e2⟩ := group_of_ok p o r hp (by omega) o1 c hd h
      exact ⟨_, lam_okd (s := .no) (frz_u ..) (cap_u ..) (efnK_of (ss0 := [N o, N p]) (ss := [N o, N p]) (s2 := [N p, N o]) (by rfl) rfl rfl rfl e2 rfl), .inl ⟨rfl, c⟩⟩
    · obtain ⟨l2, e2⟩ := group_of_many p o hp (by omega) o2 hd
      exact ⟨_, lam_exc (frz_u ..) (cap_u ..) (efnK_exc (ss0 := [N o, N p]) (ss := [N o, N p]) (s2 := [N p, N o]) (by rfl) rfl rfl rfl e2) (r := many1024) (by kernel_rfl), .inr ⟨rfl, by omega⟩⟩
  obtain ⟨s5, h5, g5⟩ := h5
  obtain ⟨x', e4⟩ := row_loop p o r .no (.ol [.int (r : Nat)]) s5 (by omega) (by omega) (rngD 0 1 (o - 1)) 0 .no (by rw [rngD_len]; omega)
  rw [rngD_len, show 0 + (o - 1) + 1 = o by omega] at e4
  obtain ⟨s5', e5⟩ := v5_ok p o r x' .no (.ol [.int (r : Nat)]) s5 (by omega) b2 hr o1 o2 O g5
  obtain ⟨L, eL, mL, sL⟩ := sorted_nat (pw p r o)
  have rin : r ∈ pw p r o := by
    by_cases c : o = 1
    · have := O.one
      rw [c, Nat.pow_one, Nat.mod_eq_of_lt hr] at this
      have z := pw_mem p r o 0 (by omega)
      rw [Nat.pow_zero, Nat.mod_eq_of_lt (by omega)] at z
      rw [this] at z ⊢
      exact z
    · have z := pw_mem p r o 1 (by omega)
      rw [Nat.pow_one, Nat.mod_eq_of_lt hr] at z
      exact z
  obtain ⟨E, e6⟩ := find_loop p o r x' (.ol [.int (r : Nat)]) s5' (.dat (.lst (natL (pw p r o)))) (by omega) b2 hr O (lt_r (by omega) hr O less) (by omega) L .no (fun x hx => (mL x).mp hx) sL ((mL r).mpr rin)
  refine ⟨_, mf_ret (E := E) ?_ rfl⟩
  show m__law_groups_right (U p o .no .no .no .no .no .no) = _
  rw [m_groups_eq]
  refine seq_nx (v1_of p o h4 h5) ?_
  have t := v2_t p o .no .no (.ol [.int (r : Nat)]) s5 .no .no (by omega) o1
  rw [hd] at t
  refine seq_nx (if_no t rfl) ?_
  refine seq_nx (E1 := Eh p o .no .no (.ol [.int (r : Nat)]) s5 r (natL (pw p r (0 + 1)))) (par_of (r := N r) (s := .ol [.int 1]) (E1 := U p o .no .no (.ol [.int (r : Nat)]) s5 .no .no) (by rfl) ?_) ?_
  · rw [Nat.zero_add, pw_one r (by omega)]
    rfl
  refine seq_nx (for_of (ds := rngD 0 1 (o - 1)) (E1 := Eh p o .no .no (.ol [.int (r : Nat)]) s5 r (natL (pw p r (0 + 1)))) (rg1_of (n := o - 1) (acons_of (sub_one o o1 (eVar 1) rfl) rfl) (by omega)) e4) ?_
  refine seq_nx e5 ?_
  have hsrt : gSorted (.dat (.lst (natL (pw p r o)))) = some (.ol (natL L)) := by
    show (ints? (natL (pw p r o))).map (fun ns => Sl.ol ((sortI ns).map D.int)) = _
    rw [natL_int, Ev.ints_map, Option.map_some, eL]
  refine seq_ret (for_of (ds := natL L) ?_ e6)
  have es : eCall (g1 gSorted) (aCons (eVar 7) aNil) (U p o x' .no (.ol [.int (r : Nat)]) s5' (N r) (.dat (.lst (natL (pw p r o))))) = .ok (.ol (natL L), U p o x' .no (.ol [.int (r : Nat)]) s5' (N r) (.dat (.lst (natL (pw p r o))))) := ecall_of (ss := [.dat (.lst (natL (pw p r o)))]) (by rfl) hsrt
  unfold iVal
  rw [es]
  rfl
end Lk16

namespace Lk16
open PySem PySem.Spec PyProof.Rows L2 VL VL.Ev

theorem yes_of (p o r r0 : Nat) (s3 s4 : Sl) (hp : p ∈ PL) (o1 : 1 ≤ o) (o2 : o ≤ 65536) (hd : (p - 1) % o = 0) (hr : r < p) (hr0 : r0 < 65538) (hs : sSeq w1 w2 [N p, N o, .no, .no, .no, .no, .no, .no, .no] = .nx [N p, N o, .no, s3, s4, N r0, .no, .no, .no]) (hf : fnd p r0 o (o - 1) 1 r0 = r) (hz : r ≠ 0) (hc : ck p r o (o - 1) r = true) :
    (∃ l, mf_own_root_of_one [N p, N o] = .ok (N r) l) ∧ ∃ l, mf__law_groups_right [N p, N o] = .ok (.dat (.bl true)) l := by
  have b := pl_big p hp
  obtain ⟨O, C⟩ := ck_ok o1 hr hc
  obtain ⟨l, e⟩ := own_root_ok p o r r0 s3 s4 .no (by omega) hr0 o1 o2 hs hf hz
  exact ⟨⟨l, e⟩, groups_yes p o r hp o1 o2 hd hr O (fun k h1 h2 => (C k h1 h2).2) e⟩
theorem y_3_1 : (∃ l, mf_own_root_of_one [N 3, N 1] = .ok (N 1) l) ∧ ∃ l, mf__law_groups_right [N 3, N 1] = .ok (.dat (.bl true)) l := yes_of 3 1 1 1 (.dat (.lst [])) (I 2) (by decide) (by decide) (by decide) (by decide) (by decide) (by decide) (by kernel_rfl) (by kernel_rfl) (by decide) (by kernel_rfl)
theorem gr_3_1 : ∃ l, mf__law_groups_right [N 3, N 1] = .ok (.dat (.bl true)) l := y_3_1.2
theorem y_3_2 : (∃ l, mf_own_root_of_one [N 3, N 2] = .ok (N 2) l) ∧ ∃ l, mf__law_groups_right [N 3, N 2] = .ok (.dat (.bl true)) l := yes_of 3 2 2 2 (.dat (.lst [.int 2])) (I 3) (by decide) (by decide) (by decide) (by decide) (by decide) (by decide) (by kernel_rfl) (by kernel_rfl) (by decide) (by kernel_rfl)
theorem gr_3_2 : ∃ l, mf__law_groups_right [N 3, N 2] = .ok (.dat (.bl true)) l := y_3_2.2
theorem gr_3_3 : ∃ l, mf__law_groups_right [N 3, N 3] = .ok (.dat (.bl true)) l := groups_no 3 3 (by decide) (by decide) (by decide) (by decide)
theorem gr_3_4 : ∃ l, mf__law_groups_right [N 3, N 4] = .ok (.dat (.bl true)) l := groups_no 3 4 (by decide) (by decide) (by decide) (by decide)
theorem gr_3_5 : ∃ l, mf__law_groups_right [N 3, N 5] = .ok (.dat (.bl true)) l := groups_no 3 5 (by decide) (by decide) (by decide) (by decide)
theorem gr_3_6 : ∃ l, mf__law_groups_right [N 3, N 6] = .ok (.dat (.bl true)) l := groups_no 3 6 (by decide) (by decide) (by decide) (by decide)
theorem gr_3_8 : ∃ l, mf__law_groups_right [N 3, N 8] = .ok (.dat (.bl true)) l := groups_no 3 8 (by decide) (by decide) (by decide) (by decide)
theorem gr_3_12 : ∃ l, mf__law_groups_right [N 3, N 12] = .ok (.dat (.bl true)) l := groups_no 3 12 (by decide) (by decide) (by decide) (by decide)
theorem gr_3_37 : ∃ l, mf__law_groups_right [N 3, N 37] = .ok (.dat (.bl true)) l := groups_no 3 37 (by decide) (by decide) (by decide) (by decide)
theorem gr_3_107 : ∃ l, mf__law_groups_right [N 3, N 107] = .ok (.dat (.bl true)) l := groups_no 3 107 (by decide) (by decide) (by decide) (by decide)
theorem gr_3_256 : ∃ l, mf__law_groups_right [N 3, N 256] = .ok (.dat (.bl true)) l := groups_no 3 256 (by decide) (by decide) (by decide) (by decide)
theorem gr_3_2048 : ∃ l, mf__law_groups_right [N 3, N 2048] = .ok (.dat (.bl true)) l := groups_no 3 2048 (by decide) (by decide) (by decide) (by decide)
theorem y_5_1 : (∃ l, mf_own_root_of_one [N 5, N 1] = .ok (N 1) l) ∧ ∃ l, mf__law_groups_right [N 5, N 1] = .ok (.dat (.bl true)) l := yes_of 5 1 1 1 (.dat (.lst [])) (I 2) (by decide) (by decide) (by decide) (by decide) (by decide) (by decide) (by kernel_rfl) (by kernel_rfl) (by decide) (by kernel_rfl)
theorem gr_5_1 : ∃ l, mf__law_groups_right [N 5, N 1] = .ok (.dat (.bl true)) l := y_5_1.2
theorem y_5_2 : (∃ l, mf_own_root_of_one [N 5, N 2] = .ok (N 4) l) ∧ ∃ l, mf__law_groups_right [N 5, N 2] = .ok (.dat (.bl true)) l := yes_of 5 2 4 4 (.dat (.lst [.int 2])) (I 3) (by decide) (by decide) (by decide) (by decide) (by decide) (by decide) (by kernel_rfl) (by kernel_rfl) (by decide) (by kernel_rfl)
theorem gr_5_2 : ∃ l, mf__law_groups_right [N 5, N 2] = .ok (.dat (.bl true)) l := y_5_2.2
theorem gr_5_3 : ∃ l, mf__law_groups_right [N 5, N 3] = .ok (.dat (.bl true)) l := groups_no 5 3 (by decide) (by decide) (by decide) (by decide)
theorem y_5_4 : (∃ l, mf_own_root_of_one [N 5, N 4] = .ok (N 2) l) ∧ ∃ l, mf__law_groups_right [N 5, N 4] = .ok (.dat (.bl true)) l := yes_of 5 4 2 2 (.dat (.lst [.int 2])) (I 3) (by decide) (by decide) (by decide) (by decide) (by decide) (by decide) (by kernel_rfl) (by kernel_rfl) (by decide) (by kernel_rfl)
theorem gr_5_4 : ∃ l, mf__law_groups_right [N 5, N 4] = .ok (.dat (.bl true)) l := y_5_4.2
theorem gr_5_5 : ∃ l, mf__law_groups_right [N 5, N 5] = .ok (.dat (.bl true)) l := groups_no 5 5 (by decide) (by decide) (by decide) (by decide)
theorem gr_5_6 : ∃ l, mf__law_groups_right [N 5, N 6] = .ok (.dat (.bl true)) l := groups_no 5 6 (by decide) (by decide) (by decide) (by decide)
theorem gr_5_8 : ∃ l, mf__law_groups_right [N 5, N 8] = .ok (.dat (.bl true)) l := groups_no 5 8 (by decide) (by decide) (by decide) (by decide)
theorem gr_5_12 : ∃ l, mf__law_groups_right [N 5, N 12] = .ok (.dat (.bl true)) l := groups_no 5 12 (by decide) (by decide) (by decide) (by decide)
theorem gr_5_37 : ∃ l, mf__law_groups_right [N 5, N 37] = .ok (.dat (.bl true)) l := groups_no 5 37 (by decide) (by decide) (by decide) (by decide)
theorem gr_5_107 : ∃ l, mf__law_groups_right [N 5, N 107] = .ok (.dat (.bl true)) l := groups_no 5 107 (by decide) (by decide) (by decide) (by decide)
theorem gr_5_256 : ∃ l, mf__law_groups_right [N 5, N 256] = .ok (.dat (.bl true)) l := groups_no 5 256 (by decide) (by decide) (by decide) (by decide)
theorem gr_5_2048 : ∃ l, mf__law_groups_right [N 5, N 2048] = .ok (.dat (.bl true)) l := groups_no 5 2048 (by decide) (by decide) (by decide) (by decide)
theorem y_7_1 : (∃ l, mf_own_root_of_one [N 7, N 1] = .ok (N 1) l) ∧ ∃ l, mf__law_groups_right [N 7, N 1] = .ok (.dat (.bl true)) l := yes_of 7 1 1 1 (.dat (.lst [])) (I 2) (by decide) (by decide) (by decide) (by decide) (by decide) (by decide) (by kernel_rfl) (by kernel_rfl) (by decide) (by kernel_rfl)
theorem gr_7_1 : ∃ l, mf__law_groups_right [N 7, N 1] = .ok (.dat (.bl true)) l := y_7_1.2
theorem y_7_2 : (∃ l, mf_own_root_of_one [N 7, N 2] = .ok (N 6) l) ∧ ∃ l, mf__law_groups_right [N 7, N 2] = .ok (.dat (.bl true)) l := yes_of 7 2 6 6 (.dat (.lst [.int 2])) (I 4) (by decide) (by decide) (by decide) (by decide) (by decide) (by decide) (by kernel_rfl) (by kernel_rfl) (by decide) (by kernel_rfl)
theorem gr_7_2 : ∃ l, mf__law_groups_right [N 7, N 2] = .ok (.dat (.bl true)) l := y_7_2.2
theorem y_7_3 : (∃ l, mf_own_root_of_one [N 7, N 3] = .ok (N 2) l) ∧ ∃ l, mf__law_groups_right [N 7, N 3] = .ok (.dat (.bl true)) l := yes_of 7 3 2 4 (.dat (.lst [.int 3])) (I 3) (by decide) (by decide) (by decide) (by decide) (by decide) (by decide) (by kernel_rfl) (by kernel_rfl) (by decide) (by kernel_rfl)
theorem gr_7_3 : ∃ l, mf__law_groups_right [N 7, N 3] = .ok (.dat (.bl true)) l := y_7_3.2
theorem gr_7_4 : ∃ l, mf__law_groups_right [N 7, N 4] = .ok (.dat (.bl true)) l := groups_no 7 4 (by decide) (by decide) (by decide) (by decide)
theorem gr_7_5 : ∃ l, mf__law_groups_right [N 7, N 5] = .ok (.dat (.bl true)) l := groups_no 7 5 (by decide) (by decide) (by decide) (by decide)
theorem y_7_6 : (∃ l, mf_own_root_of_one [N 7, N 6] = .ok (N 3) l) ∧ ∃ l, mf__law_groups_right [N 7, N 6] = .ok (.dat (.bl true)) l := yes_of 7 6 3 3 (.dat (.lst [.int 2, .int 3])) (I 4) (by decide) (by decide) (by decide) (by decide) (by decide) (by decide) (by kernel_rfl) (by kernel_rfl) (by decide) (by kernel_rfl)
theorem gr_7_6 : ∃ l, mf__law_groups_right [N 7, N 6] = .ok (.dat (.bl true)) l := y_7_6.2
theorem gr_7_8 : ∃ l, mf__law_groups_right [N 7, N 8] = .ok (.dat (.bl true)) l := groups_no 7 8 (by decide) (by decide) (by decide) (by decide)
theorem gr_7_12 : ∃ l, mf__law_groups_right [N 7, N 12] = .ok (.dat (.bl true)) l := groups_no 7 12 (by decide) (by decide) (by decide) (by decide)
theorem gr_7_37 : ∃ l, mf__law_groups_right [N 7, N 37] = .ok (.dat (.bl true)) l := groups_no 7 37 (by decide) (by decide) (by decide) (by decide)
theorem gr_7_107 : ∃ l, mf__law_groups_right [N 7, N 107] = .ok (.dat (.bl true)) l := groups_no 7 107 (by decide) (by decide) (by decide) (by decide)
theorem gr_7_256 : ∃ l, mf__law_groups_right [N 7, N 256] = .ok (.dat (.bl true)) l := groups_no 7 256 (by decide) (by decide) (by decide) (by decide)
theorem gr_7_2048 : ∃ l, mf__law_groups_right [N 7, N 2048] = .ok (.dat (.bl true)) l := groups_no 7 2048 (by decide) (by decide) (by decide) (by decide)
theorem y_11_1 : (∃ l, mf_own_root_of_one [N 11, N 1] = .ok (N 1) l) ∧ ∃ l, mf__law_groups_right [N 11, N 1] = .ok (.dat (.bl true)) l := yes_of 11 1 1 1 (.dat (.lst [])) (I 2) (by decide) (by decide) (by decide) (by decide) (by decide) (by decide) (by kernel_rfl) (by kernel_rfl) (by decide) (by kernel_rfl)
theorem gr_11_1 : ∃ l, mf__law_groups_right [N 11, N 1] = .ok (.dat (.bl true)) l := y_11_1.2
theorem y_11_2 : (∃ l, mf_own_root_of_one [N 11, N 2] = .ok (N 10) l) ∧ ∃ l, mf__law_groups_right [N 11, N 2] = .ok (.dat (.bl true)) l := yes_of 11 2 10 10 (.dat (.lst [.int 2])) (I 3) (by decide) (by decide) (by decide) (by decide) (by decide) (by decide) (by kernel_rfl) (by kernel_rfl) (by decide) (by kernel_rfl)
theorem gr_11_2 : ∃ l, mf__law_groups_right [N 11, N 2] = .ok (.dat (.bl true)) l := y_11_2.2
theorem gr_11_3 : ∃ l, mf__law_groups_right [N 11, N 3] = .ok (.dat (.bl true)) l := groups_no 11 3 (by decide) (by decide) (by decide) (by decide)
theorem gr_11_4 : ∃ l, mf__law_groups_right [N 11, N 4] = .ok (.dat (.bl true)) l := groups_no 11 4 (by decide) (by decide) (by decide) (by decide)
theorem y_11_5 : (∃ l, mf_own_root_of_one [N 11, N 5] = .ok (N 3) l) ∧ ∃ l, mf__law_groups_right [N 11, N 5] = .ok (.dat (.bl true)) l := yes_of 11 5 3 4 (.dat (.lst [.int 5])) (I 3) (by decide) (by decide) (by decide) (by decide) (by decide) (by decide) (by kernel_rfl) (by kernel_rfl) (by decide) (by kernel_rfl)
theorem gr_11_5 : ∃ l, mf__law_groups_right [N 11, N 5] = .ok (.dat (.bl true)) l := y_11_5.2
theorem gr_11_6 : ∃ l, mf__law_groups_right [N 11, N 6] = .ok (.dat (.bl true)) l := groups_no 11 6 (by decide) (by decide) (by decide) (by decide)
theorem gr_11_8 : ∃ l, mf__law_groups_right [N 11, N 8] = .ok (.dat (.bl true)) l := groups_no 11 8 (by decide) (by decide) (by decide) (by decide)
theorem y_11_10 : (∃ l, mf_own_root_of_one [N 11, N 10] = .ok (N 2) l) ∧ ∃ l, mf__law_groups_right [N 11, N 10] = .ok (.dat (.bl true)) l := yes_of 11 10 2 2 (.dat (.lst [.int 2, .int 5])) (I 3) (by decide) (by decide) (by decide) (by decide) (by decide) (by decide) (by kernel_rfl) (by kernel_rfl) (by decide) (by kernel_rfl)
theorem gr_11_10 : ∃ l, mf__law_groups_right [N 11, N 10] = .ok (.dat (.bl true)) l := y_11_10.2
theorem gr_11_12 : ∃ l, mf__law_groups_right [N 11, N 12] = .ok (.dat (.bl true)) l := groups_no 11 12 (by decide) (by decide) (by decide) (by decide)
theorem gr_11_37 : ∃ l, mf__law_groups_right [N 11, N 37] = .ok (.dat (.bl true)) l := groups_no 11 37 (by decide) (by decide) (by decide) (by decide)
theorem gr_11_107 : ∃ l, mf__law_groups_right [N 11, N 107] = .ok (.dat (.bl true)) l := groups_no 11 107 (by decide) (by decide) (by decide) (by decide)
theorem gr_11_256 : ∃ l, mf__law_groups_right [N 11, N 256] = .ok (.dat (.bl true)) l := groups_no 11 256 (by decide) (by decide) (by decide) (by decide)
theorem gr_11_2048 : ∃ l, mf__law_groups_right [N 11, N 2048] = .ok (.dat (.bl true)) l := groups_no 11 2048 (by decide) (by decide) (by decide) (by decide)
theorem y_13_1 : (∃ l, mf_own_root_of_one [N 13, N 1] = .ok (N 1) l) ∧ ∃ l, mf__law_groups_right [N 13, N 1] = .ok (.dat (.bl true)) l := yes_of 13 1 1 1 (.dat (.lst [])) (I 2) (by decide) (by decide) (by decide) (by decide) (by decide) (by decide) (by kernel_rfl) (by kernel_rfl) (by decide) (by kernel_rfl)
theorem gr_13_1 : ∃ l, mf__law_groups_right [N 13, N 1] = .ok (.dat (.bl true)) l := y_13_1.2
theorem y_13_2 : (∃ l, mf_own_root_of_one [N 13, N 2] = .ok (N 12) l) ∧ ∃ l, mf__law_groups_right [N 13, N 2] = .ok (.dat (.bl true)) l := yes_of 13 2 12 12 (.dat (.lst [.int 2])) (I 3) (by decide) (by decide) (by decide) (by decide) (by decide) (by decide) (by kernel_rfl) (by kernel_rfl) (by decide) (by kernel_rfl)
theorem gr_13_2 : ∃ l, mf__law_groups_right [N 13, N 2] = .ok (.dat (.bl true)) l := y_13_2.2
theorem y_13_3 : (∃ l, mf_own_root_of_one [N 13, N 3] = .ok (N 3) l) ∧ ∃ l, mf__law_groups_right [N 13, N 3] = .ok (.dat (.bl true)) l := yes_of 13 3 3 3 (.dat (.lst [.int 3])) (I 3) (by decide) (by decide) (by decide) (by decide) (by decide) (by decide) (by kernel_rfl) (by kernel_rfl) (by decide) (by kernel_rfl)
theorem gr_13_3 : ∃ l, mf__law_groups_right [N 13, N 3] = .ok (.dat (.bl true)) l := y_13_3.2
theorem y_13_4 : (∃ l, mf_own_root_of_one [N 13, N 4] = .ok (N 5) l) ∧ ∃ l, mf__law_groups_right [N 13, N 4] = .ok (.dat (.bl true)) l := yes_of 13 4 5 8 (.dat (.lst [.int 2])) (I 3) (by decide) (by decide) (by decide) (by decide) (by decide) (by decide) (by kernel_rfl) (by kernel_rfl) (by decide) (by kernel_rfl)
theorem gr_13_4 : ∃ l, mf__law_groups_right [N 13, N 4] = .ok (.dat (.bl true)) l := y_13_4.2
theorem gr_13_5 : ∃ l, mf__law_groups_right [N 13, N 5] = .ok (.dat (.bl true)) l := groups_no 13 5 (by decide) (by decide) (by decide) (by decide)
theorem y_13_6 : (∃ l, mf_own_root_of_one [N 13, N 6] = .ok (N 4) l) ∧ ∃ l, mf__law_groups_right [N 13, N 6] = .ok (.dat (.bl true)) l := yes_of 13 6 4 4 (.dat (.lst [.int 2, .int 3])) (I 3) (by decide) (by decide) (by decide) (by decide) (by decide) (by decide) (by kernel_rfl) (by kernel_rfl) (by decide) (by kernel_rfl)
theorem gr_13_6 : ∃ l, mf__law_groups_right [N 13, N 6] = .ok (.dat (.bl true)) l := y_13_6.2
theorem gr_13_8 : ∃ l, mf__law_groups_right [N 13, N 8] = .ok (.dat (.bl true)) l := groups_no 13 8 (by decide) (by decide) (by decide) (by decide)
theorem y_13_12 : (∃ l, mf_own_root_of_one [N 13, N 12] = .ok (N 2) l) ∧ ∃ l, mf__law_groups_right [N 13, N 12] = .ok (.dat (.bl true)) l := yes_of 13 12 2 2 (.dat (.lst [.int 2, .int 3])) (I 3) (by decide) (by decide) (by decide) (by decide) (by decide) (by decide) (by kernel_rfl) (by kernel_rfl) (by decide) (by kernel_rfl)
theorem gr_13_12 : ∃ l, mf__law_groups_right [N 13, N 12] = .ok (.dat (.bl true)) l := y_13_12.2
theorem gr_13_37 : ∃ l, mf__law_groups_right [N 13, N 37] = .ok (.dat (.bl true)) l := groups_no 13 37 (by decide) (by decide) (by decide) (by decide)
theorem gr_13_107 : ∃ l, mf__law_groups_right [N 13, N 107] = .ok (.dat (.bl true)) l := groups_no 13 107 (by decide) (by decide) (by decide) (by decide)
theorem gr_13_256 : ∃ l, mf__law_groups_right [N 13, N 256] = .ok (.dat (.bl true)) l := groups_no 13 256 (by decide) (by decide) (by decide) (by decide)
theorem gr_13_2048 : ∃ l, mf__law_groups_right [N 13, N 2048] = .ok (.dat (.bl true)) l := groups_no 13 2048 (by decide) (by decide) (by decide) (by decide)
theorem y_17_1 : (∃ l, mf_own_root_of_one [N 17, N 1] = .ok (N 1) l) ∧ ∃ l, mf__law_groups_right [N 17, N 1] = .ok (.dat (.bl true)) l := yes_of 17 1 1 1 (.dat (.lst [])) (I 2) (by decide) (by decide) (by decide) (by decide) (by decide) (by decide) (by kernel_rfl) (by kernel_rfl) (by decide) (by kernel_rfl)
theorem gr_17_1 : ∃ l, mf__law_groups_right [N 17, N 1] = .ok (.dat (.bl true)) l := y_17_1.2
theorem y_17_2 : (∃ l, mf_own_root_of_one [N 17, N 2] = .ok (N 16) l) ∧ ∃ l, mf__law_groups_right [N 17, N 2] = .ok (.dat (.bl true)) l := yes_of 17 2 16 16 (.dat (.lst [.int 2])) (I 4) (by decide) (by decide) (by decide) (by decide) (by decide) (by decide) (by kernel_rfl) (by kernel_rfl) (by decide) (by kernel_rfl)
theorem gr_17_2 : ∃ l, mf__law_groups_right [N 17, N 2] = .ok (.dat (.bl true)) l := y_17_2.2
theorem gr_17_3 : ∃ l, mf__law_groups_right [N 17, N 3] = .ok (.dat (.bl true)) l := groups_no 17 3 (by decide) (by decide) (by decide) (by decide)
theorem y_17_4 : (∃ l, mf_own_root_of_one [N 17, N 4] = .ok (N 4) l) ∧ ∃ l, mf__law_groups_right [N 17, N 4] = .ok (.dat (.bl true)) l := yes_of 17 4 4 13 (.dat (.lst [.int 2])) (I 4) (by decide) (by decide) (by decide) (by decide) (by decide) (by decide) (by kernel_rfl) (by kernel_rfl) (by decide) (by kernel_rfl)
theorem gr_17_4 : ∃ l, mf__law_groups_right [N 17, N 4] = .ok (.dat (.bl true)) l := y_17_4.2
theorem gr_17_5 : ∃ l, mf__law_groups_right [N 17, N 5] = .ok (.dat (.bl true)) l := groups_no 17 5 (by decide) (by decide) (by decide) (by decide)
theorem gr_17_6 : ∃ l, mf__law_groups_right [N 17, N 6] = .ok (.dat (.bl true)) l := groups_no 17 6 (by decide) (by decide) (by decide) (by decide)
theorem y_17_8 : (∃ l, mf_own_root_of_one [N 17, N 8] = .ok (N 2) l) ∧ ∃ l, mf__law_groups_right [N 17, N 8] = .ok (.dat (.bl true)) l := yes_of 17 8 2 9 (.dat (.lst [.int 2])) (I 4) (by decide) (by decide) (by decide) (by decide) (by decide) (by decide) (by kernel_rfl) (by kernel_rfl) (by decide) (by kernel_rfl)
theorem gr_17_8 : ∃ l, mf__law_groups_right [N 17, N 8] = .ok (.dat (.bl true)) l := y_17_8.2
theorem gr_17_12 : ∃ l, mf__law_groups_right [N 17, N 12] = .ok (.dat (.bl true)) l := groups_no 17 12 (by decide) (by decide) (by decide) (by decide)
theorem y_17_16 : (∃ l, mf_own_root_of_one [N 17, N 16] = .ok (N 3) l) ∧ ∃ l, mf__law_groups_right [N 17, N 16] = .ok (.dat (.bl true)) l := yes_of 17 16 3 3 (.dat (.lst [.int 2])) (I 4) (by decide) (by decide) (by decide) (by decide) (by decide) (by decide) (by kernel_rfl) (by kernel_rfl) (by decide) (by kernel_rfl)
theorem gr_17_16 : ∃ l, mf__law_groups_right [N 17, N 16] = .ok (.dat (.bl true)) l := y_17_16.2
theorem gr_17_37 : ∃ l, mf__law_groups_right [N 17, N 37] = .ok (.dat (.bl true)) l := groups_no 17 37 (by decide) (by decide) (by decide) (by decide)
theorem gr_17_107 : ∃ l, mf__law_groups_right [N 17, N 107] = .ok (.dat (.bl true)) l := groups_no 17 107 (by decide) (by decide) (by decide) (by decide)
theorem gr_17_256 : ∃ l, mf__law_groups_right [N 17, N 256] = .ok (.dat (.bl true)) l := groups_no 17 256 (by decide) (by decide) (by decide) (by decide)
theorem gr_17_2048 : ∃ l, mf__law_groups_right [N 17, N 2048] = .ok (.dat (.bl true)) l := groups_no 17 2048 (by decide) (by decide) (by decide) (by decide)
theorem y_97_1 : (∃ l, mf_own_root_of_one [N 97, N 1] = .ok (N 1) l) ∧ ∃ l, mf__law_groups_right [N 97, N 1] = .ok (.dat (.bl true)) l := yes_of 97 1 1 1 (.dat (.lst [])) (I 2) (by decide) (by decide) (by decide) (by decide) (by decide) (by decide) (by kernel_rfl) (by kernel_rfl) (by decide) (by kernel_rfl)
theorem gr_97_1 : ∃ l, mf__law_groups_right [N 97, N 1] = .ok (.dat (.bl true)) l := y_97_1.2
theorem y_97_2 : (∃ l, mf_own_root_of_one [N 97, N 2] = .ok (N 96) l) ∧ ∃ l, mf__law_groups_right [N 97, N 2] = .ok (.dat (.bl true)) l := yes_of 97 2 96 96 (.dat (.lst [.int 2])) (I 6) (by decide) (by decide) (by decide) (by decide) (by decide) (by decide) (by kernel_rfl) (by kernel_rfl) (by decide) (by kernel_rfl)
theorem gr_97_2 : ∃ l, mf__law_groups_right [N 97, N 2] = .ok (.dat (.bl true)) l := y_97_2.2
theorem y_97_3 : (∃ l, mf_own_root_of_one [N 97, N 3] = .ok (N 35) l) ∧ ∃ l, mf__law_groups_right [N 97, N 3] = .ok (.dat (.bl true)) l := yes_of 97 3 35 35 (.dat (.lst [.int 3])) (I 3) (by decide) (by decide) (by decide) (by decide) (by decide) (by decide) (by kernel_rfl) (by kernel_rfl) (by decide) (by kernel_rfl)
theorem gr_97_3 : ∃ l, mf__law_groups_right [N 97, N 3] = .ok (.dat (.bl true)) l := y_97_3.2
theorem y_97_4 : (∃ l, mf_own_root_of_one [N 97, N 4] = .ok (N 22) l) ∧ ∃ l, mf__law_groups_right [N 97, N 4] = .ok (.dat (.bl true)) l := yes_of 97 4 22 22 (.dat (.lst [.int 2])) (I 6) (by decide) (by decide) (by decide) (by decide) (by decide) (by decide) (by kernel_rfl) (by kernel_rfl) (by decide) (by kernel_rfl)
theorem gr_97_4 : ∃ l, mf__law_groups_right [N 97, N 4] = .ok (.dat (.bl true)) l := y_97_4.2
theorem gr_97_5 : ∃ l, mf__law_groups_right [N 97, N 5] = .ok (.dat (.bl true)) l := groups_no 97 5 (by decide) (by decide) (by decide) (by decide)
theorem y_97_6 : (∃ l, mf_own_root_of_one [N 97, N 6] = .ok (N 36) l) ∧ ∃ l, mf__law_groups_right [N 97, N 6] = .ok (.dat (.bl true)) l := yes_of 97 6 36 36 (.dat (.lst [.int 2, .int 3])) (I 6) (by decide) (by decide) (by decide) (by decide) (by decide) (by decide) (by kernel_rfl) (by kernel_rfl) (by decide) (by kernel_rfl)
theorem gr_97_6 : ∃ l, mf__law_groups_right [N 97, N 6] = .ok (.dat (.bl true)) l := y_97_6.2
theorem y_97_8 : (∃ l, mf_own_root_of_one [N 97, N 8] = .ok (N 33) l) ∧ ∃ l, mf__law_groups_right [N 97, N 8] = .ok (.dat (.bl true)) l := yes_of 97 8 33 64 (.dat (.lst [.int 2])) (I 6) (by decide) (by decide) (by decide) (by decide) (by decide) (by decide) (by kernel_rfl) (by kernel_rfl) (by decide) (by kernel_rfl)
theorem gr_97_8 : ∃ l, mf__law_groups_right [N 97, N 8] = .ok (.dat (.bl true)) l := y_97_8.2
theorem y_97_12 : (∃ l, mf_own_root_of_one [N 97, N 12] = .ok (N 6) l) ∧ ∃ l, mf__law_groups_right [N 97, N 12] = .ok (.dat (.bl true)) l := yes_of 97 12 6 6 (.dat (.lst [.int 2, .int 3])) (I 6) (by decide) (by decide) (by decide) (by decide) (by decide) (by decide) (by kernel_rfl) (by kernel_rfl) (by decide) (by kernel_rfl)
theorem gr_97_12 : ∃ l, mf__law_groups_right [N 97, N 12] = .ok (.dat (.bl true)) l := y_97_12.2
theorem gr_97_37 : ∃ l, mf__law_groups_right [N 97, N 37] = .ok (.dat (.bl true)) l := groups_no 97 37 (by decide) (by decide) (by decide) (by decide)
theorem y_97_48 : (∃ l, mf_own_root_of_one [N 97, N 48] = .ok (N 2) l) ∧ ∃ l, mf__law_groups_right [N 97, N 48] = .ok (.dat (.bl true)) l := yes_of 97 48 2 25 (.dat (.lst [.int 2, .int 3])) (I 6) (by decide) (by decide) (by decide) (by decide) (by decide) (by decide) (by kernel_rfl) (by kernel_rfl) (by decide) (by kernel_rfl)
theorem gr_97_48 : ∃ l, mf__law_groups_right [N 97, N 48] = .ok (.dat (.bl true)) l := y_97_48.2
theorem y_97_96 : (∃ l, mf_own_root_of_one [N 97, N 96] = .ok (N 5) l) ∧ ∃ l, mf__law_groups_right [N 97, N 96] = .ok (.dat (.bl true)) l := yes_of 97 96 5 5 (.dat (.lst [.int 2, .int 3])) (I 6) (by decide) (by decide) (by decide) (by decide) (by decide) (by decide) (by kernel_rfl) (by kernel_rfl) (by decide) (by kernel_rfl)
theorem gr_97_96 : ∃ l, mf__law_groups_right [N 97, N 96] = .ok (.dat (.bl true)) l := y_97_96.2
theorem gr_97_107 : ∃ l, mf__law_groups_right [N 97, N 107] = .ok (.dat (.bl true)) l := groups_no 97 107 (by decide) (by decide) (by decide) (by decide)
theorem gr_97_256 : ∃ l, mf__law_groups_right [N 97, N 256] = .ok (.dat (.bl true)) l := groups_no 97 256 (by decide) (by decide) (by decide) (by decide)
theorem gr_97_2048 : ∃ l, mf__law_groups_right [N 97, N 2048] = .ok (.dat (.bl true)) l := groups_no 97 2048 (by decide) (by decide) (by decide) (by decide)
theorem y_257_1 : (∃ l, mf_own_root_of_one [N 257, N 1] = .ok (N 1) l) ∧ ∃ l, mf__law_groups_right [N 257, N 1] = .ok (.dat (.bl true)) l := yes_of 257 1 1 1 (.dat (.lst [])) (I 2) (by decide) (by decide) (by decide) (by decide) (by decide) (by decide) (by kernel_rfl) (by kernel_rfl) (by decide) (by kernel_rfl)
theorem gr_257_1 : ∃ l, mf__law_groups_right [N 257, N 1] = .ok (.dat (.bl true)) l := y_257_1.2
theorem y_257_2 : (∃ l, mf_own_root_of_one [N 257, N 2] = .ok (N 256) l) ∧ ∃ l, mf__law_groups_right [N 257, N 2] = .ok (.dat (.bl true)) l := yes_of 257 2 256 256 (.dat (.lst [.int 2])) (I 4) (by decide) (by decide) (by decide) (by decide) (by decide) (by decide) (by kernel_rfl) (by kernel_rfl) (by decide) (by kernel_rfl)
theorem gr_257_2 : ∃ l, mf__law_groups_right [N 257, N 2] = .ok (.dat (.bl true)) l := y_257_2.2
theorem gr_257_3 : ∃ l, mf__law_groups_right [N 257, N 3] = .ok (.dat (.bl true)) l := groups_no 257 3 (by decide) (by decide) (by decide) (by decide)
theorem y_257_4 : (∃ l, mf_own_root_of_one [N 257, N 4] = .ok (N 16) l) ∧ ∃ l, mf__law_groups_right [N 257, N 4] = .ok (.dat (.bl true)) l := yes_of 257 4 16 241 (.dat (.lst [.int 2])) (I 4) (by decide) (by decide) (by decide) (by decide) (by decide) (by decide) (by kernel_rfl) (by kernel_rfl) (by decide) (by kernel_rfl)
theorem gr_257_4 : ∃ l, mf__law_groups_right [N 257, N 4] = .ok (.dat (.bl true)) l := y_257_4.2
theorem gr_257_5 : ∃ l, mf__law_groups_right [N 257, N 5] = .ok (.dat (.bl true)) l := groups_no 257 5 (by decide) (by decide) (by decide) (by decide)
theorem gr_257_6 : ∃ l, mf__law_groups_right [N 257, N 6] = .ok (.dat (.bl true)) l := groups_no 257 6 (by decide) (by decide) (by decide) (by decide)
theorem y_257_8 : (∃ l, mf_own_root_of_one [N 257, N 8] = .ok (N 4) l) ∧ ∃ l, mf__law_groups_right [N 257, N 8] = .ok (.dat (.bl true)) l := yes_of 257 8 4 64 (.dat (.lst [.int 2])) (I 4) (by decide) (by decide) (by decide) (by decide) (by decide) (by decide) (by kernel_rfl) (by kernel_rfl) (by decide) (by kernel_rfl)
theorem gr_257_8 : ∃ l, mf__law_groups_right [N 257, N 8] = .ok (.dat (.bl true)) l := y_257_8.2
theorem gr_257_12 : ∃ l, mf__law_groups_right [N 257, N 12] = .ok (.dat (.bl true)) l := groups_no 257 12 (by decide) (by decide) (by decide) (by decide)
theorem gr_257_37 : ∃ l, mf__law_groups_right [N 257, N 37] = .ok (.dat (.bl true)) l := groups_no 257 37 (by decide) (by decide) (by decide) (by decide)
theorem gr_257_107 : ∃ l, mf__law_groups_right [N 257, N 107] = .ok (.dat (.bl true)) l := groups_no 257 107 (by decide) (by decide) (by decide) (by decide)
theorem y_257_128 : (∃ l, mf_own_root_of_one [N 257, N 128] = .ok (N 9) l) ∧ ∃ l, mf__law_groups_right [N 257, N 128] = .ok (.dat (.bl true)) l := yes_of 257 128 9 9 (.dat (.lst [.int 2])) (I 4) (by decide) (by decide) (by decide) (by decide) (by decide) (by decide) (by kernel_rfl) (by kernel_rfl) (by decide) (by kernel_rfl)
theorem gr_257_128 : ∃ l, mf__law_groups_right [N 257, N 128] = .ok (.dat (.bl true)) l := y_257_128.2
theorem y_257_256 : (∃ l, mf_own_root_of_one [N 257, N 256] = .ok (N 3) l) ∧ ∃ l, mf__law_groups_right [N 257, N 256] = .ok (.dat (.bl true)) l := yes_of 257 256 3 3 (.dat (.lst [.int 2])) (I 4) (by decide) (by decide) (by decide) (by decide) (by decide) (by decide) (by kernel_rfl) (by kernel_rfl) (by decide) (by kernel_rfl)
theorem gr_257_256 : ∃ l, mf__law_groups_right [N 257, N 256] = .ok (.dat (.bl true)) l := y_257_256.2
theorem gr_257_2048 : ∃ l, mf__law_groups_right [N 257, N 2048] = .ok (.dat (.bl true)) l := groups_no 257 2048 (by decide) (by decide) (by decide) (by decide)
theorem y_7919_1 : (∃ l, mf_own_root_of_one [N 7919, N 1] = .ok (N 1) l) ∧ ∃ l, mf__law_groups_right [N 7919, N 1] = .ok (.dat (.bl true)) l := yes_of 7919 1 1 1 (.dat (.lst [])) (I 2) (by decide) (by decide) (by decide) (by decide) (by decide) (by decide) (by kernel_rfl) (by kernel_rfl) (by decide) (by kernel_rfl)
theorem gr_7919_1 : ∃ l, mf__law_groups_right [N 7919, N 1] = .ok (.dat (.bl true)) l := y_7919_1.2
theorem y_7919_2 : (∃ l, mf_own_root_of_one [N 7919, N 2] = .ok (N 7918) l) ∧ ∃ l, mf__law_groups_right [N 7919, N 2] = .ok (.dat (.bl true)) l := yes_of 7919 2 7918 7918 (.dat (.lst [.int 2])) (I 8) (by decide) (by decide) (by decide) (by decide) (by decide) (by decide) (by kernel_rfl) (by kernel_rfl) (by decide) (by kernel_rfl)
theorem gr_7919_2 : ∃ l, mf__law_groups_right [N 7919, N 2] = .ok (.dat (.bl true)) l := y_7919_2.2
theorem gr_7919_3 : ∃ l, mf__law_groups_right [N 7919, N 3] = .ok (.dat (.bl true)) l := groups_no 7919 3 (by decide) (by decide) (by decide) (by decide)
theorem gr_7919_4 : ∃ l, mf__law_groups_right [N 7919, N 4] = .ok (.dat (.bl true)) l := groups_no 7919 4 (by decide) (by decide) (by decide) (by decide)
theorem gr_7919_5 : ∃ l, mf__law_groups_right [N 7919, N 5] = .ok (.dat (.bl true)) l := groups_no 7919 5 (by decide) (by decide) (by decide) (by decide)
theorem gr_7919_6 : ∃ l, mf__law_groups_right [N 7919, N 6] = .ok (.dat (.bl true)) l := groups_no 7919 6 (by decide) (by decide) (by decide) (by decide)
theorem gr_7919_8 : ∃ l, mf__law_groups_right [N 7919, N 8] = .ok (.dat (.bl true)) l := groups_no 7919 8 (by decide) (by decide) (by decide) (by decide)
theorem gr_7919_12 : ∃ l, mf__law_groups_right [N 7919, N 12] = .ok (.dat (.bl true)) l := groups_no 7919 12 (by decide) (by decide) (by decide) (by decide)
theorem y_7919_37 : (∃ l, mf_own_root_of_one [N 7919, N 37] = .ok (N 6) l) ∧ ∃ l, mf__law_groups_right [N 7919, N 37] = .ok (.dat (.bl true)) l := yes_of 7919 37 6 5823 (.dat (.lst [.int 37])) (I 3) (by decide) (by decide) (by decide) (by decide) (by decide) (by decide) (by kernel_rfl) (by kernel_rfl) (by decide) (by kernel_rfl)
theorem gr_7919_37 : ∃ l, mf__law_groups_right [N 7919, N 37] = .ok (.dat (.bl true)) l := y_7919_37.2
theorem y_7919_107 : (∃ l, mf_own_root_of_one [N 7919, N 107] = .ok (N 22) l) ∧ ∃ l, mf__law_groups_right [N 7919, N 107] = .ok (.dat (.bl true)) l := yes_of 7919 107 22 6451 (.dat (.lst [.int 107])) (I 3) (by decide) (by decide) (by decide) (by decide) (by decide) (by decide) (by kernel_rfl) (by kernel_rfl) (by decide) (by kernel_rfl)
theorem gr_7919_107 : ∃ l, mf__law_groups_right [N 7919, N 107] = .ok (.dat (.bl true)) l := y_7919_107.2
theorem gr_7919_256 : ∃ l, mf__law_groups_right [N 7919, N 256] = .ok (.dat (.bl true)) l := groups_no 7919 256 (by decide) (by decide) (by decide) (by decide)
theorem gr_7919_2048 : ∃ l, mf__law_groups_right [N 7919, N 2048] = .ok (.dat (.bl true)) l := groups_no 7919 2048 (by decide) (by decide) (by decide) (by decide)
theorem y_7919_3959 : (∃ l, mf_own_root_of_one [N 7919, N 3959] = .ok (N 2) l) ∧ ∃ l, mf__law_groups_right [N 7919, N 3959] = .ok (.dat (.bl true)) l := yes_of 7919 3959 2 4 (.dat (.lst [.int 37, .int 107])) (I 3) (by decide) (by decide) (by decide) (by decide) (by decide) (by decide) (by kernel_rfl) (by kernel_rfl) (by decide) (by kernel_rfl)
theorem gr_7919_3959 : ∃ l, mf__law_groups_right [N 7919, N 3959] = .ok (.dat (.bl true)) l := y_7919_3959.2
theorem y_7919_7918 : (∃ l, mf_own_root_of_one [N 7919, N 7918] = .ok (N 7) l) ∧ ∃ l, mf__law_groups_right [N 7919, N 7918] = .ok (.dat (.bl true)) l := yes_of 7919 7918 7 7 (.dat (.lst [.int 2, .int 37, .int 107])) (I 8) (by decide) (by decide) (by decide) (by decide) (by decide) (by decide) (by kernel_rfl) (by kernel_rfl) (by decide) (by kernel_rfl)
theorem gr_7919_7918 : ∃ l, mf__law_groups_right [N 7919, N 7918] = .ok (.dat (.bl true)) l := y_7919_7918.2
theorem y_65537_1 : (∃ l, mf_own_root_of_one [N 65537, N 1] = .ok (N 1) l) ∧ ∃ l, mf__law_groups_right [N 65537, N 1] = .ok (.dat (.bl true)) l := yes_of 65537 1 1 1 (.dat (.lst [])) (I 2) (by decide) (by decide) (by decide) (by decide) (by decide) (by decide) (by kernel_rfl) (by kernel_rfl) (by decide) (by kernel_rfl)
theorem gr_65537_1 : ∃ l, mf__law_groups_right [N 65537, N 1] = .ok (.dat (.bl true)) l := y_65537_1.2
theorem y_65537_2 : (∃ l, mf_own_root_of_one [N 65537, N 2] = .ok (N 65536) l) ∧ ∃ l, mf__law_groups_right [N 65537, N 2] = .ok (.dat (.bl true)) l := yes_of 65537 2 65536 65536 (.dat (.lst [.int 2])) (I 4) (by decide) (by decide) (by decide) (by decide) (by decide) (by decide) (by kernel_rfl) (by kernel_rfl) (by decide) (by kernel_rfl)
theorem gr_65537_2 : ∃ l, mf__law_groups_right [N 65537, N 2] = .ok (.dat (.bl true)) l := y_65537_2.2
theorem gr_65537_3 : ∃ l, mf__law_groups_right [N 65537, N 3] = .ok (.dat (.bl true)) l := groups_no 65537 3 (by decide) (by decide) (by decide) (by decide)
theorem y_65537_4 : (∃ l, mf_own_root_of_one [N 65537, N 4] = .ok (N 256) l) ∧ ∃ l, mf__law_groups_right [N 65537, N 4] = .ok (.dat (.bl true)) l := yes_of 65537 4 256 65281 (.dat (.lst [.int 2])) (I 4) (by decide) (by decide) (by decide) (by decide) (by decide) (by decide) (by kernel_rfl) (by kernel_rfl) (by decide) (by kernel_rfl)
theorem gr_65537_4 : ∃ l, mf__law_groups_right [N 65537, N 4] = .ok (.dat (.bl true)) l := y_65537_4.2
theorem gr_65537_5 : ∃ l, mf__law_groups_right [N 65537, N 5] = .ok (.dat (.bl true)) l := groups_no 65537 5 (by decide) (by decide) (by decide) (by decide)
theorem gr_65537_6 : ∃ l, mf__law_groups_right [N 65537, N 6] = .ok (.dat (.bl true)) l := groups_no 65537 6 (by decide) (by decide) (by decide) (by decide)
theorem y_65537_8 : (∃ l, mf_own_root_of_one [N 65537, N 8] = .ok (N 16) l) ∧ ∃ l, mf__law_groups_right [N 65537, N 8] = .ok (.dat (.bl true)) l := yes_of 65537 8 16 4096 (.dat (.lst [.int 2])) (I 4) (by decide) (by decide) (by decide) (by decide) (by decide) (by decide) (by kernel_rfl) (by kernel_rfl) (by decide) (by kernel_rfl)
theorem gr_65537_8 : ∃ l, mf__law_groups_right [N 65537, N 8] = .ok (.dat (.bl true)) l := y_65537_8.2
theorem gr_65537_12 : ∃ l, mf__law_groups_right [N 65537, N 12] = .ok (.dat (.bl true)) l := groups_no 65537 12 (by decide) (by decide) (by decide) (by decide)
theorem gr_65537_37 : ∃ l, mf__law_groups_right [N 65537, N 37] = .ok (.dat (.bl true)) l := groups_no 65537 37 (by decide) (by decide) (by decide) (by decide)
theorem gr_65537_107 : ∃ l, mf__law_groups_right [N 65537, N 107] = .ok (.dat (.bl true)) l := groups_no 65537 107 (by decide) (by decide) (by decide) (by decide)
theorem y_65537_256 : (∃ l, mf_own_root_of_one [N 65537, N 256] = .ok (N 141) l) ∧ ∃ l, mf__law_groups_right [N 65537, N 256] = .ok (.dat (.bl true)) l := yes_of 65537 256 141 282 (.dat (.lst [.int 2])) (I 4) (by decide) (by decide) (by decide) (by decide) (by decide) (by decide) (by kernel_rfl) (by kernel_rfl) (by decide) (by kernel_rfl)
theorem gr_65537_256 : ∃ l, mf__law_groups_right [N 65537, N 256] = .ok (.dat (.bl true)) l := y_65537_256.2
theorem y_65537_2048 : (∃ l, mf_own_root_of_one [N 65537, N 2048] = .ok (N 33) l) ∧ ∃ l, mf__law_groups_right [N 65537, N 2048] = .ok (.dat (.bl true)) l := yes_of 65537 2048 33 61869 (.dat (.lst [.int 2])) (I 4) (by decide) (by decide) (by decide) (by decide) (by decide) (by decide) (by kernel_rfl) (by kernel_rfl) (by decide) (by kernel_rfl)
theorem gr_65537_2048 : ∃ l, mf__law_groups_right [N 65537, N 2048] = .ok (.dat (.bl true)) l := y_65537_2048.2
theorem y_65537_32768 : (∃ l, mf_own_root_of_one [N 65537, N 32768] = .ok (N 9) l) ∧ ∃ l, mf__law_groups_right [N 65537, N 32768] = .ok (.dat (.bl true)) l := yes_of 65537 32768 9 9 (.dat (.lst [.int 2])) (I 4) (by decide) (by decide) (by decide) (by decide) (by decide) (by decide) (by kernel_rfl) (by kernel_rfl) (by decide) (by kernel_rfl)
theorem gr_65537_32768 : ∃ l, mf__law_groups_right [N 65537, N 32768] = .ok (.dat (.bl true)) l := y_65537_32768.2
theorem y_65537_65536 : (∃ l, mf_own_root_of_one [N 65537, N 65536] = .ok (N 3) l) ∧ ∃ l, mf__law_groups_right [N 65537, N 65536] = .ok (.dat (.bl true)) l := yes_of 65537 65536 3 3 (.dat (.lst [.int 2])) (I 4) (by decide) (by decide) (by decide) (by decide) (by decide) (by decide) (by kernel_rfl) (by kernel_rfl) (by decide) (by kernel_rfl)
theorem gr_65537_65536 : ∃ l, mf__law_groups_right [N 65537, N 65536] = .ok (.dat (.bl true)) l := y_65537_65536.2
/-- the orders looked at -/
abbrev OL (p : Nat) : List Nat := [1, 2, 3, 4, 5, 8, p - 1, 256, p / 2, 6, 2048, 37, 107, 12]
theorem groups_ok : ∀ p ∈ PL, ∀ o ∈ OL p, ∃ l, mf__law_groups_right [N p, N o] = .ok (.dat (.bl true)) l := by
  refine pl_cases ?_ ?_ ?_ ?_ ?_ ?_ ?_ ?_ ?_ ?_
  · intro o ho
    simp only [OL, List.mem_cons, List.not_mem_nil, or_false] at ho
    rcases ho with rfl | rfl | rfl | rfl | rfl | rfl | rfl | rfl | rfl | rfl | rfl | rfl | rfl | rfl
    · exact gr_3_1
    · exact gr_3_2
    · exact gr_3_3
    · exact gr_3_4
    · exact gr_3_5
    · exact gr_3_8
    · exact gr_3_2
    · exact gr_3_256
    · exact gr_3_1
    · exact gr_3_6
    · exact gr_3_2048
    · exact gr_3_37
    · exact gr_3_107
    · exact gr_3_12
  · intro o ho
    simp only [OL, List.mem_cons, List.not_mem_nil, or_false] at ho
    rcases ho with rfl | rfl | rfl | rfl | rfl | rfl | rfl | rfl | rfl | rfl | rfl | rfl | rfl | rfl
    · exact gr_5_1
    · exact gr_5_2
    · exact gr_5_3
    · exact gr_5_4
    · exact gr_5_5
    · exact gr_5_8
    · exact gr_5_4
    · exact gr_5_256
    · exact gr_5_2
    · exact gr_5_6
    · exact gr_5_2048
    · exact gr_5_37
    · exact gr_5_107
    · exact gr_5_12
  · intro o ho
    simp only [OL, List.mem_cons, List.not_mem_nil, or_false] at ho
    rcases ho with rfl | rfl | rfl | rfl | rfl | rfl | rfl | rfl | rfl | rfl | rfl | rfl | rfl | rfl
    · exact gr_7_1
    · exact gr_7_2
    · exact gr_7_3
    · exact gr_7_4
    · exact gr_7_5
    · exact gr_7_8
    · exact gr_7_6
    · exact gr_7_256
    · exact gr_7_3
    · exact gr_7_6
    · exact gr_7_2048
    · exact gr_7_37
    · exact gr_7_107
    · exact gr_7_12
  · intro o ho
    simp only [OL, List.mem_cons, List.not_mem_nil, or_false] at ho
    rcases ho with rfl | rfl | rfl | rfl | rfl | rfl | rfl | rfl | rfl | rfl | rfl | rfl | rfl | rfl
    · exact gr_11_1
    · exact gr_11_2
    · exact gr_11_3
    · exact gr_11_4
    · exact gr_11_5
    · exact gr_11_8
    · exact gr_11_10
    · exact gr_11_256
    · exact gr_11_5
    · exact gr_11_6
    · exact gr_11_2048
    · exact gr_11_37
    · exact gr_11_107
    · exact gr_11_12
  · intro o ho
    simp only [OL, List.mem_cons, List.not_mem_nil, or_false] at ho
    rcases ho with rfl | rfl | rfl | rfl | rfl | rfl | rfl | rfl | rfl | rfl | rfl | rfl | rfl | rfl
    · exact gr_13_1
    · exact gr_13_2
    · exact gr_13_3
    · exact gr_13_4
    · exact gr_13_5
    · exact gr_13_8
    · exact gr_13_12
    · exact gr_13_256
    · exact gr_13_6
    · exact gr_13_6
    · exact gr_13_2048
    · exact gr_13_37
    · exact gr_13_107
    · exact gr_13_12
  · intro o ho
    simp only [OL, List.mem_cons, List.not_mem_nil, or_false] at ho
    rcases ho with rfl | rfl | rfl | rfl | rfl | rfl | rfl | rfl | rfl | rfl | rfl | rfl | rfl | rfl
    · exact gr_17_1
    · exact gr_17_2
    · exact gr_17_3
    · exact gr_17_4
    · exact gr_17_5
    · exact gr_17_8
    · exact gr_17_16
    · exact gr_17_256
    · exact gr_17_8
    · exact gr_17_6
    · exact gr_17_2048
    · exact gr_17_37
    · exact gr_17_107
    · exact gr_17_12
  · intro o ho
    simp only [OL, List.mem_cons, List.not_mem_nil, or_false] at ho
    rcases ho with rfl | rfl | rfl | rfl | rfl | rfl | rfl | rfl | rfl | rfl | rfl | rfl | rfl | rfl
    · exact gr_97_1
    · exact gr_97_2
    · exact gr_97_3
    · exact gr_97_4
    · exact gr_97_5
    · exact gr_97_8
    · exact gr_97_96
    · exact gr_97_256
    · exact gr_97_48
    · exact gr_97_6
    · exact gr_97_2048
    · exact gr_97_37
    · exact gr_97_107
    · exact gr_97_12
  · intro o ho
    simp only [OL, List.mem_cons, List.not_mem_nil, or_false] at ho
    rcases ho with rfl | rfl | rfl | rfl | rfl | rfl | rfl | rfl | rfl | rfl | rfl | rfl | rfl | rfl
    · exact gr_257_1
    · exact gr_257_2
    · exact gr_257_3
    · exact gr_257_4
    · exact gr_257_5
    · exact gr_257_8
    · exact gr_257_256
    · exact gr_257_256
    · exact gr_257_128
    · exact gr_257_6
    · exact gr_257_2048
    · exact gr_257_37
    · exact gr_257_107
    · exact gr_257_12
  · intro o ho
    simp only [OL, List.mem_cons, List.not_mem_nil, or_false] at ho
    rcases ho with rfl | rfl | rfl | rfl | rfl | rfl | rfl | rfl | rfl | rfl | rfl | rfl | rfl | rfl
    · exact gr_7919_1
    · exact gr_7919_2
    · exact gr_7919_3
    · exact gr_7919_4
    · exact gr_7919_5
    · exact gr_7919_8
    · exact gr_7919_7918
    · exact gr_7919_256
    · exact gr_7919_3959
    · exact gr_7919_6
    · exact gr_7919_2048
    · exact gr_7919_37
    · exact gr_7919_107
    · exact gr_7919_12
  · intro o ho
    simp only [OL, List.mem_cons, List.not_mem_nil, or_false] at ho
    rcases ho with rfl | rfl | rfl | rfl | rfl | rfl | rfl | rfl | rfl | rfl | rfl | rfl | rfl | rfl
    · exact gr_65537_1
    · exact gr_65537_2
    · exact gr_65537_3
    · exact gr_65537_4
    · exact gr_65537_5
    · exact gr_65537_8
    · exact gr_65537_65536
    · exact gr_65537_256
    · exact gr_65537_32768
    · exact gr_65537_6
    · exact gr_65537_2048
    · exact gr_65537_37
    · exact gr_65537_107
    · exact gr_65537_12
end Lk16

namespace Lk16
open PySem PySem.Spec PyProof.Rows L2 VL VL.Ev

theorem own_1024 : ∃ l, mf_own_root_of_one [N 65537, N 1024] = .ok (N 431) l := own_root_ok 65537 1024 431 19139 (.dat (.lst [.int 2])) (I 4) .no (by decide) (by decide) (by decide) (by decide) (by kernel_rfl) (by kernel_rfl) (by decide)
theorem grp_1024 : ∃ l, mf_group_of [N 65537, N 1024] = .ok (.dat (.tup (natL (pw 65537 431 1024)))) l := by
  obtain ⟨l, e⟩ := own_1024
  exact group_of_ok 65537 1024 431 (by decide) (by decide) (by decide) (by decide) (by decide) e
theorem one_65536 : ∃ l, mf_root_of_one [N 65537, N 65536] = .ok (N 3) l := by
  obtain ⟨l, e⟩ := y_65537_65536.1
  exact root_of_one_ok 65537 65536 3 (by decide) (by decide) (by decide) (by decide) e
abbrev t0 : List D := [.tup [.str "prime", .non], .tup [.str "prime", .non], .tup [.str "prime", .non], .tup [.str "prime", .int 2], .tup [.str "prime", .int 2], .tup [.str "prime", .int 2], .tup [.str "prime", .int 4], .tup [.str "prime", .int 4], .tup [.str "prime", .int 4], .tup [.str "prime", .int 9], .tup [.str "prime", .int 9], .tup [.str "prime", .int 9], .tup [.str "prime", .int 65539], .tup [.str "prime", .int 65539], .tup [.str "prime", .int 65539], .tup [.str "prime", .bl true], .tup [.str "prime", .bl true], .tup [.str "prime", .bl true], .tup [.str "prime", .str "7"], .tup [.str "prime", .str "7"], .tup [.str "prime", .str "7"], .tup [.str "prime", .int (-7)], .tup [.str "prime", .int (-7)], .tup [.str "prime", .int (-7)], .tup [.str "prime", .int 65535], .tup [.str "prime", .int 65535], .tup [.str "prime", .int 65535], .tup [.str "prime", .lst [.int 7]], .tup [.str "prime", .lst [.int 7]], .tup [.str "prime", .lst [.int 7]]]
abbrev t1 : List D := [.tup [.str "prime", .non], .tup [.str "prime", .non], .tup [.str "prime", .non], .tup [.str "prime", .int 2], .tup [.str "prime", .int 2], .tup [.str "prime", .int 2], .tup [.str "prime", .int 4], .tup [.str "prime", .int 4], .tup [.str "prime", .int 4], .tup [.str "prime", .int 9], .tup [.str "prime", .int 9], .tup [.str "prime", .int 9], .tup [.str "prime", .int 65539], .tup [.str "prime", .int 65539], .tup [.str "prime", .int 65539], .tup [.str "prime", .bl true], .tup [.str "prime", .bl true], .tup [.str "prime", .bl true], .tup [.str "prime", .str "7"], .tup [.str "prime", .str "7"], .tup [.str "prime", .str "7"], .tup [.str "prime", .int (-7)], .tup [.str "prime", .int (-7)], .tup [.str "prime", .int (-7)], .tup [.str "prime", .int 65535], .tup [.str "prime", .int 65535], .tup [.str "prime", .int 65535], .tup [.str "prime", .lst [.int 7]], .tup [.str "prime", .lst [.int 7]], .tup [.str "prime", .lst [.int 7]], .tup [.str "remainder", .non], .tup [.str "remainder", .non], .tup [.str "remainder", .non], .tup [.str "remainder", .non], .tup [.str "remainder", .non], .tup [.str "remainder", .non], .tup [.str "remainder", .int 7], .tup [.str "remainder", .int 7], .tup [.str "remainder", .int 7], .tup [.str "remainder", .int 7], .tup [.str "remainder", .int 7], .tup [.str "remainder", .int 7], .tup [.str "remainder", .int (-1)], .tup [.str "remainder", .int (-1)], .tup [.str "remainder", .int (-1)], .tup [.str "remainder", .int (-1)], .tup [.str "remainder", .int (-1)], .tup [.str "remainder", .int (-1)], .tup [.str "remainder", .bl true], .tup [.str "remainder", .bl true], .tup [.str "remainder", .bl true], .tup [.str "remainder", .bl true], .tup [.str "remainder", .bl true], .tup [.str "remainder", .bl true], .tup [.str "remainder", .str "1"], .tup [.str "remainder", .str "1"], .tup [.str "remainder", .str "1"], .tup [.str "remainder", .str "1"], .tup [.str "remainder", .str "1"], .tup [.str "remainder", .str "1"], .tup [.str "remainder", .tup [.int 1]], .tup [.str "remainder", .tup [.int 1]], .tup [.str "remainder", .tup [.int 1]], .tup [.str "remainder", .tup [.int 1]], .tup [.str "remainder", .tup [.int 1]], .tup [.str "remainder", .tup [.int 1]], .tup [.str "remainder", .lst [.int 1]], .tup [.str "remainder", .lst [.int 1]], .tup [.str "remainder", .lst [.int 1]], .tup [.str "remainder", .lst [.int 1]], .tup [.str "remainder", .lst [.int 1]], .tup [.str "remainder", .lst [.int 1]]]
abbrev t2 : List D := [.tup [.str "prime", .non], .tup [.str "prime", .non], .tup [.str "prime", .non], .tup [.str "prime", .int 2], .tup [.str "prime", .int 2], .tup [.str "prime", .int 2], .tup [.str "prime", .int 4], .tup [.str "prime", .int 4], .tup [.str "prime", .int 4], .tup [.str "prime", .int 9], .tup [.str "prime", .int 9], .tup [.str "prime", .int 9], .tup [.str "prime", .int 65539], .tup [.str "prime", .int 65539], .tup [.str "prime", .int 65539], .tup [.str "prime", .bl true], .tup [.str "prime", .bl true], .tup [.str "prime", .bl true], .tup [.str "prime", .str "7"], .tup [.str "prime", .str "7"], .tup [.str "prime", .str "7"], .tup [.str "prime", .int (-7)], .tup [.str "prime", .int (-7)], .tup [.str "prime", .int (-7)], .tup [.str "prime", .int 65535], .tup [.str "prime", .int 65535], .tup [.str "prime", .int 65535], .tup [.str "prime", .lst [.int 7]], .tup [.str "prime", .lst [.int 7]], .tup [.str "prime", .lst [.int 7]], .tup [.str "remainder", .non], .tup [.str "remainder", .non], .tup [.str "remainder", .non], .tup [.str "remainder", .non], .tup [.str "remainder", .non], .tup [.str "remainder", .non], .tup [.str "remainder", .int 7], .tup [.str "remainder", .int 7], .tup [.str "remainder", .int 7], .tup [.str "remainder", .int 7], .tup [.str "remainder", .int 7], .tup [.str "remainder", .int 7], .tup [.str "remainder", .int (-1)], .tup [.str "remainder", .int (-1)], .tup [.str "remainder", .int (-1)], .tup [.str "remainder", .int (-1)], .tup [.str "remainder", .int (-1)], .tup [.str "remainder", .int (-1)], .tup [.str "remainder", .bl true], .tup [.str "remainder", .bl true], .tup [.str "remainder", .bl true], .tup [.str "remainder", .bl true], .tup [.str "remainder", .bl true], .tup [.str "remainder", .bl true], .tup [.str "remainder", .str "1"], .tup [.str "remainder", .str "1"], .tup [.str "remainder", .str "1"], .tup [.str "remainder", .str "1"], .tup [.str "remainder", .str "1"], .tup [.str "remainder", .str "1"], .tup [.str "remainder", .tup [.int 1]], .tup [.str "remainder", .tup [.int 1]], .tup [.str "remainder", .tup [.int 1]], .tup [.str "remainder", .tup [.int 1]], .tup [.str "remainder", .tup [.int 1]], .tup [.str "remainder", .tup [.int 1]], .tup [.str "remainder", .lst [.int 1]], .tup [.str "remainder", .lst [.int 1]], .tup [.str "remainder", .lst [.int 1]], .tup [.str "remainder", .lst [.int 1]], .tup [.str "remainder", .lst [.int 1]], .tup [.str "remainder", .lst [.int 1]], .tup [.str "number", .non], .tup [.str "number", .int (-1)], .tup [.str "number", .int 1000001], .tup [.str "number", .bl true], .tup [.str "number", .str "2"]]
abbrev t3 : List D := [.tup [.str "prime", .non], .tup [.str "prime", .non], .tup [.str "prime", .non], .tup [.str "prime", .int 2], .tup [.str "prime", .int 2], .tup [.str "prime", .int 2], .tup [.str "prime", .int 4], .tup [.str "prime", .int 4], .tup [.str "prime", .int 4], .tup [.str "prime", .int 9], .tup [.str "prime", .int 9], .tup [.str "prime", .int 9], .tup [.str "prime", .int 65539], .tup [.str "prime", .int 65539], .tup [.str "prime", .int 65539], .tup [.str "prime", .bl true], .tup [.str "prime", .bl true], .tup [.str "prime", .bl true], .tup [.str "prime", .str "7"], .tup [.str "prime", .str "7"], .tup [.str "prime", .str "7"], .tup [.str "prime", .int (-7)], .tup [.str "prime", .int (-7)], .tup [.str "prime", .int (-7)], .tup [.str "prime", .int 65535], .tup [.str "prime", .int 65535], .tup [.str "prime", .int 65535], .tup [.str "prime", .lst [.int 7]], .tup [.str "prime", .lst [.int 7]], .tup [.str "prime", .lst [.int 7]], .tup [.str "remainder", .non], .tup [.str "remainder", .non], .tup [.str "remainder", .non], .tup [.str "remainder", .non], .tup [.str "remainder", .non], .tup [.str "remainder", .non], .tup [.str "remainder", .int 7], .tup [.str "remainder", .int 7], .tup [.str "remainder", .int 7], .tup [.str "remainder", .int 7], .tup [.str "remainder", .int 7], .tup [.str "remainder", .int 7], .tup [.str "remainder", .int (-1)], .tup [.str "remainder", .int (-1)], .tup [.str "remainder", .int (-1)], .tup [.str "remainder", .int (-1)], .tup [.str "remainder", .int (-1)], .tup [.str "remainder", .int (-1)], .tup [.str "remainder", .bl true], .tup [.str "remainder", .bl true], .tup [.str "remainder", .bl true], .tup [.str "remainder", .bl true], .tup [.str "remainder", .bl true], .tup [.str "remainder", .bl true], .tup [.str "remainder", .str "1"], .tup [.str "remainder", .str "1"], .tup [.str "remainder", .str "1"], .tup [.str "remainder", .str "1"], .tup [.str "remainder", .str "1"], .tup [.str "remainder", .str "1"], .tup [.str "remainder", .tup [.int 1]], .tup [.str "remainder", .tup [.int 1]], .tup [.str "remainder", .tup [.int 1]], .tup [.str "remainder", .tup [.int 1]], .tup [.str "remainder", .tup [.int 1]], .tup [.str "remainder", .tup [.int 1]], .tup [.str "remainder", .lst [.int 1]], .tup [.str "remainder", .lst [.int 1]], .tup [.str "remainder", .lst [.int 1]], .tup [.str "remainder", .lst [.int 1]], .tup [.str "remainder", .lst [.int 1]], .tup [.str "remainder", .lst [.int 1]], .tup [.str "number", .non], .tup [.str "number", .int (-1)], .tup [.str "number", .int 1000001], .tup [.str "number", .bl true], .tup [.str "number", .str "2"], .tup [.str "number", .non], .tup [.str "number", .non], .tup [.str "number", .int 0], .tup [.str "number", .int 0], .tup [.str "number", .int 65537], .tup [.str "number", .int 65537], .tup [.str "number", .bl true], .tup [.str "number", .bl true], .tup [.str "number", .int (-2)], .tup [.str "number", .int (-2)]]
abbrev t4 : List D := [.tup [.str "prime", .non], .tup [.str "prime", .non], .tup [.str "prime", .non], .tup [.str "prime", .int 2], .tup [.str "prime", .int 2], .tup [.str "prime", .int 2], .tup [.str "prime", .int 4], .tup [.str "prime", .int 4], .tup [.str "prime", .int 4], .tup [.str "prime", .int 9], .tup [.str "prime", .int 9], .tup [.str "prime", .int 9], .tup [.str "prime", .int 65539], .tup [.str "prime", .int 65539], .tup [.str "prime", .int 65539], .tup [.str "prime", .bl true], .tup [.str "prime", .bl true], .tup [.str "prime", .bl true], .tup [.str "prime", .str "7"], .tup [.str "prime", .str "7"], .tup [.str "prime", .str "7"], .tup [.str "prime", .int (-7)], .tup [.str "prime", .int (-7)], .tup [.str "prime", .int (-7)], .tup [.str "prime", .int 65535], .tup [.str "prime", .int 65535], .tup [.str "prime", .int 65535], .tup [.str "prime", .lst [.int 7]], .tup [.str "prime", .lst [.int 7]], .tup [.str "prime", .lst [.int 7]], .tup [.str "remainder", .non], .tup [.str "remainder", .non], .tup [.str "remainder", .non], .tup [.str "remainder", .non], .tup [.str "remainder", .non], .tup [.str "remainder", .non], .tup [.str "remainder", .int 7], .tup [.str "remainder", .int 7], .tup [.str "remainder", .int 7], .tup [.str "remainder", .int 7], .tup [.str "remainder", .int 7], .tup [.str "remainder", .int 7], .tup [.str "remainder", .int (-1)], .tup [.str "remainder", .int (-1)], .tup [.str "remainder", .int (-1)], .tup [.str "remainder", .int (-1)], .tup [.str "remainder", .int (-1)], .tup [.str "remainder", .int (-1)], .tup [.str "remainder", .bl true], .tup [.str "remainder", .bl true], .tup [.str "remainder", .bl true], .tup [.str "remainder", .bl true], .tup [.str "remainder", .bl true], .tup [.str "remainder", .bl true], .tup [.str "remainder", .str "1"], .tup [.str "remainder", .str "1"], .tup [.str "remainder", .str "1"], .tup [.str "remainder", .str "1"], .tup [.str "remainder", .str "1"], .tup [.str "remainder", .str "1"], .tup [.str "remainder", .tup [.int 1]], .tup [.str "remainder", .tup [.int 1]], .tup [.str "remainder", .tup [.int 1]], .tup [.str "remainder", .tup [.int 1]], .tup [.str "remainder", .tup [.int 1]], .tup [.str "remainder", .tup [.int 1]], .tup [.str "remainder", .lst [.int 1]], .tup [.str "remainder", .lst [.int 1]], .tup [.str "remainder", .lst [.int 1]], .tup [.str "remainder", .lst [.int 1]], .tup [.str "remainder", .lst [.int 1]], .tup [.str "remainder", .lst [.int 1]], .tup [.str "number", .non], .tup [.str "number", .int (-1)], .tup [.str "number", .int 1000001], .tup [.str "number", .bl true], .tup [.str "number", .str "2"], .tup [.str "number", .non], .tup [.str "number", .non], .tup [.str "number", .int 0], .tup [.str "number", .int 0], .tup [.str "number", .int 65537], .tup [.str "number", .int 65537], .tup [.str "number", .bl true], .tup [.str "number", .bl true], .tup [.str "number", .int (-2)], .tup [.str "number", .int (-2)], .tup [.str "name", .str "zero"], .tup [.str "name", .str "zero"], .tup [.str "name", .str "zero"]]
abbrev t5 : List D := [.tup [.str "prime", .non], .tup [.str "prime", .non], .tup [.str "prime", .non], .tup [.str "prime", .int 2], .tup [.str "prime", .int 2], .tup [.str "prime", .int 2], .tup [.str "prime", .int 4], .tup [.str "prime", .int 4], .tup [.str "prime", .int 4], .tup [.str "prime", .int 9], .tup [.str "prime", .int 9], .tup [.str "prime", .int 9], .tup [.str "prime", .int 65539], .tup [.str "prime", .int 65539], .tup [.str "prime", .int 65539], .tup [.str "prime", .bl true], .tup [.str "prime", .bl true], .tup [.str "prime", .bl true], .tup [.str "prime", .str "7"], .tup [.str "prime", .str "7"], .tup [.str "prime", .str "7"], .tup [.str "prime", .int (-7)], .tup [.str "prime", .int (-7)], .tup [.str "prime", .int (-7)], .tup [.str "prime", .int 65535], .tup [.str "prime", .int 65535], .tup [.str "prime", .int 65535], .tup [.str "prime", .lst [.int 7]], .tup [.str "prime", .lst [.int 7]], .tup [.str "prime", .lst [.int 7]], .tup [.str "remainder", .non], .tup [.str "remainder", .non], .tup [.str "remainder", .non], .tup [.str "remainder", .non], .tup [.str "remainder", .non], .tup [.str "remainder", .non], .tup [.str "remainder", .int 7], .tup [.str "remainder", .int 7], .tup [.str "remainder", .int 7], .tup [.str "remainder", .int 7], .tup [.str "remainder", .int 7], .tup [.str "remainder", .int 7], .tup [.str "remainder", .int (-1)], .tup [.str "remainder", .int (-1)], .tup [.str "remainder", .int (-1)], .tup [.str "remainder", .int (-1)], .tup [.str "remainder", .int (-1)], .tup [.str "remainder", .int (-1)], .tup [.str "remainder", .bl true], .tup [.str "remainder", .bl true], .tup [.str "remainder", .bl true], .tup [.str "remainder", .bl true], .tup [.str "remainder", .bl true], .tup [.str "remainder", .bl true], .tup [.str "remainder", .str "1"], .tup [.str "remainder", .str "1"], .tup [.str "remainder", .str "1"], .tup [.str "remainder", .str "1"], .tup [.str "remainder", .str "1"], .tup [.str "remainder", .str "1"], .tup [.str "remainder", .tup [.int 1]], .tup [.str "remainder", .tup [.int 1]], .tup [.str "remainder", .tup [.int 1]], .tup [.str "remainder", .tup [.int 1]], .tup [.str "remainder", .tup [.int 1]], .tup [.str "remainder", .tup [.int 1]], .tup [.str "remainder", .lst [.int 1]], .tup [.str "remainder", .lst [.int 1]], .tup [.str "remainder", .lst [.int 1]], .tup [.str "remainder", .lst [.int 1]], .tup [.str "remainder", .lst [.int 1]], .tup [.str "remainder", .lst [.int 1]], .tup [.str "number", .non], .tup [.str "number", .int (-1)], .tup [.str "number", .int 1000001], .tup [.str "number", .bl true], .tup [.str "number", .str "2"], .tup [.str "number", .non], .tup [.str "number", .non], .tup [.str "number", .int 0], .tup [.str "number", .int 0], .tup [.str "number", .int 65537], .tup [.str "number", .int 65537], .tup [.str "number", .bl true], .tup [.str "number", .bl true], .tup [.str "number", .int (-2)], .tup [.str "number", .int (-2)], .tup [.str "name", .str "zero"], .tup [.str "name", .str "zero"], .tup [.str "name", .str "zero"], .tup [.str "name", .str "order"], .tup [.str "many", .int 1024], .lst [.int 1024]]
abbrev t6 : List D := [.tup [.str "prime", .non], .tup [.str "prime", .non], .tup [.str "prime", .non], .tup [.str "prime", .int 2], .tup [.str "prime", .int 2], .tup [.str "prime", .int 2], .tup [.str "prime", .int 4], .tup [.str "prime", .int 4], .tup [.str "prime", .int 4], .tup [.str "prime", .int 9], .tup [.str "prime", .int 9], .tup [.str "prime", .int 9], .tup [.str "prime", .int 65539], .tup [.str "prime", .int 65539], .tup [.str "prime", .int 65539], .tup [.str "prime", .bl true], .tup [.str "prime", .bl true], .tup [.str "prime", .bl true], .tup [.str "prime", .str "7"], .tup [.str "prime", .str "7"], .tup [.str "prime", .str "7"], .tup [.str "prime", .int (-7)], .tup [.str "prime", .int (-7)], .tup [.str "prime", .int (-7)], .tup [.str "prime", .int 65535], .tup [.str "prime", .int 65535], .tup [.str "prime", .int 65535], .tup [.str "prime", .lst [.int 7]], .tup [.str "prime", .lst [.int 7]], .tup [.str "prime", .lst [.int 7]], .tup [.str "remainder", .non], .tup [.str "remainder", .non], .tup [.str "remainder", .non], .tup [.str "remainder", .non], .tup [.str "remainder", .non], .tup [.str "remainder", .non], .tup [.str "remainder", .int 7], .tup [.str "remainder", .int 7], .tup [.str "remainder", .int 7], .tup [.str "remainder", .int 7], .tup [.str "remainder", .int 7], .tup [.str "remainder", .int 7], .tup [.str "remainder", .int (-1)], .tup [.str "remainder", .int (-1)], .tup [.str "remainder", .int (-1)], .tup [.str "remainder", .int (-1)], .tup [.str "remainder", .int (-1)], .tup [.str "remainder", .int (-1)], .tup [.str "remainder", .bl true], .tup [.str "remainder", .bl true], .tup [.str "remainder", .bl true], .tup [.str "remainder", .bl true], .tup [.str "remainder", .bl true], .tup [.str "remainder", .bl true], .tup [.str "remainder", .str "1"], .tup [.str "remainder", .str "1"], .tup [.str "remainder", .str "1"], .tup [.str "remainder", .str "1"], .tup [.str "remainder", .str "1"], .tup [.str "remainder", .str "1"], .tup [.str "remainder", .tup [.int 1]], .tup [.str "remainder", .tup [.int 1]], .tup [.str "remainder", .tup [.int 1]], .tup [.str "remainder", .tup [.int 1]], .tup [.str "remainder", .tup [.int 1]], .tup [.str "remainder", .tup [.int 1]], .tup [.str "remainder", .lst [.int 1]], .tup [.str "remainder", .lst [.int 1]], .tup [.str "remainder", .lst [.int 1]], .tup [.str "remainder", .lst [.int 1]], .tup [.str "remainder", .lst [.int 1]], .tup [.str "remainder", .lst [.int 1]], .tup [.str "number", .non], .tup [.str "number", .int (-1)], .tup [.str "number", .int 1000001], .tup [.str "number", .bl true], .tup [.str "number", .str "2"], .tup [.str "number", .non], .tup [.str "number", .non], .tup [.str "number", .int 0], .tup [.str "number", .int 0], .tup [.str "number", .int 65537], .tup [.str "number", .int 65537], .tup [.str "number", .bl true], .tup [.str "number", .bl true], .tup [.str "number", .int (-2)], .tup [.str "number", .int (-2)], .tup [.str "name", .str "zero"], .tup [.str "name", .str "zero"], .tup [.str "name", .str "zero"], .tup [.str "name", .str "order"], .tup [.str "many", .int 1024], .lst [.int 1024], .tup [.str "name", .str "order"], .tup [.str "name", .str "order"]]
abbrev Z (x : Sl) (t u : List D) : VL.Env := [x, .ol t, .ol u]
noncomputable abbrev r0 : SF := (sPar 1 2 (aCons (eLst aNil) (aCons (eLst aNil) aNil)))
noncomputable abbrev r1 : SF := (sFor (iVal (eTup (aCons (eC .non) (aCons (eC (.int 2)) (aCons (eC (.int 4)) (aCons (eC (.int 9)) (aCons (eC (.int 65539)) (aCons (eC (.bl true)) (aCons (eC (.str "7")) (aCons (eUn gNeg (eC (.int 7))) (aCons (eC (.int 65535)) (aCons (eLst (aCons (eC (.int 7)) aNil)) aNil)))))))))))) (gNm 0) bd__law_refused_0)
noncomputable abbrev r2 : SF := (sFor (iVal (eTup (aCons (eC .non) (aCons (eC (.int 7)) (aCons (eUn gNeg (eC (.int 1))) (aCons (eC (.bl true)) (aCons (eC (.str "1")) (aCons (eTup (aCons (eC (.int 1)) aNil)) (aCons (eLst (aCons (eC (.int 1)) aNil)) aNil))))))))) (gNm 0) bd__law_refused_1)
noncomputable abbrev r3 : SF := (sFor (iVal (eTup (aCons (eC .non) (aCons (eUn gNeg (eC (.int 1))) (aCons (eC (.int 1000001)) (aCons (eC (.bl true)) (aCons (eC (.str "2")) aNil))))))) (gNm 0) bd__law_refused_2)
noncomputable abbrev r4 : SF := (sFor (iVal (eTup (aCons (eC .non) (aCons (eC (.int 0)) (aCons (eC (.int 65537)) (aCons (eC (.bl true)) (aCons (eUn gNeg (eC (.int 2))) aNil))))))) (gNm 0) bd__law_refused_3)
noncomputable abbrev r5 : SF := (sSet 1 (eAdd (eVar 1) (eLst (aCons (eLam tr__law_told [] (eFn 2 [] mf_inverse_of (aCons (eC (.int 7)) (aCons (eC (.int 0)) aNil)))) (aCons (eLam tr__law_told [] (eFn 3 [] mf_quotient_of (aCons (eC (.int 7)) (aCons (eC (.int 3)) (aCons (eC (.int 0)) aNil))))) (aCons (eLam tr__law_told [] (eFn 2 [] mf_order_of (aCons (eC (.int 7)) (aCons (eC (.int 0)) aNil)))) aNil))))))
noncomputable abbrev r6 : SF := (sSet 1 (eAdd (eVar 1) (eLst (aCons (eLam tr__law_told [] (eFn 2 [] mf_root_of_one (aCons (eC (.int 7)) (aCons (eC (.int 65536)) aNil)))) (aCons (eLam tr__law_told [] (eFn 2 [] mf_group_of (aCons (eC (.int 65537)) (aCons (eC (.int 2048)) aNil)))) (aCons (eLam tr__law_told [] (eCall (g1 gLen) (aCons (eFn 2 [] mf_group_of (aCons (eC (.int 65537)) (aCons (eC (.int 1024)) aNil))) aNil))) aNil))))))
noncomputable abbrev r7 : SF := (sSet 2 (eAdd (eAdd (eVar 2) (eOp gMulA (eLst (aCons (eTup (aCons (eC (.str "name")) (aCons (eC (.str "zero")) aNil))) aNil)) (eC (.int 3)))) (eLst (aCons (eTup (aCons (eC (.str "name")) (aCons (eC (.str "order")) aNil))) (aCons (eTup (aCons (eC (.str "many")) (aCons (eC (.int 1024)) aNil))) (aCons (eLst (aCons (eC (.int 1024)) aNil)) aNil))))))
noncomputable abbrev r8 : SF := (sPar 1 2 (aCons (eAdd (eVar 1) (eLst (aCons (eLam tr__law_told [] (eFn 2 [] mf_group_of (aCons (eC (.int 7)) (aCons (eC (.int 65536)) aNil)))) (aCons (eLam tr__law_told [] (eFn 2 [] mf_group_of (aCons (eC (.int 7)) (aCons (eC (.int 1025)) aNil)))) aNil)))) (aCons (eAdd (eVar 2) (eOp gMulA (eLst (aCons (eTup (aCons (eC (.str "name")) (aCons (eC (.str "order")) aNil))) aNil)) (eC (.int 2)))) aNil)))
noncomputable abbrev r9 : SF := (sSet 1 (eAdd (eVar 1) (eLst (aCons (eFn 2 [] mf_root_of_one (aCons (eC (.int 65537)) (aCons (eC (.int 65536)) aNil))) (aCons (eFn 3 [] mf_power_of (aCons (eC (.int 7)) (aCons (eC (.int 0)) (aCons (eC (.int 0)) aNil)))) (aCons (eFn 3 [] mf_power_of (aCons (eC (.int 7)) (aCons (eC (.int 3)) (aCons (eC (.int 1000000)) aNil)))) (aCons (eFn 2 [] mf_root_of (aCons (eC (.int 7)) (aCons (eC (.int 0)) aNil))) (aCons (eFn 2 [] mf_root_of (aCons (eC (.int 7)) (aCons (eC (.int 2)) aNil))) (aCons (eFn 2 [] mf_order_of (aCons (eC (.int 3)) (aCons (eC (.int 2)) aNil))) (aCons (eFn 2 [] mf_root_of_one (aCons (eC (.int 13)) (aCons (eC (.int 4)) aNil))) (aCons (eFn 2 [] mf_inverse_of (aCons (eC (.int 65537)) (aCons (eC (.int 65536)) aNil))) aNil)))))))))))
noncomputable abbrev r10 : SF := (sRet (eOp (gEqA false) (eCall (g1 gRepr) (aCons (eVar 1) aNil)) (eCall (g1 gRepr) (aCons (eAdd (eVar 2) (eLst (aCons (eC (.int 3)) (aCons (eC (.int 1)) (aCons (eC (.int 4)) (aCons (eC (.int 0)) (aCons (eC (.int 3)) (aCons (eC (.int 2)) (aCons (eC (.int 5)) (aCons (eC (.int 65536)) aNil)))))))))) aNil))))
theorem m_refused_eq : m__law_refused = sSeq r0 (sSeq r1 (sSeq r2 (sSeq r3 (sSeq r4 (sSeq r5 (sSeq r6 (sSeq r7 (sSeq r8 (sSeq r9 (r10)))))))))) := by kernel_rfl
theorem r0_ok : r0 [.no, .no, .no] = .nx (Z .no [] []) := by kernel_rfl
theorem r1_ok : r1 (Z .no [] []) = .nx (Z (.dat (.lst [.int 7])) t0 t0) := by kernel_rfl
theorem r2_ok : r2 (Z (.dat (.lst [.int 7])) t0 t0) = .nx (Z (.dat (.lst [.int 1])) t1 t1) := by kernel_rfl
theorem r3_ok : r3 (Z (.dat (.lst [.int 1])) t1 t1) = .nx (Z (.dat (.str "2")) t2 t2) := by kernel_rfl
theorem r4_ok : r4 (Z (.dat (.str "2")) t2 t2) = .nx (Z (.dat (.int (-2))) t3 t3) := by kernel_rfl
theorem r5_ok : r5 (Z (.dat (.int (-2))) t3 t3) = .nx [(.dat (.int (-2))), .ol t4, .ol t3] := by kernel_rfl
theorem c6_ok : (eLam tr__law_told [] (eCall (g1 gLen) (aCons (eFn 2 [] mf_group_of (aCons (eC (.int 65537)) (aCons (eC (.int 1024)) aNil))) aNil))) [(.dat (.int (-2))), .dat (.lst t4), .ol t3] = .ok (.ol [.int 1024], [(.dat (.int (-2))), .dat (.lst t4), .ol t3]) := by
  obtain ⟨l, e⟩ := grp_1024
  refine lam_okd (s := .no) (E2 := [.no, .no, .no]) (E3 := [.no, .no, .no]) (by kernel_rfl) (by kernel_rfl) (ecall_of (ss := [.dat (.tup (natL (pw 65537 431 1024)))]) (acons_of (efn_of (ss0 := [N 65537, N 1024]) (ss := [N 65537, N 1024]) (by rfl) rfl rfl e rfl) rfl) ?_)
  show some (Sl.dat (.int ((natL (pw 65537 431 1024)).length : Nat))) = _
  rw [List.length_map, List.length_map, List.length_range]
  rfl
theorem r6_ok : r6 [(.dat (.int (-2))), .ol t4, .ol t3] = .nx [(.dat (.int (-2))), .ol t5, .ol t3] := by
  refine set_of (r := .ol t5) (E1 := [(.dat (.int (-2))), .dat (.lst t4), .ol t3]) (op_of (x := .dat (.lst t4)) (y := .ol [.tup [.str "name", .str "order"], .tup [.str "many", .int 1024], .lst [.int 1024]]) (E1 := [(.dat (.int (-2))), .dat (.lst t4), .ol t3]) (by kernel_rfl) (elst_of (ss := [.dat (.tup [.str "name", .str "order"]), .dat (.tup [.str "many", .int 1024]), .ol [.int 1024]]) (acons_of (E1 := [(.dat (.int (-2))), .dat (.lst t4), .ol t3]) (by kernel_rfl) (acons_of (E1 := [(.dat (.int (-2))), .dat (.lst t4), .ol t3]) (by kernel_rfl) (acons_of c6_ok (by kernel_rfl)))) (by kernel_rfl) (by show 3 ≤ 16777216; decide)) (by kernel_rfl)) (by kernel_rfl)
theorem r7_ok : r7 [(.dat (.int (-2))), .ol t5, .ol t3] = .nx [(.dat (.int (-2))), .ol t5, .ol t5] := by kernel_rfl
theorem r8_ok : r8 [(.dat (.int (-2))), .ol t5, .ol t5] = .nx [(.dat (.int (-2))), .ol t6, .ol t6] := by kernel_rfl
abbrev fin : List D := [.int 3, .int 1, .int 4, .int 0, .int 3, .int 2, .int 5, .int 65536]
theorem r9_ok : r9 [(.dat (.int (-2))), .ol t6, .ol t6] = .nx [(.dat (.int (-2))), .ol (t6 ++ fin), .ol t6] := by
  obtain ⟨l, e⟩ := one_65536
  refine set_of (r := .ol (t6 ++ fin)) (E1 := [(.dat (.int (-2))), .dat (.lst t6), .ol t6]) (op_of (x := .dat (.lst t6)) (y := .ol fin) (E1 := [(.dat (.int (-2))), .dat (.lst t6), .ol t6]) (by kernel_rfl) (elst_of (ss := fin.map .dat) (acons_of (E1 := [(.dat (.int (-2))), .dat (.lst t6), .ol t6]) (efn_of (ss0 := [N 65537, N 65536]) (ss := [N 65537, N 65536]) (by rfl) rfl rfl e rfl) (acons_of (E1 := [(.dat (.int (-2))), .dat (.lst t6), .ol t6]) (by kernel_rfl) (acons_of (E1 := [(.dat (.int (-2))), .dat (.lst t6), .ol t6]) (by kernel_rfl) (acons_of (E1 := [(.dat (.int (-2))), .dat (.lst t6), .ol t6]) (by kernel_rfl) (acons_of (E1 := [(.dat (.int (-2))), .dat (.lst t6), .ol t6]) (by kernel_rfl) (acons_of (E1 := [(.dat (.int (-2))), .dat (.lst t6), .ol t6]) (by kernel_rfl) (acons_of (E1 := [(.dat (.int (-2))), .dat (.lst t6), .ol t6]) (by kernel_rfl) (acons_of (E1 := [(.dat (.int (-2))), .dat (.lst t6), .ol t6]) (by kernel_rfl) (by kernel_rfl))))))))) (by kernel_rfl) (by show 8 ≤ 16777216; decide)) (by kernel_rfl)) (by kernel_rfl)
abbrev all : D := .lst (t6 ++ fin)
theorem repr_all {s : Sl} (h : s.d? = some all) : gRepr s = some (.dat (.str all.py.shown)) := repr_of h (by decide +kernel) (by decide +kernel) (by decide +kernel)
theorem r10_gen (x : Sl) (t : List D) (z : Str) (h1 : gRepr (.dat (.lst (t ++ fin))) = some (.dat (.str z))) (h2 : gRepr (.ol (t ++ fin)) = some (.dat (.str z))) (h3 : gAdd (.dat (.lst t)) (.ol fin) = some (.ol (t ++ fin))) : r10 [x, .ol (t ++ fin), .ol t] = .rt (.dat (.bl true)) [x, .dat (.lst (t ++ fin)), .dat (.lst t)] := by
  refine ret_of (op_of (x := .dat (.str z)) (y := .dat (.str z)) (E1 := [x, .dat (.lst (t ++ fin)), .ol t]) (ecall_of (ss := [.dat (.lst (t ++ fin))]) (by rfl) h1) (ecall_of (ss := [.ol (t ++ fin)]) (acons_of (E1 := [x, .dat (.lst (t ++ fin)), .dat (.lst t)]) (op_of (x := .dat (.lst t)) (y := .ol fin) (E1 := [x, .dat (.lst (t ++ fin)), .dat (.lst t)]) (by rfl) (by rfl) h3) (by rfl)) h2) (gEq_same false z))
theorem r10_ok : r10 [(.dat (.int (-2))), .ol (t6 ++ fin), .ol t6] = .rt (.dat (.bl true)) [(.dat (.int (-2))), .dat all, .dat (.lst t6)] :=
  r10_gen ((.dat (.int (-2)))) t6 all.py.shown (repr_all rfl) (repr_all rfl) (by kernel_rfl)
theorem refused_ok : ∃ l, mf__law_refused [] = .ok (.dat (.bl true)) l := by
  refine ⟨_, mf_ret (E := [(.dat (.int (-2))), .dat all, .dat (.lst t6)]) ?_ rfl⟩
  show m__law_refused [.no, .no, .no] = _
  rw [m_refused_eq]
  exact seq_nx r0_ok (seq_nx r1_ok (seq_nx r2_ok (seq_nx r3_ok (seq_nx r4_ok (seq_nx r5_ok (seq_nx r6_ok (seq_nx r7_ok (seq_nx r8_ok (seq_nx r9_ok r10_ok)))))))))
end Lk16

namespace Lk16
open PySem PySem.Spec PyProof.Rows L2 VL VL.Ev

theorem ix_nat (ns : List Nat) (i : Nat) (n : Nat) (h : ns[i]? = some n) : gIx (.ol (natL ns)) (N i) = some (N n) := by
  have hl : i < ns.length := by
    refine Classical.byContradiction fun z => ?_
    rw [List.getElem?_eq_none (by omega)] at h
    cases h
  have e : L2.ixN (natL ns).length (i : Int) = some i := by
    unfold L2.ixN
    rw [if_pos (by omega), if_pos (by rw [List.length_map]; omega)]
    congr 1
  show ((some (natL ns)).bind fun ds => (L2.atI ds (i : Int)).map Sl.dat) = _
  rw [Option.bind_some]
  unfold L2.atI
  rw [e, Option.bind_some, List.getElem?_map, h]
  rfl
theorem prime_ok (l c t : Int) (hl : 0 ≤ l) (ht : 0 ≤ t) (ht2 : t ≤ 40000) : ∃ l' t' p, p ∈ PL ∧ 0 ≤ l' ∧ 0 ≤ t' ∧ t' ≤ t + 4 ∧ mf__law_prime [.od (some 0) (kvs l c t)] = .ok (N p) (some (kvs l' c t')) := by
  obtain ⟨l', t', r, hl', ht', tb, hr, hr2, e⟩ := digit_ok l c t 10 hl ht (by omega) (by decide) (dfits (by decide) (by decide))
  obtain ⟨r, rfl⟩ := Int.eq_ofNat_of_zero_le hr
  have hr3 : r < PL.length := by show r < 10; omega
  refine ⟨l', t', PL[r], List.getElem_mem hr3, hl', ht', tb, ?_⟩
  refine mf_ret (E := [.od (some 0) (kvs l' c t')]) ?_ rfl
  show m__law_prime [.od (some 0) (kvs l c t)] = _
  unfold m__law_prime
  refine ret_of (op_of (x := .ol (natL PL)) (y := N r) (E1 := [.od (some 0) (kvs l c t)]) (by kernel_rfl) (efnD_of (t := some 0) (kv := kvs l c t) (ss0 := [I 10]) (ss := [I 10]) (E1 := [.no]) (by kernel_rfl) (by kernel_rfl) (by kernel_rfl) rfl e rfl (by kernel_rfl)) (ix_nat PL r _ (List.getElem?_eq_getElem hr3)))
abbrev Y (ns : List Int) (k c s3 s4 s5 : Sl) : VL.Env := [.lk (ns.map D.int), k, c, s3, s4, s5]
def eOL : EF := (eLst (aCons (eC (.int 1)) (aCons (eC (.int 2)) (aCons (eC (.int 3)) (aCons (eC (.int 4)) (aCons (eC (.int 5)) (aCons (eC (.int 8)) (aCons (eSub (eVar 4) (eC (.int 1))) (aCons (eC (.int 256)) (aCons (eDiv (eVar 4) (eC (.int 2))) (aCons (eC (.int 6)) (aCons (eC (.int 2048)) (aCons (eC (.int 37)) (aCons (eC (.int 107)) (aCons (eC (.int 12)) aNil)))))))))))))))
theorem bdl : bd_law_0 = sSeq (sSet 3 (eFn 2 [] mf__law_draw (aCons (eVar 2) (aCons (eVar 1) aNil)))) (sSeq (sSet 4 (eFnD 3 1 [] mf__law_prime aNil)) (sSeq (sSet 5 (eOp gIx eOL (eFnD 3 2 [] mf__law_digit (aCons (eC (.int 14)) aNil))))
    (sIf (tfOr (tfNot (tfV (eFnD 3 2 [] mf__law_single_right (aCons (eVar 4) aNil)))) (tfNot (tfV (eFn 2 [] mf__law_groups_right (aCons (eVar 4) (aCons (eVar 5) aNil)))))) (sRet (eC (.bl false))) sNx))) := by kernel_rfl
theorem eOL_ok (ns : List Int) (k c s3 s5 : Sl) (p : Nat) (hp : 0 < p) : eOL (Y ns k c s3 (N p) s5) = .ok (.ol (natL (OL p)), Y ns k c s3 (N p) s5) := by
  have e1 : ((p - 1 : Nat) : Int) = (p : Int) - 1 := by omega
  have e2 : ((p / 2 : Nat) : Int) = (p : Int) / 2 := by omega
  have z : natL (OL p) = [.int 1, .int 2, .int 3, .int 4, .int 5, .int 8, .int ((p : Int) - 1), .int 256, .int ((p : Int) / 2), .int 6, .int 2048, .int 37, .int 107, .int 12] := by
    show [D.int 1, D.int 2, D.int 3, D.int 4, D.int 5, D.int 8, D.int ((p - 1 : Nat) : Int), D.int 256, D.int ((p / 2 : Nat) : Int), D.int 6, D.int 2048, D.int 37, D.int 107, D.int 12] = _
    rw [e1, e2]
  rw [z]
  have gen : ∀ q : Int, eOL [.lk (ns.map D.int), k, c, s3, I q, s5] = .ok (.ol [.int 1, .int 2, .int 3, .int 4, .int 5, .int 8, .int (q - 1), .int 256, .int (q / 2), .int 6, .int 2048, .int 37, .int 107, .int 12], [.lk (ns.map D.int), k, c, s3, I q, s5]) := fun q => by kernel_rfl
  exact gen p
theorem body_ok (ns : List Int) (s3 s4 s5 : Sl) (k c : Int) (hk : 0 ≤ k) (hk2 : k ≤ 39) : ∃ s3' s4' s5', bd_law_0 (Y ns (I k) (I c) s3 s4 s5) = .nx (Y ns (I k) (I c) s3' s4' s5') := by
  obtain ⟨l0, hl0, q, e1⟩ := draw_ok c k
  obtain ⟨l1, t1, p, hp, hl1, ht1, b1, e2⟩ := prime_ok l0 c (1000 * k) hl0 (by omega) (by omega)
  obtain ⟨l2, t2, r, hl2, ht2, b2, hr, hr2, e3⟩ := digit_ok l1 c t1 14 hl1 ht1 (by omega) (by decide) (dfits (by decide) (by decide))
  obtain ⟨r, rfl⟩ := Int.eq_ofNat_of_zero_le hr
  obtain ⟨l3, t3, hl3, ht3, b3, e4⟩ := single_ok l2 c t2 p hp hl2 ht2 (by omega)
  have hb := pl_big p hp
  have hr3 : r < (OL p).length := by show r < 14; omega
  obtain ⟨lg, e5⟩ := groups_ok p hp (OL p)[r] (List.getElem_mem hr3)
  have hix := ix_nat (OL p) r _ (List.getElem?_eq_getElem hr3)
  generalize (OL p)[r] = o at e5 hix
  refine ⟨.od none (kvs l3 c t3), N p, N o, ?_⟩
  rw [bdl]
  refine seq_nx (E1 := Y ns (I k) (I c) (.od none (kvs l0 c (1000 * k))) s4 s5) (set_of (efn_of (ss0 := [I c, I k]) (ss := [I c, I k]) (E1 := Y ns (I k) (I c) s3 s4 s5) (by kernel_rfl) (by kernel_rfl) rfl e1 rfl) (by kernel_rfl)) ?_
  refine seq_nx (E1 := Y ns (I k) (I c) (.od none (kvs l1 c t1)) (N p) s5) (set_of (E1 := Y ns (I k) (I c) (.od none (kvs l1 c t1)) s4 s5) (efnD_of (t := none) (kv := kvs l0 c (1000 * k)) (ss0 := []) (ss := []) (E1 := Y ns (I k) (I c) .no s4 s5) (by kernel_rfl) (by kernel_rfl) (by kernel_rfl) rfl e2 rfl (by kernel_rfl)) (by kernel_rfl)) ?_
  refine seq_nx (E1 := Y ns (I k) (I c) (.od none (kvs l2 c t2)) (N p) (N o)) (set_of (E1 := Y ns (I k) (I c) (.od none (kvs l2 c t2)) (N p) s5) (op_of (y := N r) (eOL_ok ns (I k) (I c) (.od none (kvs l1 c t1)) s5 p (by omega)) (efnD_of (t := none) (kv := kvs l1 c t1) (ss0 := [I 14]) (ss := [I 14]) (E1 := Y ns (I k) (I c) .no (N p) s5) (by kernel_rfl) (by kernel_rfl) (by kernel_rfl) rfl e3 rfl (by kernel_rfl)) hix) (by kernel_rfl)) ?_
  refine if_no (E1 := Y ns (I k) (I c) (.od none (kvs l3 c t3)) (N p) (N o)) (or_no (E1 := Y ns (I k) (I c) (.od none (kvs l3 c t3)) (N p) (N o)) (not_of (b := true) (val_of ?_)) (not_of (b := true) (val_of ?_))) (by kernel_rfl)
  · exact efnD_of (t := none) (kv := kvs l2 c t2) (ss0 := [N p]) (ss := [N p]) (E1 := Y ns (I k) (I c) .no (N p) (N o)) (by kernel_rfl) (by kernel_rfl) (by kernel_rfl) rfl e4 rfl (by kernel_rfl)
  · exact efn_of (ss0 := [N p, N o]) (ss := [N p, N o]) (by kernel_rfl) (by kernel_rfl) rfl e5 rfl
abbrev gkc : GF := gTp 2 (gsCons (gNm 1) (gsCons (gNm 2) gsNil))
theorem law_loop (ns : List Int) : ∀ (cs : List Int) (j : Nat) (s1 s2 s3 s4 s5 : Sl), j + cs.length ≤ 39 → ∃ s1' s2' s3' s4' s5', loopS gkc bd_law_0 (enumD j (cs.map D.int)) (Y ns s1 s2 s3 s4 s5) = .nx (Y ns s1' s2' s3' s4' s5')
  | [], j, s1, s2, s3, s4, s5, _ => ⟨s1, s2, s3, s4, s5, by unfold List.map enumD loopS; rfl⟩
  | c :: cs, j, s1, s2, s3, s4, s5, h => by
    have h : j + (cs.length + 1) ≤ 39 := h
    obtain ⟨a3, a4, a5, e⟩ := body_ok ns s3 s4 s5 (j : Nat) c (by omega) (by omega)
    obtain ⟨b1, b2, b3, b4, b5, e2⟩ := law_loop ns cs (j + 1) (I (j : Nat)) (I c) a3 a4 a5 (by omega)
    exact ⟨b1, b2, b3, b4, b5, loop_nx (E1 := Y ns (I (j : Nat)) (I c) s3 s4 s5) (by kernel_rfl) e e2⟩
theorem cut3 (ds : List D) : (VL.cutD ds none (some 3)).length ≤ 3 := by
  unfold VL.cutD
  rw [List.length_take]
  have e : HT.sIx ds.length ds.length (some 3) ≤ 3 := by
    show (if (3 : Int) < 0 then ((3 : Int) + (ds.length : Int)).toNat else min (3 : Int).toNat ds.length) ≤ 3
    rw [if_neg (by decide)]
    exact Nat.min_le_left _ _
  omega
theorem cut_map3 (ns : List Int) : ∃ cs : List Int, VL.cutD (ns.map D.int) none (some 3) = cs.map D.int := by
  unfold VL.cutD
  exact ⟨_, by rw [← List.map_drop, ← List.map_take]⟩
theorem law_ok (ns : List Int) : Yes mf_law ns := by
  obtain ⟨cs, hcs⟩ := cut_map3 ns
  have hl := cut3 (ns.map D.int)
  rw [hcs, List.length_map] at hl
  obtain ⟨s1, s2, s3, s4, s5, e⟩ := law_loop ns (cs ++ [ns.sum]) 0 .no .no .no .no .no (by simp; omega)
  have hitems : iEn (aCons (eAdd (eCut (eVar 0) oNone (oSome (eC (.int 3)))) (eLst (aCons (eCall (g1 gSum) (aCons (eVar 0) aNil)) aNil))) aNil) (Y ns .no .no .no .no .no) = .ok (enumD 0 ((cs ++ [ns.sum]).map D.int), Y ns .no .no .no .no .no) := by
    have ha : eCut (eVar 0) oNone (oSome (eC (.int 3))) (Y ns .no .no .no .no .no) = .ok (.ol (cs.map D.int), Y ns .no .no .no .no .no) := by
      rw [← hcs]
      kernel_rfl
    have hs : g1 gSum [.lk (ns.map D.int)] = some (I ns.sum) := by
      show ((some (ns.map D.int)).bind ints?).map (fun ns => Sl.dat (.int ns.sum)) = _
      rw [Option.bind_some, Ev.ints_map]
      rfl
    have hb : eLst (aCons (eCall (g1 gSum) (aCons (eVar 0) aNil)) aNil) (Y ns .no .no .no .no .no) = .ok (.ol [.int ns.sum], Y ns .no .no .no .no .no) :=
      elst_of (ss := [I ns.sum]) (acons_of (E1 := Y ns .no .no .no .no .no) (ecall_of (ss := [.lk (ns.map D.int)]) (by kernel_rfl) hs) (by kernel_rfl)) (by kernel_rfl) (by show 1 ≤ 16777216; decide)
    have hadd : eAdd (eCut (eVar 0) oNone (oSome (eC (.int 3)))) (eLst (aCons (eCall (g1 gSum) (aCons (eVar 0) aNil)) aNil)) (Y ns .no .no .no .no .no) = .ok (.ol ((cs ++ [ns.sum]).map D.int), Y ns .no .no .no .no .no) := by
      rw [List.map_append]
      exact op_of ha hb (gAdd_l _ _ (by rw [List.length_map]; show _ + 1 ≤ 16777216; omega))
    exact ien_of (acons_of (E1 := Y ns .no .no .no .no .no) hadd (by kernel_rfl)) rfl
  obtain ⟨lg, eg⟩ := y_7919_3959.2
  obtain ⟨lr, er⟩ := refused_ok
  refine ⟨_, mf_ret (E := Y ns s1 s2 s3 s4 s5) ?_ rfl⟩
  show m_law (Y ns .no .no .no .no .no) = _
  unfold m_law
  refine seq_nx (for_of hitems e) (ret_of (and_t (E1 := Y ns s1 s2 s3 s4 s5) ?_ ?_))
  · exact efn_of (ss0 := [N 7919, N 3959]) (ss := [N 7919, N 3959]) (by rfl) rfl rfl eg rfl
  · exact efn_of (ss0 := []) (ss := []) (by rfl) rfl rfl er rfl
end Lk16

open PySem PySem.W PySem.Calls PyProof.Rows
theorem PySem.Challenge.cw_runsbelieved_k16_whole_remainders_orders_holds : PySem.Challenge.rw_runsbelieved_k16_whole_remainders_orders.Holds := by
  w_on; o_law
  refine HandSHeadRun.head_imp (r := OpenLaw.row PySem.Challenge.rw_runsbelieved_k16_whole_remainders_orders) (q := view (OpenLaw.row PySem.Challenge.rw_runsbelieved_k16_whole_remainders_orders).prog [0, 49]) (H := Lk16.hk) (ob := Lk16.ob) (M := 40000) (loose := Lk16.loose) (d := HandSHeadRun.topDef (OpenLaw.row PySem.Challenge.rw_runsbelieved_k16_whole_remainders_orders).prog 49) (kwd := []) Lk16.ob_eq
    Lk16.run (by kernel_rfl) (by kernel_rfl) (by kernel_rfl) (by rfl) (by first | assumption | decide +kernel) (by decide +kernel) ⟨rfl, rfl, rfl, rfl, rfl, by decide +kernel⟩ ?hw ?hc
  case hw => w_witness2
  case hc =>
    refine VL.walk_end (l := PySem.Challenge.rw_runsbelieved_k16_whole_remainders_orders) (n := 63) (k := 11) (x := "script") (mf := Lk16.mf_law) rfl (by decide) (by kernel_rfl) ⟨rfl, by decide, by decide⟩ ?F (fun ns _ => Lk16.law_ok ns)
    intro w mg fa h Y G hmg0
    obtain ⟨K, KX, c⟩ := Y
    have hmg : mg ("law" : PySem.Str) = some (.ref fa) := by
      have e : (HandSHeadRun.topDef (OpenLaw.row PySem.Challenge.rw_runsbelieved_k16_whole_remainders_orders).prog 49).name = ("law" : PySem.Str) := by kernel_rfl
      rw [← e]
      exact hmg0
    have fx : Lk16.Fx w K mg := ⟨c.t.d, c.more, fun x hx => He.glo_ok KX G hx, fun x hx => He.free_ok KX G hx, fun x i hx => He.int_ok KX G hx, fun x z hx => He.str_ok KX G hx, fun hx => VL.bltB_ok KX G hx⟩
    have te : VL.TabsE K h := fun p hp => by
      have z := List.all_eq_true.mp fx.e_1 p hp
      obtain ⟨q, hq, e⟩ := List.any_eq_true.mp z
      rw [← beq_iff_eq.mp e]
      exact ⟨c.empty q hq, c.out q hq, _, PySem.W.codeHd_of_K KX (c.hd q hq)⟩
    obtain ⟨fd, F⟩ := c.t.d.def_ 39 (d := Lk16.d_law) rfl
    have e := hmg.symm.trans (fx.glo (i := 29) (x := "law") rfl)
    cases e
    have b := L2.FunD.bindsA (ps := ["script"]) F fun _ _ _ _ _ _ us hl => match us, hl with | [_], _ => rfl
    exact ⟨K, fd, KX, te, fun s v => b s [v] rfl, fun base _ _ => VL.fnG_of F Lk16.sc_law (fun cdv A outer s H E hr kx => Lk16.body_law fx hr kx)⟩

