import PyProof.Rows.All
import Wide.All
import OpenK.AllK
import Wide.FinOn
import HandS.ForMost
import HandS.Exc
import HandS.ExcOwn
import HandS.WordsExc
import HandS.Defaults
import HandS.Wide
import HandS.TupAny
import HandS.TupMul
import HandS.Deep
import HandS.Star
import HandS.IsInst
import HandS.Gcd
import HandS.RaiseMore
import HandS.SortInts
import HandS.Walk
import HandS.Zip
import HandS.Rev
import HandS.Dict
import HandS.ExcInit
import KE.KExcInit
import KE.KExcStr
import HandS.MakeKw
import HandS.ExcIs
import HandS.ExcField
import HandS.Ends
import HandS.HeadEnd
import PyProof.StrBlock2
import HandS.HeadHook1
import HandS.HeadHook2
import HandS.HeadHook3
import HandS.HeadHook4
import HandS.Head0
import HandS.Head1
import HandS.Head2
import HandS.HeadWalk
import HandS.Words
import PyProof.P3Eq
import PySem.Challenge.RW_runsbelieved_k99_errors_by_hand
set_option Elab.async false
set_option linter.all false
set_option maxRecDepth 100000
set_option maxHeartbeats 0
/-! The value layer, 1: data, what bears it, the list of what is held. -/
namespace VL
open PySem PySem.Spec PyProof.Rows L2

/-- the program's own exceptions -/
inductive Cl where
  | BadPrime | BadNumber | BadName | BadRemainder | BadExpression | BadProgram | BadInput | BadNet | BadLayers | BadPoint | BadLine | BadTable | BadClaim
  | BadTalk | BadCheat | BadCode | BadWord | BadTree | BadMachine | BadBatch | BadText | BadBytes | BadPaper | BadDeed | TooMany | NoSuch
  deriving DecidableEq

/-- data: what a value is, all through -/
inductive D where
  | non | bl (b : Bool) | int (i : Int) | str (x : Str) | tup (xs : List D) | lst (xs : List D)
  /-- an own exception with its field; raw: just made, not raised yet -/
  | exc (c : Cl) (raw : Bool) (v : D)
instance : Inhabited D := ⟨.non⟩

def Cl.nm : Cl → Str
  | .BadPrime => "BadPrime" | .BadNumber => "BadNumber" | .BadName => "BadName" | .BadRemainder => "BadRemainder" | .BadExpression => "BadExpression" | .BadProgram => "BadProgram"
  | .BadInput => "BadInput" | .BadNet => "BadNet" | .BadLayers => "BadLayers" | .BadPoint => "BadPoint" | .BadLine => "BadLine" | .BadTable => "BadTable" | .BadClaim => "BadClaim"
  | .BadTalk => "BadTalk" | .BadCheat => "BadCheat" | .BadCode => "BadCode" | .BadWord => "BadWord" | .BadTree => "BadTree" | .BadMachine => "BadMachine" | .BadBatch => "BadBatch"
  | .BadText => "BadText" | .BadBytes => "BadBytes" | .BadPaper => "BadPaper" | .BadDeed => "BadDeed" | .TooMany => "TooMany" | .NoSuch => "NoSuch"
/-- its one field -/
def Cl.fld : Cl → Str
  | .BadPrime | .BadNumber | .BadName | .BadRemainder | .NoSuch => "value"
  | .TooMany => "most"
  | _ => "place"
/-- its text -/
def Cl.msg : Cl → Str
  | .BadPrime => "no such prime" | .BadNumber => "no such number" | .BadName => "no such name" | .BadRemainder => "no such remainder" | .BadExpression => "no such expression" | .BadProgram => "no such program"
  | .BadInput => "no such input" | .BadNet => "no such net" | .BadLayers => "no such layers" | .BadPoint => "no such point" | .BadLine => "no such polynomial" | .BadTable => "no such table" | .BadClaim => "no such claim"
  | .BadTalk => "no such talk" | .BadCheat => "no such cheat" | .BadCode => "no such row" | .BadWord => "no such word" | .BadTree => "no such tree" | .BadMachine => "no such machine" | .BadBatch => "no such batch"
  | .BadText => "no such text" | .BadBytes => "no such bytes" | .BadPaper => "no such paper" | .BadDeed => "no such deed" | .TooMany => "too many" | .NoSuch => "nothing so called"

/-- where the module's name x leads -/
def adr (K : PySem.W.Frag) (x : Str) : Addr := match PySem.W.nsIn K mainGlobals x with
  | some (some (.ref a)) => a
  | _ => 0
def Cl.ad (K : PySem.W.Frag) (c : Cl) : Addr := adr K c.nm

/-- at a: an exception of the class at C, its dict at dx -/
def ExV (a C dx : Addr) : HO := .ext fun h => ∃ oe : Obj, h.get? a = some oe ∧ oe.cls = .ref C ∧ oe.dict = some dx ∧ ∃ vs, oe.data = .fields vs
/-- .. just made, its arguments at t -/
def ExR (a C dx t : Addr) : HO := .ext fun h => h.get? a = some ({ cls := .ref C, dict := some dx, data := .fields #[.ref t, .none, .none, .none, .bool false, .none] } : Obj)

/-- a list that does not change any more -/
def LkL (Fz : Addr → Prop) (H : Hp) (a : Addr) (xs : List V) : Prop := Fz a ∧ H a = some (.lst xs)
theorem LkL.sql {K : PySem.W.Frag} {Fz : Addr → Prop} {H : Hp} {a : Addr} {xs : List V} (h : LkL Fz H a xs) : SqL K H a xs := .inl (.inl h.2)

mutual
/-- v bears d -/
def Rp (K : PySem.W.Frag) (Fz : Addr → Prop) (H : Hp) : D → V → Prop
  | .non, v => v = .non
  | .bl b, v => v = .bl b
  | .int i, v => v = .int i
  | .str x, v => v = .str x
  | .tup ds, v => ∃ a vs, v = .ref a ∧ SqT K H a vs ∧ RpL K Fz H ds vs
  | .lst ds, v => ∃ a vs, v = .ref a ∧ LkL Fz H a vs ∧ RpL K Fz H ds vs
  | .exc c raw d, v => ∃ a dx y, v = .ref a ∧ Fz a ∧ Fz dx ∧ H dx = some (exd0 c y) ∧ Rp K Fz H d y ∧
      if raw then ∃ t, Fz t ∧ H t = some (.tup [.str c.msg]) ∧ H a = some (ExR a (c.ad K) dx t) else H a = some (ExV a (c.ad K) dx)
def RpL (K : PySem.W.Frag) (Fz : Addr → Prop) (H : Hp) : List D → List V → Prop
  | [], vs => vs = []
  | d :: ds, vs => ∃ v r, vs = v :: r ∧ Rp K Fz H d v ∧ RpL K Fz H ds r
/-- the own dict of an exception -/
def exd0 (c : Cl) (y : V) : HO := .xd [(c.fld, y)]
end

/-- what is frozen, locked or a tuple stays -/
def Kp (Fz : Addr → Prop) (H H' : Hp) : Prop := ∀ a o, H a = some o → (Fz a ∨ (∃ xs, o = .tup xs) ∨ ∃ ob u, o = .frz ob u) → H' a = some o
theorem Kp.refl {Fz : Addr → Prop} {H : Hp} : Kp Fz H H := fun _ _ e _ => e
theorem Kp.rd {K : PySem.W.Frag} {Fz : Addr → Prop} {H H' : Hp} (k : Kp Fz H H') {a : Addr} {xs : List V} (h : SqT K H a xs) : SqT K H' a xs := by
  rcases h with (h | ⟨o, h⟩) | h
  · exact .inl (.inl (k _ _ h (.inr (.inl ⟨_, rfl⟩))))
  · exact .inl (.inr ⟨o, k _ _ h (.inr (.inr ⟨_, _, rfl⟩))⟩)
  · exact .inr h
theorem Kp.lk {Fz Fz' : Addr → Prop} {H H' : Hp} (k : Kp Fz H H') (f : ∀ a, Fz a → Fz' a) {a : Addr} {xs : List V} (h : LkL Fz H a xs) : LkL Fz' H' a xs := ⟨f _ h.1, k _ _ h.2 (.inl h.1)⟩
mutual
theorem Rp.keep {K : PySem.W.Frag} {Fz Fz' : Addr → Prop} {H H' : Hp} (k : Kp Fz H H') (f : ∀ a, Fz a → Fz' a) : ∀ (d : D) {v : V}, Rp K Fz H d v → Rp K Fz' H' d v
  | .non, _, h => h
  | .bl _, _, h => h
  | .int _, _, h => h
  | .str _, _, h => h
  | .tup ds, _, ⟨a, vs, e, s, r⟩ => ⟨a, vs, e, k.rd s, RpL.keep k f ds r⟩
  | .lst ds, _, ⟨a, vs, e, s, r⟩ => ⟨a, vs, e, k.lk f s, RpL.keep k f ds r⟩
  | .exc c raw d, _, ⟨a, dx, y, e, fa, fd, hd, r, z⟩ => ⟨a, dx, y, e, f _ fa, f _ fd, k _ _ hd (.inl fd), Rp.keep k f d r, by
      cases raw with
      | true =>
        obtain ⟨t, ft, ht, ha⟩ := z
        exact ⟨t, f _ ft, k _ _ ht (.inl ft), k _ _ ha (.inl fa)⟩
      | false => exact k _ _ z (.inl fa)⟩
theorem RpL.keep {K : PySem.W.Frag} {Fz Fz' : Addr → Prop} {H H' : Hp} (k : Kp Fz H H') (f : ∀ a, Fz a → Fz' a) : ∀ (ds : List D) {vs : List V}, RpL K Fz H ds vs → RpL K Fz' H' ds vs
  | [], _, h => h
  | d :: ds, _, ⟨v, r, e, h1, h2⟩ => ⟨v, r, e, Rp.keep k f d h1, RpL.keep k f ds h2⟩
end
section
variable {K : PySem.W.Frag} {Fz : Addr → Prop} {H : Hp}
theorem RpL.len : ∀ {ds : List D} {vs : List V}, RpL K Fz H ds vs → ds.length = vs.length
  | [], _, h => by rw [show _ = [] from h] <;> rfl
  | d :: ds, _, ⟨v, r, e, _, h⟩ => by rw [e, List.length_cons, List.length_cons, RpL.len h]
theorem RpL.cons {d : D} {ds : List D} {v : V} {vs : List V} (h : Rp K Fz H d v) (r : RpL K Fz H ds vs) : RpL K Fz H (d :: ds) (v :: vs) := ⟨v, vs, rfl, h, r⟩
theorem RpL.nil : RpL K Fz H [] [] := rfl
theorem RpL.get : ∀ {ds : List D} {vs : List V} {i : Nat} {d : D}, RpL K Fz H ds vs → ds[i]? = some d → ∃ v, vs[i]? = some v ∧ Rp K Fz H d v
  | [], _, _, _, _, e => by simp at e
  | d :: ds, _, 0, x, ⟨v, r, e, h, _⟩, e2 => by
    simp at e2
    subst e e2
    exact ⟨v, rfl, h⟩
  | d :: ds, _, i + 1, x, ⟨v, r, e, _, h⟩, e2 => by
    subst e
    simpa using RpL.get (i := i) h (by simpa using e2)
theorem RpL.app : ∀ {ds es : List D} {vs us : List V}, RpL K Fz H ds vs → RpL K Fz H es us → RpL K Fz H (ds ++ es) (vs ++ us)
  | [], _, _, _, h, q => by rw [show _ = [] from h]; exact q
  | d :: ds, _, _, _, ⟨v, r, e, h, t⟩, q => by
    subst e
    exact ⟨v, r ++ _, rfl, h, RpL.app t q⟩
theorem RpL.take : ∀ {ds : List D} {vs : List V} (n : Nat), RpL K Fz H ds vs → RpL K Fz H (ds.take n) (vs.take n)
  | _, _, 0, _ => rfl
  | [], _, n + 1, h => by rw [show _ = [] from h]; exact rfl
  | d :: ds, _, n + 1, ⟨v, r, e, h, t⟩ => by
    subst e
    exact ⟨v, r.take n, rfl, h, RpL.take n t⟩
theorem RpL.drop : ∀ {ds : List D} {vs : List V} (n : Nat), RpL K Fz H ds vs → RpL K Fz H (ds.drop n) (vs.drop n)
  | _, _, 0, h => h
  | [], _, n + 1, h => by rw [show _ = [] from h]; exact rfl
  | d :: ds, _, n + 1, ⟨v, r, e, h, t⟩ => by
    subst e
    exact RpL.drop n t
theorem RpL.set {x : D} {u : V} (hx : Rp K Fz H x u) : ∀ {ds : List D} {vs : List V} (n : Nat), RpL K Fz H ds vs → RpL K Fz H (ds.set n x) (vs.set n u)
  | [], _, _, h => by rw [show _ = [] from h]; exact rfl
  | d :: ds, _, 0, ⟨v, r, e, _, t⟩ => by
    subst e
    exact ⟨u, r, rfl, hx, t⟩
  | d :: ds, _, n + 1, ⟨v, r, e, h, t⟩ => by
    subst e
    exact ⟨v, _, rfl, h, RpL.set hx n t⟩
theorem RpL.rev {ds : List D} {vs : List V} (h : RpL K Fz H ds vs) : RpL K Fz H ds.reverse vs.reverse := by
  induction ds generalizing vs with
  | nil => rw [show vs = [] from h]; exact rfl
  | cons d ds ih =>
    obtain ⟨v, r, rfl, h1, h2⟩ := h
    rw [List.reverse_cons, List.reverse_cons]
    exact (ih h2).app (.cons h1 .nil)
theorem RpL.rep {ds : List D} {vs : List V} (h : RpL K Fz H ds vs) : ∀ n : Nat, RpL K Fz H (List.replicate n ds).flatten (List.replicate n vs).flatten
  | 0 => rfl
  | n + 1 => by
    rw [List.replicate_succ, List.replicate_succ, List.flatten_cons, List.flatten_cons]
    exact h.app (RpL.rep h n)
theorem RpL.ints : ∀ {ns : List Int}, RpL K Fz H (ns.map D.int) (ns.map V.int)
  | [] => rfl
  | n :: ns => ⟨.int n, ns.map V.int, rfl, rfl, RpL.ints⟩
theorem RpL.ints_inv : ∀ {ns : List Int} {vs : List V}, RpL K Fz H (ns.map D.int) vs → vs = ns.map V.int
  | [], _, h => h
  | n :: ns, _, ⟨v, r, e, h, t⟩ => by
    have h1 : v = .int n := h
    rw [e, h1, RpL.ints_inv t]
    rfl
end

/-! ### what a name, or the evaluation of the moment, holds -/
/-- nothing; data (frozen); an own list; an own dict (some j: the caller's, handed in to be changed) -/
inductive Sl where
  | no | dat (d : D) | ol (xs : List D) | od (t : Option Nat) (kvs : List (Key × D))
  /-- a list that is locked (the script) -/
  | lk (xs : List D)
abbrev It' := Sl × Option V
/-- the address that it owns -/
def ownA : It' → Option Addr
  | (.ol _, some (.ref a)) => some a
  | (.od _ _, some (.ref a)) => some a
  | _ => none
def RpK (K : PySem.W.Frag) (Fz : Addr → Prop) (H : Hp) : List (Key × D) → List (Key × V) → Prop
  | [], vs => vs = []
  | (k, d) :: ds, vs => ∃ v r, vs = (k, v) :: r ∧ Rp K Fz H d v ∧ RpK K Fz H ds r
theorem RpK.keep {K : PySem.W.Frag} {Fz Fz' : Addr → Prop} {H H' : Hp} (k : Kp Fz H H') (f : ∀ a, Fz a → Fz' a) : ∀ {ds : List (Key × D)} {vs : List (Key × V)}, RpK K Fz H ds vs → RpK K Fz' H' ds vs
  | [], _, h => h
  | (x, d) :: ds, _, ⟨v, r, e, h1, h2⟩ => ⟨v, r, e, Rp.keep k f d h1, RpK.keep k f h2⟩
/-- a list that is locked: frozen by the caller, or one of the module's own -/
def LkS (K : PySem.W.Frag) (H : Hp) (a : Addr) (xs : List V) : Prop := (∃ ob, H a = some (.frz ob (.lst xs))) ∨
  ∃ (o : Obj) (its : Array Value) (n : Nat), K.lookup a = some o ∧ o.cls = .type "list" ∧ o.dict = none ∧ o.data = .seq its n ∧ its.size ≤ sizeLine ∧ Vals xs its.toList
theorem LkS.sql {K : PySem.W.Frag} {H : Hp} {a : Addr} {xs : List V} (h : LkS K H a xs) : SqL K H a xs := h.elim (fun z => .inl (.inr z)) .inr
theorem LkS.keep {K : PySem.W.Frag} {Fz : Addr → Prop} {H H' : Hp} (k : Kp Fz H H') {a : Addr} {xs : List V} (h : LkS K H a xs) : LkS K H' a xs := h.elim (fun ⟨ob, z⟩ => .inl ⟨ob, k _ _ z (.inr (.inr ⟨_, _, rfl⟩))⟩) .inr
def RS (K : PySem.W.Frag) (Fz : Addr → Prop) (H : Hp) (io : List Addr) : It' → Prop
  | (.no, _) => True
  | (.dat d, o) => ∃ v, o = some v ∧ Rp K Fz H d v
  | (.ol ds, o) => ∃ a vs, o = some (.ref a) ∧ H a = some (.lst vs) ∧ RpL K Fz H ds vs
  | (.od t ds, o) => ∃ a vs, o = some (.ref a) ∧ H a = some (.dK vs) ∧ RpK K Fz H ds vs ∧ ∀ j, t = some j → io[j]? = some a
  | (.lk ds, o) => ∃ a vs, o = some (.ref a) ∧ LkS K H a vs ∧ RpL K Fz H ds vs
/-- two things own different addresses -/
def Apart (p q : It') : Prop := ∀ a, ownA p = some a → ownA q = some a → False
theorem Apart.symm {p q : It'} (h : Apart p q) : Apart q p := fun a h1 h2 => h a h2 h1

/-- the state's account: B the heap at the entry, io what was handed in to be changed, Fz what is frozen, L all that is held -/
structure Gd (K : PySem.W.Frag) (B : Hp) (F0 : Addr → Prop) (io : List Addr) (Fz : Addr → Prop) (H : Hp) (L : List It') : Prop where
  rs : ∀ p ∈ L, RS K Fz H io p
  sep : L.Pairwise Apart
  own : ∀ p ∈ L, ∀ a, ownA p = some a → ¬ Fz a ∧ (a ∈ io ∨ ∀ o, B a = some o → ∃ ps, o = .tbl ps)
  dom : ∀ a, Fz a → ∃ o, H a = some o ∧ ∀ ps, o ≠ .tbl ps
  frm : ∀ a o, B a = some o → a ∉ io → (∀ ps, o ≠ .tbl ps) → H a = some o
  f0 : ∀ a, F0 a → Fz a
  fz : ∀ a, Fz a → F0 a ∨ a ∈ io ∨ ∀ o, B a = some o → ∃ ps, o = .tbl ps
section
variable {K : PySem.W.Frag} {B : Hp} {F0 : Addr → Prop} {io : List Addr} {Fz Fz' : Addr → Prop} {H H' : Hp} {L L' : List It'} {p q : It'}
theorem RS.keep (k : Kp Fz H H') (f : ∀ a, Fz a → Fz' a) (ho : ∀ a o, ownA p = some a → H a = some o → H' a = some o) (h : RS K Fz H io p) : RS K Fz' H' io p := by
  obtain ⟨s, o⟩ := p
  cases s with
  | no => trivial
  | dat d =>
    obtain ⟨v, e, r⟩ := h
    exact ⟨v, e, r.keep k f d⟩
  | ol ds =>
    obtain ⟨a, vs, e, ha, r⟩ := h
    exact ⟨a, vs, e, ho a _ (by rw [e]; rfl) ha, r.keep k f ds⟩
  | od t ds =>
    obtain ⟨a, vs, e, ha, r, ht⟩ := h
    exact ⟨a, vs, e, ho a _ (by rw [e]; rfl) ha, r.keep k f, ht⟩
  | lk ds =>
    obtain ⟨a, vs, e, ha, r⟩ := h
    exact ⟨a, vs, e, ha.keep k, r.keep k f ds⟩
theorem Gd.perm (g : Gd K B F0 io Fz H L) (e : L.Perm L') : Gd K B F0 io Fz H L' :=
  ⟨fun p hp => g.rs p (e.mem_iff.mpr hp), (e.pairwise_iff (fun h => Apart.symm h)).mp g.sep, fun p hp => g.own p (e.mem_iff.mpr hp), g.dom, g.frm, g.f0, g.fz⟩
theorem Gd.tail (g : Gd K B F0 io Fz H (p :: L)) : Gd K B F0 io Fz H L :=
  ⟨fun q hq => g.rs q (List.mem_cons_of_mem _ hq), (List.pairwise_cons.mp g.sep).2, fun q hq => g.own q (List.mem_cons_of_mem _ hq), g.dom, g.frm, g.f0, g.fz⟩
theorem Gd.head (g : Gd K B F0 io Fz H (p :: L)) : RS K Fz H io p := g.rs p List.mem_cons_self
theorem Gd.sub (g : Gd K B F0 io Fz H L) (e : L'.Sublist L) : Gd K B F0 io Fz H L' :=
  ⟨fun q hq => g.rs q (e.subset hq), g.sep.sublist e, fun q hq => g.own q (e.subset hq), g.dom, g.frm, g.f0, g.fz⟩
/-- one more that owns nothing -/
theorem Gd.push (g : Gd K B F0 io Fz H L) (h : RS K Fz H io p) (hn : ownA p = none) : Gd K B F0 io Fz H (p :: L) :=
  ⟨fun q hq => (List.mem_cons.mp hq).elim (fun e => e ▸ h) (g.rs q), List.pairwise_cons.mpr ⟨fun q hq a e _ => (by rw [hn] at e; cases e), g.sep⟩,
    fun q hq a e => (List.mem_cons.mp hq).elim (fun z => (by rw [z, hn] at e; cases e)) (fun z => g.own q z a e), g.dom, g.frm, g.f0, g.fz⟩
theorem Gd.dat {d : D} {v : V} (g : Gd K B F0 io Fz H L) (h : Rp K Fz H d v) : Gd K B F0 io Fz H ((.dat d, some v) :: L) := g.push ⟨v, rfl, h⟩ rfl
theorem Gd.datI {d : D} {o : Option V} (g : Gd K B F0 io Fz H ((.dat d, o) :: L)) : ∃ v, o = some v ∧ Rp K Fz H d v := g.head
/-- the heap goes on: what is frozen, a tuple, locked, owned stays; the entry's heap too -/
theorem Gd.next (g : Gd K B F0 io Fz H L) (k : Kp Fz H H') (ho : ∀ p ∈ L, ∀ a o, ownA p = some a → H a = some o → H' a = some o) (hf : ∀ a o, B a = some o → a ∉ io → (∀ ps, o ≠ .tbl ps) → H' a = some o) : Gd K B F0 io Fz H' L :=
  ⟨fun p hp => (g.rs p hp).keep k (fun _ z => z) (ho p hp), g.sep, g.own, fun a z => by
    obtain ⟨o, e, n⟩ := g.dom a z
    exact ⟨o, k a o e (.inl z), n⟩, hf, g.f0, g.fz⟩
/-- what an owner owns is no table -/
theorem RS.not_tbl {a : Addr} {o : HO} (h : RS K Fz H io p) (e : ownA p = some a) (ha : H a = some o) : ∀ ps, o ≠ .tbl ps := fun ps z => by
  subst z
  obtain ⟨s, w⟩ := p
  cases s with
  | no => cases e
  | dat d => cases e
  | ol ds =>
    obtain ⟨b, vs, e2, hb, _⟩ := h
    subst e2
    have e3 : b = a := Option.some.inj e
    rw [← e3, hb] at ha
    cases ha
  | od t ds =>
    obtain ⟨b, vs, e2, hb, _⟩ := h
    subst e2
    have e3 : b = a := Option.some.inj e
    rw [← e3, hb] at ha
    cases ha
  | lk ds => cases e
/-- all that was tracked stays (tables aside) -/
theorem Gd.ext (g : Gd K B F0 io Fz H L) (k : ∀ a o, H a = some o → (∀ ps, o ≠ .tbl ps) → H' a = some o) : Gd K B F0 io Fz H' L := by
  refine g.next (fun a o e z => k a o e ?_) (fun p hp a o e ha => k a o ha ((g.rs p hp).not_tbl e ha)) fun a o e n t => k a o (g.frm a o e n t) t
  rcases z with z | ⟨xs, z⟩ | ⟨ob, u, z⟩
  · obtain ⟨o', e', n⟩ := g.dom a z
    rw [e] at e'
    cases e'
    exact n
  · subst z
    exact fun ps q => nomatch q
  · subst z
    exact fun ps q => nomatch q
/-- a new thing -/
theorem Gd.grow {a : Addr} {o : HO} (g : Gd K B F0 io Fz H L) (n : H a = none) : Gd K B F0 io Fz (upd H a o) L :=
  g.ext fun b u e _ => by rw [upd_ne (ne_of_none e n)]; exact e
/-- more is frozen: what nobody owns -/
theorem Gd.freeze {Fz' : Addr → Prop} (g : Gd K B F0 io Fz H L) (f : ∀ a, Fz a → Fz' a) (hn : ∀ a, Fz' a → Fz a ∨ ((∀ p ∈ L, ownA p ≠ some a) ∧ (∃ o, H a = some o ∧ ∀ ps, o ≠ .tbl ps) ∧ (a ∈ io ∨ ∀ o, B a = some o → ∃ ps, o = .tbl ps))) : Gd K B F0 io Fz' H L :=
  ⟨fun p hp => (g.rs p hp).keep Kp.refl f (fun _ _ _ e => e), g.sep, fun p hp a e => ⟨fun z => (hn a z).elim (fun q => (g.own p hp a e).1 q) (fun q => q.1 p hp e), (g.own p hp a e).2⟩,
    fun a z => (hn a z).elim (g.dom a) (fun q => q.2.1), g.frm, fun a z => f a (g.f0 a z), fun a z => (hn a z).elim (g.fz a) (fun q => .inr q.2.2)⟩
/-- the head's list is frozen -/
theorem Gd.frzL {ds : List D} {o : Option V} (g : Gd K B F0 io Fz H ((.ol ds, o) :: L)) : ∃ Fz', (∀ a, Fz a → Fz' a) ∧ Gd K B F0 io Fz' H ((.dat (.lst ds), o) :: L) := by
  obtain ⟨a, vs, e, ha, r⟩ := g.head
  subst e
  refine ⟨fun b => Fz b ∨ b = a, fun b z => .inl z, ?_⟩
  have g2 : Gd K B F0 io (fun b => Fz b ∨ b = a) H L := g.tail.freeze (fun b z => .inl z) fun b z => z.elim .inl fun e => .inr ⟨fun p hp q => (List.pairwise_cons.mp g.sep).1 p hp b (by rw [e]; rfl) q, ⟨HO.lst vs, by subst e; exact ha, fun ps q => by cases q⟩, by subst e; exact (g.own _ List.mem_cons_self b rfl).2⟩
  exact g2.dat ⟨a, vs, rfl, ⟨.inr rfl, ha⟩, r.keep Kp.refl (fun b z => .inl z) ds⟩
/-- a new owned thing -/
theorem Gd.new {a : Addr} {o : HO} {s : Sl} (g : Gd K B F0 io Fz H L) (n : H a = none) (h : RS K Fz (upd H a o) io (s, some (.ref a))) : Gd K B F0 io Fz (upd H a o) ((s, some (.ref a)) :: L) := by
  have g2 : Gd K B F0 io Fz (upd H a o) L := g.grow n
  have noA : ∀ p ∈ L, ownA p ≠ some a := fun p hp e => by
    have r := g.rs p hp
    obtain ⟨s, w⟩ := p
    cases s with
    | no => cases e
    | dat d => cases e
    | ol ds =>
      obtain ⟨b, vs, e2, hb, _⟩ := r
      subst e2
      rw [Option.some.inj e, n] at hb
      cases hb
    | od t ds =>
      obtain ⟨b, vs, e2, hb, _⟩ := r
      subst e2
      rw [Option.some.inj e, n] at hb
      cases hb
      | lk ds => cases e
  have nF : ¬ Fz a := fun z => by
    obtain ⟨o, e, _⟩ := g.dom a z
    rw [n] at e
    cases e
  have hA : ∀ b, ownA (s, some (.ref a)) = some b → b = a := fun b e => by
    cases s with
    | ol ds => exact (Option.some.inj e).symm
    | od t ds => exact (Option.some.inj e).symm
    | _ => cases e
  have hB : a ∈ io ∨ ∀ o, B a = some o → ∃ ps, o = .tbl ps := by
    by_cases hi : a ∈ io
    · exact .inl hi
    · refine .inr fun o e => ?_
      cases o with
      | tbl ps => exact ⟨ps, rfl⟩
      | _ =>
        have z := g.frm a _ e hi (fun ps q => nomatch q)
        rw [n] at z
        cases z
  refine ⟨fun p hp => (List.mem_cons.mp hp).elim (fun e => e ▸ h) (g2.rs p), List.pairwise_cons.mpr ⟨fun p hp b e1 e2 => noA p hp (by rw [hA b e1] at e2; exact e2), g2.sep⟩, fun p hp b e => ?_, g2.dom, g2.frm, g2.f0, g2.fz⟩
  rcases List.mem_cons.mp hp with z | z
  · rw [z] at e
    rw [hA b e]
    exact ⟨nF, hB⟩
  · exact g2.own p z b e
/-- the head's own thing is changed -/
theorem Gd.put {a : Addr} {o o0 : HO} {s s0 : Sl} (g : Gd K B F0 io Fz H ((s0, some (.ref a)) :: L)) (h0 : ownA (s0, some (.ref a)) = some a) (ha : H a = some o0) (hn : (∀ xs, o0 ≠ .tup xs) ∧ ∀ ob u, o0 ≠ .frz ob u)
    (h : RS K Fz (upd H a o) io (s, some (.ref a))) (hs : ownA (s, some (.ref a)) = some a) : Gd K B F0 io Fz (upd H a o) ((s, some (.ref a)) :: L) := by
  obtain ⟨nF, hB⟩ := g.own _ List.mem_cons_self a h0
  have noA : ∀ p ∈ L, ownA p ≠ some a := fun p hp e => (List.pairwise_cons.mp g.sep).1 p hp a h0 e
  have g2 : Gd K B F0 io Fz (upd H a o) L := by
    refine g.tail.next (fun b u e z => ?_) (fun p hp b u e hb => ?_) fun b u e n t => ?_
    · have hb : b ≠ a := fun q => by
        rw [q] at z e
        rw [ha] at e
        cases e
        rcases z with z | ⟨xs, z⟩ | ⟨ob, u, z⟩
        · exact nF z
        · exact hn.1 xs z
        · exact hn.2 ob u z
      rw [upd_ne hb]
      exact e
    · rw [upd_ne (fun q => noA p hp (by rw [← q]; exact e))]
      exact hb
    · have hb : b ≠ a := fun q => by
        rw [q] at e n
        rcases hB with z | z
        · exact n z
        · obtain ⟨ps, z⟩ := z u e
          exact t ps z
      rw [upd_ne hb]
      exact g.frm b u e n t
  refine ⟨fun p hp => (List.mem_cons.mp hp).elim (fun e => e ▸ h) (g2.rs p), List.pairwise_cons.mpr ⟨fun p hp b e1 e2 => ?_, g2.sep⟩, fun p hp b e => ?_, g2.dom, g2.frm, g2.f0, g2.fz⟩
  · rw [hs] at e1
    rw [← Option.some.inj e1] at e2
    exact noA p hp e2
  · rcases List.mem_cons.mp hp with z | z
    · rw [z, hs] at e
      rw [← Option.some.inj e]
      exact ⟨nF, hB⟩
    · exact g2.own p z b e
end
end VL

/-! The value layer, 2: what expressions and statements do to data, and that they do it. -/
namespace VL
open PySem PySem.Spec PyProof.Rows L2

/-- the names' things by slot -/
abbrev Env := List Sl
/-- an end: a value, a raised exception, nothing known -/
inductive RR (α : Type) where
  | ok (x : α) | exc (e : D) (E : Env) | bad
def RR.bind {α β : Type} (x : RR α) (f : α → RR β) : RR β := match x with
  | .ok a => f a
  | .exc e E => .exc e E
  | .bad => .bad
def RR.opt {α : Type} : Option α → RR α
  | some a => .ok a
  | none => .bad
abbrev EF := Env → RR (Sl × Env)
abbrev AF := Env → RR (List Sl × Env)
/-- a statement's end -/
inductive FL where
  | nx (E : Env) | rt (r : Sl) (E : Env) | bk (E : Env) | ct (E : Env) | exc (e : D) (E : Env) | bad
abbrev SF := Env → FL

structure Gh where
  B : Hp
  F0 : Addr → Prop
  io : List Addr
  T : List It'
structure OK (K : PySem.W.Frag) (G : Gh) (Fz : Addr → Prop) (H : Hp) (E : Env) (σ : L2.St) : Prop where
  gd : Gd K G.B G.F0 G.io Fz H (G.T ++ E.zip σ)
  lv : E.length = σ.length
abbrev Gh.p (G : Gh) (s : Sl) (v : V) : Gh := { G with T := (s, some v) :: G.T }

section
variable {K : PySem.W.Frag} {G : Gh} {Fz : Addr → Prop} {H H' : Hp} {E : Env} {σ : L2.St} {s s2 : Sl} {v v2 : V}
theorem OK.pop (k : OK K (G.p s v) Fz H E σ) : OK K G Fz H E σ := ⟨k.gd.tail, k.lv⟩
theorem OK.top (k : OK K (G.p s v) Fz H E σ) : RS K Fz H G.io (s, some v) := k.gd.head
theorem OK.swap (k : OK K ((G.p s v).p s2 v2) Fz H E σ) : OK K ((G.p s2 v2).p s v) Fz H E σ := ⟨k.gd.perm (List.Perm.swap _ _ _), k.lv⟩
/-- the second is dropped -/
theorem OK.drop2 (k : OK K ((G.p s v).p s2 v2) Fz H E σ) : OK K (G.p s2 v2) Fz H E σ := k.swap.pop
theorem OK.dat {d : D} (k : OK K G Fz H E σ) (h : Rp K Fz H d v) : OK K (G.p (.dat d) v) Fz H E σ := ⟨k.gd.dat h, k.lv⟩
theorem OK.datI {d : D} (k : OK K (G.p (.dat d) v) Fz H E σ) : Rp K Fz H d v := by
  obtain ⟨w, e, r⟩ := k.top
  cases e
  exact r
theorem OK.grow {p : Addr} {o : HO} (k : OK K G Fz H E σ) (n : H p = none) : OK K G Fz (upd H p o) E σ := ⟨k.gd.grow n, k.lv⟩
theorem kp_grow {p : Addr} {o : HO} (n : H p = none) : Kp Fz H (upd H p o) := fun b u e _ => by rw [upd_ne (ne_of_none e n)]; exact e
theorem OK.newL {p : Addr} {ds : List D} {vs : List V} (k : OK K G Fz H E σ) (n : H p = none) (h : RpL K Fz H ds vs) : OK K (G.p (.ol ds) (.ref p)) Fz (upd H p (.lst vs)) E σ :=
  ⟨k.gd.new n ⟨p, vs, rfl, upd_same, h.keep (kp_grow n) (fun _ z => z) ds⟩, k.lv⟩
theorem RpK.keepI {ds : List (Key × D)} {vs : List (Key × V)} (k : Kp Fz H H') (h : RpK K Fz H ds vs) : RpK K Fz H' ds vs := RpK.keep k (fun _ z => z) h
theorem OK.newD {p : Addr} {ds : List (Key × D)} {vs : List (Key × V)} (k : OK K G Fz H E σ) (n : H p = none) (h : RpK K Fz H ds vs) : OK K (G.p (.od none ds) (.ref p)) Fz (upd H p (.dK vs)) E σ :=
  ⟨k.gd.new n ⟨p, vs, rfl, upd_same, h.keepI (kp_grow n), fun _ z => by cases z⟩, k.lv⟩
theorem OK.newT {p : Addr} {ds : List D} {vs : List V} (k : OK K G Fz H E σ) (n : H p = none) (h : RpL K Fz H ds vs) : OK K (G.p (.dat (.tup ds)) (.ref p)) Fz (upd H p (.tup vs)) E σ :=
  (k.grow n).dat ⟨p, vs, rfl, .of upd_same, h.keep (kp_grow n) (fun _ z => z) ds⟩
theorem OK.frz {ds : List D} (k : OK K (G.p (.ol ds) v) Fz H E σ) : ∃ Fz', (∀ a, Fz a → Fz' a) ∧ OK K (G.p (.dat (.lst ds)) v) Fz' H E σ := by
  obtain ⟨Fz', f, g⟩ := k.gd.frzL
  exact ⟨Fz', f, g, k.lv⟩

theorem set_perm {α : Type} : ∀ {l : List α} {i : Nat} {x : α}, i < l.length → (l.set i x).Perm (x :: l.eraseIdx i)
  | a :: l, 0, x, _ => List.Perm.refl _
  | a :: l, i + 1, x, h => by
    rw [List.set_cons_succ, List.eraseIdx_cons_succ]
    exact ((set_perm (by simpa using h)).cons a).trans (List.Perm.swap _ _ _)
theorem zip_set {α β : Type} : ∀ (l : List α) (m : List β) (i : Nat) (x : α) (y : β), (l.set i x).zip (m.set i y) = (l.zip m).set i (x, y)
  | [], _, _, _, _ => rfl
  | a :: l, [], i, x, y => by cases i <;> simp
  | a :: l, b :: m, 0, x, y => rfl
  | a :: l, b :: m, i + 1, x, y => by
    rw [List.set_cons_succ, List.set_cons_succ, List.zip_cons_cons, List.zip_cons_cons, List.set_cons_succ, zip_set l m i x y]
def Env.st (E : Env) (i : Nat) (s : Sl) : Env := E.set i s
/-- the slot i is stored -/
theorem OK.set {i : Nat} (k : OK K (G.p s v) Fz H E σ) : OK K G Fz H (E.st i s) (σ.set i (some v)) := by
  by_cases hi : i < (E.zip σ).length
  · refine ⟨?_, by show (E.set i s).length = _; rw [List.length_set, List.length_set]; exact k.lv⟩
    have e : (E.st i s).zip (σ.set i (some v)) = (E.zip σ).set i (s, some v) := zip_set E σ i s (some v)
    rw [e]
    have g := k.gd
    have p1 : ((E.zip σ).set i (s, some v)).Perm ((s, some v) :: (E.zip σ).eraseIdx i) := set_perm hi
    have g2 : Gd K G.B G.F0 G.io Fz H ((s, some v) :: (G.T ++ (E.zip σ).eraseIdx i)) := g.sub (((List.Sublist.refl _).append (List.eraseIdx_sublist _ _)).cons_cons _)
    refine g2.perm (List.Perm.trans ?_ (List.Perm.append_left _ p1.symm))
    exact List.perm_middle.symm
  · have h2 : ¬ i < E.length := fun z => hi (by rw [List.length_zip, ← k.lv, Nat.min_self]; exact z)
    have e1 : E.set i s = E := List.set_eq_of_length_le (by omega)
    have e2 : σ.set i (some v) = σ := List.set_eq_of_length_le (by have := k.lv; omega)
    have e3 : E.st i s = E := e1
    rw [e2, e3]
    exact k.pop
theorem lay_mem {i : Nat} (h : E[i]? = some s) {o : Option V} (ho : σ[i]? = some o) : (s, o) ∈ E.zip σ :=
  List.mem_of_getElem? (i := i) (by rw [List.getElem?_zip_eq_some]; exact ⟨h, ho⟩)
/-- the slot i is read -/
theorem OK.slot {i : Nat} (k : OK K G Fz H E σ) (h : E[i]? = some s) : ∃ o, σ[i]? = some o ∧ RS K Fz H G.io (s, o) := by
  have hi : i < σ.length := by
    rw [← k.lv]
    exact (List.getElem?_eq_some_iff.mp h).1
  refine ⟨σ[i], List.getElem?_eq_getElem hi, k.gd.rs _ (List.mem_append_right _ (lay_mem h (List.getElem?_eq_getElem hi)))⟩
theorem eraseIdx_get {α : Type} : ∀ {l : List α} {i : Nat} {x : α}, l[i]? = some x → l.Perm (x :: l.eraseIdx i)
  | a :: l, 0, x, h => by
    simp at h
    subst h
    exact List.Perm.refl _
  | a :: l, i + 1, x, h => by
    rw [List.eraseIdx_cons_succ]
    exact ((eraseIdx_get (by simpa using h)).cons a).trans (List.Perm.swap _ _ _)
  | [], _, _, h => by simp at h
theorem set_same {i : Nat} (hv : σ[i]? = some (some v)) : σ.set i (some v) = σ := by
  apply List.ext_getElem?
  intro j
  by_cases hj : j = i
  · subst hj
    rw [hv, List.getElem?_set_self (List.getElem?_eq_some_iff.mp hv).1]
  · rw [List.getElem?_set_ne (Ne.symm hj)]
/-- the slot i is taken out: its thing is the evaluation's own now -/
theorem OK.take {i : Nat} (k : OK K G Fz H E σ) (h : E[i]? = some s) (hv : σ[i]? = some (some v)) : OK K (G.p s v) Fz H (E.st i .no) σ := by
  have hz : (E.zip σ)[i]? = some (s, some v) := by rw [List.getElem?_zip_eq_some]; exact ⟨h, hv⟩
  have hi : i < (E.zip σ).length := (List.getElem?_eq_some_iff.mp hz).1
  refine ⟨?_, by show (E.set i .no).length = _; rw [List.length_set]; exact k.lv⟩
  have e : (E.st i .no).zip σ = (E.zip σ).set i (.no, some v) := by
    show (E.set i .no).zip σ = _
    rw [← zip_set, set_same hv]
  rw [e]
  have g2 : Gd K G.B G.F0 G.io Fz H ((.no, some v) :: (s, some v) :: (G.T ++ (E.zip σ).eraseIdx i)) := by
    refine Gd.push (k.gd.perm ?_) trivial rfl
    exact (List.Perm.append_left _ (eraseIdx_get hz)).trans List.perm_middle
  refine g2.perm ((List.Perm.swap _ _ _).trans (List.Perm.cons _ (List.Perm.trans List.perm_middle.symm (List.Perm.append_left _ ?_))))
  exact (set_perm hi).symm
/-- .. and back -/
theorem set_st {i : Nat} : (E.st i s).st i s2 = E.st i s2 := List.set_set ..
theorem OK.back {i : Nat} (k : OK K (G.p s v) Fz H E σ) (hv : σ[i]? = some (some v)) : OK K G Fz H (E.st i s) σ := by
  have h := k.set (i := i)
  rw [set_same hv] at h
  exact h
end

/-! ### the readings -/
/-- what lies behind a raised exception -/
def RX (K : PySem.W.Frag) (Fz : Addr → Prop) (H : Hp) (x : D) (cls : Value) (d : Option Addr) : Prop :=
  ∃ c raw y dx w, x = .exc c raw y ∧ cls = .ref (c.ad K) ∧ d = some dx ∧ Fz dx ∧ H dx = some (exd0 c w) ∧ Rp K Fz H y w
def EndX (W : WX) (K : PySem.W.Frag) (G : Gh) (x : D) (E : Env) (σ : L2.St) : Prop := ∀ cls d H' Fz', OK K G Fz' H' E σ → RX K Fz' H' x cls d → W cls d σ H'
def EndE (W : WX) (K : PySem.W.Frag) (G : Gh) (σ : L2.St) (Q : VK) : RR (Sl × Env) → Prop
  | .ok p => ∀ v H' Fz', OK K (G.p p.1 v) Fz' H' p.2 σ → Q v H'
  | .exc x E => EndX W K G x E σ
  | .bad => False
def EndT (W : WX) (K : PySem.W.Frag) (G : Gh) (σ : L2.St) (Q : Bool → Hp → Prop) : RR (Bool × Env) → Prop
  | .ok p => ∀ H' Fz', OK K G Fz' H' p.2 σ → Q p.1 H'
  | .exc x E => EndX W K G x E σ
  | .bad => False
/-- many at once: the last one on top -/
def Gh.ps (G : Gh) : List Sl → List V → Gh
  | s :: ss, v :: vs => (G.p s v).ps ss vs
  | _, _ => G
def EndA (W : WX) (K : PySem.W.Frag) (G : Gh) (σ : L2.St) (Q : List V → Hp → Prop) : RR (List Sl × Env) → Prop
  | .ok p => ∀ vs H' Fz', vs.length = p.1.length → OK K (G.ps p.1 vs) Fz' H' p.2 σ → Q vs H'
  | .exc x E => EndX W K G x E σ
  | .bad => False
def EndS (W : WX) (K : PySem.W.Frag) (G : Gh) (D : Ends) : FL → Prop
  | .nx E => ∀ σ' H' Fz', OK K G Fz' H' E σ' → D.nx σ' H'
  | .rt r E => ∀ v σ' H' Fz', OK K (G.p r v) Fz' H' E σ' → D.rt v H'
  | .bk E => ∀ σ' H' Fz', OK K G Fz' H' E σ' → D.bk σ' H'
  | .ct E => ∀ σ' H' Fz', OK K G Fz' H' E σ' → D.ct σ' H'
  | .exc x E => ∀ σ', EndX W K G x E σ'
  | .bad => False
abbrev TF := Env → RR (Bool × Env)
def tE (W : WX) (K : PySem.W.Frag) (f : EF) : TE := fun σ H Q => ∃ (G : Gh) (E : Env) (Fz : Addr → Prop), OK K G Fz H E σ ∧ EndE W K G σ Q (f E)
def tT (W : WX) (K : PySem.W.Frag) (f : TF) : TT := fun σ H Q => ∃ (G : Gh) (E : Env) (Fz : Addr → Prop), OK K G Fz H E σ ∧ EndT W K G σ Q (f E)
def tA (W : WX) (K : PySem.W.Frag) (f : AF) : TA := fun σ H Q => ∃ (G : Gh) (E : Env) (Fz : Addr → Prop), OK K G Fz H E σ ∧ EndA W K G σ Q (f E)
def tS (W : WX) (K : PySem.W.Frag) (f : SF) : TS := fun D σ H => ∃ (G : Gh) (E : Env) (Fz : Addr → Prop), OK K G Fz H E σ ∧ EndS W K G D (f E)
def SE (X : Cx) (W : WX) (e : Expr) (f : EF) : Prop := PE X e (tE W X.K f)
def ST (X : Cx) (W : WX) (e : Expr) (f : TF) : Prop := PT X e (tT W X.K f)
def SA (X : Cx) (W : WX) (es : List Expr) (f : AF) : Prop := PA X es (tA W X.K f)
def SS (X : Cx) (W : WX) (st : Stmt) (f : SF) : Prop := PS X st (tS W X.K f)
def SSs (X : Cx) (W : WX) (sts : List Stmt) (f : SF) : Prop := PSs X sts (tS W X.K f)

theorem PE.imp {X : Cx} {e : Expr} {t t' : TE} (h : PE X e t) (i : ∀ σ H Q, t' σ H Q → t σ H Q) : PE X e t' := ⟨fun pins s σ H Q I q => h.run pins s σ H Q I (i σ H Q q)⟩
theorem PT.imp {X : Cx} {e : Expr} {t t' : TT} (h : PT X e t) (i : ∀ σ H Q, t' σ H Q → t σ H Q) : PT X e t' := ⟨fun pins s σ H Q I q => h.run pins s σ H Q I (i σ H Q q)⟩
theorem PA.imp {X : Cx} {es : List Expr} {t t' : TA} (h : PA X es t) (i : ∀ σ H Q, t' σ H Q → t σ H Q) : PA X es t' := ⟨fun pos pins s σ H Q I q => h.run pos pins s σ H Q I (i σ H Q q)⟩
theorem PS.imp {X : Cx} {st : Stmt} {t t' : TS} (h : PS X st t) (i : ∀ D σ H, t' D σ H → t D σ H) : PS X st t' := ⟨fun pins s σ H D I q => h.run pins s σ H D I (i D σ H q)⟩
theorem PSs.imp {X : Cx} {st : List Stmt} {t t' : TS} (h : PSs X st t) (i : ∀ D σ H, t' D σ H → t D σ H) : PSs X st t' := ⟨fun pins s σ H D I q => h.run pins s σ H D I (i D σ H q)⟩

section
variable {W : WX} {K : PySem.W.Frag} {G : Gh} {Fz : Addr → Prop} {H : Hp} {E : Env} {σ : L2.St} {Q : VK}
theorem EndE.bind {x : RR (Sl × Env)} {k : Sl × Env → RR (Sl × Env)} (h : EndE W K G σ Q (x.bind k)) : EndE W K G σ (fun v H' => ∃ r E1 Fz1, OK K (G.p r v) Fz1 H' E1 σ ∧ EndE W K G σ Q (k (r, E1))) x := by
  cases x with
  | ok p => exact fun v H1 Fz1 k1 => ⟨p.1, p.2, Fz1, k1, h⟩
  | exc x E' => exact h
  | bad => exact h
theorem tE_of {f : EF} (k : OK K G Fz H E σ) (h : EndE W K G σ Q (f E)) : tE W K f σ H Q := ⟨G, E, Fz, k, h⟩
theorem tE_mono {f : EF} {Q' : VK} (h : tE W K f σ H Q) (i : ∀ v H', Q v H' → Q' v H') : tE W K f σ H Q' := by
  obtain ⟨G, E, Fz, k, h⟩ := h
  refine ⟨G, E, Fz, k, ?_⟩
  cases hf : f E with
  | ok p =>
    rw [hf] at h
    exact fun v H1 Fz1 k1 => i _ _ (h v H1 Fz1 k1)
  | exc x E' =>
    rw [hf] at h
    exact h
  | bad =>
    rw [hf] at h
    exact h
/-- the temporaries below do not matter for an exception -/
theorem EndX.pop {x : D} {s : Sl} {v : V} (h : EndX W K G x E σ) : EndX W K (G.p s v) x E σ := fun cls d H' Fz' k r => h cls d H' Fz' k.pop r
end
end VL

/-! The value layer, 3: names, constants, operators, comparisons, tests. -/
namespace VL
open PySem PySem.Spec PyProof.Rows L2

/-! ### data as the library's data -/
mutual
def D.py : D → PyData
  | .non => .none
  | .bl b => .bool b
  | .int i => .int i
  | .str x => .str x
  | .tup ds => .tuple (pyL ds)
  | .lst ds => .list (pyL ds)
  | .exc _ _ _ => .none
def pyL : List D → List PyData
  | [] => []
  | d :: ds => d.py :: pyL ds
end
mutual
/-- no exception within -/
def D.plain : D → Bool
  | .tup ds => plainL ds
  | .lst ds => plainL ds
  | .exc _ _ _ => false
  | _ => true
def plainL : List D → Bool
  | [] => true
  | d :: ds => d.plain && plainL ds
end
mutual
theorem Rp.dp {K : PySem.W.Frag} {Fz : Addr → Prop} {H : Hp} : ∀ (d : D) {v : V}, d.plain = true → Rp K Fz H d v → Dp K H v d.py
  | .non, _, _, h => by rw [show _ = V.non from h]; exact .non
  | .bl b, _, _, h => by rw [show _ = V.bl b from h]; exact .bl b
  | .int i, _, _, h => by rw [show _ = V.int i from h]; exact .int i
  | .str x, _, _, h => by rw [show _ = V.str x from h]; exact .str x
  | .tup ds, _, p, ⟨a, vs, e, s, r⟩ => by
    subst e
    exact .tup s (RpL.dp ds p r)
  | .lst ds, _, p, ⟨a, vs, e, s, r⟩ => by
    subst e
    exact .lst s.sql (RpL.dp ds p r)
  | .exc _ _ _, _, p, _ => by cases p
theorem RpL.dp {K : PySem.W.Frag} {Fz : Addr → Prop} {H : Hp} : ∀ (ds : List D) {vs : List V}, plainL ds = true → RpL K Fz H ds vs → DpAll K H vs (pyL ds)
  | [], _, _, h => by rw [show _ = [] from h]; exact .nil
  | d :: ds, _, p, ⟨v, r, e, h1, h2⟩ => by
    subst e
    obtain ⟨p1, p2⟩ := Bool.and_eq_true_iff.mp (show (d.plain && plainL ds) = true from p)
    exact .cons (Rp.dp d p1 h1) (RpL.dp ds p2 h2)
end
/-- the data of a thing -/
def Sl.d? : Sl → Option D
  | .dat d => some d
  | .ol ds => some (.lst ds)
  | _ => none
def D.fine (d : D) : Bool := d.plain && SeqAt.shaped d.py
def eqD (a b : D) : Bool := PyData.eqv a.py b.py
theorem RS.datI {K : PySem.W.Frag} {Fz : Addr → Prop} {H : Hp} {io : List Addr} {v : V} {d : D} (h : RS K Fz H io (.dat d, some v)) : Rp K Fz H d v := by
  obtain ⟨w, e, r⟩ := h
  cases e
  exact r
theorem RS.dp {K : PySem.W.Frag} {Fz : Addr → Prop} {H : Hp} {io : List Addr} {s : Sl} {v : V} {d : D} (h : RS K Fz H io (s, some v)) (e : s.d? = some d) (p : d.plain = true) : Dp K H v d.py := by
  cases s with
  | dat d' =>
    cases e
    obtain ⟨w, e2, r⟩ := h
    cases e2
    exact r.dp _ p
  | ol ds =>
    cases e
    obtain ⟨a, vs, e2, ha, r⟩ := h
    cases e2
    exact .lst (.of ha) (r.dp ds p)
  | _ => cases e

/-! ### names, constants -/
/-- a name read: an own list is frozen -/
def eVar (i : Nat) : EF := fun E => match E[i]? with
  | some (.dat d) => .ok (.dat d, E)
  | some (.ol ds) => .ok (.dat (.lst ds), E.st i (.dat (.lst ds)))
  | some (.lk ds) => .ok (.lk ds, E)
  | _ => .bad
/-- a name read for the last time: its thing goes -/
def eMove (i : Nat) : EF := fun E => match E[i]? with
  | some .no => .bad
  | some s => .ok (s, E.st i .no)
  | none => .bad
def eC (d : D) : EF := fun E => .ok (.dat d, E)
section
variable {X : Cx} {W : WX} {pos : Pos}
theorem se_var {i : Nat} {x : Str} (hN : X.N[i]? = some x) (hv : Vis X.env.scope x) (hd : (x == ("__debug__" : Str)) = false := by decide) (hcd : (x == ("__classdict__" : Str)) = false := by decide) : SE X W (.Name x pos) (eVar i) := by
  refine PE.imp (pe_var hN hv hd hcd) fun σ H Q ⟨G, E, Fz, k, h⟩ => ?_
  unfold eVar at h
  cases e : E[i]? with
  | none => rw [e] at h; exact h.elim
  | some s =>
    obtain ⟨o, ho, r⟩ := k.slot e
    cases s with
    | no => rw [e] at h; exact h.elim
    | od _ _ => rw [e] at h; exact h.elim
    | dat d =>
      obtain ⟨v, rfl, r⟩ := r
      rw [e] at h
      exact ⟨v, ho, h v H Fz (k.dat r)⟩
    | ol ds =>
      obtain ⟨a, vs, rfl, ha, r⟩ := r
      rw [e] at h
      refine ⟨_, ho, ?_⟩
      obtain ⟨Fz', f, k2⟩ := (k.take e ho).frz
      have r2 := k2.datI
      have k3 := k2.back (i := i) ho
      rw [set_st] at k3
      exact h _ H Fz' (k3.dat r2)
    | lk ds =>
      obtain ⟨a, vs, rfl, ha, r⟩ := r
      rw [e] at h
      exact ⟨_, ho, h _ H Fz ⟨k.gd.push ⟨a, vs, rfl, ha, r⟩ rfl, k.lv⟩⟩
theorem se_move {i : Nat} {x : Str} (hN : X.N[i]? = some x) (hv : Vis X.env.scope x) (hd : (x == ("__debug__" : Str)) = false := by decide) (hcd : (x == ("__classdict__" : Str)) = false := by decide) : SE X W (.Name x pos) (eMove i) := by
  refine PE.imp (pe_var hN hv hd hcd) fun σ H Q ⟨G, E, Fz, k, h⟩ => ?_
  unfold eMove at h
  cases e : E[i]? with
  | none => rw [e] at h; exact h.elim
  | some s =>
    obtain ⟨o, ho, r⟩ := k.slot e
    have fin : ∀ v, o = some v → (match (some s : Option Sl) with | some .no => RR.bad | some s => .ok (s, E.st i .no) | none => .bad) = RR.ok (s, E.st i .no) → ∃ v, σ[i]? = some (some v) ∧ Q v H := fun v ev em => by
      subst ev
      rw [e, em] at h
      exact ⟨v, ho, h v H Fz (k.take e ho)⟩
    cases s with
    | no => rw [e] at h; exact h.elim
    | dat d =>
      obtain ⟨v, ev, _⟩ := r
      exact fin v ev rfl
    | ol ds =>
      obtain ⟨a, vs, ev, _⟩ := r
      exact fin _ ev rfl
    | od t ds =>
      obtain ⟨a, vs, ev, _⟩ := r
      exact fin _ ev rfl
    | lk ds =>
      obtain ⟨a, vs, ev, _⟩ := r
      exact fin _ ev rfl
theorem se_int {i : Int} {j : Nat} : SE X W (.Constant (.int i) j pos) (eC (.int i)) := PE.imp pe_int fun σ H Q ⟨G, E, Fz, k, h⟩ => h _ H Fz (k.dat rfl)
theorem se_bl {b : Bool} {j : Nat} : SE X W (.Constant (.bool b) j pos) (eC (.bl b)) := PE.imp pe_bl fun σ H Q ⟨G, E, Fz, k, h⟩ => h _ H Fz (k.dat rfl)
theorem se_non {j : Nat} : SE X W (.Constant .none j pos) (eC .non) := PE.imp pe_non fun σ H Q ⟨G, E, Fz, k, h⟩ => h _ H Fz (k.dat rfl)
theorem se_str {x : Str} {j : Nat} : SE X W (.Constant (.str x) j pos) (eC (.str x)) := PE.imp pe_str fun σ H Q ⟨G, E, Fz, k, h⟩ => h _ H Fz (k.dat rfl)
end

/-! ### operators by values -/
theorem EndE.bind1 {W : WX} {K : PySem.W.Frag} {G : Gh} {σ : L2.St} {Q : VK} {s : Sl} {u : V} {x : RR (Sl × Env)} {k : Sl × Env → RR (Sl × Env)} (h : EndE W K G σ Q (x.bind k)) :
    EndE W K (G.p s u) σ (fun v H' => ∃ r E1 Fz1, OK K ((G.p s u).p r v) Fz1 H' E1 σ ∧ EndE W K G σ Q (k (r, E1))) x := by
  cases x with
  | ok p => exact fun v H1 Fz1 k1 => ⟨p.1, p.2, Fz1, k1, h⟩
  | exc x E' => exact EndX.pop h
  | bad => exact h
/-- what a rule by values asks is met by what g does to data -/
def GR (K : PySem.W.Frag) (r : R2) (g : Sl → Sl → Option Sl) : Prop := ∀ {G : Gh} {Fz : Addr → Prop} {H : Hp} {E : Env} {σ : L2.St} {x y s : Sl} {v w : V} {Q : VK}, OK K G Fz H E σ → RS K Fz H G.io (x, some v) → RS K Fz H G.io (y, some w) → g x y = some s →
  (∀ u H' Fz', OK K (G.p s u) Fz' H' E σ → Q u H') → r v w H Q
def eOp (g : Sl → Sl → Option Sl) (fa fb : EF) : EF := fun E => (fa E).bind fun p => (fb p.2).bind fun q => (RR.opt (g p.1 q.1)).bind fun s => .ok (s, q.2)
theorem tOp_of {K : PySem.W.Frag} {W : WX} {r : R2} {g : Sl → Sl → Option Sl} {fa fb : EF} (hg : GR K r g) (σ : L2.St) (H : Hp) (Q : VK) (h : tE W K (eOp g fa fb) σ H Q) : tOp r (tE W K fa) (tE W K fb) σ H Q := by
  obtain ⟨G, E, Fz, k, h⟩ := h
  refine tE_mono (tE_of k (EndE.bind h)) fun v H1 ⟨x, E1, Fz1, k1, h1⟩ => ?_
  refine tE_mono (tE_of k1 (EndE.bind1 h1)) fun w H2 ⟨y, E2, Fz2, k2, h2⟩ => ?_
  cases e : g x y with
  | none => rw [e] at h2; exact h2.elim
  | some s =>
    rw [e] at h2
    exact hg k2.pop.pop k2.pop.top k2.top e fun u H' Fz' k3 => h2 u H' Fz' k3
section
variable {X : Cx} {W : WX} {pos : Pos} {a b : Expr} {fa fb : EF}
theorem se_op {op : Operator} {r : R2} {g : Sl → Sl → Option Sl} (ho : OpR X (binaryOp op) r) (hg : GR X.K r g) (ha : SE X W a fa) (hb : SE X W b fb) : SE X W (.BinOp a op b pos) (eOp g fa fb) :=
  PE.imp (pe_op ho ha hb) (tOp_of hg)
theorem se_cmp {op : CmpOp} {r : R2} {g : Sl → Sl → Option Sl} (ho : OpR X (compareOp op) r) (hg : GR X.K r g) (ha : SE X W a fa) (hb : SE X W b fb) (hm : behindInMarks op b = false) : SE X W (.Compare a [op] [b] pos) (eOp g fa fb) :=
  PE.imp (pe_cmpR ho ha hb hm) (tOp_of hg)
end
theorem OpR.or {X : Cx} {f : Value → Value → Sem Value} {r1 r2 : R2} (h1 : OpR X f r1) (h2 : OpR X f r2) : OpR X f (fun x y H Q => r1 x y H Q ∨ r2 x y H Q) := fun pins s σ H x y v u Q I rx ry h =>
  h.elim (h1 pins s σ H x y v u Q I rx ry) (h2 pins s σ H x y v u Q I rx ry)
theorem OpR.never {X : Cx} {f : Value → Value → Sem Value} : OpR X f (fun _ _ _ _ => False) := fun _ _ _ _ _ _ _ _ _ _ _ _ h => h.elim
/-- g of two ints -/
def gI (g : Int → Int → Option D) : Sl → Sl → Option Sl
  | .dat (.int i), .dat (.int j) => (g i j).map .dat
  | _, _ => none
theorem gI_inv {g : Int → Int → Option D} {x y s : Sl} (h : gI g x y = some s) : ∃ i j d, x = .dat (.int i) ∧ y = .dat (.int j) ∧ g i j = some d ∧ s = .dat d := by
  unfold gI at h
  split at h
  · obtain ⟨d, e1, e2⟩ := Option.map_eq_some_iff.mp h
    exact ⟨_, _, d, rfl, rfl, e1, e2.symm⟩
  · cases h
/-- a rule of two ints -/
theorem gr_int {K : PySem.W.Frag} {C : Int → Int → Prop} {f : Int → Int → V} {g : Int → Int → Option D} (h : ∀ i j d, g i j = some d → C i j ∧ ∀ Fz H, Rp K Fz H d (f i j)) : GR K (rI C f) (gI g) := by
  intro G Fz H E σ x y s v w Q k kx ky e q
  obtain ⟨i, j, d, rfl, rfl, eg, rfl⟩ := gI_inv e
  obtain ⟨hc, hr⟩ := h i j d eg
  have h1 : v = .int i := kx.datI
  have h2 : w = .int j := ky.datI
  exact ⟨i, j, h1, h2, hc, q _ H Fz (k.dat (hr Fz H))⟩
theorem gr_int0 {K : PySem.W.Frag} {f : Int → Int → V} {g : Int → Int → D} (h : ∀ i j Fz H, Rp K Fz H (g i j) (f i j)) : GR K (rI0 f) (gI fun i j => some (g i j)) := by
  intro G Fz H E σ x y s v w Q k kx ky e q
  obtain ⟨i, j, d, rfl, rfl, eg, rfl⟩ := gI_inv e
  cases eg
  have h1 : v = .int i := kx.datI
  have h2 : w = .int j := ky.datI
  exact ⟨i, j, h1, h2, q _ H Fz (k.dat (h i j Fz H))⟩
/-- either of two -/
def gOr (g1 g2 : Sl → Sl → Option Sl) : Sl → Sl → Option Sl := fun x y => match g1 x y with
  | some s => some s
  | none => g2 x y
theorem gr_or {K : PySem.W.Frag} {r1 r2 : R2} {g1 g2 : Sl → Sl → Option Sl} (h1 : GR K r1 g1) (h2 : GR K r2 g2) : GR K (fun x y H Q => r1 x y H Q ∨ r2 x y H Q) (gOr g1 g2) := by
  intro G Fz H E σ x y s v w Q k kx ky e q
  unfold gOr at e
  cases e1 : g1 x y with
  | some s1 =>
    rw [e1] at e
    cases e
    exact .inl (h1 k kx ky e1 q)
  | none =>
    rw [e1] at e
    exact .inr (h2 k kx ky e q)
def SZ : Nat := 16777216
theorem SZ_eq : SZ = sizeLine := by rw [sizeLine_eq]; rfl
/-! + -/
def gAddS : Sl → Sl → Option Sl
  | .dat (.str x), .dat (.str y) => if x.length + y.length ≤ SZ then some (.dat (.str (x ++ y))) else none
  | _, _ => none
def gAddT : Sl → Sl → Option Sl
  | .dat (.tup x), .dat (.tup y) => if x.length + y.length ≤ SZ then some (.dat (.tup (x ++ y))) else none
  | _, _ => none
def Sl.l? : Sl → Option (List D)
  | .dat (.lst ds) => some ds
  | .ol ds => some ds
  | _ => none
def gAddL : Sl → Sl → Option Sl := fun a b => match a.l?, b.l? with
  | some x, some y => if x.length + y.length ≤ SZ then some (.ol (x ++ y)) else none
  | _, _ => none
theorem RS.l {K : PySem.W.Frag} {Fz : Addr → Prop} {H : Hp} {io : List Addr} {s : Sl} {v : V} {ds : List D} (h : RS K Fz H io (s, some v)) (e : s.l? = some ds) : ∃ a vs, v = .ref a ∧ H a = some (.lst vs) ∧ RpL K Fz H ds vs := by
  unfold Sl.l? at e
  split at e
  · cases e
    obtain ⟨w, e2, a, vs, rfl, z, r⟩ := h
    cases e2
    exact ⟨a, vs, rfl, z.2, r⟩
  · cases e
    obtain ⟨a, vs, e2, z, r⟩ := h
    cases e2
    exact ⟨a, vs, rfl, z, r⟩
  · cases e
section
variable {K : PySem.W.Frag}
theorem gr_addS : GR K (fun x y H Q => ∃ i j, x = .str i ∧ y = .str j ∧ i.length + j.length ≤ sizeLine ∧ Q (.str (i ++ j)) H) gAddS := by
  intro G Fz H E σ x y s v w Q k kx ky e q
  unfold gAddS at e
  split at e
  · rename_i i j
    split at e
    · rename_i hl
      cases e
      have h1 : v = .str i := kx.datI
      have h2 : w = .str j := ky.datI
      exact ⟨i, j, h1, h2, by rw [← SZ_eq]; exact hl, q _ H Fz (k.dat rfl)⟩
    · cases e
  · cases e
theorem gr_addT : GR K (rCatA K) gAddT := by
  intro G Fz H E σ x y s v w Q k kx ky e q
  unfold gAddT at e
  split at e
  · rename_i i j
    split at e
    · rename_i hl
      cases e
      obtain ⟨a, us, rfl, h1, r1⟩ := kx.datI
      obtain ⟨b, ws, rfl, h2, r2⟩ := ky.datI
      have l1 := r1.len
      have l2 := r2.len
      refine ⟨a, b, us, ws, rfl, rfl, h1, h2, by rw [← SZ_eq, ← l1, ← l2]; exact hl, fun z => ?_, fun z1 z2 => ?_, fun z1 z2 p np => ?_⟩
      · subst z
        have e1 : i = [] := List.eq_nil_of_length_eq_zero l1
        subst e1
        exact q _ H Fz (k.dat ⟨b, ws, rfl, h2, r2⟩)
      · subst z2
        have e1 : j = [] := List.eq_nil_of_length_eq_zero l2
        subst e1
        rw [List.append_nil] at q
        exact q _ H Fz (k.dat ⟨a, us, rfl, h1, r1⟩)
      · exact q _ _ Fz (k.newT np (r1.app r2))
    · cases e
  · cases e
theorem gr_addL : GR K rCat gAddL := by
  intro G Fz H E σ x y s v w Q k kx ky e q
  unfold gAddL at e
  cases e1 : x.l? with
  | none => rw [e1] at e; cases e
  | some i =>
    cases e2 : y.l? with
    | none => rw [e1, e2] at e; cases e
    | some j =>
      rw [e1, e2] at e
      simp only at e
      split at e
      · rename_i hl
        cases e
        obtain ⟨a, us, rfl, h1, r1⟩ := kx.l e1
        obtain ⟨b, ws, rfl, h2, r2⟩ := ky.l e2
        exact ⟨a, b, us, ws, rfl, rfl, h1, h2, by rw [← SZ_eq, ← r1.len, ← r2.len]; exact hl, fun p np => q _ _ Fz (k.newL np (r1.app r2))⟩
      · cases e
end
def gAdd : Sl → Sl → Option Sl := gOr (gI fun i j => some (.int (i + j))) (gOr gAddL (gOr gAddT gAddS))
def eAdd : EF → EF → EF := eOp gAdd
def gSub : Sl → Sl → Option Sl := gI fun i j => some (.int (i - j))
def eSub : EF → EF → EF := eOp gSub
def mulFits (i j : Int) : Bool := (decide (-18446744073709551616 < i) && decide (i < 18446744073709551616)) || (decide (-18446744073709551616 < j) && decide (j < 18446744073709551616)) || decide (i.natAbs.log2 + j.natAbs.log2 < 1000000)
def gMulI : Sl → Sl → Option Sl := gI fun i j => if mulFits i j then some (.int (i * j)) else none
def gMulL : Sl → Sl → Option Sl := fun a b => match a.l?, b with
  | some x, .dat (.int k) => if -9223372036854775808 ≤ k ∧ k < 9223372036854775808 ∧ x.length * k.toNat ≤ SZ then some (.ol (List.replicate k.toNat x).flatten) else none
  | _, _ => none
def gMulT : Sl → Sl → Option Sl
  | .dat (.tup x), .dat (.int k) => if x ≠ [] ∧ 2 ≤ k ∧ k ≤ 1000 ∧ x.length ≤ 1000 then some (.dat (.tup (List.replicate k.toNat x).flatten)) else none
  | _, _ => none
def divFits (j : Int) : Bool := decide (0 < j) && decide (j.natAbs.log2 < 9000)
def gDiv : Sl → Sl → Option Sl := gI fun i j => if divFits j then some (.int (i / j)) else none
def gMod : Sl → Sl → Option Sl := gI fun i j => if 0 < j then some (.int (i % j)) else none
section
variable {X : Cx} {W : WX} {pos : Pos} {a b : Expr} {fa fb : EF}
theorem se_add (ha : SE X W a fa) (hb : SE X W b fb) : SE X W (.BinOp a .Add b pos) (eAdd fa fb) :=
  se_op (OpR.or op_add (OpR.or op_cat (OpR.or op_catA op_add_str))) (gr_or (gr_int0 (f := fun i j => .int (i + j)) (g := fun i j => .int (i + j)) fun _ _ _ _ => rfl) (gr_or gr_addL (gr_or gr_addT gr_addS))) ha hb
theorem se_sub (ha : SE X W a fa) (hb : SE X W b fb) : SE X W (.BinOp a .Sub b pos) (eSub fa fb) := se_op op_sub (gr_int0 (f := fun i j => .int (i - j)) (g := fun i j => .int (i - j)) fun _ _ _ _ => rfl) ha hb
end
section
variable {K : PySem.W.Frag}
theorem gr_mulI : GR K (fun x y H Q => rI CMul (fun i j => .int (i * j)) x y H Q ∨ rI CMulW (fun i j => .int (i * j)) x y H Q) gMulI := by
  intro G Fz H E σ x y s v w Q k kx ky e q
  obtain ⟨i, j, d, rfl, rfl, eg, rfl⟩ := gI_inv e
  have h1 : v = .int i := kx.datI
  have h2 : w = .int j := ky.datI
  have eg : (if mulFits i j = true then some (D.int (i * j)) else none) = some d := eg
  split at eg
  · rename_i hm
    cases eg
    have fin : ∀ {C : Int → Int → Prop}, C i j → rI C (fun i j => .int (i * j)) v w H Q := fun hc => ⟨i, j, h1, h2, hc, q _ H Fz (k.dat rfl)⟩
    unfold mulFits at hm
    simp only [Bool.or_eq_true, Bool.and_eq_true, decide_eq_true_eq] at hm
    rcases hm with (h | h) | h
    · exact .inl (fin (.inl ⟨h.1, h.2⟩))
    · exact .inl (fin (.inr ⟨h.1, h.2⟩))
    · exact .inr (fin h)
  · cases eg
theorem gr_mulL : GR K rRep gMulL := by
  intro G Fz H E σ x y s v w Q k kx ky e q
  unfold gMulL at e
  cases e1 : x.l? with
  | none => rw [e1] at e; simp at e
  | some i =>
    rw [e1] at e
    split at e
    · rename_i x' kk ex
      cases ex
      split at e
      · rename_i hl
        cases e
        obtain ⟨a, us, rfl, h1, r1⟩ := kx.l e1
        have h2 : w = .int kk := ky.datI
        exact ⟨a, kk, us, rfl, h2, h1, hl.1, hl.2.1, by rw [← SZ_eq, ← r1.len]; exact hl.2.2, fun p np => q _ _ Fz (k.newL np (r1.rep _))⟩
      · cases e
    · cases e
theorem gr_mulT : GR K (rRepT K) gMulT := by
  intro G Fz H E σ x y s v w Q k kx ky e q
  unfold gMulT at e
  split at e
  · rename_i i kk
    split at e
    · rename_i hl
      cases e
      obtain ⟨a, us, rfl, h1, r1⟩ := kx.datI
      have h2 : w = .int kk := ky.datI
      exact ⟨a, kk, us, rfl, h2, h1, fun z => hl.1 (List.eq_nil_of_length_eq_zero (by rw [r1.len, z]; rfl)), hl.2.1, hl.2.2.1, by rw [← r1.len]; exact hl.2.2.2, fun p np => q _ _ Fz (k.newT np (r1.rep _))⟩
    · cases e
  · cases e
end
def gMul : Sl → Sl → Option Sl := gOr gMulI (gOr gMulL gMulT)
def eMul : EF → EF → EF := eOp gMul
def eDiv : EF → EF → EF := eOp gDiv
def eMod : EF → EF → EF := eOp gMod
section
variable {X : Cx} {W : WX} {pos : Pos} {a b : Expr} {fa fb : EF}
theorem se_mul (ha : SE X W a fa) (hb : SE X W b fb) : SE X W (.BinOp a .Mult b pos) (eMul fa fb) :=
  se_op (OpR.or (OpR.or op_mul op_mulW) (OpR.or op_rep op_repT)) (gr_or gr_mulI (gr_or gr_mulL gr_mulT)) ha hb
theorem se_div (ha : SE X W a fa) (hb : SE X W b fb) : SE X W (.BinOp a .FloorDiv b pos) (eDiv fa fb) :=
  se_op op_fdivW (gr_int fun i j d e => by
    split at e
    · rename_i h
      cases e
      unfold divFits at h
      simp only [Bool.and_eq_true, decide_eq_true_eq] at h
      exact ⟨h, fun _ _ => rfl⟩
    · cases e) ha hb
theorem se_mod (ha : SE X W a fa) (hb : SE X W b fb) : SE X W (.BinOp a .Mod b pos) (eMod fa fb) :=
  se_op op_mod (gr_int fun i j d e => by
    split at e
    · rename_i h
      cases e
      exact ⟨h, fun _ _ => rfl⟩
    · cases e) ha hb
end
end VL

/-! The value layer, 4: powers, comparisons, tests, choices, subscripts, slices. -/
namespace VL
open PySem PySem.Spec PyProof.Rows L2

/-! ### ** and - -/
def CPowW (i j : Int) : Prop := 0 ≤ j ∧ (Builtin.Int.intBits i : Int) * j ≤ 2 ^ 27
def powFits (i j : Int) : Bool := decide (0 ≤ j) && decide ((Builtin.Int.intBits i : Int) * j ≤ 134217728)
def gPow : Sl → Sl → Option Sl := gI fun i j => if powFits i j then some (.int (i ^ j.toNat)) else none
def ePow : EF → EF → EF := eOp gPow
def eUn (g : Sl → Option Sl) (f : EF) : EF := fun E => (f E).bind fun p => (RR.opt (g p.1)).bind fun s => .ok (s, p.2)
def gNeg : Sl → Option Sl
  | .dat (.int i) => some (.dat (.int (-i)))
  | _ => none
/-- what a one-place rule by values asks -/
def GU (K : PySem.W.Frag) (r : V → Hp → VK → Prop) (g : Sl → Option Sl) : Prop := ∀ {G : Gh} {Fz : Addr → Prop} {H : Hp} {E : Env} {σ : L2.St} {x s : Sl} {v : V} {Q : VK}, OK K G Fz H E σ → RS K Fz H G.io (x, some v) → g x = some s →
  (∀ u H' Fz', OK K (G.p s u) Fz' H' E σ → Q u H') → r v H Q
theorem tUn_of {K : PySem.W.Frag} {W : WX} {r : V → Hp → VK → Prop} {g : Sl → Option Sl} {f : EF} (hg : GU K r g) (σ : L2.St) (H : Hp) (Q : VK) (h : tE W K (eUn g f) σ H Q) : tUn r (tE W K f) σ H Q := by
  obtain ⟨G, E, Fz, k, h⟩ := h
  refine tE_mono (tE_of k (EndE.bind h)) fun v H1 ⟨x, E1, Fz1, k1, h1⟩ => ?_
  cases e : g x with
  | none => rw [e] at h1; exact h1.elim
  | some s =>
    rw [e] at h1
    exact hg k1.pop k1.top e fun u H' Fz' k3 => h1 u H' Fz' k3
section
variable {X : Cx} {W : WX} {pos : Pos} {a b c : Expr} {fa fb fc : EF}
theorem op_powW : OpR X (binaryOp .Pow) (rI CPowW fun i j => .int (i ^ j.toNat)) := opI fun _ _ _ _ _ _ _ hc q => PyProof.Rows.pow_int hc.1 hc.2 q
theorem se_pow (ha : SE X W a fa) (hb : SE X W b fb) : SE X W (.BinOp a .Pow b pos) (ePow fa fb) :=
  se_op op_powW (gr_int fun i j d e => by
    split at e
    · rename_i h
      cases e
      unfold powFits at h
      simp only [Bool.and_eq_true, decide_eq_true_eq] at h
      exact ⟨h, fun _ _ => rfl⟩
    · cases e) ha hb
theorem se_neg (ha : SE X W a fa) : SE X W (.UnaryOp .USub a pos) (eUn gNeg fa) :=
  PE.imp (pe_un un_neg ha) (tUn_of (K := X.K) (r := rU fun i => .int (-i)) fun {G Fz H E σ x s v Q} k kx e q => by
    unfold gNeg at e
    split at e
    · cases e
      exact ⟨_, kx.datI, q _ H Fz (k.dat rfl)⟩
    · cases e)

/-! ### comparisons -/
def gLt : Sl → Sl → Option Sl := gI fun i j => some (.bl (decide (i < j)))
def gLe : Sl → Sl → Option Sl := gI fun i j => some (.bl (decide (i ≤ j)))
def gGt : Sl → Sl → Option Sl := gI fun i j => some (.bl (decide (j < i)))
def gGe : Sl → Sl → Option Sl := gI fun i j => some (.bl (decide (j ≤ i)))
def gEq (neg : Bool) : Sl → Sl → Option Sl := fun x y => match x.d?, y.d? with
  | some d, some e => if d.fine && e.fine then some (.dat (.bl (if neg then !eqD d e else eqD d e))) else none
  | _, _ => none
theorem gEq_inv {neg : Bool} {x y s : Sl} (h : gEq neg x y = some s) : ∃ d e, x.d? = some d ∧ y.d? = some e ∧ d.fine = true ∧ e.fine = true ∧ s = .dat (.bl (if neg then !eqD d e else eqD d e)) := by
  unfold gEq at h
  cases e1 : x.d? with
  | none => rw [e1] at h; cases h
  | some d =>
    cases e2 : y.d? with
    | none => rw [e1, e2] at h; cases h
    | some e =>
      rw [e1, e2] at h
      have h : (if (d.fine && e.fine) = true then some (Sl.dat (.bl (if neg then !eqD d e else eqD d e))) else none) = some s := h
      split at h
      · rename_i hf
        obtain ⟨f1, f2⟩ := Bool.and_eq_true_iff.mp hf
        cases h
        exact ⟨d, e, rfl, rfl, f1, f2, rfl⟩
      · cases h
/-- two texts, two ints -/
def gEqS (neg : Bool) : Sl → Sl → Option Sl
  | .dat (.str x), .dat (.str y) => some (.dat (.bl (if neg then !decide (x = y) else decide (x = y))))
  | .dat (.int x), .dat (.int y) => some (.dat (.bl (if neg then !decide (x = y) else decide (x = y))))
  | _, _ => none
def gEqA (neg : Bool) : Sl → Sl → Option Sl := gOr (gEqS neg) (gEq neg)
theorem gr_eqS {K : PySem.W.Frag} : GR K rEq (gEqS false) := by
  intro G Fz H E σ x y s v w Q k kx ky e q
  unfold gEqS at e
  split at e
  · rename_i a b
    cases e
    rw [show v = .str a from kx.datI, show w = .str b from ky.datI]
    refine ⟨rfl, q _ H Fz (k.dat ?_)⟩
    show V.bl _ = V.bl _
    simp
  · rename_i a b
    cases e
    rw [show v = .int a from kx.datI, show w = .int b from ky.datI]
    refine ⟨rfl, q _ H Fz (k.dat ?_)⟩
    show V.bl _ = V.bl _
    simp
  · cases e
theorem gr_neS {K : PySem.W.Frag} : GR K rNe (gEqS true) := by
  intro G Fz H E σ x y s v w Q k kx ky e q
  unfold gEqS at e
  split at e
  · rename_i a b
    cases e
    rw [show v = .str a from kx.datI, show w = .str b from ky.datI]
    refine ⟨rfl, q _ H Fz (k.dat ?_)⟩
    show V.bl _ = V.bl _
    simp
  · rename_i a b
    cases e
    rw [show v = .int a from kx.datI, show w = .int b from ky.datI]
    refine ⟨rfl, q _ H Fz (k.dat ?_)⟩
    show V.bl _ = V.bl _
    simp
  · cases e
theorem gr_eqD {K : PySem.W.Frag} : GR K (rEqD K) (gEq false) := by
  intro G Fz H E σ x y s v w Q k kx ky e q
  obtain ⟨d, e', h1, h2, f1, f2, rfl⟩ := gEq_inv e
  obtain ⟨p1, s1⟩ := Bool.and_eq_true_iff.mp f1
  obtain ⟨p2, s2⟩ := Bool.and_eq_true_iff.mp f2
  exact ⟨_, _, kx.dp h1 p1, ky.dp h2 p2, s1, s2, q _ H Fz (k.dat rfl)⟩
theorem gr_neD {K : PySem.W.Frag} : GR K (rNeD K) (gEq true) := by
  intro G Fz H E σ x y s v w Q k kx ky e q
  obtain ⟨d, e', h1, h2, f1, f2, rfl⟩ := gEq_inv e
  obtain ⟨p1, s1⟩ := Bool.and_eq_true_iff.mp f1
  obtain ⟨p2, s2⟩ := Bool.and_eq_true_iff.mp f2
  exact ⟨_, _, kx.dp h1 p1, ky.dp h2 p2, s1, s2, q _ H Fz (k.dat rfl)⟩
def rEqA (K : PySem.W.Frag) : R2 := fun x y H Q => rEq x y H Q ∨ rEqD K x y H Q
def rNeA (K : PySem.W.Frag) : R2 := fun x y H Q => rNe x y H Q ∨ rNeD K x y H Q
theorem op_eqA (hu : X.A.units + 64 < cLine) : OpR X (compareOp .Eq) (rEqA X.K) := OpR.or op_eq (op_eqD hu)
theorem op_neA (hu : X.A.units + 64 < cLine) : OpR X (compareOp .NotEq) (rNeA X.K) := OpR.or op_ne (op_neD hu)
theorem gr_eq {K : PySem.W.Frag} : GR K (rEqA K) (gEqA false) := gr_or gr_eqS gr_eqD
theorem gr_ne {K : PySem.W.Frag} : GR K (rNeA K) (gEqA true) := gr_or gr_neS gr_neD
theorem se_lt (ha : SE X W a fa) (hb : SE X W b fb) : SE X W (.Compare a [.Lt] [b] pos) (eOp gLt fa fb) := se_cmp op_lt (gr_int0 (f := fun i j => .bl (decide (i < j))) (g := fun i j => .bl (decide (i < j))) fun _ _ _ _ => rfl) ha hb (nobehind b (by decide) (by decide))
theorem se_le (ha : SE X W a fa) (hb : SE X W b fb) : SE X W (.Compare a [.LtE] [b] pos) (eOp gLe fa fb) := se_cmp op_le (gr_int0 (f := fun i j => .bl (decide (i ≤ j))) (g := fun i j => .bl (decide (i ≤ j))) fun _ _ _ _ => rfl) ha hb (nobehind b (by decide) (by decide))
theorem se_gt (ha : SE X W a fa) (hb : SE X W b fb) : SE X W (.Compare a [.Gt] [b] pos) (eOp gGt fa fb) := se_cmp op_gt (gr_int0 (f := fun i j => .bl (decide (j < i))) (g := fun i j => .bl (decide (j < i))) fun _ _ _ _ => rfl) ha hb (nobehind b (by decide) (by decide))
theorem se_ge (ha : SE X W a fa) (hb : SE X W b fb) : SE X W (.Compare a [.GtE] [b] pos) (eOp gGe fa fb) := se_cmp op_ge (gr_int0 (f := fun i j => .bl (decide (j ≤ i))) (g := fun i j => .bl (decide (j ≤ i))) fun _ _ _ _ => rfl) ha hb (nobehind b (by decide) (by decide))
theorem se_eq (hu : X.A.units + 64 < cLine) (ha : SE X W a fa) (hb : SE X W b fb) : SE X W (.Compare a [.Eq] [b] pos) (eOp (gEqA false) fa fb) := se_cmp (op_eqA hu) gr_eq ha hb (nobehind b (by decide) (by decide))
theorem se_ne (hu : X.A.units + 64 < cLine) (ha : SE X W a fa) (hb : SE X W b fb) : SE X W (.Compare a [.NotEq] [b] pos) (eOp (gEqA true) fa fb) := se_cmp (op_neA hu) gr_ne ha hb (nobehind b (by decide) (by decide))
end

theorem RS.is {K : PySem.W.Frag} {Fz : Addr → Prop} {H : Hp} {io : List Addr} {s : Sl} {o : Option V} (h : RS K Fz H io (s, o)) (n : s ≠ .no) : ∃ v, o = some v := by
  cases s with
  | no => exact absurd rfl n
  | dat d => obtain ⟨v, e, _⟩ := h; exact ⟨v, e⟩
  | ol d => obtain ⟨a, _, e, _⟩ := h; exact ⟨_, e⟩
  | od t d => obtain ⟨a, _, e, _⟩ := h; exact ⟨_, e⟩
  | lk d => obtain ⟨a, _, e, _⟩ := h; exact ⟨_, e⟩
/-- a name's thing looked at where it stands -/
def Env.at (E : Env) (i : Nat) : Option Sl := match E[i]? with
  | some .no => none
  | r => r
theorem Env.at_some {E : Env} {i : Nat} {s : Sl} (h : E.at i = some s) : E[i]? = some s ∧ s ≠ .no := by
  unfold Env.at at h
  split at h
  · cases h
  · rename_i hn
    exact ⟨h, fun z => hn (by rw [h, z])⟩
theorem OK.at {K : PySem.W.Frag} {G : Gh} {Fz : Addr → Prop} {H : Hp} {E : Env} {σ : L2.St} {i : Nat} {s : Sl} (k : OK K G Fz H E σ) (h : E.at i = some s) : ∃ v, σ[i]? = some (some v) ∧ RS K Fz H G.io (s, some v) := by
  obtain ⟨e, n⟩ := Env.at_some h
  obtain ⟨o, ho, r⟩ := k.slot e
  obtain ⟨v, rfl⟩ := r.is n
  exact ⟨v, ho, r⟩
/-- x op e: x looked at where it stands, behind e -/
def ePk (g : Sl → Sl → Option Sl) (i : Nat) (fb : EF) : EF := fun E => (RR.opt (E.at i)).bind fun _ => (fb E).bind fun q => (RR.opt (q.2.at i)).bind fun s => (RR.opt (g s q.1)).bind fun r => .ok (r, q.2)
theorem tPk_of {W : WX} {K : PySem.W.Frag} {r : R2} {g : Sl → Sl → Option Sl} {i : Nat} {fb : EF} (hg : GR K r g) (σ : L2.St) (H : Hp) (Q : VK) (h : tE W K (ePk g i fb) σ H Q) : tOp r (tVar i) (tE W K fb) σ H Q := by
  obtain ⟨G, E, Fz, k, h⟩ := h
  unfold ePk at h
  cases ea : E.at i with
  | none => rw [ea] at h; exact h.elim
  | some s0 =>
    rw [ea] at h
    obtain ⟨v, hv, _⟩ := k.at ea
    refine ⟨v, hv, tE_mono (tE_of k (EndE.bind (show EndE W K G σ Q ((fb E).bind _) from h))) fun w H1 ⟨y, E1, Fz1, k1, h1⟩ => ?_⟩
    cases eb : E1.at i with
    | none => simp only [eb] at h1; exact h1.elim
    | some s =>
      simp only [eb] at h1
      cases e : g s y with
      | none => simp only [RR.opt, RR.bind, e] at h1; exact h1.elim
      | some t =>
        simp only [RR.opt, RR.bind, e] at h1
        obtain ⟨v', hv', r'⟩ := k1.at eb
        rw [hv] at hv'
        cases hv'
        exact hg k1.pop r' k1.top e fun u H' Fz' k3 => h1 u H' Fz' k3
section
variable {X : Cx} {W : WX} {pos p1 : Pos} {a b c : Expr} {fa fb fc : EF} {i : Nat} {x : Str}
theorem se_eqN (hu : X.A.units + 64 < cLine) (hN : X.N[i]? = some x) (hv : Vis X.env.scope x) (hb : SE X W b fb) (hd : (x == ("__debug__" : Str)) = false := by decide) (hcd : (x == ("__classdict__" : Str)) = false := by decide) :
    SE X W (.Compare (.Name x p1) [.Eq] [b] pos) (ePk (gEqA false) i fb) := PE.imp (pe_cmpR (op_eqA hu) (pe_var hN hv hd hcd) hb (nobehind b (by decide) (by decide))) (tPk_of gr_eq)
theorem se_neN (hu : X.A.units + 64 < cLine) (hN : X.N[i]? = some x) (hv : Vis X.env.scope x) (hb : SE X W b fb) (hd : (x == ("__debug__" : Str)) = false := by decide) (hcd : (x == ("__classdict__" : Str)) = false := by decide) :
    SE X W (.Compare (.Name x p1) [.NotEq] [b] pos) (ePk (gEqA true) i fb) := PE.imp (pe_cmpR (op_neA hu) (pe_var hN hv hd hcd) hb (nobehind b (by decide) (by decide))) (tPk_of gr_ne)
/-! ### in, not in, of flat things -/
def D.flat : D → Bool
  | .non => true
  | .bl _ => true
  | .int _ => true
  | .str _ => true
  | _ => false
def Sl.q? : Sl → Option (List D)
  | .dat (.lst ds) => some ds
  | .dat (.tup ds) => some ds
  | .ol ds => some ds
  | _ => none
def gIn (neg : Bool) : Sl → Sl → Option Sl
  | .dat d, y => match y.q? with
    | some ds => if d.flat && ds.all D.flat then some (.dat (.bl (if neg then !ds.any fun z => eqD z d else ds.any fun z => eqD z d))) else none
    | none => none
  | _, _ => none
theorem RS.q {K : PySem.W.Frag} {Fz : Addr → Prop} {H : Hp} {io : List Addr} {s : Sl} {v : V} {ds : List D} (h : RS K Fz H io (s, some v)) (e : s.q? = some ds) : ∃ a vs, v = .ref a ∧ (SqL K H a vs ∨ SqT K H a vs) ∧ RpL K Fz H ds vs := by
  unfold Sl.q? at e
  split at e
  · cases e
    obtain ⟨a, vs, rfl, z, r⟩ := h.datI
    exact ⟨a, vs, rfl, .inl z.sql, r⟩
  · cases e
    obtain ⟨a, vs, rfl, z, r⟩ := h.datI
    exact ⟨a, vs, rfl, .inr z, r⟩
  · cases e
    obtain ⟨a, vs, e2, z, r⟩ := h
    cases e2
    exact ⟨a, vs, rfl, .inl (.of z), r⟩
  · cases e
theorem flat_v {K : PySem.W.Frag} {Fz : Addr → Prop} {H : Hp} : ∀ {d : D} {v : V}, d.flat = true → Rp K Fz H d v → flatV v = true
  | .non, _, _, h => by rw [show _ = V.non from h]; rfl
  | .bl b, _, _, h => by rw [show _ = V.bl b from h]; rfl
  | .int i, _, _, h => by rw [show _ = V.int i from h]; rfl
  | .str x, _, _, h => by rw [show _ = V.str x from h]; rfl
theorem eq_v {K : PySem.W.Frag} {Fz : Addr → Prop} {H : Hp} {d e : D} {v u : V} (f1 : d.flat = true) (f2 : e.flat = true) (h1 : Rp K Fz H d v) (h2 : Rp K Fz H e u) : eqV v u = eqD d e := by
  have g1 := fun (z : V) => z
  cases d <;> first | (cases f1; done) | skip
  all_goals
    cases e <;> first | (cases f2; done) | skip
  all_goals
    rw [show v = _ from h1, show u = _ from h2]
    simp [eqV, eqD, D.py, PyData.eqv]
theorem flat_vs {K : PySem.W.Frag} {Fz : Addr → Prop} {H : Hp} : ∀ {ds : List D} {vs : List V}, ds.all D.flat = true → RpL K Fz H ds vs → vs.all flatV = true
  | [], _, _, h => by rw [show _ = [] from h]; rfl
  | d :: ds, _, f, ⟨v, r, e, h1, h2⟩ => by
    subst e
    rw [List.all_cons, Bool.and_eq_true] at f ⊢
    exact ⟨flat_v f.1 h1, flat_vs f.2 h2⟩
theorem in_v {K : PySem.W.Frag} {Fz : Addr → Prop} {H : Hp} {d : D} {v : V} (fd : d.flat = true) (hd : Rp K Fz H d v) : ∀ {ds : List D} {vs : List V}, ds.all D.flat = true → RpL K Fz H ds vs → inV v vs = ds.any fun z => eqD z d
  | [], _, _, h => by rw [show _ = [] from h]; rfl
  | e :: ds, _, f, ⟨u, r, q, h1, h2⟩ => by
    subst q
    rw [List.all_cons, Bool.and_eq_true] at f
    show ((u :: r).any fun y => eqV y v) = _
    rw [List.any_cons, List.any_cons, eq_v f.1 fd h1 hd]
    congr 1
    exact in_v fd hd f.2 h2
theorem gr_in {K : PySem.W.Frag} {neg : Bool} : GR K (rIn K neg) (gIn neg) := by
  intro G Fz H E σ x y s v w Q k kx ky e q
  unfold gIn at e
  split at e
  · rename_i d
    cases e1 : y.q? with
    | none => rw [e1] at e; cases e
    | some ds =>
      rw [e1] at e
      have e : (if (d.flat && ds.all D.flat) = true then some (Sl.dat (.bl (if neg then !ds.any fun z => eqD z d else ds.any fun z => eqD z d))) else none) = some s := e
      split at e
      · rename_i hf
        cases e
        obtain ⟨f1, f2⟩ := Bool.and_eq_true_iff.mp hf
        obtain ⟨a, vs, rfl, hs, r⟩ := ky.q e1
        have hd := kx.datI
        refine ⟨a, vs, rfl, hs, flat_v f1 hd, flat_vs f2 r, ?_⟩
        rw [in_v f1 hd f2 r]
        exact q _ H Fz (k.dat (by cases neg <;> rfl))
      · cases e
  · cases e
theorem se_in (ha : SE X W a fa) (hb : SE X W b fb) (hm : behindInMarks .In b = false := by rfl) : SE X W (.Compare a [.In] [b] pos) (eOp (gIn false) fa fb) := se_cmp op_in_seq gr_in ha hb hm
theorem se_notIn (ha : SE X W a fa) (hb : SE X W b fb) (hm : behindInMarks .NotIn b = false := by rfl) : SE X W (.Compare a [.NotIn] [b] pos) (eOp (gIn true) fa fb) := se_cmp op_notIn_seq gr_in ha hb hm
/-! ### is None -/
def D.isNon : D → Bool
  | .non => true
  | _ => false
def gIsN (neg : Bool) : Sl → Option Sl
  | .dat d => some (.dat (.bl (if neg then !d.isNon else d.isNon)))
  | .ol _ => some (.dat (.bl neg))
  | _ => none
theorem isNon_v {K : PySem.W.Frag} {Fz : Addr → Prop} {H : Hp} {d : D} {v : V} (h : Rp K Fz H d v) : decide (v = .non) = d.isNon := by
  cases d with
  | non => rw [show v = _ from h]; rfl
  | bl b => rw [show v = _ from h]; rfl
  | int b => rw [show v = _ from h]; rfl
  | str b => rw [show v = _ from h]; rfl
  | tup ds => obtain ⟨a, vs, rfl, _⟩ := h; rfl
  | lst ds => obtain ⟨a, vs, rfl, _⟩ := h; rfl
  | exc c r d => obtain ⟨a, dx, y, rfl, _⟩ := h; rfl
theorem se_isN {j : Nat} (ha : SE X W a fa) : SE X W (.Compare a [.Is] [.Constant .none j p1] pos) (eUn (gIsN false) fa) :=
  PE.imp (t := tIsN (tE W X.K fa)) (pe_cmp (pc_isN ha) rfl) fun σ H Q h => tUn_of (K := X.K) (r := fun x H1 Q => Q (.bl (decide (x = .non))) H1) (fun {G Fz H E σ x s v Q} k kx e q => by
    unfold gIsN at e
    split at e
    · cases e
      rw [isNon_v kx.datI]
      exact q _ H Fz (k.dat rfl)
    · cases e
      obtain ⟨a, vs, e2, _⟩ := kx
      cases e2
      exact q _ H Fz (k.dat rfl)
    · cases e) σ H Q h
theorem se_notN {j : Nat} (ha : SE X W a fa) : SE X W (.Compare a [.IsNot] [.Constant .none j p1] pos) (eUn (gIsN true) fa) :=
  PE.imp (t := tNotN (tE W X.K fa)) (pe_cmp (pc_notN ha) rfl) fun σ H Q h => tUn_of (K := X.K) (r := fun x H1 Q => Q (.bl (!decide (x = .non))) H1) (fun {G Fz H E σ x s v Q} k kx e q => by
    unfold gIsN at e
    split at e
    · cases e
      rw [isNon_v kx.datI]
      exact q _ H Fz (k.dat rfl)
    · cases e
      obtain ⟨a, vs, e2, _⟩ := kx
      cases e2
      exact q _ H Fz (k.dat rfl)
    · cases e) σ H Q h
end
end VL

/-! The value layer, 5: tests, choices, arguments, displays, subscripts, slices. -/
namespace VL
open PySem PySem.Spec PyProof.Rows L2

section
variable {W : WX} {K : PySem.W.Frag} {G : Gh} {Fz : Addr → Prop} {H : Hp} {E : Env} {σ : L2.St} {Q : VK} {QT : Bool → Hp → Prop} {QA : List V → Hp → Prop}
theorem EndE.bindT {x : RR (Bool × Env)} {k : Bool × Env → RR (Sl × Env)} (h : EndE W K G σ Q (x.bind k)) : EndT W K G σ (fun b H' => ∃ E1 Fz1, OK K G Fz1 H' E1 σ ∧ EndE W K G σ Q (k (b, E1))) x := by
  cases x with
  | ok p => exact fun H1 Fz1 k1 => ⟨p.2, Fz1, k1, h⟩
  | exc x E' => exact h
  | bad => exact h
theorem EndT.bindE {x : RR (Sl × Env)} {k : Sl × Env → RR (Bool × Env)} (h : EndT W K G σ QT (x.bind k)) : EndE W K G σ (fun v H' => ∃ r E1 Fz1, OK K (G.p r v) Fz1 H' E1 σ ∧ EndT W K G σ QT (k (r, E1))) x := by
  cases x with
  | ok p => exact fun v H1 Fz1 k1 => ⟨p.1, p.2, Fz1, k1, h⟩
  | exc x E' => exact h
  | bad => exact h
theorem EndT.bindT {x : RR (Bool × Env)} {k : Bool × Env → RR (Bool × Env)} (h : EndT W K G σ QT (x.bind k)) : EndT W K G σ (fun b H' => ∃ E1 Fz1, OK K G Fz1 H' E1 σ ∧ EndT W K G σ QT (k (b, E1))) x := by
  cases x with
  | ok p => exact fun H1 Fz1 k1 => ⟨p.2, Fz1, k1, h⟩
  | exc x E' => exact h
  | bad => exact h
theorem tT_of {f : TF} (k : OK K G Fz H E σ) (h : EndT W K G σ QT (f E)) : tT W K f σ H QT := ⟨G, E, Fz, k, h⟩
theorem tT_mono {f : TF} {Q' : Bool → Hp → Prop} (h : tT W K f σ H QT) (i : ∀ v H', QT v H' → Q' v H') : tT W K f σ H Q' := by
  obtain ⟨G, E, Fz, k, h⟩ := h
  refine ⟨G, E, Fz, k, ?_⟩
  cases hf : f E with
  | ok p =>
    rw [hf] at h
    exact fun H1 Fz1 k1 => i _ _ (h H1 Fz1 k1)
  | exc x E' =>
    rw [hf] at h
    exact h
  | bad =>
    rw [hf] at h
    exact h
end
/-! ### tests -/
def tfV (f : EF) : TF := fun E => (f E).bind fun p => match p.1 with
  | .dat (.bl b) => .ok (b, p.2)
  | _ => .bad
def tfAnd (f g : TF) : TF := fun E => (f E).bind fun p => if p.1 then g p.2 else .ok (false, p.2)
def tfOr (f g : TF) : TF := fun E => (f E).bind fun p => if p.1 then .ok (true, p.2) else g p.2
def tfNot (f : TF) : TF := fun E => (f E).bind fun p => .ok (!p.1, p.2)
def SW (X : Cx) (W : WX) (e : Expr) (f : TF) : Prop := PW X e (tT W X.K f)
theorem PW.imp {X : Cx} {e : Expr} {t t' : TT} (h : PW X e t) (i : ∀ σ H Q, t' σ H Q → t σ H Q) : PW X e t' := ⟨fun wh pins s σ H Q I q => h.run wh pins s σ H Q I (i σ H Q q)⟩
section
variable {X : Cx} {W : WX} {pos : Pos} {a b c : Expr} {rest : List Expr} {f g : TF} {fa fb fc : EF}
theorem tfV_of {K : PySem.W.Frag} (σ : L2.St) (H : Hp) (Q : Bool → Hp → Prop) (h : tT W K (tfV fa) σ H Q) : tE W K fa σ H fun x H1 => ∃ c, x = .bl c ∧ Q c H1 := by
  obtain ⟨G, E, Fz, k, h⟩ := h
  refine tE_mono (tE_of k (EndT.bindE h)) fun v H1 ⟨r, E1, Fz1, k1, h1⟩ => ?_
  split at h1
  · rename_i b er
    cases er
    exact ⟨b, k1.datI, h1 H1 Fz1 k1.pop⟩
  · exact h1.elim
theorem st_val (ha : SE X W a fa) (he : ∀ whole, isTrue a X.env whole = (do let v ← whole; standAt a.pos; holding [v] (truthy v)) := by intro _; rfl) : ST X W a (tfV fa) := PT.imp (pt_val ha he) tfV_of
theorem st_not (ha : ST X W a f) : ST X W (.UnaryOp .Not a pos) (tfNot f) := PT.imp (pt_not ha) fun σ H Q ⟨G, E, Fz, k, h⟩ => tT_mono (tT_of k (EndT.bindT h)) fun v H1 ⟨E1, Fz1, k1, h1⟩ => h1 H1 Fz1 k1
theorem sw_and1 (ha : ST X W a f) : SW X W (.BoolOp .And [a] pos) f := pw_and1 ha
theorem sw_or1 (ha : ST X W a f) : SW X W (.BoolOp .Or [a] pos) f := pw_or1 ha
theorem sw_and (ha : ST X W a f) (hb : SW X W (.BoolOp .And (b :: rest) pos) g) : SW X W (.BoolOp .And (a :: b :: rest) pos) (tfAnd f g) := PW.imp (pw_and ha hb) fun σ H Q ⟨G, E, Fz, k, h⟩ => by
  refine tT_mono (tT_of k (EndT.bindT h)) fun v H1 ⟨E1, Fz1, k1, h1⟩ => ?_
  cases v with
  | true => exact tT_of k1 h1
  | false => exact h1 H1 Fz1 k1
theorem sw_or (ha : ST X W a f) (hb : SW X W (.BoolOp .Or (b :: rest) pos) g) : SW X W (.BoolOp .Or (a :: b :: rest) pos) (tfOr f g) := PW.imp (pw_or ha hb) fun σ H Q ⟨G, E, Fz, k, h⟩ => by
  refine tT_mono (tT_of k (EndT.bindT h)) fun v H1 ⟨E1, Fz1, k1, h1⟩ => ?_
  cases v with
  | true => exact h1 H1 Fz1 k1
  | false => exact tT_of k1 h1
theorem SW.st (h : SW X W a f) : ST X W a f := PW.pt h
/-! ### a comparison as a test -/
theorem st_of_cmp {op : CmpOp} {r : R2} {g : Sl → Sl → Option Sl} (ho : OpR X (compareOp op) r) (hg : GR X.K r g) (ha : SE X W a fa) (hb : SE X W b fb) (hm : behindInMarks op b = false) : ST X W (.Compare a [op] [b] pos) (tfV (eOp g fa fb)) :=
  PT.imp (pt_cmpR ho ha hb hm) fun σ H Q h => tOp_of hg σ H _ (tfV_of σ H Q h)
theorem st_of_pk {op : CmpOp} {r : R2} {g : Sl → Sl → Option Sl} {i : Nat} {x : Str} {p1 : Pos} (ho : OpR X (compareOp op) r) (hg : GR X.K r g) (hN : X.N[i]? = some x) (hv : Vis X.env.scope x) (hb : SE X W b fb) (hm : behindInMarks op b = false) (hd : (x == ("__debug__" : Str)) = false) (hcd : (x == ("__classdict__" : Str)) = false) :
    ST X W (.Compare (.Name x p1) [op] [b] pos) (tfV (ePk g i fb)) :=
  PT.imp (pt_cmpR ho (pe_var hN hv hd hcd) hb hm) fun σ H Q h => tPk_of hg σ H _ (tfV_of σ H Q h)
theorem st_lt (ha : SE X W a fa) (hb : SE X W b fb) : ST X W (.Compare a [.Lt] [b] pos) (tfV (eOp gLt fa fb)) := st_of_cmp op_lt (gr_int0 (f := fun i j => .bl (decide (i < j))) (g := fun i j => .bl (decide (i < j))) fun _ _ _ _ => rfl) ha hb (nobehind b (by decide) (by decide))
theorem st_le (ha : SE X W a fa) (hb : SE X W b fb) : ST X W (.Compare a [.LtE] [b] pos) (tfV (eOp gLe fa fb)) := st_of_cmp op_le (gr_int0 (f := fun i j => .bl (decide (i ≤ j))) (g := fun i j => .bl (decide (i ≤ j))) fun _ _ _ _ => rfl) ha hb (nobehind b (by decide) (by decide))
theorem st_gt (ha : SE X W a fa) (hb : SE X W b fb) : ST X W (.Compare a [.Gt] [b] pos) (tfV (eOp gGt fa fb)) := st_of_cmp op_gt (gr_int0 (f := fun i j => .bl (decide (j < i))) (g := fun i j => .bl (decide (j < i))) fun _ _ _ _ => rfl) ha hb (nobehind b (by decide) (by decide))
theorem st_ge (ha : SE X W a fa) (hb : SE X W b fb) : ST X W (.Compare a [.GtE] [b] pos) (tfV (eOp gGe fa fb)) := st_of_cmp op_ge (gr_int0 (f := fun i j => .bl (decide (j ≤ i))) (g := fun i j => .bl (decide (j ≤ i))) fun _ _ _ _ => rfl) ha hb (nobehind b (by decide) (by decide))
theorem st_eq (hu : X.A.units + 64 < cLine) (ha : SE X W a fa) (hb : SE X W b fb) : ST X W (.Compare a [.Eq] [b] pos) (tfV (eOp (gEqA false) fa fb)) := st_of_cmp (op_eqA hu) gr_eq ha hb (nobehind b (by decide) (by decide))
theorem st_ne (hu : X.A.units + 64 < cLine) (ha : SE X W a fa) (hb : SE X W b fb) : ST X W (.Compare a [.NotEq] [b] pos) (tfV (eOp (gEqA true) fa fb)) := st_of_cmp (op_neA hu) gr_ne ha hb (nobehind b (by decide) (by decide))
theorem st_eqN {i : Nat} {x : Str} {p1 : Pos} (hu : X.A.units + 64 < cLine) (hN : X.N[i]? = some x) (hv : Vis X.env.scope x) (hb : SE X W b fb) (hd : (x == ("__debug__" : Str)) = false := by decide) (hcd : (x == ("__classdict__" : Str)) = false := by decide) :
    ST X W (.Compare (.Name x p1) [.Eq] [b] pos) (tfV (ePk (gEqA false) i fb)) := st_of_pk (op_eqA hu) gr_eq hN hv hb (nobehind b (by decide) (by decide)) hd hcd
theorem st_neN {i : Nat} {x : Str} {p1 : Pos} (hu : X.A.units + 64 < cLine) (hN : X.N[i]? = some x) (hv : Vis X.env.scope x) (hb : SE X W b fb) (hd : (x == ("__debug__" : Str)) = false := by decide) (hcd : (x == ("__classdict__" : Str)) = false := by decide) :
    ST X W (.Compare (.Name x p1) [.NotEq] [b] pos) (tfV (ePk (gEqA true) i fb)) := st_of_pk (op_neA hu) gr_ne hN hv hb (nobehind b (by decide) (by decide)) hd hcd
theorem st_in (ha : SE X W a fa) (hb : SE X W b fb) (hm : behindInMarks .In b = false := by rfl) : ST X W (.Compare a [.In] [b] pos) (tfV (eOp (gIn false) fa fb)) := st_of_cmp op_in_seq gr_in ha hb hm
theorem st_notIn (ha : SE X W a fa) (hb : SE X W b fb) (hm : behindInMarks .NotIn b = false := by rfl) : ST X W (.Compare a [.NotIn] [b] pos) (tfV (eOp (gIn true) fa fb)) := st_of_cmp op_notIn_seq gr_in ha hb hm
theorem st_isN {j : Nat} {p1 : Pos} (ha : SE X W a fa) : ST X W (.Compare a [.Is] [.Constant .none j p1] pos) (tfV (eUn (gIsN false) fa)) := PT.imp (pt_cmp (pc_isN ha) rfl) fun σ H Q h => tUn_of (K := X.K) (r := fun x H1 Q => Q (.bl (decide (x = .non))) H1) (fun {G Fz H E σ x s v Q} k kx e q => by
    unfold gIsN at e
    split at e
    · cases e
      rw [isNon_v kx.datI]
      exact q _ H Fz (k.dat rfl)
    · cases e
      obtain ⟨a, vs, e2, _⟩ := kx
      cases e2
      exact q _ H Fz (k.dat rfl)
    · cases e) σ H _ (tfV_of σ H Q h)
theorem st_notN {j : Nat} {p1 : Pos} (ha : SE X W a fa) : ST X W (.Compare a [.IsNot] [.Constant .none j p1] pos) (tfV (eUn (gIsN true) fa)) := PT.imp (pt_cmp (pc_notN ha) rfl) fun σ H Q h => tUn_of (K := X.K) (r := fun x H1 Q => Q (.bl (!decide (x = .non))) H1) (fun {G Fz H E σ x s v Q} k kx e q => by
    unfold gIsN at e
    split at e
    · cases e
      rw [isNon_v kx.datI]
      exact q _ H Fz (k.dat rfl)
    · cases e
      obtain ⟨a, vs, e2, _⟩ := kx
      cases e2
      exact q _ H Fz (k.dat rfl)
    · cases e) σ H _ (tfV_of σ H Q h)
/-- a < b < c of ints -/
def eChain (p q : Int → Int → Bool) (fa fb fc : EF) : EF := fun E => (fa E).bind fun x => (fb x.2).bind fun y => match x.1, y.1 with
  | .dat (.int i), .dat (.int j) => if p i j then (fc y.2).bind fun z => match z.1 with
      | .dat (.int l) => .ok (.dat (.bl (q j l)), z.2)
      | _ => .bad
    else .ok (.dat (.bl false), y.2)
  | _, _ => .bad
theorem tChain_of {K : PySem.W.Frag} {p q : Int → Int → Bool} (σ : L2.St) (H : Hp) (Q : VK) (h : tE W K (eChain p q fa fb fc) σ H Q) : tChain (rI0 fun i j => .bl (p i j)) (rI0 fun i j => .bl (q i j)) (tE W K fa) (tE W K fb) (tE W K fc) σ H Q := by
  obtain ⟨G, E, Fz, k, h⟩ := h
  refine tE_mono (tE_of k (EndE.bind h)) fun v H1 ⟨x, E1, Fz1, k1, h1⟩ => ?_
  refine tE_mono (tE_of k1 (EndE.bind1 h1)) fun w H2 ⟨y, E2, Fz2, k2, h2⟩ => ?_
  split at h2
  · rename_i x' y' i j e1 e2
    cases e1
    cases e2
    have hv : v = .int i := k2.pop.datI
    have hw : w = .int j := k2.datI
    refine ⟨i, j, hv, hw, _, rfl, ?_⟩
    by_cases hp : p i j = true
    · rw [if_pos hp] at h2 ⊢
      refine tE_mono (tE_of k2.pop.pop (EndE.bind h2)) fun u H3 ⟨z, E3, Fz3, k3, h3⟩ => ?_
      split at h3
      · rename_i l e3
        cases e3
        exact ⟨j, l, hw, k3.datI, h3 _ H3 Fz3 (k3.pop.dat rfl)⟩
      · exact h3.elim
    · rw [if_neg hp] at h2 ⊢
      exact h2 _ H2 Fz2 (k2.pop.pop.dat rfl)
  · exact h2.elim
def leB (i j : Int) : Bool := decide (i ≤ j)
def ltB (i j : Int) : Bool := decide (i < j)
theorem se_leLe (ha : SE X W a fa) (hb : SE X W b fb) (hc : SE X W c fc) (hm : lastMarks [.LtE, .LtE] [b, c] = false := by with_unfolding_all rfl) : SE X W (.Compare a [.LtE, .LtE] [b, c] pos) (eChain leB leB fa fb fc) := PE.imp (pe_chain op_le op_le ha hb hc hm) tChain_of
theorem se_leLt (ha : SE X W a fa) (hb : SE X W b fb) (hc : SE X W c fc) (hm : lastMarks [.LtE, .Lt] [b, c] = false := by with_unfolding_all rfl) : SE X W (.Compare a [.LtE, .Lt] [b, c] pos) (eChain leB ltB fa fb fc) := PE.imp (pe_chain op_le op_lt ha hb hc hm) tChain_of
theorem st_leLe (ha : SE X W a fa) (hb : SE X W b fb) (hc : SE X W c fc) (hm : lastMarks [.LtE, .LtE] [b, c] = false := by with_unfolding_all rfl) : ST X W (.Compare a [.LtE, .LtE] [b, c] pos) (tfV (eChain leB leB fa fb fc)) := PT.imp (pt_chain op_le op_le ha hb hc hm) fun σ H Q h => by
  have h2 := tChain_of σ H _ (tfV_of σ H Q h)
  exact h2
/-! ### and, or, not as values; choices -/
def eAnd (fa fb : EF) : EF := fun E => (fa E).bind fun p => match p.1 with
  | .dat (.bl true) => fb p.2
  | .dat (.bl false) => .ok (.dat (.bl false), p.2)
  | _ => .bad
def eOr (fa fb : EF) : EF := fun E => (fa E).bind fun p => match p.1 with
  | .dat (.bl false) => fb p.2
  | .dat (.bl true) => .ok (.dat (.bl true), p.2)
  | _ => .bad
def eNot (fa : EF) : EF := eUn (fun s => match s with | .dat (.bl b) => some (.dat (.bl (!b))) | _ => none) fa
def eIf (f : TF) (fa fb : EF) : EF := fun E => (f E).bind fun p => if p.1 then fa p.2 else fb p.2
theorem se_one {op : BoolOp} (ha : SE X W a fa) : SE X W (.BoolOp op [a] pos) fa := pe_one ha
theorem se_and (ha : SE X W a fa) (hb : SE X W (.BoolOp .And (b :: rest) pos) fb) : SE X W (.BoolOp .And (a :: b :: rest) pos) (eAnd fa fb) := PE.imp (pe_and ha hb) fun σ H Q ⟨G, E, Fz, k, h⟩ => by
  refine tE_mono (tE_of k (EndE.bind h)) fun v H1 ⟨x, E1, Fz1, k1, h1⟩ => ?_
  split at h1
  · rename_i e1
    cases e1
    exact ⟨true, k1.datI, tE_of k1.pop h1⟩
  · rename_i e1
    cases e1
    exact ⟨false, k1.datI, h1 _ H1 Fz1 (k1.pop.dat rfl)⟩
  · exact h1.elim
theorem se_or (ha : SE X W a fa) (hb : SE X W (.BoolOp .Or (b :: rest) pos) fb) : SE X W (.BoolOp .Or (a :: b :: rest) pos) (eOr fa fb) := PE.imp (pe_or ha hb) fun σ H Q ⟨G, E, Fz, k, h⟩ => by
  refine tE_mono (tE_of k (EndE.bind h)) fun v H1 ⟨x, E1, Fz1, k1, h1⟩ => ?_
  split at h1
  · rename_i e1
    cases e1
    exact ⟨false, k1.datI, tE_of k1.pop h1⟩
  · rename_i e1
    cases e1
    exact ⟨true, k1.datI, h1 _ H1 Fz1 (k1.pop.dat rfl)⟩
  · exact h1.elim
theorem se_not (ha : SE X W a fa) : SE X W (.UnaryOp .Not a pos) (eNot fa) := PE.imp (pe_not ha) fun σ H Q h => by
  refine tE_mono (tUn_of (K := X.K) (r := fun x H1 Q => ∃ c, x = .bl c ∧ Q (.bl (!c)) H1) (fun {G Fz H E σ x s v Q} k kx e q => ?_) σ H Q h) fun v H1 h1 => h1
  split at e
  · cases e
    exact ⟨_, kx.datI, q _ H Fz (k.dat rfl)⟩
  · cases e
theorem se_if (hc : ST X W c f) (ha : SE X W a fa) (hb : SE X W b fb) : SE X W (.IfExp c a b pos) (eIf f fa fb) := PE.imp (pe_ifExp hc ha hb) fun σ H Q ⟨G, E, Fz, k, h⟩ => by
  refine tT_mono (tT_of k (EndE.bindT h)) fun v H1 ⟨E1, Fz1, k1, h1⟩ => ?_
  cases v with
  | true => exact tE_of k1 h1
  | false => exact tE_of k1 h1
end
end VL

/-! The value layer, 6: arguments, displays, subscripts, slices. -/
namespace VL
open PySem PySem.Spec PyProof.Rows L2

section
variable {W : WX} {K : PySem.W.Frag} {G : Gh} {Fz : Addr → Prop} {H : Hp} {E : Env} {σ : L2.St} {Q : VK} {QA : List V → Hp → Prop}
theorem EndX.ps {x : D} : ∀ {rs : List Sl} {vs : List V} {G : Gh}, EndX W K G x E σ → EndX W K (G.ps rs vs) x E σ
  | [], _, _, h => h
  | _ :: _, [], _, h => h
  | s :: ss, v :: vs, G, h => EndX.ps (rs := ss) (vs := vs) (h.pop (s := s) (v := v))
theorem EndA.bindE {x : RR (Sl × Env)} {k : Sl × Env → RR (List Sl × Env)} (h : EndA W K G σ QA (x.bind k)) : EndE W K G σ (fun v H' => ∃ r E1 Fz1, OK K (G.p r v) Fz1 H' E1 σ ∧ EndA W K G σ QA (k (r, E1))) x := by
  cases x with
  | ok p => exact fun v H1 Fz1 k1 => ⟨p.1, p.2, Fz1, k1, h⟩
  | exc x E' => exact h
  | bad => exact h
theorem EndE.bindA {x : RR (List Sl × Env)} {k : List Sl × Env → RR (Sl × Env)} (h : EndE W K G σ Q (x.bind k)) : EndA W K G σ (fun vs H' => ∃ rs E1 Fz1, vs.length = rs.length ∧ OK K (G.ps rs vs) Fz1 H' E1 σ ∧ EndE W K G σ Q (k (rs, E1))) x := by
  cases x with
  | ok p => exact fun v H1 Fz1 hl k1 => ⟨p.1, p.2, Fz1, hl, k1, h⟩
  | exc x E' => exact h
  | bad => exact h
theorem tA_of {f : AF} (k : OK K G Fz H E σ) (h : EndA W K G σ QA (f E)) : tA W K f σ H QA := ⟨G, E, Fz, k, h⟩
theorem tA_mono {f : AF} {Q' : List V → Hp → Prop} (h : tA W K f σ H QA) (i : ∀ v H', QA v H' → Q' v H') : tA W K f σ H Q' := by
  obtain ⟨G, E, Fz, k, h⟩ := h
  refine ⟨G, E, Fz, k, ?_⟩
  cases hf : f E with
  | ok p =>
    rw [hf] at h
    exact fun v H1 Fz1 hl k1 => i _ _ (h v H1 Fz1 hl k1)
  | exc x E' =>
    rw [hf] at h
    exact h
  | bad =>
    rw [hf] at h
    exact h
/-- with more below -/
theorem EndA.bindA1 {rs0 : List Sl} {us : List V} {x : RR (List Sl × Env)} {k : List Sl × Env → RR (List Sl × Env)} (h : EndA W K G σ QA (x.bind k)) :
    EndA W K (G.ps rs0 us) σ (fun vs H' => ∃ rs E1 Fz1, vs.length = rs.length ∧ OK K ((G.ps rs0 us).ps rs vs) Fz1 H' E1 σ ∧ EndA W K G σ QA (k (rs, E1))) x := by
  cases x with
  | ok p => exact fun v H1 Fz1 hl k1 => ⟨p.1, p.2, Fz1, hl, k1, h⟩
  | exc x E' => exact EndX.ps h
  | bad => exact h
theorem ps_app : ∀ {rs rs2 : List Sl} {vs vs2 : List V} {G : Gh}, vs.length = rs.length → (G.ps rs vs).ps rs2 vs2 = G.ps (rs ++ rs2) (vs ++ vs2)
  | [], _, [], _, _, _ => rfl
  | [], _, _ :: _, _, _, h => by simp at h
  | _ :: _, _, [], _, _, h => by simp at h
  | s :: ss, rs2, v :: vs, vs2, G, h => ps_app (rs := ss) (vs := vs) (G := G.p s v) (by simpa using h)
theorem OK.pushL : ∀ {ds : List D} {vs : List V} {G : Gh}, OK K G Fz H E σ → RpL K Fz H ds vs → OK K (G.ps (ds.map .dat) vs) Fz H E σ
  | [], _, _, k, h => by rw [show _ = [] from h]; exact k
  | d :: ds, _, G, k, ⟨v, r, e, h1, h2⟩ => by
    subst e
    exact OK.pushL (G := G.p (.dat d) v) (k.dat h1) h2
/-- all frozen, and taken off -/
def dAll : List Sl → Option (List D)
  | [] => some []
  | s :: ss => match s.d?, dAll ss with
    | some d, some ds => some (d :: ds)
    | _, _ => none
theorem OK.all : ∀ {rs : List Sl} {vs : List V} {ds : List D} {G : Gh}, vs.length = rs.length → OK K (G.ps rs vs) Fz H E σ → dAll rs = some ds → ∃ Fz', (∀ a, Fz a → Fz' a) ∧ OK K G Fz' H E σ ∧ RpL K Fz' H ds vs
  | [], [], ds, G, _, k, h => by
    cases h
    exact ⟨Fz, fun _ z => z, k, .nil⟩
  | [], _ :: _, _, _, hl, _, _ => by simp at hl
  | _ :: _, [], _, _, hl, _, _ => by simp at hl
  | s :: ss, v :: vs, ds, G, hl, k, h => by
    unfold dAll at h
    cases e1 : s.d? with
    | none => rw [e1] at h; cases h
    | some d =>
      cases e2 : dAll ss with
      | none => rw [e1, e2] at h; cases h
      | some ds' =>
        rw [e1, e2] at h
        cases h
        obtain ⟨Fz1, f1, k1, r1⟩ := OK.all (rs := ss) (vs := vs) (ds := ds') (G := G.p s v) (by simpa using hl) k e2
        cases s with
        | dat d' =>
          cases e1
          exact ⟨Fz1, f1, k1.pop, .cons k1.datI r1⟩
        | ol xs =>
          cases e1
          obtain ⟨Fz2, f2, k2⟩ := k1.frz
          exact ⟨Fz2, fun a z => f2 a (f1 a z), k2.pop, .cons k2.datI (r1.keep Kp.refl f2 _)⟩
        | _ => cases e1
end
/-! ### arguments -/
def aNil : AF := fun E => .ok ([], E)
def aCons (f : EF) (g : AF) : AF := fun E => (f E).bind fun p => (g p.2).bind fun q => .ok (p.1 :: q.1, q.2)
def aStar (f : EF) (g : AF) : AF := fun E => (f E).bind fun p => (RR.opt p.1.q?).bind fun ds => (g p.2).bind fun q => .ok (ds.map Sl.dat ++ q.1, q.2)
section
variable {X : Cx} {W : WX} {e : Expr} {es : List Expr} {f : EF} {g : AF} {p pos : Pos}
theorem sa_nil : SA X W [] aNil := PA.imp pa_nil fun σ H Q ⟨G, E, Fz, k, h⟩ => h [] H Fz rfl k
theorem sa_cons (he : SE X W e f) (hr : SA X W es g) (hs : starEach (e :: es) X.env = (false, eval e X.env) :: starEach es X.env := by rfl) : SA X W (e :: es) (aCons f g) := PA.imp (pa_cons he hr hs) fun σ H Q ⟨G, E, Fz, k, h⟩ => by
  refine tE_mono (tE_of k (EndA.bindE h)) fun v H1 ⟨r, E1, Fz1, k1, h1⟩ => ?_
  refine tA_mono (tA_of (G := G.ps [r] [v]) k1 (EndA.bindA1 h1)) fun vs H2 ⟨rs, E2, Fz2, hl, k2, h2⟩ => ?_
  exact h2 (v :: vs) H2 Fz2 (by simpa using hl) k2
theorem sa_star (he : SE X W e f) (hr : SA X W es g) (hs : starEach (.Starred e p :: es) X.env = (true, eval e X.env) :: starEach es X.env := by rfl) : SA X W (.Starred e p :: es) (aStar f g) := PA.imp (StX.pa_star he hr hs) fun σ H Q ⟨G, E, Fz, k, h⟩ => by
  refine tE_mono (tE_of k (EndA.bindE h)) fun v H1 ⟨r, E1, Fz1, k1, h1⟩ => ?_
  cases eq : r.q? with
  | none => rw [eq] at h1; exact h1.elim
  | some ds =>
    rw [eq] at h1
    obtain ⟨a, vs, rfl, hs, rl⟩ := k1.top.q eq
    refine ⟨a, vs, rfl, hs.symm, ?_⟩
    have hl : vs.length = (ds.map Sl.dat).length := by rw [List.length_map, rl.len]
    refine tA_mono (tA_of (G := G.ps (ds.map .dat) vs) (k1.pop.pushL rl) (EndA.bindA1 h1)) fun us H2 ⟨rs, E2, Fz2, hl2, k2, h2⟩ => ?_
    rw [ps_app hl] at k2
    exact h2 (vs ++ us) H2 Fz2 (by simp only [List.length_append, hl, hl2]) k2
/-! ### displays -/
def eTup (g : AF) : EF := fun E => (g E).bind fun p => (RR.opt (dAll p.1)).bind fun ds => if ds.length ≤ SZ then .ok (.dat (.tup ds), p.2) else .bad
def eLst (g : AF) : EF := fun E => (g E).bind fun p => (RR.opt (dAll p.1)).bind fun ds => if ds.length ≤ SZ then .ok (.ol ds, p.2) else .bad
theorem se_tup {x1} (h : SA X W es g) : SE X W (.Tuple es x1 pos) (eTup g) := PE.imp (pe_tup h) fun σ H Q ⟨G, E, Fz, k, h⟩ => by
  refine tA_mono (tA_of k (EndE.bindA h)) fun vs H1 ⟨rs, E1, Fz1, hl, k1, h1⟩ => ?_
  cases ed : dAll rs with
  | none => simp only [ed] at h1; exact h1.elim
  | some ds =>
    simp only [ed, RR.opt, RR.bind] at h1
    split at h1
    · rename_i hz
      obtain ⟨Fz2, f2, k2, r2⟩ := k1.all hl ed
      exact ⟨by rw [← SZ_eq, ← r2.len]; exact hz, fun p np => h1 _ _ Fz2 (k2.newT np r2)⟩
    · exact h1.elim
theorem se_lst (h : SA X W es g) : SE X W (.List es pos) (eLst g) := PE.imp (pe_lst h) fun σ H Q ⟨G, E, Fz, k, h⟩ => by
  refine tA_mono (tA_of k (EndE.bindA h)) fun vs H1 ⟨rs, E1, Fz1, hl, k1, h1⟩ => ?_
  cases ed : dAll rs with
  | none => simp only [ed] at h1; exact h1.elim
  | some ds =>
    simp only [ed, RR.opt, RR.bind] at h1
    split at h1
    · rename_i hz
      obtain ⟨Fz2, f2, k2, r2⟩ := k1.all hl ed
      exact ⟨by rw [← SZ_eq, ← r2.len]; exact hz, fun p np => h1 _ _ Fz2 (k2.newL np r2)⟩
    · exact h1.elim
end
/-! ### subscripts -/
def gIx : Sl → Sl → Option Sl
  | .dat (.str z), .dat (.int i) => if z.length ≤ SZ then (atI z.cps.toList i).map fun c => .dat (.str ⟨#[c]⟩) else none
  | x, .dat (.int i) => x.q?.bind fun ds => (atI ds i).map .dat
  | _, _ => none
theorem atI_rp {K : PySem.W.Frag} {Fz : Addr → Prop} {H : Hp} {ds : List D} {vs : List V} {i : Int} {d : D} (r : RpL K Fz H ds vs) (h : atI ds i = some d) : ∃ v, atI vs i = some v ∧ Rp K Fz H d v := by
  unfold atI at h ⊢
  rw [← r.len]
  cases e : ixN ds.length i with
  | none => rw [e] at h; cases h
  | some j =>
    rw [e] at h
    exact r.get h
theorem gr_ix {K : PySem.W.Frag} : GR K (rIx K) gIx := by
  intro G Fz H E σ x y s v w Q k kx ky e q
  have seq : ∀ {i : Int}, w = .int i → (x.q?.bind fun ds => (atI ds i).map Sl.dat) = some s → rIx K v w H Q := fun {i} hw e => by
    obtain ⟨ds, e1, e2⟩ := Option.bind_eq_some_iff.mp e
    obtain ⟨d, e3, e4⟩ := Option.map_eq_some_iff.mp e2
    subst e4
    obtain ⟨a, vs, rfl, hs, r⟩ := kx.q e1
    obtain ⟨u, hu, ru⟩ := atI_rp r e3
    rcases hs with hs | hs
    · exact .inl ⟨a, vs, i, u, rfl, hw, hs, hu, q _ H Fz (k.dat ru)⟩
    · exact .inr (.inl ⟨a, vs, i, u, rfl, hw, hs, hu, q _ H Fz (k.dat ru)⟩)
  unfold gIx at e
  split at e
  · rename_i z i
    split at e
    · rename_i hz
      obtain ⟨c, e1, e2⟩ := Option.map_eq_some_iff.mp e
      subst e2
      exact .inr (.inr ⟨z, i, c, kx.datI, ky.datI, by rw [← SZ_eq]; exact hz, e1, q _ H Fz (k.dat rfl)⟩)
    · cases e
  · rename_i i _
    exact seq ky.datI e
  · cases e
section
variable {X : Cx} {W : WX} {a b : Expr} {fa fb : EF} {pos p1 p2 : Pos} {i : Nat} {x : Str}
theorem se_ix (ha : SE X W a fa) (hb : SE X W b fb) (hs : PlainIx b := by intro _ _; rfl) : SE X W (.Subscript a b pos) (eOp gIx fa fb) := PE.imp (pe_ix ix_seq ha hb hs) (tOp_of gr_ix)
theorem se_ixN (hN : X.N[i]? = some x) (hv : Vis X.env.scope x) (hb : SE X W b fb) (hs : PlainIx b := by intro _ _; rfl) (hd : (x == ("__debug__" : Str)) = false := by decide) (hcd : (x == ("__classdict__" : Str)) = false := by decide) :
    SE X W (.Subscript (.Name x p1) b pos) (ePk gIx i fb) := PE.imp (pe_ix ix_seq (pe_var hN hv hd hcd) hb hs) (tPk_of gr_ix)
/-! ### slices -/
abbrev OF := Env → RR (Option Int × Env)
def EndO (W : WX) (K : PySem.W.Frag) (G : Gh) (σ : L2.St) (Q : Option Int → Hp → Prop) : RR (Option Int × Env) → Prop
  | .ok p => ∀ H' Fz', OK K G Fz' H' p.2 σ → Q p.1 H'
  | .exc x E => EndX W K G x E σ
  | .bad => False
def tO (W : WX) (K : PySem.W.Frag) (f : OF) : TO := fun σ H Q => ∃ (G : Gh) (E : Env) (Fz : Addr → Prop), OK K G Fz H E σ ∧ EndO W K G σ Q (f E)
def SO (X : Cx) (W : WX) (e : Option Expr) (f : OF) : Prop := PO X e (tO W X.K f)
def oNone : OF := fun E => .ok (none, E)
def oSome (f : EF) : OF := fun E => (f E).bind fun p => match p.1 with
  | .dat (.int i) => .ok (some i, p.2)
  | _ => .bad
theorem so_none : SO X W none oNone := ⟨fun pins s σ H Q I ⟨G, E, Fz, k, h⟩ => po_none.run pins s σ H Q I (h H Fz k)⟩
theorem so_some (ha : SE X W a fa) : SO X W (some a) (oSome fa) := ⟨fun pins s σ H Q I ⟨G, E, Fz, k, h⟩ => by
  refine (po_some ha).run pins s σ H Q I ?_
  have h1 : EndE W X.K G σ (fun v H' => ∃ r E1 Fz1, OK X.K (G.p r v) Fz1 H' E1 σ ∧ EndO W X.K G σ Q (match r with | .dat (.int i) => .ok (some i, E1) | _ => .bad)) (fa E) := by
    unfold oSome at h
    cases ef : fa E with
    | ok p => rw [ef] at h; exact fun v H1 Fz1 k1 => ⟨p.1, p.2, Fz1, k1, h⟩
    | exc x E' => rw [ef] at h; exact h
    | bad => rw [ef] at h; exact h
  refine tE_mono (tE_of k h1) fun v H1 ⟨r, E1, Fz1, k1, h2⟩ => ?_
  split at h2
  · exact ⟨_, k1.datI, h2 H1 Fz1 k1.pop⟩
  · exact h2.elim⟩
def cutD (ds : List D) (lo hi : Option Int) : List D := (ds.drop (HT.sIx ds.length 0 lo)).take (HT.sIx ds.length ds.length hi - HT.sIx ds.length 0 lo)
theorem cut_rp {K : PySem.W.Frag} {Fz : Addr → Prop} {H : Hp} {ds : List D} {vs : List V} (lo hi : Option Int) (r : RpL K Fz H ds vs) : RpL K Fz H (cutD ds lo hi) (cutV vs lo hi) := by
  unfold cutD cutV
  rw [← r.len]
  exact (r.drop _).take _
def gCut (s : Sl) (lo hi : Option Int) : Option Sl := match s with
  | .dat (.str z) => if z.length ≤ SZ then some (.dat (.str (cutS z lo hi))) else none
  | .dat (.tup ds) => some (.dat (.tup (cutD ds lo hi)))
  | .dat (.lst ds) => some (.ol (cutD ds lo hi))
  | .ol ds => some (.ol (cutD ds lo hi))
  | .lk ds => some (.ol (cutD ds lo hi))
  | _ => none
def eCut (f : EF) (lo hi : OF) : EF := fun E => (f E).bind fun p => (lo p.2).bind fun l => (hi l.2).bind fun u => (RR.opt (gCut p.1 l.1 u.1)).bind fun r => .ok (r, u.2)
theorem SlR.or {r1 r2 : V → Option Int → Option Int → Hp → VK → Prop} (h1 : SlR X r1) (h2 : SlR X r2) : SlR X (fun x l u H Q => r1 x l u H Q ∨ r2 x l u H Q) := fun pins s σ H x v vl vu lo hi sl Q I rx hs pl pu h =>
  h.elim (h1 pins s σ H x v vl vu lo hi sl Q I rx hs pl pu) (h2 pins s σ H x v vl vu lo hi sl Q I rx hs pl pu)
theorem cutD_all {α : Type} (ds : List α) (lo hi : Option Int) (h : HT.sIx ds.length 0 lo = 0 ∧ HT.sIx ds.length ds.length hi = ds.length) : (ds.drop (HT.sIx ds.length 0 lo)).take (HT.sIx ds.length ds.length hi - HT.sIx ds.length 0 lo) = ds := by
  rw [h.1, h.2]
  simp
theorem slice_of {K : PySem.W.Frag} {G : Gh} {Fz : Addr → Prop} {H : Hp} {E : Env} {σ : L2.St} {x s : Sl} {v : V} {lo hi : Option Int} {Q : VK} (k : OK K G Fz H E σ) (kx : RS K Fz H G.io (x, some v)) (e : gCut x lo hi = some s)
    (q : ∀ u H' Fz', OK K (G.p s u) Fz' H' E σ → Q u H') : rSlL K v lo hi H Q ∨ rSlA K v lo hi H Q ∨ rSlS v lo hi H Q := by
  unfold gCut at e
  split at e
  · split at e
    · rename_i z hz
      cases e
      exact .inr (.inr ⟨z, kx.datI, by rw [← SZ_eq]; exact hz, q _ H Fz (k.dat rfl)⟩)
    · cases e
  · rename_i ds
    cases e
    obtain ⟨a, vs, rfl, hs, r⟩ := kx.datI
    refine .inr (.inl ⟨a, vs, rfl, hs, fun hw => ?_, fun _ p np => q _ _ Fz (k.newT np (cut_rp lo hi r))⟩)
    have e1 : cutD ds lo hi = ds := cutD_all ds lo hi (by rw [r.len]; exact hw)
    rw [e1] at q
    exact q _ H Fz (k.dat ⟨a, vs, rfl, hs, r⟩)
  · cases e
    obtain ⟨a, vs, rfl, hs, r⟩ := kx.datI
    exact .inl ⟨a, vs, rfl, hs.sql, fun p np => q _ _ Fz (k.newL np (cut_rp lo hi r))⟩
  · cases e
    obtain ⟨a, vs, e2, hs, r⟩ := kx
    cases e2
    exact .inl ⟨a, vs, rfl, .of hs, fun p np => q _ _ Fz (k.newL np (cut_rp lo hi r))⟩
  · cases e
    obtain ⟨a, vs, e2, hs, r⟩ := kx
    cases e2
    exact .inl ⟨a, vs, rfl, hs.sql, fun p np => q _ _ Fz (k.newL np (cut_rp lo hi r))⟩
  · cases e
theorem EndE.bindO {W : WX} {K : PySem.W.Frag} {G : Gh} {σ : L2.St} {Q : VK} {r : Sl} {v : V} {x : RR (Option Int × Env)} {k : Option Int × Env → RR (Sl × Env)} (h : EndE W K G σ Q (x.bind k)) :
    EndO W K (G.p r v) σ (fun o H' => ∃ E1 Fz1, OK K (G.p r v) Fz1 H' E1 σ ∧ EndE W K G σ Q (k (o, E1))) x := by
  cases x with
  | ok p => exact fun H1 Fz1 k1 => ⟨p.2, Fz1, k1, h⟩
  | exc x E' => exact EndX.pop h
  | bad => exact h
theorem tO_mono {W : WX} {K : PySem.W.Frag} {f : OF} {σ : L2.St} {H : Hp} {Q Q' : Option Int → Hp → Prop} (h : tO W K f σ H Q) (i : ∀ v H', Q v H' → Q' v H') : tO W K f σ H Q' := by
  obtain ⟨G, E, Fz, k, h⟩ := h
  refine ⟨G, E, Fz, k, ?_⟩
  cases hf : f E with
  | ok p =>
    rw [hf] at h
    exact fun H1 Fz1 k1 => i _ _ (h H1 Fz1 k1)
  | exc x E' =>
    rw [hf] at h
    exact h
  | bad =>
    rw [hf] at h
    exact h
theorem se_cut {lo hi : Option Expr} {fl fu : OF} (ha : SE X W a fa) (hl : SO X W lo fl) (hu : SO X W hi fu) : SE X W (.Subscript a (.Slice lo hi none p2) pos) (eCut fa fl fu) :=
  PE.imp (pe_slice (SlR.or sl_list (SlR.or sl_tupA sl_str)) ha hl hu) fun σ H Q ⟨G, E, Fz, k, h⟩ => by
    refine tE_mono (tE_of k (EndE.bind h)) fun v H1 ⟨r, E1, Fz1, k1, h1⟩ => ?_
    refine tO_mono ⟨G.p r v, E1, Fz1, k1, EndE.bindO h1⟩ fun o H2 ⟨E2, Fz2, k2, h2⟩ => ?_
    refine tO_mono ⟨G.p r v, E2, Fz2, k2, EndE.bindO h2⟩ fun o2 H3 ⟨E3, Fz3, k3, h3⟩ => ?_
    cases e : gCut r o o2 with
    | none => simp only [e] at h3; exact h3.elim
    | some s =>
      simp only [e, RR.opt, RR.bind] at h3
      exact slice_of k3.pop k3.top e fun u H' Fz' k4 => h3 u H' Fz' k4
end
end VL

/-! The value layer, 7: built-in functions and types, called. -/
namespace VL
open PySem PySem.Spec PyProof.Rows L2

/-- what a call's rule asks is met -/
def GC (K : PySem.W.Frag) (r : List V → Hp → VK → Prop) (g : List Sl → Option Sl) : Prop := ∀ {G : Gh} {Fz : Addr → Prop} {H : Hp} {E : Env} {σ : L2.St} {xs : List Sl} {vs : List V} {s : Sl} {Q : VK}, vs.length = xs.length → OK K (G.ps xs vs) Fz H E σ → g xs = some s →
  (∀ u H' Fz', OK K (G.p s u) Fz' H' E σ → Q u H') → r vs H Q
def eCall (g : List Sl → Option Sl) (fa : AF) : EF := fun E => (fa E).bind fun p => (RR.opt (g p.1)).bind fun s => .ok (s, p.2)
theorem tCB_of {K : PySem.W.Frag} {W : WX} {r : List V → Hp → VK → Prop} {g : List Sl → Option Sl} {fa : AF} (hg : GC K r g) (σ : L2.St) (H : Hp) (Q : VK) (h : tE W K (eCall g fa) σ H Q) : tCB r (tA W K fa) σ H Q := by
  obtain ⟨G, E, Fz, k, h⟩ := h
  refine tA_mono (tA_of k (EndE.bindA h)) fun vs H1 ⟨xs, E1, Fz1, hl, k1, h1⟩ => ?_
  cases e : g xs with
  | none => simp only [e] at h1; exact h1.elim
  | some s =>
    simp only [e, RR.opt, RR.bind] at h1
    exact hg hl k1 e fun u H' Fz' k2 => h1 u H' Fz' k2
/-- one argument -/
def g1 (g : Sl → Option Sl) : List Sl → Option Sl
  | [x] => g x
  | _ => none
theorem gc1 {K : PySem.W.Frag} {r : V → Hp → VK → Prop} {g : Sl → Option Sl} (h : GU K r g) : GC K (fun vs H Q => ∃ v, vs = [v] ∧ r v H Q) (g1 g) := by
  intro G Fz H E σ xs vs s Q hl k e q
  unfold g1 at e
  split at e
  · rename_i x
    cases vs with
    | nil => simp at hl
    | cons v r =>
      cases r with
      | cons _ _ => simp at hl
      | nil =>
        have k' : OK K (G.p x v) Fz H E σ := k
        exact ⟨v, rfl, h k'.pop k'.top e q⟩
  · cases e
def g2 (g : Sl → Sl → Option Sl) : List Sl → Option Sl
  | [x, y] => g x y
  | _ => none
theorem gc2 {K : PySem.W.Frag} {r : R2} {g : Sl → Sl → Option Sl} (h : GR K r g) : GC K (fun vs H Q => ∃ v w, vs = [v, w] ∧ r v w H Q) (g2 g) := by
  intro G Fz H E σ xs vs s Q hl k e q
  unfold g2 at e
  split at e
  · rename_i x y
    match vs, hl with
    | [v, w], _ =>
      have k' : OK K ((G.p x v).p y w) Fz H E σ := k
      exact ⟨v, w, rfl, h k'.pop.pop k'.pop.top k'.top e q⟩
  · cases e
section
variable {X : Cx} {W : WX} {x : Str} {p pos : Pos} {e : Expr} {es : List Expr} {fa : AF} {id T : String}
theorem CallR.imp {f : Value} {r r' : List V → Hp → VK → Prop} (h : CallR X f r) (i : ∀ vs H Q, r' vs H Q → r vs H Q) : CallR X f r' := fun pins s σ H xs us Q I rs q => h pins s σ H xs us Q I rs (i _ _ _ q)
theorem CallR.or {f : Value} {r1 r2 : List V → Hp → VK → Prop} (h1 : CallR X f r1) (h2 : CallR X f r2) : CallR X f (fun vs H Q => r1 vs H Q ∨ r2 vs H Q) := fun pins s σ H xs us Q I rs q =>
  q.elim (h1 pins s σ H xs us Q I rs) (h2 pins s σ H xs us Q I rs)
theorem gc_or {K : PySem.W.Frag} {r1 r2 : List V → Hp → VK → Prop} {g1 g2 : List Sl → Option Sl} (h1 : GC K r1 g1) (h2 : GC K r2 g2) : GC K (fun vs H Q => r1 vs H Q ∨ r2 vs H Q) (fun xs => match g1 xs with | some s => some s | none => g2 xs) := by
  intro G Fz H E σ xs vs s Q hl k e q
  cases e1 : g1 xs with
  | some s1 =>
    simp only [e1] at e
    cases e
    exact .inl (h1 hl k e1 q)
  | none =>
    simp only [e1] at e
    exact .inr (h2 hl k e q)
theorem se_callB {r : List V → Hp → VK → Prop} {g : List Sl → Option Sl} (hc : CallR X (.builtin id) r) (hgc : GC X.K r g) (hg : Gl X x) (hm : X.mg x = none) (hv : bootBuiltins x = some (.builtin id)) (ha : SA X W (e :: es) fa) (hn : x ≠ "__name__" := by decide) (hdb : (x == ("__debug__" : Str)) = false := by decide)
    (he : starEach (e :: es) X.env = (false, eval e X.env) :: starEach es X.env := by rfl) (hpl : (backTo pos (starEach es X.env)).any (·.1) = false := by rfl) : SE X W (.Call (.Name x p) (e :: es) [] pos) (eCall g fa) :=
  PE.imp (pe_callB hc hg hm hv ha hn hdb he hpl) (tCB_of hgc)
theorem se_callTy {r : List V → Hp → VK → Prop} {g : List Sl → Option Sl} (hc : CallR X (.type T) r) (hgc : GC X.K r g) (hg : Gl X x) (hm : X.mg x = none) (hv : bootBuiltins x = some (.type T)) (ha : SA X W (e :: es) fa) (hn : x ≠ "__name__" := by decide) (hdb : (x == ("__debug__" : Str)) = false := by decide)
    (he : starEach (e :: es) X.env = (false, eval e X.env) :: starEach es X.env := by rfl) (hpl : (backTo pos (starEach es X.env)).any (·.1) = false := by rfl) : SE X W (.Call (.Name x p) (e :: es) [] pos) (eCall g fa) :=
  PE.imp (pe_callTy hc hg hm hv ha hn hdb he hpl) (tCB_of hgc)
end
/-! ### len -/
def Sl.n? : Sl → Option Nat
  | .dat (.lst ds) => some ds.length
  | .dat (.tup ds) => some ds.length
  | .dat (.str z) => if z.length ≤ SZ then some z.length else none
  | .ol ds => some ds.length
  | .od _ kvs => none
  | _ => none
def gLen : Sl → Option Sl := fun s => s.n?.map fun n => .dat (.int n)
def rLenA (K : PySem.W.Frag) : V → Hp → VK → Prop := fun v H Q => (∃ p ys, v = .ref p ∧ (SqL K H p ys ∨ SqT K H p ys) ∧ Q (.int ys.length) H) ∨ ∃ z, v = .str z ∧ z.length ≤ sizeLine ∧ Q (.int z.length) H
theorem call_lenA {X : Cx} : CallR X (.builtin "len") (fun vs H Q => ∃ v, vs = [v] ∧ rLenA X.K v H Q) := CallR.imp (CallR.or call_len_seq call_len_str) fun vs H Q ⟨v, e, h⟩ => by
  subst e
  rcases h with ⟨p, ys, rfl, hs, q⟩ | ⟨z, rfl, hz, q⟩
  · exact .inl ⟨p, ys, rfl, hs, q⟩
  · exact .inr ⟨z, rfl, hz, q⟩
theorem gu_len {K : PySem.W.Frag} : GU K (rLenA K) gLen := by
  intro G Fz H E σ x s v Q k kx e q
  obtain ⟨n, e1, e2⟩ := Option.map_eq_some_iff.mp (show x.n?.map (fun n => Sl.dat (.int n)) = some s from e)
  subst e2
  have sq : ∀ ds, x.q? = some ds → n = ds.length → rLenA K v H Q := fun ds hq hn => by
    obtain ⟨a, vs, rfl, hs, r⟩ := kx.q hq
    refine .inl ⟨a, vs, rfl, hs, ?_⟩
    rw [← r.len, ← hn]
    exact q _ H Fz (k.dat rfl)
  unfold Sl.n? at e1
  split at e1
  · cases e1; exact sq _ rfl rfl
  · cases e1; exact sq _ rfl rfl
  · split at e1
    · rename_i z hz
      cases e1
      exact .inr ⟨z, kx.datI, by rw [← SZ_eq]; exact hz, q _ H Fz (k.dat rfl)⟩
    · cases e1
  · cases e1; exact sq _ rfl rfl
  · cases e1
  · cases e1
/-! ### isinstance of data -/
inductive Ty where
  | int | bool | str | tuple | list
def Ty.nm : Ty → String
  | .int => "int" | .bool => "bool" | .str => "str" | .tuple => "tuple" | .list => "list"
def D.ty : D → String
  | .non => "NoneType" | .bl _ => "bool" | .int _ => "int" | .str _ => "str" | .tup _ => "tuple" | .lst _ => "list" | .exc _ _ _ => ""
def D.is : Ty → D → Bool
  | .int, .int _ => true
  | .int, .bl _ => true
  | .bool, .bl _ => true
  | .str, .str _ => true
  | .tuple, .tup _ => true
  | .list, .lst _ => true
  | _, _ => false
def D.isX : D → Bool
  | .exc _ _ _ => true
  | _ => false
theorem kit_is {K : PySem.W.Frag} (T : Ty) (d : D) (h : d.isX = false) : PySem.W.kitOne K (.type d.ty) (.type T.nm) = some (d.is T) := by
  cases d <;> first | (cases h; done) | skip
  all_goals cases T <;> exact kit_ty (by dsimp only [D.ty, Ty.nm, D.is]; decide +kernel)
theorem RS.tyx {K : PySem.W.Frag} {Fz : Addr → Prop} {H : Hp} {io : List Addr} {s : Sl} {v : V} {d : D} (h : RS K Fz H io (s, some v)) (e : s.d? = some d) (n : d.isX = false) : TyX K H v (.type d.ty) := by
  cases s with
  | dat d' =>
    cases e
    have r := h.datI
    cases d with
    | non => rw [show v = _ from r]; exact .base .non
    | bl b => rw [show v = _ from r]; exact .base (.bl b)
    | int b => rw [show v = _ from r]; exact .base (.int b)
    | str b => rw [show v = _ from r]; exact .base (.str b)
    | tup ds =>
      obtain ⟨a, vs, rfl, hs, _⟩ := r
      rcases hs with (hs | ⟨o, hs⟩) | ⟨o, its, n, e1, e2, _⟩
      · exact .base (.tup hs)
      · exact .fTuple hs
      · exact .kTuple e1 e2
    | lst ds =>
      obtain ⟨a, vs, rfl, hs, _⟩ := r
      exact .base (.lst hs.2)
    | exc _ _ _ => cases n
  | ol ds =>
    cases e
    obtain ⟨a, vs, e2, ha, _⟩ := h
    cases e2
    exact .base (.lst ha)
  | _ => cases e
def gIsi (T : Ty) : Sl → Option Sl := fun s => match s.d? with
  | some d => if d.isX then none else some (.dat (.bl (d.is T)))
  | none => none
def eIsi (T : Ty) (fa : EF) : EF := eUn (gIsi T) fa
section
variable {X : Cx} {W : WX} {p p1 pos : Pos} {e : Expr} {fa : EF}
theorem se_isi (T : Ty) {n : Str} (hg : Gl X "isinstance") (hm : X.mg "isinstance" = none) (hgT : Gl X n) (hmT : X.mg n = none) (hT : bootBuiltins n = some (.type T.nm)) (ha : SE X W e fa) (hn : n ≠ "__name__" := by decide) (hdb : (n == ("__debug__" : Str)) = false := by decide)
    (he : starEach (e :: [.Name n p1]) X.env = (false, eval e X.env) :: starEach [.Name n p1] X.env := by rfl) (he2 : starEach [.Name n p1] X.env = (false, eval (.Name n p1) X.env) :: starEach [] X.env := by rfl) :
    SE X W (.Call (.Name "isinstance" p) [e, .Name n p1] [] pos) (eIsi T fa) :=
  PE.imp (pe_callB call_isi hg hm boot_isinstance (pa_cons ha (pa_cons (pe_bltn (v := .ty T.nm) hgT hmT hT rfl hn hdb) pa_nil he2) he) (by decide) (by decide) he (by rw [he2]; rfl)) fun σ H Q h => by
    refine tUn_of (K := X.K) (W := W) (r := fun v H1 Q => rIsi X.K [v, .ty T.nm] H1 Q) (g := gIsi T) (f := fa) (fun {G Fz H E σ x s v Q} k kx e q => ?_) σ H Q h
    unfold gIsi at e
    cases ed : x.d? with
    | none => rw [ed] at e; cases e
    | some d =>
      rw [ed] at e
      have e : (if d.isX = true then none else some (Sl.dat (.bl (d.is T)))) = some s := e
      split at e
      · cases e
      · rename_i hx
        cases e
        have hx : d.isX = false := by simpa using hx
        exact ⟨v, .ty T.nm, .type d.ty, .type T.nm, d.is T, rfl, .ty _, kx.tyx ed hx, kit_is T d hx, q _ H Fz (k.dat rfl)⟩
end
/-! ### tuple(x), list(x) -/
def gTuple : Sl → Option Sl := fun s => s.q?.map fun ds => .dat (.tup ds)
def gList : Sl → Option Sl := fun s => s.q?.map fun ds => .ol ds
def rTupleA (K : PySem.W.Frag) : V → Hp → VK → Prop := fun v H Q => ∃ p ys, v = .ref p ∧ ((SqL K H p ys ∧ ∀ l, H l = none → Q (.ref l) (upd H l (.tup ys))) ∨ (SqT K H p ys ∧ Q (.ref p) H))
theorem call_tupleA {X : Cx} : CallR X (.type "tuple") (fun vs H Q => ∃ v, vs = [v] ∧ rTupleA X.K v H Q) := CallR.imp call_tuple_of fun vs H Q ⟨v, e, p, ys, e2, h⟩ => ⟨p, ys, by rw [e, e2], h⟩
theorem gu_tuple {K : PySem.W.Frag} : GU K (rTupleA K) gTuple := by
  intro G Fz H E σ x s v Q k kx e q
  obtain ⟨ds, e1, e2⟩ := Option.map_eq_some_iff.mp (show x.q?.map (fun ds => Sl.dat (.tup ds)) = some s from e)
  subst e2
  obtain ⟨a, vs, rfl, hs, r⟩ := kx.q e1
  rcases hs with hs | hs
  · exact ⟨a, vs, rfl, .inl ⟨hs, fun l nl => q _ _ Fz (k.newT nl r)⟩⟩
  · exact ⟨a, vs, rfl, .inr ⟨hs, q _ H Fz (k.dat ⟨a, vs, rfl, hs, r⟩)⟩⟩
def rListA (K : PySem.W.Frag) : V → Hp → VK → Prop := fun v H Q => ∃ p ys, v = .ref p ∧ (SqL K H p ys ∨ SqT K H p ys) ∧ ∀ l, H l = none → Q (.ref l) (upd H l (.lst ys))
theorem call_listA {X : Cx} : CallR X (.type "list") (fun vs H Q => ∃ v, vs = [v] ∧ rListA X.K v H Q) := CallR.imp call_list_of fun vs H Q ⟨v, e, p, ys, e2, h⟩ => ⟨p, ys, by rw [e, e2], h⟩
theorem gu_list {K : PySem.W.Frag} : GU K (rListA K) gList := by
  intro G Fz H E σ x s v Q k kx e q
  obtain ⟨ds, e1, e2⟩ := Option.map_eq_some_iff.mp (show x.q?.map (fun ds => Sl.ol ds) = some s from e)
  subst e2
  obtain ⟨a, vs, rfl, hs, r⟩ := kx.q e1
  exact ⟨a, vs, rfl, hs, fun l nl => q _ _ Fz (k.newL nl r)⟩
/-! ### sum of ints, any, all -/
def ints? : List D → Option (List Int)
  | [] => some []
  | .int i :: ds => (ints? ds).map (i :: ·)
  | _ :: _ => none
theorem ints_eq : ∀ {ds : List D} {ns : List Int}, ints? ds = some ns → ds = ns.map D.int
  | [], ns, h => by cases h; rfl
  | d :: ds, ns, h => by
    unfold ints? at h
    split at h
    · rename_i e0; cases e0
    · rename_i i ds' e
      cases e
      obtain ⟨r, e1, e2⟩ := Option.map_eq_some_iff.mp h
      subst e2
      rw [ints_eq e1]
      rfl
    · cases h
def Sl.ql? : Sl → Option (List D)
  | .dat (.lst ds) => some ds
  | .ol ds => some ds
  | .lk ds => some ds
  | _ => none
theorem RS.ql {K : PySem.W.Frag} {Fz : Addr → Prop} {H : Hp} {io : List Addr} {s : Sl} {v : V} {ds : List D} (h : RS K Fz H io (s, some v)) (e : s.ql? = some ds) : ∃ a vs, v = .ref a ∧ SqL K H a vs ∧ RpL K Fz H ds vs := by
  unfold Sl.ql? at e
  split at e
  · cases e
    obtain ⟨a, vs, rfl, z, r⟩ := h.datI
    exact ⟨a, vs, rfl, z.sql, r⟩
  · cases e
    obtain ⟨a, vs, e2, z, r⟩ := h
    cases e2
    exact ⟨a, vs, rfl, .of z, r⟩
  · cases e
    obtain ⟨a, vs, e2, z, r⟩ := h
    cases e2
    exact ⟨a, vs, rfl, z.sql, r⟩
  · cases e
def gSum : Sl → Option Sl := fun s => (s.ql?.bind ints?).map fun ns => .dat (.int ns.sum)
def rSumA (K : PySem.W.Frag) : V → Hp → VK → Prop := fun v H Q => ∃ (a : Addr) (ns : List Int), v = V.ref a ∧ SqL K H a (ns.map V.int) ∧ Q (.int ns.sum) H
theorem gu_sum {K : PySem.W.Frag} : GU K (rSumA K) gSum := by
  intro G Fz H E σ x s v Q k kx e q
  obtain ⟨ns, e1, e2⟩ := Option.map_eq_some_iff.mp (show (x.ql?.bind ints?).map (fun ns => Sl.dat (.int ns.sum)) = some s from e)
  subst e2
  obtain ⟨ds, e3, e4⟩ := Option.bind_eq_some_iff.mp e1
  obtain ⟨a, vs, rfl, hs, r⟩ := kx.ql e3
  rw [ints_eq e4] at r
  rw [r.ints_inv] at hs
  exact ⟨a, ns, rfl, hs, q _ H Fz (k.dat rfl)⟩
def bls? : List D → Option (List Bool)
  | [] => some []
  | .bl i :: ds => (bls? ds).map (i :: ·)
  | _ :: _ => none
theorem bls_v {K : PySem.W.Frag} {Fz : Addr → Prop} {H : Hp} : ∀ {ds : List D} {bs : List Bool} {vs : List V}, bls? ds = some bs → RpL K Fz H ds vs → vs = bs.map V.bl
  | [], bs, vs, h, r => by cases h; exact r
  | d :: ds, bs, vs, h, ⟨v, r, e, h1, h2⟩ => by
    unfold bls? at h
    split at h
    · rename_i e0; cases e0
    · rename_i i ds' eq
      cases eq
      obtain ⟨t, e1, e2⟩ := Option.map_eq_some_iff.mp h
      subst e2 e
      rw [bls_v e1 h2, show v = .bl i from h1]
      rfl
    · cases h
def gAny : Sl → Option Sl := fun s => (s.ql?.bind bls?).map fun bs => .dat (.bl (bs.any id))
def gAll : Sl → Option Sl := fun s => (s.ql?.bind bls?).map fun bs => .dat (.bl (bs.all id))
def rAnyA (K : PySem.W.Frag) (f : List Bool → Bool) : V → Hp → VK → Prop := fun v H Q => ∃ (a : Addr) (bs : List Bool), v = V.ref a ∧ SqL K H a (bs.map V.bl) ∧ Q (.bl (f bs)) H
theorem gu_anyf {K : PySem.W.Frag} (f : List Bool → Bool) : GU K (rAnyA K f) (fun s => (s.ql?.bind bls?).map fun bs => .dat (.bl (f bs))) := by
  intro G Fz H E σ x s v Q k kx e q
  obtain ⟨ns, e1, e2⟩ := Option.map_eq_some_iff.mp e
  subst e2
  obtain ⟨ds, e3, e4⟩ := Option.bind_eq_some_iff.mp e1
  obtain ⟨a, vs, rfl, hs, r⟩ := kx.ql e3
  rw [bls_v e4 r] at hs
  exact ⟨a, ns, rfl, hs, q _ H Fz (k.dat rfl)⟩
/-! ### two ints: max, min; int(), str() -/
def gMax2 : Sl → Sl → Option Sl := gI fun i j => some (.int (if j > i then j else i))
def gMin2 : Sl → Sl → Option Sl := gI fun i j => some (.int (if j < i then j else i))
def gInt : Sl → Option Sl
  | .dat (.int i) => some (.dat (.int i))
  | .dat (.bl b) => some (.dat (.int (if b then 1 else 0)))
  | _ => none
def rIntA : V → Hp → VK → Prop := fun v H Q => (∃ i, v = .int i ∧ Q (.int i) H) ∨ ∃ b, v = .bl b ∧ Q (.int (if b then 1 else 0)) H
theorem gu_int {K : PySem.W.Frag} : GU K rIntA gInt := by
  intro G Fz H E σ x s v Q k kx e q
  unfold gInt at e
  split at e
  · cases e
    exact .inl ⟨_, kx.datI, q _ H Fz (k.dat rfl)⟩
  · cases e
    exact .inr ⟨_, kx.datI, q _ H Fz (k.dat rfl)⟩
  · cases e
/-! ### repr -/
def gRepr : Sl → Option Sl := fun s => match s.d? with
  | some d => if d.plain && PyData.showable d.py && decide (d.py.depth ≤ 64) && decide (d.py.shown.length ≤ SZ) then some (.dat (.str d.py.shown)) else none
  | none => none
def rReprA (K : PySem.W.Frag) : V → Hp → VK → Prop := fun v H Q => ∃ d, Dp K H v d ∧ d.showable = true ∧ d.hasDict = false ∧ d.depth ≤ 64 ∧ d.shown.length ≤ sizeLine ∧ Q (.str d.shown) H
mutual
theorem py_noDict : ∀ d : D, d.py.hasDict = false
  | .non => by simp only [D.py, PyData.hasDict]
  | .bl _ => by simp only [D.py, PyData.hasDict]
  | .int _ => by simp only [D.py, PyData.hasDict]
  | .str _ => by simp only [D.py, PyData.hasDict]
  | .tup ds => by simp only [D.py, PyData.hasDict]; exact pyL_noDict ds
  | .lst ds => by simp only [D.py, PyData.hasDict]; exact pyL_noDict ds
  | .exc _ _ _ => by simp only [D.py, PyData.hasDict]
theorem pyL_noDict : ∀ ds : List D, PyData.hasDictAll (pyL ds) = false
  | [] => by simp only [pyL, PyData.hasDictAll]
  | d :: ds => by simp only [pyL, PyData.hasDictAll, py_noDict d, pyL_noDict ds, Bool.or_self]
end
theorem gu_repr {K : PySem.W.Frag} : GU K (rReprA K) gRepr := by
  intro G Fz H E σ x s v Q k kx e q
  unfold gRepr at e
  cases ed : x.d? with
  | none => rw [ed] at e; cases e
  | some d =>
    rw [ed] at e
    have e : (if (d.plain && PyData.showable d.py && decide (d.py.depth ≤ 64) && decide (d.py.shown.length ≤ SZ)) = true then some (Sl.dat (.str d.py.shown)) else none) = some s := e
    split at e
    · rename_i hc
      simp only [Bool.and_eq_true, decide_eq_true_eq] at hc
      cases e
      exact ⟨d.py, kx.dp ed hc.1.1.1, hc.1.1.2, py_noDict d, hc.1.2, by rw [← SZ_eq]; exact hc.2, q _ H Fz (k.dat rfl)⟩
    · cases e
theorem call_reprA {X : Cx} (hg : X.A.guards = some []) (hu : X.A.units + 80 < cLine) : CallR X (.builtin "repr") (fun vs H Q => ∃ v, vs = [v] ∧ rReprA X.K v H Q) := by
  intro pins s σ H xs us Q I r ⟨v, e, d, hd, hsh, hnd, hdp, hz, q⟩
  subst e
  cases r with
  | cons r1 r2 =>
    rename_i u us'
    cases r2
    obtain ⟨as, rd⟩ := Dp.reads I d v u hd r1
    have fin : ∀ h' tk, (∀ b o, s.heap.get? b = some o → h'.get? b = some o) → ∀ t, EP X pins σ Q (.str d.shown t) { s with heap := h', toks := tk } := fun h' tk hk t => ⟨.str d.shown, H, I.kept (t' := tk) hk, ⟨t, rfl⟩, q⟩
    cases v with
    | ref a =>
      cases r1
      exact repr_of_reads' rd hsh (fun z => by rw [hnd] at z; cases z) hg (by omega) (fun _ _ e => e) (fun h' t tk hk => fin h' tk hk t) hz
    | non =>
      cases r1
      cases hd
      exact PySem.P.repr_of_none ⟨.str "None", H, I.tok _, ⟨_, rfl⟩, by simpa only [PyData.shown] using q⟩
    | bl b =>
      cases r1
      cases hd
      exact PySem.P.repr_of_bool ⟨.str (if b then "True" else "False"), H, I.tok _, ⟨_, rfl⟩, by simpa only [PyData.shown] using q⟩
    | int i =>
      obtain ⟨t, rfl⟩ := r1
      cases hd
      exact PySem.P.repr_of_int (by simpa [PyData.showable] using hsh) ⟨.str (toString i), H, I.tok _, ⟨_, rfl⟩, by simpa only [PyData.shown] using q⟩
    | str x =>
      obtain ⟨t, rfl⟩ := r1
      cases hd
      exact PySem.P.repr_of_str ⟨.str (reprText x), H, I.tok _, ⟨_, rfl⟩, by simpa only [PyData.shown] using q⟩ (by simpa only [PyData.shown] using hz)
    | _ => cases hd
end VL

/-! The value layer, 8: statements. -/
namespace VL
open PySem PySem.Spec PyProof.Rows L2

/-- what a place in the text knows of its surroundings -/
structure Kx (X : Cx) (W : WX) : Prop where
  hp : PassesOwn (model X.prog X.w) X.A X.env X.xe
  tk : Takes X W
  hc : X.calm = true
  hu : X.A.units + 100 < cLine
  hg : X.A.guards = some []
  nd : X.N.Nodup
theorem Kx.hu64 {X : Cx} {W : WX} (c : Kx X W) : X.A.units + 64 < cLine := by have := c.hu; omega
theorem Kx.hu80 {X : Cx} {W : WX} (c : Kx X W) : X.A.units + 80 < cLine := by have := c.hu; omega

def RR.fl {α : Type} (x : RR α) (k : α → FL) : FL := match x with
  | .ok a => k a
  | .exc e E => .exc e E
  | .bad => .bad
section
variable {W : WX} {K : PySem.W.Frag} {G : Gh} {Fz : Addr → Prop} {H : Hp} {E : Env} {σ : L2.St} {D' : Ends}
theorem EndS.flE {x : RR (Sl × Env)} {k : Sl × Env → FL} (h : EndS W K G D' (x.fl k)) (σ : L2.St) : EndE W K G σ (fun v H' => ∃ r E1 Fz1, OK K (G.p r v) Fz1 H' E1 σ ∧ EndS W K G D' (k (r, E1))) x := by
  cases x with
  | ok p => exact fun v H1 Fz1 k1 => ⟨p.1, p.2, Fz1, k1, h⟩
  | exc x E' => exact h σ
  | bad => exact h
theorem EndS.flT {x : RR (Bool × Env)} {k : Bool × Env → FL} (h : EndS W K G D' (x.fl k)) (σ : L2.St) : EndT W K G σ (fun b H' => ∃ E1 Fz1, OK K G Fz1 H' E1 σ ∧ EndS W K G D' (k (b, E1))) x := by
  cases x with
  | ok p => exact fun H1 Fz1 k1 => ⟨p.2, Fz1, k1, h⟩
  | exc x E' => exact h σ
  | bad => exact h
theorem tS_of {f : SF} (k : OK K G Fz H E σ) (h : EndS W K G D' (f E)) : tS W K f D' σ H := ⟨G, E, Fz, k, h⟩
end
def sNx : SF := fun E => .nx E
def sSeq (f g : SF) : SF := fun E => match f E with
  | .nx E' => g E'
  | r => r
def sSet (i : Nat) (f : EF) : SF := fun E => (f E).fl fun p => .nx (p.2.st i p.1)
def sExpr (f : EF) : SF := fun E => (f E).fl fun p => .nx p.2
def sRet (f : EF) : SF := fun E => (f E).fl fun p => .rt p.1 p.2
def sRetN : SF := fun E => .rt (.dat .non) E
def sIf (c : TF) (f g : SF) : SF := fun E => (c E).fl fun p => if p.1 then f p.2 else g p.2
def sBk : SF := fun E => .bk E
def sCt : SF := fun E => .ct E
section
variable {X : Cx} {W : WX} {pos : Pos} {st : Stmt} {rest sa sb : List Stmt} {e c : Expr} {f g : SF} {fe : EF} {fc : TF}
theorem ss_nil : SSs X W [] sNx := PSs.imp pss_nil fun D σ H ⟨G, E, Fz, k, h⟩ => h σ H Fz k
theorem ss_cons (h1 : SS X W st f) (h2 : SSs X W rest g) : SSs X W (st :: rest) (sSeq f g) := PSs.imp (pss_cons h1 h2) fun D σ H ⟨G, E, Fz, k, h⟩ => by
  refine ⟨G, E, Fz, k, ?_⟩
  unfold sSeq at h
  cases e : f E with
  | nx E' =>
    rw [e] at h
    exact fun σ' H' Fz' k' => ⟨G, E', Fz', k', h⟩
  | rt r E' => rw [e] at h; exact h
  | bk E' => rw [e] at h; exact h
  | ct E' => rw [e] at h; exact h
  | exc x E' => rw [e] at h; exact h
  | bad => rw [e] at h; exact h
theorem ss_one (h : SS X W st f) : SSs X W [st] f := pss_one h
theorem ss_pass : SS X W (.Pass pos) sNx := PS.imp ps_pass fun D σ H ⟨G, E, Fz, k, h⟩ => h σ H Fz k
theorem ss_bk : SS X W (.Break pos) sBk := PS.imp ps_break fun D σ H ⟨G, E, Fz, k, h⟩ => h σ H Fz k
theorem ss_ct : SS X W (.Continue pos) sCt := PS.imp ps_continue fun D σ H ⟨G, E, Fz, k, h⟩ => h σ H Fz k
theorem ss_set {i : Nat} {x : Str} {pos' : Pos} (c : Kx X W) (hi : X.N[i]? = some x) (hx : Loc X.env.scope x) (he : SE X W e fe) (hs : swapsWith e (some (.Name x pos')) pos.line X.env = pure false := by rfl)
    (hf : X.fn x = true ∨ X.env.scope.names.lookup x = some .local := by first | exact .inl rfl | exact .inr rfl | assumption) : SS X W (.Assign [.Name x pos'] e pos) (sSet i fe) :=
  PS.imp (ps_set c.nd hi hx he hs hf) fun D σ H ⟨G, E, Fz, k, h⟩ => by
    refine tE_mono (tE_of k (EndS.flE h σ)) fun v H1 ⟨r, E1, Fz1, k1, h1⟩ => ?_
    exact h1 _ H1 Fz1 k1.set
theorem ss_expr (he : SE X W e fe) (hs : swapsWith e none pos.line X.env = pure false := by rfl) : SS X W (.Expr e pos) (sExpr fe) := PS.imp (ps_expr he hs) fun D σ H ⟨G, E, Fz, k, h⟩ => by
  refine tE_mono (tE_of k (EndS.flE h σ)) fun v H1 ⟨r, E1, Fz1, k1, h1⟩ => ?_
  exact h1 σ H1 Fz1 k1.pop
theorem ss_ret (he : SE X W e fe) : SS X W (.Return (some e) pos) (sRet fe) := PS.imp (ps_ret he) fun D σ H ⟨G, E, Fz, k, h⟩ => by
  refine tE_mono (tE_of k (EndS.flE h σ)) fun v H1 ⟨r, E1, Fz1, k1, h1⟩ => ?_
  exact h1 v σ H1 Fz1 k1
theorem ss_retN : SS X W (.Return none pos) sRetN := PS.imp ps_retN fun D σ H ⟨G, E, Fz, k, h⟩ => h _ σ H Fz (k.dat rfl)
theorem ss_if (hc : ST X W c fc) (ha : SSs X W sa f) (hb : SSs X W sb g) : SS X W (.If c sa sb pos) (sIf fc f g) := PS.imp (ps_if hc ha hb) fun D σ H ⟨G, E, Fz, k, h⟩ => by
  refine tT_mono (tT_of k (EndS.flT h σ)) fun v H1 ⟨E1, Fz1, k1, h1⟩ => ?_
  cases v with
  | true => exact tS_of k1 h1
  | false => exact tS_of k1 h1
end
/-! ### while -/
def sWhN (c : TF) (b : SF) : Nat → SF
  | 0 => fun _ => .bad
  | n + 1 => fun E => (c E).fl fun p => if p.1 then (match b p.2 with
    | .nx E' => sWhN c b n E'
    | .ct E' => sWhN c b n E'
    | .bk E' => .nx E'
    | r => r) else .nx p.2
def fuel : Nat := 1000000000
def sWh (c : TF) (b : SF) : SF := sWhN c b fuel
section
variable {X : Cx} {W : WX} {pos : Pos} {body : List Stmt} {c : Expr} {b : SF} {fc : TF}
theorem ss_while (kx : Kx X W) (hc : ST X W c fc) (hb : SSs X W body b) : SS X W (.While c body [] pos) (sWh fc b) := PS.imp (ps_while kx.hp hc hb) fun D σ H ⟨G, E, Fz, k, h⟩ => by
  refine ⟨fun m σ H => ∃ E Fz, OK X.K G Fz H E σ ∧ EndS W X.K G D (sWhN fc b m E), ⟨fuel, E, Fz, k, h⟩, fun m σ H ⟨E, Fz, k, h⟩ => ?_⟩
  cases m with
  | zero => exact h.elim
  | succ m =>
    refine tT_mono (tT_of k (EndS.flT h σ)) fun v H1 ⟨E1, Fz1, k1, h1⟩ => ?_
    cases v with
    | false => exact h1 σ H1 Fz1 k1
    | true =>
      refine ⟨fun σ' H' => ∃ E Fz, OK X.K G Fz H' E σ' ∧ EndS W X.K G D (sWhN fc b m E), fun σ' H' z => ⟨m, Nat.lt_succ_self _, z⟩, G, E1, Fz1, k1, ?_⟩
      have h1 : EndS W X.K G D (match b E1 with
        | .nx E' => sWhN fc b m E'
        | .ct E' => sWhN fc b m E'
        | .bk E' => .nx E'
        | r => r) := h1
      cases e : b E1 with
      | nx E' => rw [e] at h1; exact fun σ' H' Fz' k' => ⟨E', Fz', k', h1⟩
      | ct E' => rw [e] at h1; exact fun σ' H' Fz' k' => ⟨E', Fz', k', h1⟩
      | bk E' => rw [e] at h1; exact h1
      | rt r E' => rw [e] at h1; exact h1
      | exc x E' => rw [e] at h1; exact h1
      | bad => rw [e] at h1; exact h1
end
/-! ### targets -/
abbrev GF := D → Env → Option Env
abbrev GFs := List D → Env → Option Env
def gNm (i : Nat) : GF := fun d E => some (E.st i (.dat d))
def gTp (n : Nat) (g : GFs) : GF := fun d E => match d with
  | .tup ds => if ds.length = n then g ds E else none
  | _ => none
def gsNil : GFs := fun _ E => some E
def gsCons (g : GF) (gs : GFs) : GFs := fun ds E => match ds with
  | d :: r => (g d E).bind fun E1 => gs r E1
  | [] => none
/-- the slots us emptied, pointwise -/
theorem wipe_get : ∀ {us : List Nat} {σ : L2.St} {j : Nat}, (wipe σ us)[j]? = if j ∈ us then (σ[j]?).map fun _ => none else σ[j]?
  | [], σ, j => by simp [wipe]
  | u :: us, σ, j => by
    unfold wipe
    by_cases h : u = j
    · subst h
      rw [List.getElem?_set_self', wipe_get, if_pos List.mem_cons_self]
      split <;> cases σ[u]? <;> rfl
    · rw [List.getElem?_set_ne h, wipe_get]
      have e : j ∈ u :: us ↔ j ∈ us := by simp [Ne.symm h]
      simp only [e]
theorem wipe_set {us : List Nat} {σ : L2.St} {i : Nat} {o : Option V} (h : i ∈ us) : wipe (σ.set i o) us = wipe σ us := by
  apply List.ext_getElem?
  intro j
  rw [wipe_get, wipe_get]
  by_cases hj : i = j
  · subst hj
    rw [if_pos h, if_pos h, List.getElem?_set_self']
    cases σ[i]? <;> rfl
  · rw [List.getElem?_set_ne hj]
/-- a target's promise; vs: the slots that it stores to -/
def Stp (vs : List Nat) (σ σ' : L2.St) : Prop := ∀ us : List Nat, (∀ i ∈ vs, i ∈ us) → wipe σ' us = wipe σ us
theorem Stp.mono {vs vs' : List Nat} {σ σ' : L2.St} (h : Stp vs σ σ') (hs : ∀ i ∈ vs, i ∈ vs') : Stp vs' σ σ' := fun us hu => h us fun i hi => hu i (hs i hi)
theorem Stp.trans {vs : List Nat} {σ σ' σ'' : L2.St} (h : Stp vs σ σ') (h' : Stp vs σ' σ'') : Stp vs σ σ'' := fun us hu => (h' us hu).trans (h us hu)
def tG (K : PySem.W.Frag) (vs : List Nat) (g : GF) : TG := fun v σ H Q => ∃ (G : Gh) (E : Env) (Fz : Addr → Prop) (d : D), OK K G Fz H E σ ∧ Rp K Fz H d v ∧ ∃ E', g d E = some E' ∧ ∀ σ', OK K G Fz H E' σ' → Stp vs σ σ' → Q σ' H
def tGs (K : PySem.W.Frag) (ws : List Nat) (g : GFs) : TGs := fun vs σ H Q => ∃ (G : Gh) (E : Env) (Fz : Addr → Prop) (ds : List D), OK K G Fz H E σ ∧ RpL K Fz H ds vs ∧ ∃ E', g ds E = some E' ∧ ∀ σ', OK K G Fz H E' σ' → Stp ws σ σ' → Q σ' H
def SG (X : Cx) (tg : Expr) (vs : List Nat) (g : GF) : Prop := PG X tg (tG X.K vs g)
def SGs (X : Cx) (tgs : List Expr) (n : Nat) (ws : List Nat) (g : GFs) : Prop := PGs X tgs (fun vs σ H Q => vs.length = n ∧ tGs X.K ws g vs σ H Q)
theorem PG.imp {X : Cx} {tg : Expr} {t t' : TG} (h : PG X tg t) (i : ∀ v σ H Q, t' v σ H Q → t v σ H Q) : PG X tg t' := ⟨fun pins s σ H v u Q I r q => h.run pins s σ H v u Q I r (i v σ H Q q)⟩
theorem PGs.imp {X : Cx} {tg : List Expr} {t t' : TGs} (h : PGs X tg t) (i : ∀ v σ H Q, t' v σ H Q → t v σ H Q) : PGs X tg t' := ⟨fun pins s σ H v u Q I r q => h.run pins s σ H v u Q I r (i v σ H Q q)⟩
section
variable {X : Cx} {pos : Pos} {e : Expr} {es : List Expr}
theorem sg_name {i : Nat} {x : Str} (nd : X.N.Nodup) (hi : X.N[i]? = some x) (hx : Loc X.env.scope x) (hf : X.fn x = true ∨ X.env.scope.names.lookup x = some .local := by first | exact .inl rfl | exact .inr rfl | assumption) : SG X (.Name x pos) [i] (gNm i) :=
  PG.imp (pg_name nd hi hx hf) fun v σ H Q ⟨G, E, Fz, d, k, r, E', e, h⟩ => by
    cases e
    exact h _ (k.dat r).set fun us hu => wipe_set (hu i List.mem_cons_self)
theorem sgs_nil : SGs X [] 0 [] gsNil := PGs.imp pgs_nil fun vs σ H Q ⟨hl, G, E, Fz, ds, k, r, E', e, h⟩ => by
  cases e
  exact ⟨List.eq_nil_of_length_eq_zero hl, h σ k fun _ _ => rfl⟩
theorem sgs_cons {n : Nat} {us ws : List Nat} {g : GF} {gs : GFs} (h1 : SG X e us g) (h2 : SGs X es n ws gs) (hs : (assignEach (e :: es) X.env).map (·.2) = assign e X.env :: (assignEach es X.env).map (·.2) := by rfl) : SGs X (e :: es) (n + 1) (us ++ ws) (gsCons g gs) := PGs.imp (pgs_cons h1 h2 hs) fun vs σ H Q ⟨hl, G, E, Fz, ds, k, r, E', e, h⟩ => by
  cases ds with
  | nil => cases e
  | cons d ds =>
    obtain ⟨v, vs', rfl, r1, r2⟩ := r
    obtain ⟨E1, e1, e2⟩ := Option.bind_eq_some_iff.mp (show (g d E).bind (fun E1 => gs ds E1) = some E' from e)
    exact ⟨v, vs', rfl, G, E, Fz, d, k, r1, E1, e1, fun σ' k' t' => ⟨by simpa using hl, G, E1, Fz, ds, k', r2, E', e2, fun σ2 k2 t2 => h σ2 k2 ((t'.mono fun i hi => List.mem_append_left _ hi).trans (t2.mono fun i hi => List.mem_append_right _ hi))⟩⟩
theorem sg_tup {n : Nat} {k : Nat} {ws : List Nat} {gs : GFs} (hc : X.calm = true) (h : SGs X es n ws gs) (hn : (assignEach es X.env).length = n := by rfl) (hst : (assignEach es X.env).findIdx? (·.1) = none := by rfl) : SG X (.Tuple es k pos) ws (gTp n gs) :=
  PG.imp (pg_tup hc h hn hst) fun v σ H Q ⟨G, E, Fz, d, k, r, E', e, hh⟩ => by
    cases d with
    | tup ds =>
      obtain ⟨a, vs, rfl, hs, rl⟩ := r
      have e : (if ds.length = n then gs ds E else none) = some E' := e
      split at e
      · rename_i hl
        exact ⟨a, vs, rfl, hs, by rw [← rl.len]; exact hl, by rw [← rl.len]; exact hl, G, E, Fz, ds, k, rl, E', e, hh⟩
      · cases e
    | _ => cases e
end
end VL

/-! The value layer, 9: loops. -/
namespace VL
open PySem PySem.Spec PyProof.Rows L2 RZ RT

abbrev EI := Env → RR (List D × Env)
/-- what an iterator yields for d: d's own value, or a new tuple -/
def Yd (K : PySem.W.Frag) (Fz : Addr → Prop) (H : Hp) (d : D) (x : V) (H' : Hp) : Prop :=
  (H' = H ∧ Rp K Fz H d x) ∨ ∃ p us es, d = .tup es ∧ x = .ref p ∧ H p = none ∧ H' = upd H p (.tup us) ∧ RpL K Fz H es us
theorem OK.yd {K : PySem.W.Frag} {G : Gh} {Fz : Addr → Prop} {H H' : Hp} {E : Env} {σ : L2.St} {d : D} {x : V} (k : OK K G Fz H E σ) (y : Yd K Fz H d x H') : OK K (G.p (.dat d) x) Fz H' E σ := by
  rcases y with ⟨e, r⟩ | ⟨p, us, es, e1, e2, n, e3, r⟩
  · subst e
    exact k.dat r
  · subst e1 e2 e3
    exact k.newT n r
/-- an iterator over ds, as long as T' is held -/
structure Wk (K : PySem.W.Frag) (io : List Addr) (J : L2.It) (T' : List It') (ds : List D) : Prop where
  goes : ∀ {i : Nat} {Fz : Addr → Prop} {H : Hp}, (∀ p ∈ T', RS K Fz H io p) → i < ds.length → J.go i H
  stops : ∀ {Fz : Addr → Prop} {H : Hp}, (∀ p ∈ T', RS K Fz H io p) → J.stop ds.length H
  yields : ∀ {i : Nat} {Fz : Addr → Prop} {H H' : Hp} {x : V} {d : D}, (∀ p ∈ T', RS K Fz H io p) → ds[i]? = some d → J.yld i H x H' → Yd K Fz H d x H'
/-- further things held -/
abbrev Gh.w (G : Gh) (T' : List It') : Gh := { G with T := T' ++ G.T }
section
variable {K : PySem.W.Frag} {G : Gh} {Fz : Addr → Prop} {H : Hp} {E : Env} {σ : L2.St} {T' : List It'} {W : WX} {Q : VK} {D' : Ends} {s : Sl} {v : V}
theorem OK.lessT {G2 : Gh} {T1 T2 : List It'} (k : OK K { G2 with T := T1 } Fz H E σ) (h : T2.Sublist T1) : OK K { G2 with T := T2 } Fz H E σ := ⟨k.gd.sub (h.append (List.Sublist.refl _)), k.lv⟩
theorem OK.unw (k : OK K (G.w T') Fz H E σ) : OK K G Fz H E σ := OK.lessT (G2 := G) k (List.sublist_append_right _ _)
theorem OK.unw1 (k : OK K ((G.w T').p s v) Fz H E σ) : OK K (G.p s v) Fz H E σ := OK.lessT (G2 := G) k ((List.sublist_append_right _ _).cons_cons _)
theorem OK.held (k : OK K (G.w T') Fz H E σ) : ∀ p ∈ T', RS K Fz H G.io p := fun p hp => k.gd.rs p (List.mem_append_left _ (List.mem_append_left _ hp))
theorem EndX.w {x : D} (h : EndX W K G x E σ) : EndX W K (G.w T') x E σ := fun cls d H' Fz' k r => h cls d H' Fz' k.unw r
theorem EndS.w : ∀ {f : FL}, EndS W K G D' f → EndS W K (G.w T') D' f
  | .nx E, h => fun σ' H' Fz' k => h σ' H' Fz' k.unw
  | .rt r E, h => fun v σ' H' Fz' k => h v σ' H' Fz' k.unw1
  | .bk E, h => fun σ' H' Fz' k => h σ' H' Fz' k.unw
  | .ct E, h => fun σ' H' Fz' k => h σ' H' Fz' k.unw
  | .exc x E, h => fun σ' => (h σ').w
  | .bad, h => h
theorem EndE.w : ∀ {f : RR (Sl × Env)}, EndE W K G σ Q f → EndE W K (G.w T') σ Q f
  | .ok p, h => fun v H' Fz' k => h v H' Fz' k.unw1
  | .exc x E, h => EndX.w h
  | .bad, h => h
end
def EndI (W : WX) (K : PySem.W.Frag) (G : Gh) (σ : L2.St) (R : L2.It → Hp → Prop) : RR (List D × Env) → Prop
  | .ok p => ∀ J T' H' Fz', OK K (G.w T') Fz' H' p.2 σ → Wk K G.io J T' p.1 → R J H'
  | .exc x E => EndX W K G x E σ
  | .bad => False
def tI (W : WX) (K : PySem.W.Frag) (f : EI) : TI := fun σ H R => ∃ (G : Gh) (E : Env) (Fz : Addr → Prop), OK K G Fz H E σ ∧ EndI W K G σ R (f E)
def SI (X : Cx) (W : WX) (tg iter : Expr) (f : EI) : Prop := PI X tg iter (tI W X.K f)
theorem PI.imp {X : Cx} {tg iter : Expr} {t t' : TI} (h : PI X tg iter t) (i : ∀ σ H R, t' σ H R → t σ H R) : PI X tg iter t' := ⟨fun pins s σ H R I q => h.run pins s σ H R I (i σ H R q)⟩
section
variable {W : WX} {K : PySem.W.Frag} {G : Gh} {Fz : Addr → Prop} {H : Hp} {E : Env} {σ : L2.St} {R : L2.It → Hp → Prop} {D' : Ends}
theorem EndS.flI {x : RR (List D × Env)} {k : List D × Env → FL} (h : EndS W K G D' (x.fl k)) (σ : L2.St) : EndI W K G σ (fun J H' => ∃ ds E1 Fz1 T', OK K (G.w T') Fz1 H' E1 σ ∧ Wk K G.io J T' ds ∧ EndS W K G D' (k (ds, E1))) x := by
  cases x with
  | ok p => exact fun J T' H1 Fz1 k1 w => ⟨p.1, p.2, Fz1, T', k1, w, h⟩
  | exc x E' => exact h σ
  | bad => exact h
theorem tI_of {f : EI} (k : OK K G Fz H E σ) (h : EndI W K G σ R (f E)) : tI W K f σ H R := ⟨G, E, Fz, k, h⟩
theorem EndI.bindE {x : RR (Sl × Env)} {k : Sl × Env → RR (List D × Env)} (h : EndI W K G σ R (x.bind k)) : EndE W K G σ (fun v H' => ∃ r E1 Fz1, OK K (G.p r v) Fz1 H' E1 σ ∧ EndI W K G σ R (k (r, E1))) x := by
  cases x with
  | ok p => exact fun v H1 Fz1 k1 => ⟨p.1, p.2, Fz1, k1, h⟩
  | exc x E' => exact h
  | bad => exact h
theorem EndI.bindA {x : RR (List Sl × Env)} {k : List Sl × Env → RR (List D × Env)} (h : EndI W K G σ R (x.bind k)) : EndA W K G σ (fun vs H' => ∃ rs E1 Fz1, vs.length = rs.length ∧ OK K (G.ps rs vs) Fz1 H' E1 σ ∧ EndI W K G σ R (k (rs, E1))) x := by
  cases x with
  | ok p => exact fun v H1 Fz1 hl k1 => ⟨p.1, p.2, Fz1, hl, k1, h⟩
  | exc x E' => exact h
  | bad => exact h
end
/-! ### the walks -/
section
variable {K : PySem.W.Frag} {io : List Addr} {a b : Addr} {s s2 : Sl}
/-- a thing that reads as a list, as a tuple -/
def Sl.ls? : Sl → Option (List D)
  | .ol ds => some ds
  | .lk ds => some ds
  | .dat (.lst ds) => some ds
  | _ => none
def Sl.ts? : Sl → Option (List D)
  | .dat (.tup ds) => some ds
  | _ => none
theorem RS.ls {Fz : Addr → Prop} {H : Hp} {ds : List D} {v : V} (r : RS K Fz H io (s, some v)) (h : s.ls? = some ds) : ∃ a vs, v = .ref a ∧ SqL K H a vs ∧ RpL K Fz H ds vs := by
  match s, h, r with
  | .ol _, h, ⟨a, vs, e, q, rr⟩ =>
    cases h
    cases e
    exact ⟨a, vs, rfl, .inl (.inl q), rr⟩
  | .lk _, h, ⟨a, vs, e, q, rr⟩ =>
    cases h
    cases e
    exact ⟨a, vs, rfl, q.sql, rr⟩
  | .dat (.lst _), h, ⟨w, e, a, vs, e2, q, r⟩ =>
    cases h
    cases e
    exact ⟨a, vs, e2, q.sql, r⟩
theorem RS.ts {Fz : Addr → Prop} {H : Hp} {ds : List D} {v : V} (r : RS K Fz H io (s, some v)) (h : s.ts? = some ds) : ∃ a vs, v = .ref a ∧ SqT K H a vs ∧ RpL K Fz H ds vs := by
  match s, h, r with
  | .dat (.tup _), h, ⟨w, e, a, vs, e2, q, r⟩ =>
    cases h
    cases e
    exact ⟨a, vs, e2, q, r⟩
theorem RS.lsA {Fz : Addr → Prop} {H : Hp} {ds : List D} (r : RS K Fz H io (s, some (.ref a))) (h : s.ls? = some ds) : ∃ vs, SqL K H a vs ∧ RpL K Fz H ds vs := by
  obtain ⟨b, vs, e, q, r⟩ := r.ls h
  cases e
  exact ⟨vs, q, r⟩
theorem RS.tsA {Fz : Addr → Prop} {H : Hp} {ds : List D} (r : RS K Fz H io (s, some (.ref a))) (h : s.ts? = some ds) : ∃ vs, SqT K H a vs ∧ RpL K Fz H ds vs := by
  obtain ⟨b, vs, e, q, r⟩ := r.ts h
  cases e
  exact ⟨vs, q, r⟩
theorem RpL.getV {Fz : Addr → Prop} {H : Hp} {ds : List D} {vs : List V} {i : Nat} {d : D} {x : V} (r : RpL K Fz H ds vs) (hd : ds[i]? = some d) (hx : vs[i]? = some x) : Rp K Fz H d x := by
  obtain ⟨v, e, h⟩ := r.get hd
  rw [e] at hx
  cases hx
  exact h
theorem wk_list {ds : List D} (h : s.ls? = some ds) : Wk K io (Itl K a) [(s, some (.ref a))] ds where
  goes := fun hp hi => by
    obtain ⟨vs, q, r⟩ := (hp _ List.mem_cons_self).lsA h
    exact walk_list.goes _ _ (by rw [← r.len]; exact hi) q
  stops := fun hp => by
    obtain ⟨vs, q, r⟩ := (hp _ List.mem_cons_self).lsA h
    rw [r.len]
    exact walk_list.stops _ q
  yields := fun hp hd y => by
    obtain ⟨vs, q, r⟩ := (hp _ List.mem_cons_self).lsA h
    have hi := (List.getElem?_eq_some_iff.mp hd).1
    obtain ⟨e, hx⟩ := walk_list.yields _ _ _ _ (by rw [← r.len]; exact hi) q y
    exact .inl ⟨e, r.getV hd hx⟩
theorem wk_tup {ds : List D} (h : s.ts? = some ds) : Wk K io (Itt K a) [(s, some (.ref a))] ds where
  goes := fun hp hi => by
    obtain ⟨vs, q, r⟩ := (hp _ List.mem_cons_self).tsA h
    exact walk_tup.goes _ _ (by rw [← r.len]; exact hi) q
  stops := fun hp => by
    obtain ⟨vs, q, r⟩ := (hp _ List.mem_cons_self).tsA h
    rw [r.len]
    exact walk_tup.stops _ q
  yields := fun hp hd y => by
    obtain ⟨vs, q, r⟩ := (hp _ List.mem_cons_self).tsA h
    have hi := (List.getElem?_eq_some_iff.mp hd).1
    obtain ⟨e, hx⟩ := walk_tup.yields _ _ _ _ (by rw [← r.len]; exact hi) q y
    exact .inl ⟨e, r.getV hd hx⟩
def rngD (lo c : Int) (n : Nat) : List D := (List.range n).map fun i => .int (lo + (i : Nat) * c)
theorem rngD_len {lo c : Int} {n : Nat} : (rngD lo c n).length = n := by simp [rngD]
theorem rngD_get {lo c : Int} {n i : Nat} {d : D} (h : (rngD lo c n)[i]? = some d) : i < n ∧ d = .int (lo + (i : Nat) * c) := by
  unfold rngD at h
  rw [List.getElem?_map] at h
  by_cases hi : i < n
  · rw [List.getElem?_range hi] at h
    cases h
    exact ⟨hi, rfl⟩
  · rw [List.getElem?_eq_none (by simpa using hi)] at h
    cases h
theorem wk_range {lo : Int} {n : Nat} : Wk K io (Itr lo n) [] (rngD lo 1 n) where
  goes := fun _ hi => by rw [rngD_len] at hi; exact hi
  stops := fun _ => by rw [rngD_len]; exact Nat.le_refl _
  yields := fun _ hd y => by
    obtain ⟨hi, rfl⟩ := rngD_get hd
    obtain ⟨e, e2⟩ := y
    exact .inl ⟨e, by rw [e2, Int.mul_one]; rfl⟩
theorem wk_rangeC {lo c : Int} {n : Nat} : Wk K io (Itc lo c n) [] (rngD lo c n) where
  goes := fun _ hi => by rw [rngD_len] at hi; exact hi
  stops := fun _ => by rw [rngD_len]; exact Nat.le_refl _
  yields := fun _ hd y => by
    obtain ⟨hi, rfl⟩ := rngD_get hd
    obtain ⟨e, e2⟩ := y
    exact .inl ⟨e, by rw [e2]; rfl⟩
def enumD : Nat → List D → List D
  | _, [] => []
  | i, d :: ds => .tup [.int (i : Nat), d] :: enumD (i + 1) ds
theorem enumD_len : ∀ {n : Nat} {ds : List D}, (enumD n ds).length = ds.length
  | _, [] => rfl
  | n, d :: ds => congrArg (· + 1) (enumD_len (n := n + 1) (ds := ds))
theorem enumD_get : ∀ {n i : Nat} {ds : List D} {d : D}, (enumD n ds)[i]? = some d → ∃ x, ds[i]? = some x ∧ d = .tup [.int ((n + i : Nat) : Int), x]
  | n, 0, x :: ds, d, h => by
    cases h
    exact ⟨x, rfl, rfl⟩
  | n, i + 1, x :: ds, d, h => by
    obtain ⟨y, e, e2⟩ := enumD_get (n := n + 1) (i := i) (ds := ds) (d := d) h
    exact ⟨y, e, by rw [e2, show n + 1 + i = n + (i + 1) by omega]⟩
theorem wk_enum {ds : List D} (h : s.ls? = some ds) : Wk K io (Ite K a) [(s, some (.ref a))] (enumD 0 ds) where
  goes := fun hp hi => by
    obtain ⟨vs, q, r⟩ := (hp _ List.mem_cons_self).lsA h
    rw [enumD_len] at hi
    exact walk_enum.goes _ _ (by rw [← r.len]; exact hi) q
  stops := fun hp => by
    obtain ⟨vs, q, r⟩ := (hp _ List.mem_cons_self).lsA h
    rw [enumD_len, r.len]
    exact walk_enum.stops _ q
  yields := fun hp hd y => by
    obtain ⟨vs, q, r⟩ := (hp _ List.mem_cons_self).lsA h
    obtain ⟨x, hx, rfl⟩ := enumD_get hd
    have hi := (List.getElem?_eq_some_iff.mp hx).1
    obtain ⟨p, u, w, e1, e2, e3, e4, e5⟩ := walk_enum.yields _ _ _ _ (by rw [← r.len]; exact hi) q y
    cases e4
    exact .inr ⟨p, _, _, rfl, e1, e2, e3, .cons (by rw [Nat.zero_add]; rfl) (.cons (r.getV hx e5) .nil)⟩
def zipD (xs ys : List D) : List D := List.zipWith (fun x y => .tup [x, y]) xs ys
theorem zipD_get {i : Nat} {xs ys : List D} {d : D} (h : (zipD xs ys)[i]? = some d) : ∃ x y, xs[i]? = some x ∧ ys[i]? = some y ∧ d = .tup [x, y] := by
  unfold zipD at h
  rw [List.getElem?_zipWith] at h
  split at h
  · rename_i x y e1 e2
    cases h
    exact ⟨x, y, e1, e2, rfl⟩
  · cases h
theorem wk_zip {ds es : List D} (h : s.ls? = some ds) (h2 : s2.ls? = some es) : Wk K io (Itz K a b) [(s, some (.ref a)), (s2, some (.ref b))] (zipD ds es) where
  goes := fun hp hi => by
    obtain ⟨vs, q, r⟩ := (hp _ List.mem_cons_self).lsA h
    obtain ⟨us, q2, r2⟩ := (hp _ (List.mem_cons_of_mem _ List.mem_cons_self)).lsA h2
    refine (walk_zip (n := min vs.length us.length) rfl).goes _ _ ?_ ⟨q, q2⟩
    rw [← r.len, ← r2.len]
    simpa [zipD] using hi
  stops := fun hp => by
    obtain ⟨vs, q, r⟩ := (hp _ List.mem_cons_self).lsA h
    obtain ⟨us, q2, r2⟩ := (hp _ (List.mem_cons_of_mem _ List.mem_cons_self)).lsA h2
    have e : (zipD ds es).length = min vs.length us.length := by simp [zipD, r.len, r2.len]
    rw [e]
    exact (walk_zip (n := min vs.length us.length) rfl).stops _ ⟨q, q2⟩
  yields := fun hp hd y => by
    obtain ⟨vs, q, r⟩ := (hp _ List.mem_cons_self).lsA h
    obtain ⟨us, q2, r2⟩ := (hp _ (List.mem_cons_of_mem _ List.mem_cons_self)).lsA h2
    obtain ⟨x, z, hx, hz, rfl⟩ := zipD_get hd
    have hi := (List.getElem?_eq_some_iff.mp hx).1
    have hj := (List.getElem?_eq_some_iff.mp hz).1
    obtain ⟨p, u, w, e1, e2, e3, e4, e5⟩ := (walk_zip (n := min vs.length us.length) rfl).yields _ _ _ _ (by rw [← r.len, ← r2.len]; omega) ⟨q, q2⟩ y
    exact .inr ⟨p, _, _, rfl, e1, e2, e3, .cons (r.getV hx e4) (.cons (r2.getV hz e5) .nil)⟩
theorem wk_zipT {ds es : List D} (h : s.ts? = some ds) (h2 : s2.ts? = some es) : Wk K io (ItzT K a b) [(s, some (.ref a)), (s2, some (.ref b))] (zipD ds es) where
  goes := fun {i} {Fz} {H} hp hi => by
    obtain ⟨vs, q, r⟩ := (hp _ List.mem_cons_self).tsA h
    obtain ⟨us, q2, r2⟩ := (hp _ (List.mem_cons_of_mem _ List.mem_cons_self)).tsA h2
    have hi : i < min ds.length es.length := by simpa [zipD] using hi
    have l1 := r.len
    have l2 := r2.len
    have h1 : i < vs.length := by omega
    have h3 : i < us.length := by omega
    exact ⟨vs, us, vs[i], us[i], q, q2, by simp [h1], by simp [h3]⟩
  stops := fun hp => by
    obtain ⟨vs, q, r⟩ := (hp _ List.mem_cons_self).tsA h
    obtain ⟨us, q2, r2⟩ := (hp _ (List.mem_cons_of_mem _ List.mem_cons_self)).tsA h2
    have e : (zipD ds es).length = min vs.length us.length := by simp [zipD, r.len, r2.len]
    exact ⟨vs, us, q, q2, by omega⟩
  yields := fun hp hd y => by
    obtain ⟨vs, q, r⟩ := (hp _ List.mem_cons_self).tsA h
    obtain ⟨us, q2, r2⟩ := (hp _ (List.mem_cons_of_mem _ List.mem_cons_self)).tsA h2
    obtain ⟨x, z, hx, hz, rfl⟩ := zipD_get hd
    obtain ⟨p, u, w, e1, e2, e3, e4, e5⟩ := y
    exact .inr ⟨p, _, _, rfl, e1, e2, e3, .cons (r.getV hx (e4 vs q)) (.cons (r2.getV hz (e5 us q2)) .nil)⟩
theorem wk_rev {ds : List D} {n : Nat} (h : s.ls? = some ds) (hn : n = ds.length) : Wk K io (Itv K a n) [(s, some (.ref a))] ds.reverse where
  goes := fun {i} {Fz} {H} hp hi => by
    obtain ⟨vs, q, r⟩ := (hp _ List.mem_cons_self).lsA h
    have l := r.len
    have hi : i < ds.length := by simpa using hi
    exact ⟨by omega, vs, vs[n - 1 - i]'(by omega), q, by rw [List.getElem?_eq_getElem]⟩
  stops := fun hp => by show n ≤ ds.reverse.length; simp [hn]
  yields := fun hp hd y => by
    obtain ⟨vs, q, r⟩ := (hp _ List.mem_cons_self).lsA h
    obtain ⟨e, hx⟩ := y
    have hi := (List.getElem?_eq_some_iff.mp hd).1
    rw [List.getElem?_reverse (by simpa using hi)] at hd
    rw [← hn] at hd
    exact .inl ⟨e, r.getV hd (hx vs q)⟩
theorem wk_revT {ds : List D} {n : Nat} (h : s.ts? = some ds) (hn : n = ds.length) : Wk K io (ItvT K a n) [(s, some (.ref a))] ds.reverse where
  goes := fun {i} {Fz} {H} hp hi => by
    obtain ⟨vs, q, r⟩ := (hp _ List.mem_cons_self).tsA h
    have l := r.len
    have hi : i < ds.length := by simpa using hi
    exact ⟨by omega, vs, vs[n - 1 - i]'(by omega), q, by rw [List.getElem?_eq_getElem]⟩
  stops := fun hp => by show n ≤ ds.reverse.length; simp [hn]
  yields := fun hp hd y => by
    obtain ⟨vs, q, r⟩ := (hp _ List.mem_cons_self).tsA h
    obtain ⟨e, hx⟩ := y
    have hi := (List.getElem?_eq_some_iff.mp hd).1
    rw [List.getElem?_reverse (by simpa using hi)] at hd
    rw [← hn] at hd
    exact .inl ⟨e, r.getV hd (hx vs q)⟩
end
end VL

/-! The value layer, 10: the sources of loops, for. -/
namespace VL
open PySem PySem.Spec PyProof.Rows L2 RZ RT

section
variable {X : Cx} {tg : Expr}
/-- a list or a tuple -/
def iSeq (K : PySem.W.Frag) (tl : TE) : TI := fun σ H R => tl σ H fun x H1 => ∃ a, x = .ref a ∧ (((∃ xs, SqL K H1 a xs) ∧ R (Itl K a) H1) ∨ ((∃ xs, SqT K H1 a xs) ∧ R (Itt K a) H1))
theorem pi_seq {e : Expr} {te : TE} (he : PE X e te) : PI X tg e (iSeq X.K te) := ⟨fun pins s σ H R I h => thn (he.run pins s σ H _ I h) fun v s1 ⟨x, H1, I1, r1, q1⟩ => by
  obtain ⟨a, rfl, q1⟩ := q1
  obtain rfl : v = Value.ref a := r1
  have fresh : ∀ b ∈ [s1.heap.objs.size], FpOk X pins H1 b := fun b hb => by
    rw [List.mem_singleton.mp hb]
    exact I1.fpOk (Nat.le_refl _) (I1.hok.fresh (Nat.le_refl _))
  rcases q1 with ⟨⟨xs, hq⟩, q⟩ | ⟨⟨xs, hq⟩, q⟩
  · obtain ⟨its, _, p, _⟩ := I1.list hq
    refine wpAny_pyIter_list p.isList ⟨_, [s1.heap.objs.size], _, _, H1, rfl, I1.kept (t' := s1.toks) fun b o e => Heap.get?_push_of_some _ e, turn_list a _, ?_, fresh, q⟩
    exact ⟨_, Heap.get?_push_size _ rfl, rfl, rfl⟩
  · obtain ⟨its, _, p, _⟩ := I1.tuple hq
    refine wpAny_pyIter_tuple (show s1.heap.IsTuple a its.toArray from p) ⟨_, [s1.heap.objs.size], _, _, H1, rfl, I1.kept (t' := s1.toks) fun b o e => Heap.get?_push_of_some _ e, turn_tuple a _, ?_, fresh, q⟩
    exact ⟨_, Heap.get?_push_size _ rfl, rfl, rfl⟩⟩
end
/-! ### sources -/
def iVal (f : EF) : EI := fun E => (f E).bind fun p => match p.1.ls? with
  | some ds => .ok (ds, p.2)
  | none => match p.1.ts? with
    | some ds => .ok (ds, p.2)
    | none => .bad
def iEn (g : AF) : EI := fun E => (g E).bind fun p => match p.1 with
  | [s] => match s.ls? with
    | some ds => .ok (enumD 0 ds, p.2)
    | none => .bad
  | _ => .bad
def iZip (g : AF) : EI := fun E => (g E).bind fun p => match p.1 with
  | [s, s2] => match s.ls?, s2.ls? with
    | some ds, some es => .ok (zipD ds es, p.2)
    | _, _ => match s.ts?, s2.ts? with
      | some ds, some es => .ok (zipD ds es, p.2)
      | _, _ => .bad
  | _ => .bad
def iRevd (f : EF) : EI := fun E => (f E).bind fun p => match p.1.ls? with
  | some ds => .ok (ds.reverse, p.2)
  | none => match p.1.ts? with
    | some ds => .ok (ds.reverse, p.2)
    | none => .bad
def smallI (i : Int) : Bool := decide (-(2 ^ 62) ≤ i) && decide (i < 2 ^ 62)
theorem smallI_ok {i : Int} (h : smallI i = true) : -(2 ^ 62) ≤ i ∧ i < 2 ^ 62 := by
  unfold smallI at h
  rw [Bool.and_eq_true] at h
  exact ⟨of_decide_eq_true h.1, of_decide_eq_true h.2⟩
def iRg1 (g : AF) : EI := fun E => (g E).bind fun p => match p.1 with
  | [.dat (.int j)] => if smallI j then .ok (rngD 0 1 j.toNat, p.2) else .bad
  | _ => .bad
def iRg2 (g : AF) : EI := fun E => (g E).bind fun p => match p.1 with
  | [.dat (.int i), .dat (.int j)] => if smallI i && smallI j then .ok (rngD i 1 (j - i).toNat, p.2) else .bad
  | _ => .bad
/-- range(i, j, -1), or a step between 1 and 2^30 -/
def iRg3 (g : AF) : EI := fun E => (g E).bind fun p => match p.1 with
  | [.dat (.int i), .dat (.int j), .dat (.int c)] => if decide (c ≠ 0) && decide (c.natAbs < 1073741824) && Builtin.Range.small i j c && decide (0 ≤ Builtin.Range.rangeSize i j c) then .ok (rngD i c (Builtin.Range.rangeSize i j c).toNat, p.2) else .bad
  | _ => .bad
section
variable {X : Cx} {W : WX} {tg : Expr} {e e2 : Expr} {es : List Expr} {f : EF} {g : AF} {p pos tpos : Pos} {elts : List Expr} {kk : Nat}
theorem si_val (h : SE X W e f) : SI X W tg e (iVal f) := PI.imp (pi_seq h) fun σ H R ⟨G, E, Fz, k, z⟩ => by
  refine tE_mono (tE_of k (EndI.bindE z)) fun v H1 ⟨r, E1, Fz1, k1, h1⟩ => ?_
  cases hl : r.ls? with
  | some ds =>
    obtain ⟨a, vs, rfl, q, rr⟩ := RS.ls k1.top hl
    refine ⟨a, rfl, .inl ⟨⟨vs, q⟩, ?_⟩⟩
    simp only [hl] at h1
    exact h1 _ [(r, some (.ref a))] _ _ k1 (wk_list hl)
  | none =>
    simp only [hl] at h1
    cases ht : r.ts? with
    | some ds =>
      obtain ⟨a, vs, rfl, q, rr⟩ := RS.ts k1.top ht
      refine ⟨a, rfl, .inr ⟨⟨vs, q⟩, ?_⟩⟩
      simp only [ht] at h1
      exact h1 _ [(r, some (.ref a))] _ _ k1 (wk_tup ht)
    | none =>
      simp only [ht] at h1
      exact h1.elim
theorem len1 {α : Type} {vs : List α} {a : Sl} (h : vs.length = [a].length) : ∃ v, vs = [v] := by
  match vs, h with
  | [v], _ => exact ⟨v, rfl⟩
theorem len2 {α : Type} {vs : List α} {a b : Sl} (h : vs.length = [a, b].length) : ∃ v w, vs = [v, w] := by
  match vs, h with
  | [v, w], _ => exact ⟨v, w, rfl⟩
theorem len3 {α : Type} {vs : List α} {a b c : Sl} (h : vs.length = [a, b, c].length) : ∃ v w u, vs = [v, w, u] := by
  match vs, h with
  | [v, w, u], _ => exact ⟨v, w, u, rfl⟩
theorem si_enum (ha : SA X W [e] g) (hg : Gl X "enumerate") (hm : X.mg "enumerate" = none) (hs : starEach [e] X.env = [(false, eval e X.env)] := by rfl) : SI X W (.Tuple elts kk tpos) (.Call (.Name "enumerate" p) [e] [] pos) (iEn g) := PI.imp (pi_enum hg hm ha hs) fun σ H R ⟨G, E, Fz, k, z⟩ => by
  refine tA_mono (tA_of k (EndI.bindA z)) fun vs H1 ⟨rs, E1, Fz1, hl, k1, h1⟩ => ?_
  match rs, hl, k1, h1 with
  | [s], hl, k1, h1 =>
    obtain ⟨v, rfl⟩ := len1 hl
    have k1 : OK X.K (G.p s v) Fz1 H1 E1 σ := k1
    cases ht : s.ls? with
    | some ds =>
      obtain ⟨a, us, rfl, q, rr⟩ := RS.ls k1.top ht
      simp only [ht] at h1
      exact ⟨a, us, rfl, q, h1 _ [(s, some (.ref a))] _ _ k1 (wk_enum ht)⟩
    | none =>
      simp only [ht] at h1
      exact h1.elim
  | [], _, _, h1 => exact h1.elim
  | _ :: _ :: _, _, _, h1 => exact h1.elim
theorem Wk.perm {K : PySem.W.Frag} {io : List Addr} {J : L2.It} {T T' : List It'} {ds : List D} (w : Wk K io J T ds) (h : ∀ p ∈ T, p ∈ T') : Wk K io J T' ds :=
  ⟨fun hp hi => w.goes (fun p z => hp p (h p z)) hi, fun hp => w.stops fun p z => hp p (h p z), fun hp hd y => w.yields (fun p z => hp p (h p z)) hd y⟩
theorem si_zip (ha : SA X W [e, e2] g) (hg : Gl X "zip") (hm : X.mg "zip" = none) (hs : starEach [e, e2] X.env = (false, eval e X.env) :: starEach [e2] X.env := by rfl) (hpl : (backTo pos (starEach [e2] X.env)).any (·.1) = false := by rfl) :
    SI X W (.Tuple elts kk tpos) (.Call (.Name "zip" p) [e, e2] [] pos) (iZip g) := PI.imp (pi_zipA hg hm ha hs hpl) fun σ H R ⟨G, E, Fz, k, z⟩ => by
  refine tA_mono (tA_of k (EndI.bindA z)) fun vs H1 ⟨rs, E1, Fz1, hl, k1, h1⟩ => ?_
  match rs, hl, k1, h1 with
  | [s, s2], hl, k1, h1 =>
    obtain ⟨v, w, rfl⟩ := len2 hl
    have k1 : OK X.K ((G.p s v).p s2 w) Fz1 H1 E1 σ := k1
    have m : ∀ {a b : It'}, ∀ p ∈ [a, b], p ∈ [b, a] := fun p h => by simp at h ⊢; exact h.symm
    by_cases hc : (∃ ds es, s.ls? = some ds ∧ s2.ls? = some es)
    · obtain ⟨ds, es, h3, h4⟩ := hc
      obtain ⟨a, us, rfl, q, rr⟩ := RS.ls k1.pop.top h3
      obtain ⟨b, us2, rfl, q2, rr2⟩ := RS.ls k1.top h4
      simp only [h3, h4] at h1
      exact ⟨a, b, us, us2, rfl, .inl ⟨q, q2, h1 _ [(s2, some (.ref b)), (s, some (.ref a))] _ _ k1 ((wk_zip h3 h4).perm m)⟩⟩
    · have h1 : EndI W X.K G σ R (match s.ts?, s2.ts? with
        | some ds, some es => .ok (zipD ds es, E1)
        | _, _ => .bad) := by
        dsimp only at h1
        split at h1
        · rename_i ds es h3 h4
          exact absurd ⟨ds, es, h3, h4⟩ hc
        · exact h1
      split at h1
      · rename_i ds es h3 h4
        obtain ⟨a, us, rfl, q, rr⟩ := RS.ts k1.pop.top h3
        obtain ⟨b, us2, rfl, q2, rr2⟩ := RS.ts k1.top h4
        exact ⟨a, b, us, us2, rfl, .inr ⟨q, q2, h1 _ [(s2, some (.ref b)), (s, some (.ref a))] _ _ k1 ((wk_zipT h3 h4).perm m)⟩⟩
      · exact h1.elim
  | [], _, _, h1 => exact h1.elim
  | [_], _, _, h1 => exact h1.elim
  | _ :: _ :: _ :: _, _, _, h1 => exact h1.elim
theorem si_rev (h : SE X W e f) (hg : Gl X "reversed") (hm : X.mg "reversed" = none) (hs : starEach [e] X.env = (false, eval e X.env) :: starEach [] X.env := by rfl) : SI X W tg (.Call (.Name "reversed" p) [e] [] pos) (iRevd f) := PI.imp (pi_revA hg hm h hs) fun σ H R ⟨G, E, Fz, k, z⟩ => by
  refine tE_mono (tE_of k (EndI.bindE z)) fun v H1 ⟨r, E1, Fz1, k1, h1⟩ => ?_
  cases hl : r.ls? with
  | some ds =>
    obtain ⟨a, vs, rfl, q, rr⟩ := RS.ls k1.top hl
    refine ⟨a, vs, rfl, .inl ⟨q, ?_⟩⟩
    simp only [hl] at h1
    exact h1 _ [(r, some (.ref a))] _ _ k1 (wk_rev hl rr.len.symm)
  | none =>
    simp only [hl] at h1
    cases ht : r.ts? with
    | some ds =>
      obtain ⟨a, vs, rfl, q, rr⟩ := RS.ts k1.top ht
      refine ⟨a, vs, rfl, .inr ⟨q, ?_⟩⟩
      simp only [ht] at h1
      exact h1 _ [(r, some (.ref a))] _ _ k1 (wk_revT ht rr.len.symm)
    | none =>
      simp only [ht] at h1
      exact h1.elim
theorem OK.int1 {K : PySem.W.Frag} {G : Gh} {Fz : Addr → Prop} {H : Hp} {E : Env} {σ : L2.St} {j : Int} {v : V} (k : OK K (G.p (.dat (.int j)) v) Fz H E σ) : v = .int j := k.datI
theorem si_range1 (ha : SA X W [e] g) (hg : Gl X "range") (hm : X.mg "range" = none) (hs : starEach [e] X.env = [(false, eval e X.env)] := by rfl) : SI X W tg (.Call (.Name "range" p) [e] [] pos) (iRg1 g) := PI.imp (pi_range1 hg hm ha hs) fun σ H R ⟨G, E, Fz, k, z⟩ => by
  refine tA_mono (tA_of k (EndI.bindA z)) fun vs H1 ⟨rs, E1, Fz1, hl, k1, h1⟩ => ?_
  dsimp only at h1
  split at h1
  · rename_i j
    obtain ⟨v, rfl⟩ := len1 hl
    have k1 : OK X.K (G.p (.dat (.int j)) v) Fz1 H1 E1 σ := k1
    split at h1
    · rename_i hj
      obtain ⟨j1, j2⟩ := smallI_ok hj
      exact ⟨j, by rw [k1.int1], j1, j2, h1 _ [] _ _ k1.pop wk_range⟩
    · exact h1.elim
  · exact h1.elim
theorem si_range2 (ha : SA X W [e, e2] g) (hg : Gl X "range") (hm : X.mg "range" = none) (hs : starEach [e, e2] X.env = [(false, eval e X.env), (false, eval e2 X.env)] := by rfl) (hs2 : starEach [e2] X.env = [(false, eval e2 X.env)] := by rfl) :
    SI X W tg (.Call (.Name "range" p) [e, e2] [] pos) (iRg2 g) := PI.imp (pi_range2 hg hm ha hs hs2) fun σ H R ⟨G, E, Fz, k, z⟩ => by
  refine tA_mono (tA_of k (EndI.bindA z)) fun vs H1 ⟨rs, E1, Fz1, hl, k1, h1⟩ => ?_
  dsimp only at h1
  split at h1
  · rename_i i j
    obtain ⟨v, w, rfl⟩ := len2 hl
    have k1 : OK X.K ((G.p (.dat (.int i)) v).p (.dat (.int j)) w) Fz1 H1 E1 σ := k1
    split at h1
    · rename_i hj
      rw [Bool.and_eq_true] at hj
      obtain ⟨i1, i2⟩ := smallI_ok hj.1
      obtain ⟨j1, j2⟩ := smallI_ok hj.2
      exact ⟨i, j, by rw [k1.int1, k1.pop.int1], ⟨i1, i2, j1, j2⟩, h1 _ [] _ _ k1.pop.pop wk_range⟩
    · exact h1.elim
  · exact h1.elim
theorem si_range3 {e3 : Expr} (ha : SA X W [e, e2, e3] g) (hg : Gl X "range") (hm : X.mg "range" = none) (hs : starEach [e, e2, e3] X.env = (false, eval e X.env) :: starEach [e2, e3] X.env := by rfl) (hpl : (backTo pos (starEach [e2, e3] X.env)).any (·.1) = false := by rfl) :
    SI X W tg (.Call (.Name "range" p) [e, e2, e3] [] pos) (iRg3 g) := PI.imp (pi_range3 hg hm ha hs hpl) fun σ H R ⟨G, E, Fz, k, z⟩ => by
  refine tA_mono (tA_of k (EndI.bindA z)) fun vs H1 ⟨rs, E1, Fz1, hl, k1, h1⟩ => ?_
  dsimp only at h1
  split at h1
  · rename_i i j c
    obtain ⟨v, w, u, rfl⟩ := len3 hl
    have k1 : OK X.K (((G.p (.dat (.int i)) v).p (.dat (.int j)) w).p (.dat (.int c)) u) Fz1 H1 E1 σ := k1
    split at h1
    · rename_i hj
      rw [Bool.and_eq_true, Bool.and_eq_true, Bool.and_eq_true] at hj
      obtain ⟨⟨⟨c1, c2⟩, c3⟩, c4⟩ := hj
      have c4 := of_decide_eq_true c4
      exact ⟨i, j, c, _, by rw [k1.int1, k1.pop.int1, k1.pop.pop.int1], ⟨of_decide_eq_true c1, of_decide_eq_true c2, c3, by omega⟩, h1 _ [] _ _ k1.pop.pop.pop wk_rangeC⟩
    · exact h1.elim
  · exact h1.elim
end
/-! ### for -/
def loopS (g : GF) (b : SF) : List D → Env → FL
  | [], E => .nx E
  | d :: ds, E => match g d E with
    | none => .bad
    | some E1 => match b E1 with
      | .nx E2 => loopS g b ds E2
      | .ct E2 => loopS g b ds E2
      | .bk E2 => .nx E2
      | r => r
def sFor (f : EI) (g : GF) (b : SF) : SF := fun E => (f E).fl fun p => loopS g b p.1 p.2
section
variable {X : Cx} {W : WX} {tg iter : Expr} {f : EI} {g : GF} {b : SF} {vs : List Nat} {body : List Stmt} {pos : Pos}
theorem ss_for (kx : Kx X W) (hi : SI X W tg iter f) (hg : SG X tg vs g) (hb : SSs X W body b) (hs : ∀ x, foldedSetIterable iter X.env x = pure x := by intro _; rfl) : SS X W (.For tg iter body [] pos) (sFor f g b) :=
  PS.imp (ps_for kx.hp kx.hc hi hg hb hs) fun D' σ H ⟨G, E, Fz, k, h⟩ => by
    obtain ⟨G0, E0, Fz0, k0, h0⟩ : tI W X.K f σ H _ := tI_of k (EndS.flI h σ)
    refine ⟨G0, E0, Fz0, k0, ?_⟩
    cases hf : f E0 with
    | bad => rw [hf] at h0; exact h0
    | exc x E' => rw [hf] at h0; exact h0
    | ok p =>
      rw [hf] at h0
      intro J T0 H1 Fz1 k1 w1
      obtain ⟨ds, E1, Fz2, T', k2, w, h1⟩ := h0 J T0 H1 Fz1 k1 w1
      have h1 : EndS W X.K (G.w T') D' (loopS g b ds E1) := EndS.w h1
      refine ⟨fun i m σ H => m = ds.length - i ∧ i ≤ ds.length ∧ ∃ E Fz, OK X.K (G.w T') Fz H E σ ∧ EndS W X.K (G.w T') D' (loopS g b (ds.drop i) E), ⟨ds.length, rfl, Nat.zero_le _, E1, Fz2, k2, h1⟩, ?_⟩
      rintro i m σ H ⟨rfl, hi, E, Fz, k, h⟩
      by_cases hlt : i < ds.length
      · refine .inr ⟨w.goes k.held hlt, fun σ' H' => i + 1 ≤ ds.length ∧ ∃ E Fz, OK X.K (G.w T') Fz H' E σ' ∧ EndS W X.K (G.w T') D' (loopS g b (ds.drop (i + 1)) E), fun σ' H' z => ⟨_, ?_, rfl, z.1, z.2⟩, fun x H' y => ?_⟩
        · omega
        have hd : ds[i]? = some ds[i] := List.getElem?_eq_getElem hlt
        have k3 := k.yd (w.yields k.held hd y)
        rw [List.drop_eq_getElem_cons hlt] at h
        unfold loopS at h
        refine ⟨G.w T', E, Fz, ds[i], k3.pop, k3.datI, ?_⟩
        cases hge : g ds[i] E with
        | none => rw [hge] at h; exact h.elim
        | some E1 =>
          rw [hge] at h
          refine ⟨E1, rfl, fun σ' k4 _ => ⟨G.w T', E1, Fz, k4, ?_⟩⟩
          dsimp only at h
          cases hbe : b E1 with
          | nx E2 => rw [hbe] at h; exact fun σ' H' Fz' k' => ⟨hlt, E2, Fz', k', h⟩
          | ct E2 => rw [hbe] at h; exact fun σ' H' Fz' k' => ⟨hlt, E2, Fz', k', h⟩
          | bk E2 => rw [hbe] at h; exact h
          | rt r E2 => rw [hbe] at h; exact h
          | exc x E2 => rw [hbe] at h; exact h
          | bad => rw [hbe] at h; exact h
      · have e : i = ds.length := by omega
        subst e
        rw [List.drop_length] at h
        exact .inl ⟨w.stops k.held, h σ H Fz k⟩
end
end VL

/-! The value layer, 11: list comprehensions. -/
namespace VL
open PySem PySem.Spec PyProof.Rows L2 RZ RT

/-- nothing is let out -/
def wF : WX := fun _ _ _ _ => False
def wipeE (E : Env) : List Nat → Env
  | [] => E
  | v :: vs => (wipeE E vs).st v .no
def Env.get (E : Env) (i : Nat) : Sl := (E[i]?).getD .no
def stGet (σ : L2.St) (i : Nat) : Option V := (σ[i]?).getD none
def restE (E : Env) : List Nat → Env → Env
  | [], E2 => E2
  | v :: vs, E2 => restE E vs (E2.st v ((wipeE E vs).get v))
def svd (E : Env) (σ : L2.St) : List Nat → List It'
  | [] => []
  | v :: vs => ((wipeE E vs).get v, stGet (wipe σ vs) v) :: svd E σ vs
section
variable {K : PySem.W.Frag} {G : Gh} {Fz : Addr → Prop} {H : Hp} {E E2 : Env} {σ : L2.St} {s : Sl} {v : V} {o : Option V} {T : List It'}
theorem OK.setO {i : Nat} (k : OK K { G with T := (s, o) :: T } Fz H E σ) : OK K { G with T := T } Fz H (E.st i s) (σ.set i o) := by
  by_cases hi : i < (E.zip σ).length
  · refine ⟨?_, by show (E.set i s).length = _; rw [List.length_set, List.length_set]; exact k.lv⟩
    have e : (E.st i s).zip (σ.set i o) = (E.zip σ).set i (s, o) := zip_set E σ i s o
    rw [e]
    have g2 : Gd K G.B G.F0 G.io Fz H ((s, o) :: (T ++ (E.zip σ).eraseIdx i)) := k.gd.sub (((List.Sublist.refl _).append (List.eraseIdx_sublist _ _)).cons_cons _)
    exact g2.perm (List.Perm.trans List.perm_middle.symm (List.Perm.append_left _ (set_perm hi).symm))
  · have h2 : ¬ i < E.length := fun z => hi (by rw [List.length_zip, ← k.lv, Nat.min_self]; exact z)
    have e1 : E.st i s = E := List.set_eq_of_length_le (by omega)
    have e2 : σ.set i o = σ := List.set_eq_of_length_le (by have := k.lv; omega)
    rw [e1, e2]
    exact ⟨k.gd.tail, k.lv⟩
/-- a slot's thing is held aside, the slot emptied -/
theorem OK.away {i : Nat} (k : OK K { G with T := T } Fz H E σ) : OK K { G with T := (E.get i, stGet σ i) :: T } Fz H (E.st i .no) (σ.set i none) := by
  by_cases hi : i < (E.zip σ).length
  · have hE : i < E.length := by rw [List.length_zip, ← k.lv, Nat.min_self] at hi; exact hi
    have hσ : i < σ.length := by rw [← k.lv]; exact hE
    have e1 : E.get i = E[i] := by unfold Env.get; rw [List.getElem?_eq_getElem hE]; rfl
    have e2 : stGet σ i = σ[i] := by unfold stGet; rw [List.getElem?_eq_getElem hσ]; rfl
    have hz : (E.zip σ)[i]? = some (E.get i, stGet σ i) := by
      rw [List.getElem?_zip_eq_some, e1, e2]
      exact ⟨List.getElem?_eq_getElem hE, List.getElem?_eq_getElem hσ⟩
    have g : Gd K G.B G.F0 G.io Fz H ((.no, none) :: (E.get i, stGet σ i) :: (T ++ (E.zip σ).eraseIdx i)) :=
      Gd.push (k.gd.perm ((List.Perm.append_left _ (eraseIdx_get hz)).trans List.perm_middle)) trivial rfl
    refine ⟨?_, by show (E.set i .no).length = _; rw [List.length_set, List.length_set]; exact k.lv⟩
    have e : (E.st i .no).zip (σ.set i none) = (E.zip σ).set i (.no, none) := zip_set E σ i .no none
    rw [e]
    exact g.perm ((List.Perm.swap _ _ _).trans (List.Perm.cons _ (List.Perm.trans List.perm_middle.symm (List.Perm.append_left _ (set_perm hi).symm))))
  · have h2 : ¬ i < E.length := fun z => hi (by rw [List.length_zip, ← k.lv, Nat.min_self]; exact z)
    have h3 : ¬ i < σ.length := by rw [← k.lv]; exact h2
    have e1 : E.st i .no = E := List.set_eq_of_length_le (by omega)
    have e2 : σ.set i none = σ := List.set_eq_of_length_le (by omega)
    have e3 : E.get i = .no := by unfold Env.get; rw [List.getElem?_eq_none (by omega)]; rfl
    have e4 : stGet σ i = none := by unfold stGet; rw [List.getElem?_eq_none (by omega)]; rfl
    rw [e1, e2, e3, e4]
    exact ⟨Gd.push k.gd trivial rfl, k.lv⟩
theorem OK.wipe1 {i : Nat} (k : OK K G Fz H E σ) : OK K G Fz H (E.st i .no) (σ.set i none) := OK.lessT (G2 := G) (OK.away (G := G) (T := G.T) k) (List.sublist_cons_self _ _)
theorem OK.wipe : ∀ {us : List Nat}, OK K G Fz H E σ → OK K G Fz H (wipeE E us) (L2.wipe σ us)
  | [], k => k
  | u :: us, k => (OK.wipe (us := us) k).wipe1
theorem OK.wipeS : ∀ {us : List Nat}, OK K { G with T := T } Fz H E σ → OK K { G with T := svd E σ us ++ T } Fz H (wipeE E us) (L2.wipe σ us)
  | [], k => k
  | u :: us, k => OK.away (G := G) (T := svd E σ us ++ T) (OK.wipeS (us := us) k)
theorem set_stGet {i : Nat} : (σ.set i none).set i (stGet σ i) = σ := by
  rw [List.set_set]
  apply List.ext_getElem?
  intro j
  by_cases hj : i = j
  · subst hj
    rw [List.getElem?_set_self']
    unfold stGet
    cases h : σ[i]? <;> rfl
  · rw [List.getElem?_set_ne hj]
theorem OK.rest : ∀ {us : List Nat} {E2 : Env}, OK K { G with T := svd E σ us ++ T } Fz H E2 (L2.wipe σ us) → OK K { G with T := T } Fz H (restE E us E2) σ
  | [], E2, k => k
  | u :: us, E2, k => by
    have h := OK.setO (G := G) (T := svd E σ us ++ T) (i := u) k
    have e : (L2.wipe σ (u :: us)).set u (stGet (L2.wipe σ us) u) = L2.wipe σ us := set_stGet
    rw [e] at h
    exact OK.rest (us := us) h
/-- an item goes to the end of an own list that is held -/
theorem OK.addL {ds : List D} {d : D} {xs : List V} {p : Addr} {u : V} (k : OK K ((G.p (.ol ds) (.ref p)).p (.dat d) u) Fz H E σ) (hp : H p = some (.lst xs)) : OK K (G.p (.ol (ds ++ [d])) (.ref p)) Fz (upd H p (.lst (xs ++ [u]))) E σ := by
  have r := k.datI
  obtain ⟨a, ys, e, ha, rr⟩ := k.pop.top
  cases e
  rw [hp] at ha
  cases ha
  have nF : ¬ Fz p := (k.pop.gd.own _ List.mem_cons_self p rfl).1
  have kp : Kp Fz H (upd H p (.lst (xs ++ [u]))) := fun b o e z => by
    by_cases hb : b = p
    · subst hb
      rw [hp] at e
      cases e
      rcases z with z | ⟨_, z⟩ | ⟨_, _, z⟩
      · exact absurd z nF
      · cases z
      · cases z
    · rw [upd_ne hb]
      exact e
  refine ⟨Gd.put k.pop.gd rfl hp ⟨fun _ z => by (cases z), fun _ _ z => by (cases z)⟩ ⟨p, xs ++ [u], rfl, upd_same, ?_⟩ rfl, k.lv⟩
  exact RpL.keep kp (fun _ z => z) (ds ++ [d]) (rr.app (.cons r .nil))
end
theorem OK.permT {K : PySem.W.Frag} {G : Gh} {Fz : Addr → Prop} {H : Hp} {E : Env} {σ : L2.St} {T1 T2 : List It'} (k : OK K { G with T := T1 } Fz H E σ) (h : T1.Perm T2) : OK K { G with T := T2 } Fz H E σ := ⟨k.gd.perm (h.append_right _), k.lv⟩
/-! ### the loop -/
def loopL (g : GF) (t : TF) (f : EF) (us : List Nat) : List D → Env → RR (List D × Env)
  | [], E => .ok ([], wipeE E us)
  | d :: ds, E => match g d (wipeE E us) with
    | none => .bad
    | some E1 => match t E1 with
      | .ok (true, E2) => match f E2 with
        | .ok (r, E3) => match r.d? with
          | some y => match loopL g t f us ds E3 with
            | .ok (ys, E4) => .ok (y :: ys, E4)
            | _ => .bad
          | none => .bad
        | _ => .bad
      | .ok (false, E2) => loopL g t f us ds E2
      | _ => .bad
def eYes : TF := fun E => .ok (true, E)
def SP (X : Cx) (W : WX) (ifs : List Expr) (t : TF) : Prop := PTs X ifs (tT W X.K t)
theorem sp_nil {X : Cx} {W : WX} : SP X W [] eYes := ⟨fun pins s σ H Q I ⟨G, E, Fz, k, h⟩ => pts_nil.run pins s σ H Q I (h H Fz k)⟩
theorem sp_one {X : Cx} {W : WX} {c : Expr} {t : TF} (h : ST X W c t) : SP X W [c] t := pts_one h
section
variable {K : PySem.W.Frag} {G : Gh} {Fz : Addr → Prop} {H : Hp} {E : Env} {σ : L2.St} {T' : List It'} {ds : List D} {J : L2.It} {g : GF} {t : TF} {f : EF} {ws us : List Nat} {W : WX} {Q : VK}
theorem OK.d1 {G : Gh} {Fz : Addr → Prop} {H : Hp} {E : Env} {σ : L2.St} {r : Sl} {v : V} {d : D} (k : OK K (G.p r v) Fz H E σ) (h : r.d? = some d) : ∃ Fz', OK K (G.p (.dat d) v) Fz' H E σ := by
  match r, h with
  | .dat _, h =>
    cases h
    exact ⟨Fz, k⟩
  | .ol ds, h =>
    cases h
    obtain ⟨Fz', _, k'⟩ := k.frz
    exact ⟨Fz', k'⟩
theorem wipe_wipe : L2.wipe (L2.wipe σ us) us = L2.wipe σ us := by
  apply List.ext_getElem?
  intro j
  rw [wipe_get, wipe_get]
  split
  · cases σ[j]? <;> rfl
  · rfl
theorem loopL_noexc : ∀ (ds : List D) (E : Env) (x : D) (E' : Env), loopL g t f us ds E ≠ .exc x E'
  | [], E, x, E', h => by cases h
  | d :: ds, E, x, E', h => by
    unfold loopL at h
    split at h
    · cases h
    · split at h
      · split at h
        · split at h
          · split at h
            · cases h
            · cases h
          · cases h
        · cases h
      · exact loopL_noexc ds _ x E' h
      · cases h
theorem loopL_ok (k : OK K G Fz H E σ) (w : Wk K G.io J T' ds) (hT : ∀ p ∈ T', p ∈ G.T) (hz : ds.length ≤ SZ) (hu : ∀ i ∈ ws, i ∈ us)
    (h : EndE W K G σ Q ((loopL g t f us ds E).bind fun p => .ok (.ol p.1, restE E us p.2))) : ∀ P, H P = none → ∃ Wv : Nat → Nat → Hp → Prop, (∃ m, Wv 0 m (upd H P (.lst []))) ∧ ∀ i m H, Wv i m H →
  (J.stop i H ∧ Q (.ref P) H) ∨ (J.go i H ∧ ∃ Nx : Hp → Prop, (∀ H', Nx H' → ∃ m', m' < m ∧ Wv (i + 1) m' H') ∧ ∀ x H', J.yld i H x H' → tG K ws g x (wipe σ us) H' fun σ2 H2 => wipe σ2 us = wipe σ us ∧ tT wF K t σ2 H2 fun b H3 =>
    if b = true then tE wF K f σ2 H3 fun y H4 => ∃ acc, H4 P = some (.lst acc) ∧ acc.length < sizeLine ∧ Nx (upd H4 P (.lst (acc ++ [y]))) else Nx H3) := by
  intro P hD
  -- the state within: the new list, the slots aside
  let Gl : List D → Gh := fun acc => Gh.p { G with T := svd E σ us ++ G.T } (.ol acc) (.ref P)
  have held : ∀ {acc : List D} {Fz' : Addr → Prop} {H' : Hp} {E' : Env} {σ' : L2.St}, OK K (Gl acc) Fz' H' E' σ' → ∀ p ∈ T', RS K Fz' H' G.io p := fun k' p hp =>
    k'.gd.rs p (List.mem_append_left _ (List.mem_cons_of_mem _ (List.mem_append_right _ (hT p hp))))
  let Go : List D → Nat → Env → Prop := fun acc i E' => ∃ r, loopL g t f us (ds.drop i) E' = .ok r ∧ ∀ v H' Fz', OK K (G.p (.ol (acc ++ r.1)) v) Fz' H' (restE E us r.2) σ → Q v H'
  have go0 : Go [] 0 E := by
    rw [show Go [] 0 E = ∃ r, loopL g t f us ds E = .ok r ∧ ∀ v H' Fz', OK K (G.p (.ol r.1) v) Fz' H' (restE E us r.2) σ → Q v H' from rfl]
    cases hl : loopL g t f us ds E with
    | ok r =>
      rw [hl] at h
      exact ⟨r, rfl, h⟩
    | exc x E' => exact absurd hl (loopL_noexc ds E x E')
    | bad =>
      rw [hl] at h
      exact h.elim
  have k0 : OK K (Gl []) Fz (upd H P (.lst [])) (wipeE E us) (wipe σ us) := OK.newL (G := { G with T := svd E σ us ++ G.T }) (OK.wipeS (G := G) (T := G.T) k) hD .nil
  refine ⟨fun i m H => m = ds.length - i ∧ i ≤ ds.length ∧ ∃ acc E' Fz', acc.length ≤ i ∧ OK K (Gl acc) Fz' H (wipeE E' us) (wipe σ us) ∧ Go acc i E', ⟨ds.length, rfl, Nat.zero_le _, [], E, Fz, Nat.le_refl _, k0, go0⟩, ?_⟩
  rintro i m H ⟨rfl, hi, acc, E', Fz', ha, kk, r, hr, hq⟩
  by_cases hlt : i < ds.length
  · refine .inr ⟨w.goes (held kk) hlt, fun H' => i + 1 ≤ ds.length ∧ ∃ acc E' Fz', acc.length ≤ i + 1 ∧ OK K (Gl acc) Fz' H' (wipeE E' us) (wipe σ us) ∧ Go acc (i + 1) E', fun H' z => ⟨_, ?_, rfl, z.1, z.2⟩, fun x H' y => ?_⟩
    · omega
    have hd : ds[i]? = some ds[i] := List.getElem?_eq_getElem hlt
    have k3 := kk.yd (w.yields (held kk) hd y)
    rw [List.drop_eq_getElem_cons hlt] at hr
    unfold loopL at hr
    refine ⟨Gl acc, _, Fz', ds[i], k3.pop, k3.datI, ?_⟩
    cases hg : g ds[i] (wipeE E' us) with
    | none => rw [hg] at hr; cases hr
    | some E1 =>
      rw [hg] at hr
      refine ⟨E1, rfl, fun σ' k4 st => ?_⟩
      have hσ : wipe σ' us = wipe σ us := (st us hu).trans wipe_wipe
      refine ⟨hσ, Gl acc, E1, Fz', k4, ?_⟩
      dsimp only at hr
      cases ht : t E1 with
      | bad => rw [ht] at hr; cases hr
      | exc x E2 => rw [ht] at hr; cases hr
      | ok p =>
        obtain ⟨b, E2⟩ := p
        rw [ht] at hr
        intro H2 Fz2 k5
        cases b with
        | false =>
          rw [if_neg Bool.false_ne_true]
          refine ⟨hlt, acc, E2, Fz2, Nat.le_succ_of_le ha, ?_, r, hr, hq⟩
          have k6 := k5.wipe (us := us)
          rw [hσ] at k6
          exact k6
        | true =>
          rw [if_pos rfl]
          refine ⟨Gl acc, E2, Fz2, k5, ?_⟩
          dsimp only at hr
          cases hf : f E2 with
          | bad => rw [hf] at hr; cases hr
          | exc x E3 => rw [hf] at hr; cases hr
          | ok q =>
            obtain ⟨s, E3⟩ := q
            rw [hf] at hr
            dsimp only at hr
            cases hs : s.d? with
            | none => rw [hs] at hr; cases hr
            | some yd =>
              rw [hs] at hr
              dsimp only at hr
              cases hl : loopL g t f us (ds.drop (i + 1)) E3 with
              | bad => rw [hl] at hr; cases hr
              | exc x E4 => rw [hl] at hr; cases hr
              | ok rr =>
                rw [hl] at hr
                cases hr
                intro v H4 Fz4 k6
                obtain ⟨Fz5, k7⟩ := k6.d1 hs
                obtain ⟨a, xs, ea, hx, rx⟩ := k7.pop.top
                cases ea
                have hlen := rx.len
                refine ⟨xs, hx, ?_, hlt, acc ++ [yd], E3, Fz5, by simp; omega, ?_, rr, hl, fun v H' Fz' k' => hq v H' Fz' (by simpa using k')⟩
                · have e : SZ = sizeLine := rfl
                  omega
                · have k8 := (OK.addL k7 hx).wipe (us := us)
                  rw [hσ] at k8
                  exact k8
  · have e : i = ds.length := by omega
    subst e
    rw [List.drop_length] at hr
    cases hr
    refine .inl ⟨w.stops (held kk), hq _ _ Fz' ?_⟩
    simp only [List.append_nil]
    exact OK.rest (G := G) (T := (.ol acc, some (.ref P)) :: G.T) (us := us) (OK.permT (G := G) kk List.perm_middle.symm)
end
/-! ### the rules -/
def eLc (f : EI) (g : GF) (t : TF) (e : EF) (us : List Nat) : EF := fun E => (f E).bind fun p => if p.1.length ≤ SZ then (loopL g t e us p.1 p.2).bind fun q => .ok (.ol q.1, restE p.2 us q.2) else .bad
/-- .. over a name's own list that stays its own -/
def eLcN (i : Nat) (g : GF) (t : TF) (e : EF) (us : List Nat) : EF := fun E => match E.at i with
  | some (.ol ds) => if ds.length ≤ SZ then (loopL g t e us ds (E.st i .no)).bind fun q => .ok (.ol q.1, (restE (E.st i .no) us q.2).st i (.ol ds)) else .bad
  | _ => .bad
section
variable {X : Cx} {W : WX} {tg iter elt : Expr} {ifs : List Expr} {f : EI} {g : GF} {t : TF} {e : EF} {ws : List Nat} {scope : Scope} {own : List (Str × Nat)} {pos : Pos}
theorem tLc_of {G : Gh} {E : Env} {Fz : Addr → Prop} {H : Hp} {σ : L2.St} {Q : VK} {us : List Nat} (hu : ∀ i ∈ ws, i ∈ us) (k : OK X.K G Fz H E σ) (h : EndE W X.K G σ Q (eLc f g t e us E)) : tLc (tI W X.K f) (tG X.K ws g) (tT wF X.K t) (tE wF X.K e) us σ H Q := by
  refine ⟨G, E, Fz, k, ?_⟩
  unfold eLc at h
  cases hf : f E with
  | bad => rw [hf] at h; exact h.elim
  | exc x E' => rw [hf] at h; exact h
  | ok p =>
    rw [hf] at h
    intro J T' H1 Fz1 k1 w
    have h : EndE W X.K G σ Q (if p.1.length ≤ SZ then (loopL g t e us p.1 p.2).bind fun q => .ok (.ol q.1, restE p.2 us q.2) else .bad) := h
    split at h
    · rename_i hz
      exact loopL_ok k1 w (fun q hq => List.mem_append_left _ hq) hz hu (EndE.w h)
    · exact h.elim
abbrev BlkAll (X : Cx) (scope : Scope) (P : Cx → Prop) : Prop := ∀ (s : Shared) (H : Hp) (C : Addr) (cl : List (Str × Addr)) (fp : List Addr), P (X.blk s H scope (compEnvC scope cl C X.env) fp)
theorem se_lc (kx : Kx X W) (hi : SI X W tg iter f) (hg : BlkAll X scope fun Y => SG Y tg ws g) (ht : BlkAll X scope fun Y => SP Y wF ifs t) (he : BlkAll X scope fun Y => SE Y wF elt e) (ok : BlkOk X.N X.env.scope scope own) (hu : ∀ i ∈ ws, i ∈ own.map (·.2) := by decide)
    (hs : ∀ x, foldedSetIterable iter X.env x = pure x := by intro _; rfl) : SE X W (.ListComp elt [⟨tg, iter, ifs, 0⟩] scope pos) (eLc f g t e (own.map (·.2))) :=
  PE.imp (pe_lc (g := tG X.K ws g) (tt := tT wF X.K t) (te := tE wF X.K e) kx.hc kx.nd hi ok hg ht he hs) fun σ H Q ⟨G, E, Fz, k, h⟩ => tLc_of hu k h
theorem ss_setLc {i : Nat} {y : Str} {py spos : Pos} (kx : Kx X W) (hy : X.N[i]? = some y) (hi : SI X W tg iter f) (hg : BlkAll X scope fun Y => SG Y tg ws g) (ht : BlkAll X scope fun Y => SP Y wF ifs t) (he : BlkAll X scope fun Y => SE Y wF elt e) (ok : BlkOk X.N X.env.scope scope own)
    (hyl : X.env.scope.names.lookup y = some .local := by rfl) (hsw : swapsWith (.ListComp elt [⟨tg, iter, ifs, 0⟩] scope pos) (some (.Name y py)) spos.line X.env = pure true := by rfl) (hu : ∀ i ∈ ws, i ∈ own.map (·.2) := by decide)
    (hs : ∀ x, foldedSetIterable iter X.env x = pure x := by intro _; rfl) : SS X W (.Assign [.Name y py] (.ListComp elt [⟨tg, iter, ifs, 0⟩] scope pos) spos) (sSet i (eLc f g t e (own.map (·.2)))) :=
  PS.imp (ps_setLc (g := tG X.K ws g) (tt := tT wF X.K t) (te := tE wF X.K e) kx.hc kx.nd hy hyl hsw hi ok hg ht he hs) fun D σ H ⟨G, E, Fz, k, h⟩ => by
    refine tLc_of hu k ?_
    have h2 := EndS.flE h σ
    cases hf : eLc f g t e (own.map (·.2)) E with
    | bad => rw [hf] at h2; exact h2.elim
    | exc x E' => rw [hf] at h2; exact h2
    | ok p =>
      rw [hf] at h2
      intro v H1 Fz1 k1
      obtain ⟨r, E1, Fz2, k2, h3⟩ := h2 v H1 Fz1 k1
      exact h3 _ H1 Fz2 k2.set
end
/-- the places inside a comprehension -/
theorem Kx.blk {X : Cx} {W : WX} {s : Shared} {H : Hp} {scope : Scope} {cenv : PySem.Env} {fp : List Addr} (kx : Kx X W) : Kx (X.blk s H scope cenv fp) wF :=
  ⟨PassesOwn.never, fun u s' ⟨a, B, sI, pins, σ, H, cls, d, e, I, nb, up, sky, na, os, ag, w⟩ => w.elim, kx.hc, kx.hu, kx.hg, kx.nd⟩
section
variable {X : Cx} {W : WX} {tg elt : Expr} {ifs : List Expr} {g : GF} {t : TF} {e : EF} {ws : List Nat} {scope : Scope} {own : List (Str × Nat)} {pos xpos : Pos} {i : Nat} {x : Str}
theorem tLcN_of {G : Gh} {E : Env} {Fz : Addr → Prop} {H : Hp} {σ : L2.St} {Q : VK} {us : List Nat} (hu : ∀ i ∈ ws, i ∈ us) (k : OK X.K G Fz H E σ) (h : EndE W X.K G σ Q (eLcN i g t e us E)) : tLc (iList X.K (tVar i)) (tG X.K ws g) (tT wF X.K t) (tE wF X.K e) us σ H Q := by
  unfold eLcN at h
  cases ha : E.at i with
  | none => rw [ha] at h; exact h.elim
  | some s =>
    rw [ha] at h
    cases s with
    | ol ds =>
      obtain ⟨v, hv, r⟩ := k.at ha
      obtain ⟨a, vs, ea, hx, rx⟩ := id r
      cases ea
      refine ⟨_, hv, a, rfl, ⟨vs, .inl (.inl hx)⟩, ?_⟩
      have k1 := k.take (Env.at_some ha).1 hv
      dsimp only at h
      split at h
      · rename_i hz
        refine loopL_ok (W := W) (T' := [(.ol ds, some (.ref a))]) k1 (wk_list rfl) (fun q hq => by rw [List.mem_singleton.mp hq]; exact List.mem_cons_self) hz hu ?_
        cases hl : loopL g t e us ds (E.st i .no) with
        | bad => rw [hl] at h; exact h.elim
        | exc x E' => exact absurd hl (loopL_noexc _ _ _ _)
        | ok q =>
          rw [hl] at h
          intro v H' Fz' k2
          exact h v H' Fz' (OK.back (OK.swap k2) hv)
      · exact h.elim
    | _ => exact h.elim
theorem se_lcN (kx : Kx X W) (hx : X.N[i]? = some x) (hv : Vis X.env.scope x) (hg : BlkAll X scope fun Y => SG Y tg ws g) (ht : BlkAll X scope fun Y => SP Y wF ifs t) (he : BlkAll X scope fun Y => SE Y wF elt e) (ok : BlkOk X.N X.env.scope scope own) (hu : ∀ i ∈ ws, i ∈ own.map (·.2) := by decide)
    (hd : (x == ("__debug__" : Str)) = false := by decide) (hcd : (x == ("__classdict__" : Str)) = false := by decide) (hs : ∀ z, foldedSetIterable (.Name x xpos) X.env z = pure z := by intro _; rfl) : SE X W (.ListComp elt [⟨tg, .Name x xpos, ifs, 0⟩] scope pos) (eLcN i g t e (own.map (·.2))) :=
  PE.imp (pe_lc (g := tG X.K ws g) (tt := tT wF X.K t) (te := tE wF X.K e) kx.hc kx.nd (pi_list (pe_var hx hv hd hcd)) ok hg ht he hs) fun σ H Q ⟨G, E, Fz, k, h⟩ => tLcN_of (W := W) hu k h
theorem ss_setLcN {j : Nat} {y : Str} {py spos : Pos} (kx : Kx X W) (hy : X.N[j]? = some y) (hx : X.N[i]? = some x) (hv : Vis X.env.scope x) (hg : BlkAll X scope fun Y => SG Y tg ws g) (ht : BlkAll X scope fun Y => SP Y wF ifs t) (he : BlkAll X scope fun Y => SE Y wF elt e) (ok : BlkOk X.N X.env.scope scope own)
    (hyl : X.env.scope.names.lookup y = some .local := by rfl) (hsw : swapsWith (.ListComp elt [⟨tg, .Name x xpos, ifs, 0⟩] scope pos) (some (.Name y py)) spos.line X.env = pure true := by rfl) (hu : ∀ i ∈ ws, i ∈ own.map (·.2) := by decide)
    (hd : (x == ("__debug__" : Str)) = false := by decide) (hcd : (x == ("__classdict__" : Str)) = false := by decide) (hs : ∀ z, foldedSetIterable (.Name x xpos) X.env z = pure z := by intro _; rfl) : SS X W (.Assign [.Name y py] (.ListComp elt [⟨tg, .Name x xpos, ifs, 0⟩] scope pos) spos) (sSet j (eLcN i g t e (own.map (·.2)))) :=
  PS.imp (ps_setLc (g := tG X.K ws g) (tt := tT wF X.K t) (te := tE wF X.K e) kx.hc kx.nd hy hyl hsw (pi_list (pe_var hx hv hd hcd)) ok hg ht he hs) fun D σ H ⟨G, E, Fz, k, h⟩ => by
    refine tLcN_of (W := W) hu k ?_
    have h2 := EndS.flE h σ
    cases hf : eLcN i g t e (own.map (·.2)) E with
    | bad => rw [hf] at h2; exact h2.elim
    | exc x E' => rw [hf] at h2; exact h2
    | ok p =>
      rw [hf] at h2
      intro v H1 Fz1 k1
      obtain ⟨r, E1, Fz2, k2, h3⟩ := h2 v H1 Fz1 k1
      exact h3 _ H1 Fz2 k2.set
end
end VL

/-! The value layer, 12: functions. -/
namespace VL
open PySem PySem.Spec PyProof.Rows L2 RZ RT

/-- what a function's call gives: a value or an exception, and what the dict that was lent holds then -/
inductive RO where
  | ok (r : Sl) (l : Option (List (Key × D))) | exc (x : D) (l : Option (List (Key × D))) | bad
abbrev CF := List Sl → RO
def Sl.lent? : Sl → Option (List (Key × D))
  | .od (some 0) kvs => some kvs
  | _ => none
theorem Sl.lent_eq : ∀ {s : Sl} {kvs : List (Key × D)}, s.lent? = some kvs → s = .od (some 0) kvs
  | .od (some 0) kvs, _, h => by cases h; rfl
  | .od (some (_ + 1)) _, _, h => by cases h
  | .od none _, _, h => by cases h
  | .no, _, h => by cases h
  | .dat _, _, h => by cases h
  | .ol _, _, h => by cases h
  | .lk _, _, h => by cases h
def lentOf : Env → Option (List (Key × D))
  | [] => none
  | s :: E => match s.lent? with
    | some kvs => some kvs
    | none => lentOf E
def lentL : Option (List (Key × D)) → List Addr → List It'
  | some kvs, a :: _ => [(.od (some 0) kvs, some (.ref a))]
  | _, _ => []
def Sl.ret : Sl → Bool
  | .od (some _) _ => false
  | _ => true
def mfOf (N : Nat) (sf : SF) : CF := fun ss => match sf (ss ++ List.replicate (N - ss.length) .no) with
  | .nx E => .ok (.dat .non) (lentOf E)
  | .rt r E => if r.ret then .ok r (lentOf E) else .bad
  | .exc x E => .exc x (lentOf E)
  | _ => .bad
def RoQ (K : PySem.W.Frag) (Fz : Addr → Prop) (H : Hp) (io : List Addr) (Q : VK) (E : XK) : RO → Prop
  | .ok r l => r.ret = true ∧ ∀ v H' Fz', Gd K H Fz io Fz' H' ((r, some v) :: lentL l io) → Q v H'
  | .exc x l => ∀ cls d H' Fz', Gd K H Fz io Fz' H' (lentL l io) → RX K Fz' H' x cls d → E cls d H'
  | .bad => False
/-- a function's promise -/
def spD (K : PySem.W.Frag) (n : Nat) (mf : CF) : Sp := fun vs H Q E => vs.length = n ∧ ∃ (ss : List Sl) (Fz : Addr → Prop) (io : List Addr), ss.length = n ∧ Gd K H Fz io Fz H (ss.zip (vs.map some)) ∧ RoQ K Fz H io Q E (mf ss)

structure FnG (P : Program) (w : World) (K : PySem.W.Frag) (mg : Str → Option Value) (base : Heap) (k : Nat) (f : Addr) (fd : FuncData) (ps : List Str) (mf : CF) : Prop where
  run : ∀ (A : Around) (outer : List PySem.Env) (s : Shared) (H : Hp) (args : Args) (us : List Value) (vs : List V) (Q : VK) (E : XK), Room k A → A.guards = some [] → Env0 P w K mg base A outer s H → BindsTo s fd args (ps.zip us) → Vals vs us →
    spD K ps.length mf vs H Q E → codeAny (model P w) A (.call (.ref f) args) (CR (L2.CX P w) outer P w H s Q E) s
section
variable {K : PySem.W.Frag} {B : Hp} {F0 : Addr → Prop} {io io0 : List Addr} {Fz Fz' : Addr → Prop} {H H' : Hp} {L Lc : List It'}
/-- the caller's account behind a call -/
theorem Gd.after (g : Gd K B F0 io0 Fz H L) (c : Gd K H Fz io Fz' H' Lc)
    (hio : ∀ b ∈ io, ¬ Fz b ∧ (b ∈ io0 ∨ ∀ o, B b = some o → ∃ ps, o = .tbl ps) ∧ (∀ p ∈ L, ownA p ≠ some b) ∧ ∃ kvs, H b = some (.dK kvs)) : Gd K B F0 io0 Fz' H' L ∧ (∀ p ∈ Lc, ∀ q ∈ L, Apart p q) ∧ ∀ p ∈ Lc, ∀ a, ownA p = some a → ¬ Fz' a ∧ (a ∈ io0 ∨ ∀ o, B a = some o → ∃ ps, o = .tbl ps) := by
  have kp : Kp Fz H H' := fun b o e z => by
    refine c.frm b o e (fun hb => ?_) fun ps q => ?_
    · obtain ⟨n, _, _, kvs, q⟩ := hio b hb
      rw [e] at q
      rcases z with z | ⟨xs, z⟩ | ⟨ob, u, z⟩
      · exact n z
      · rw [z] at q; cases q
      · rw [z] at q; cases q
    · rcases z with z | ⟨xs, z⟩ | ⟨ob, u, z⟩
      · obtain ⟨o', e', n⟩ := g.dom b z
        rw [e] at e'
        cases e'
        exact n ps q
      · rw [z] at q; cases q
      · rw [z] at q; cases q
  have fresh : ∀ b, (∀ o, H b = some o → ∃ ps, o = .tbl ps) → b ∈ io0 ∨ ∀ o, B b = some o → ∃ ps, o = .tbl ps := fun b h => by
    by_cases hb : b ∈ io0
    · exact .inl hb
    · refine .inr fun o e => Classical.byContradiction fun n => ?_
      exact n (h o (g.frm b o e hb fun ps q => n ⟨ps, q⟩))
  have ownL : ∀ p ∈ L, ∀ b, ownA p = some b → ∃ o, H b = some o ∧ ∀ ps, o ≠ .tbl ps := fun p hp b e => by
    have r := g.rs p hp
    obtain ⟨s, w⟩ := p
    cases s with
    | no => cases e
    | dat d => cases e
    | lk ds => cases e
    | ol ds =>
      obtain ⟨b', vs, e2, hb, _⟩ := id r
      subst e2
      cases e
      exact ⟨_, hb, r.not_tbl rfl hb⟩
    | od t ds =>
      obtain ⟨b', vs, e2, hb, _⟩ := id r
      subst e2
      cases e
      exact ⟨_, hb, r.not_tbl rfl hb⟩
  have notio : ∀ p ∈ L, ∀ b, ownA p = some b → b ∉ io := fun p hp b e hb => (hio b hb).2.2.1 p hp e
  refine ⟨⟨fun p hp => (g.rs p hp).keep kp c.f0 fun b o e hb => c.frm b o hb (notio p hp b e) ((g.rs p hp).not_tbl e hb), g.sep, fun p hp b e => ⟨fun z => ?_, (g.own p hp b e).2⟩, c.dom, fun b o e n t => ?_, fun b z => c.f0 b (g.f0 b z), fun b z => ?_⟩, fun p hp q hq b e1 e2 => ?_, fun p hp b e => ⟨(c.own p hp b e).1, ?_⟩⟩
  · rcases c.fz b z with z | z | z
    · exact (g.own p hp b e).1 z
    · exact notio p hp b e z
    · obtain ⟨o, ho, n⟩ := ownL p hp b e
      obtain ⟨ps, q⟩ := z o ho
      exact n ps q
  · refine c.frm b o (g.frm b o e n t) (fun hb => ?_) t
    rcases (hio b hb).2.1 with z | z
    · exact n z
    · obtain ⟨ps, q⟩ := z o e
      exact t ps q
  · rcases c.fz b z with z | z | z
    · exact g.fz b z
    · exact .inr (hio b z).2.1
    · exact .inr (fresh b z)
  · rcases (c.own p hp b e1).2 with z | z
    · exact notio q hq b e2 z
    · obtain ⟨o, ho, n⟩ := ownL q hq b e2
      obtain ⟨ps, y⟩ := z o ho
      exact n ps y
  · rcases (c.own p hp b e).2 with z | z
    · exact (hio b z).2.1
    · exact fresh b z
theorem RS.toIo {p : It'} (h : RS K Fz H io p) (hr : p.1.ret = true) (io' : List Addr) : RS K Fz H io' p := by
  obtain ⟨s, o⟩ := p
  cases s with
  | no => trivial
  | dat d => exact h
  | ol ds => exact h
  | lk ds => exact h
  | od t ds =>
    cases t with
    | none =>
      obtain ⟨a, vs, e, ha, r, _⟩ := h
      exact ⟨a, vs, e, ha, r, fun j z => by cases z⟩
    | some j => cases hr
/-- arguments as they are handed over: nothing owned -/
def Sl.fr? : Sl → Option Sl
  | .dat d => some (.dat d)
  | .ol ds => some (.dat (.lst ds))
  | .lk ds => some (.lk ds)
  | _ => none
def frAll : List Sl → Option (List Sl)
  | [] => some []
  | s :: ss => match s.fr?, frAll ss with
    | some d, some ds => some (d :: ds)
    | _, _ => none
/-- nothing owned, held of any state -/
def Fr (K : PySem.W.Frag) (Fz : Addr → Prop) (H : Hp) (ss : List Sl) (vs : List V) : Prop := ∀ p ∈ ss.zip (vs.map some), RS K Fz H [] p ∧ ownA p = none ∧ p.1.ret = true
variable {G : Gh} {E : Env} {σ : L2.St}
theorem RS.fzUp {p : It'} (h : RS K Fz H io p) (hf : ∀ a, Fz a → Fz' a) : RS K Fz' H io p := h.keep Kp.refl hf fun _ _ _ e => e
theorem OK.frAll : ∀ {rs : List Sl} {vs : List V} {ss : List Sl} {G : Gh}, vs.length = rs.length → OK K (G.ps rs vs) Fz H E σ → frAll rs = some ss → ∃ Fz', (∀ a, Fz a → Fz' a) ∧ OK K G Fz' H E σ ∧ Fr K Fz' H ss vs ∧ ss.length = rs.length
  | [], [], ss, G, _, k, h => by
    cases h
    exact ⟨Fz, fun _ z => z, k, fun p hp => by (cases hp), rfl⟩
  | [], _ :: _, _, _, hl, _, _ => by simp at hl
  | _ :: _, [], _, _, hl, _, _ => by simp at hl
  | s :: rs, v :: vs, ss, G, hl, k, h => by
    unfold VL.frAll at h
    cases e1 : s.fr? with
    | none => rw [e1] at h; cases h
    | some d =>
      cases e2 : VL.frAll rs with
      | none => rw [e1, e2] at h; cases h
      | some ds' =>
        rw [e1, e2] at h
        cases h
        obtain ⟨Fz1, f1, k1, r1, l1⟩ := OK.frAll (rs := rs) (vs := vs) (ss := ds') (G := G.p s v) (by simpa using hl) k e2
        have fin : ∀ {Fz2 : Addr → Prop}, (∀ a, Fz1 a → Fz2 a) → OK K (G.p d v) Fz2 H E σ → ownA (d, some v) = none → d.ret = true → ∃ Fz', (∀ a, Fz a → Fz' a) ∧ OK K G Fz' H E σ ∧ Fr K Fz' H (d :: ds') (v :: vs) ∧ (d :: ds').length = (s :: rs).length := fun {Fz2} f2 k2 ho hr => by
          refine ⟨Fz2, fun a z => f2 a (f1 a z), k2.pop, fun p hp => ?_, by simp [l1]⟩
          rcases List.mem_cons.mp hp with z | z
          · rw [z]
            exact ⟨RS.toIo k2.top hr [], ho, hr⟩
          · exact ⟨(r1 p z).1.fzUp f2, (r1 p z).2⟩
        cases s with
        | dat d' =>
          cases e1
          exact fin (fun _ z => z) k1 rfl rfl
        | ol xs =>
          cases e1
          obtain ⟨Fz2, f2, k2⟩ := k1.frz
          exact fin f2 k2 rfl rfl
        | lk xs =>
          cases e1
          exact fin (fun _ z => z) k1 rfl rfl
        | no => cases e1
        | od _ _ => cases e1
/-- the callee's account at its entry -/
theorem Fr.enter {ss : List Sl} {vs : List V} (k : OK K G Fz H E σ) (f : Fr K Fz H ss vs) : Gd K H Fz [] Fz H (ss.zip (vs.map some)) where
  rs := fun p hp => (f p hp).1
  sep := by
    refine List.pairwise_of_forall_mem_list fun p hp q hq a e => ?_
    rw [(f p hp).2.1] at e
    cases e
  own := fun p hp a e => by
    rw [(f p hp).2.1] at e
    cases e
  dom := k.gd.dom
  frm := fun a o e _ _ => e
  f0 := fun _ z => z
  fz := fun _ z => .inl z
theorem Fr.enterD {ss : List Sl} {vs : List V} {t : Option Nat} {kvs : List (Key × D)} {a : Addr} (k : OK K (G.p (.od t kvs) (.ref a)) Fz H E σ) (f : Fr K Fz H ss vs) : Gd K H Fz [a] Fz H ((Sl.od (some 0) kvs :: ss).zip ((V.ref a :: vs).map some)) where
  rs := fun p hp => by
    rcases List.mem_cons.mp hp with z | z
    · rw [z]
      obtain ⟨b, us, e, hb, r, _⟩ := k.top
      cases e
      exact ⟨a, us, rfl, hb, r, fun j z => by cases z; rfl⟩
    · exact RS.toIo (f p z).1 (f p z).2.2 [a]
  sep := by
    refine List.pairwise_cons.mpr ⟨fun p hp b _ e => ?_, List.pairwise_of_forall_mem_list fun p hp q hq b e => ?_⟩
    · rw [(f p hp).2.1] at e
      cases e
    · rw [(f p hp).2.1] at e
      cases e
  own := fun p hp b e => by
    rcases List.mem_cons.mp hp with z | z
    · rw [z] at e
      cases e
      exact ⟨(k.gd.own _ List.mem_cons_self a rfl).1, .inl List.mem_cons_self⟩
    · rw [(f p z).2.1] at e
      cases e
  dom := k.gd.dom
  frm := fun a o e _ _ => e
  f0 := fun _ z => z
  fz := fun _ z => .inl z
theorem OK.after {r : Sl} {v : V} (k : OK K G Fz H E σ) (c : Gd K H Fz [] Fz' H' [(r, some v)]) (hr : r.ret = true) : OK K (G.p r v) Fz' H' E σ := by
  obtain ⟨g, s, o⟩ := k.gd.after c fun b hb => by cases hb
  refine ⟨⟨fun p hp => ?_, List.pairwise_cons.mpr ⟨fun q hq => s _ List.mem_cons_self q hq, g.sep⟩, fun p hp => ?_, g.dom, g.frm, g.f0, g.fz⟩, k.lv⟩
  · rcases List.mem_cons.mp hp with z | z
    · rw [z]
      exact RS.toIo c.head hr _
    · exact g.rs p z
  · rcases List.mem_cons.mp hp with z | z
    · rw [z]
      exact o _ List.mem_cons_self
    · exact g.own p z
theorem OK.afterX (k : OK K G Fz H E σ) (c : Gd K H Fz [] Fz' H' []) : OK K G Fz' H' E σ := ⟨(k.gd.after c fun b hb => by cases hb).1, k.lv⟩
/-- the account with the lent dict as it is now -/
def Gh.lent (G : Gh) (t : Option Nat) (a : Addr) : Option (List (Key × D)) → Gh
  | some kvs => G.p (.od t kvs) (.ref a)
  | none => G
theorem lent_io {t : Option Nat} {kvs : List (Key × D)} {a : Addr} (k : OK K (G.p (.od t kvs) (.ref a)) Fz H E σ) : ∀ b ∈ [a], ¬ Fz b ∧ (b ∈ G.io ∨ ∀ o, G.B b = some o → ∃ ps, o = .tbl ps) ∧ (∀ p ∈ G.T ++ E.zip σ, ownA p ≠ some b) ∧ ∃ kvs, H b = some (.dK kvs) := fun b hb => by
  rw [List.mem_singleton.mp hb]
  obtain ⟨n, h⟩ := k.gd.own _ List.mem_cons_self a rfl
  obtain ⟨c, us, e, hc, _⟩ := k.top
  cases e
  exact ⟨n, h, fun p hp e => (List.pairwise_cons.mp k.gd.sep).1 p hp a rfl e, us, hc⟩
theorem OK.afterD {r : Sl} {v : V} {t : Option Nat} {kvs : List (Key × D)} {a : Addr} {l : Option (List (Key × D))} (k : OK K (G.p (.od t kvs) (.ref a)) Fz H E σ) (c : Gd K H Fz [a] Fz' H' ((r, some v) :: lentL l [a])) (hr : r.ret = true) : OK K ((G.lent t a l).p r v) Fz' H' E σ := by
  obtain ⟨_, _, e0, _, _, ht⟩ := k.top
  cases e0
  obtain ⟨g, s, o⟩ := Gd.after (L := G.T ++ E.zip σ) (k.gd.tail : Gd K G.B G.F0 G.io Fz H (G.T ++ E.zip σ)) c (lent_io k)
  cases l with
  | none =>
    refine ⟨⟨fun p hp => ?_, List.pairwise_cons.mpr ⟨fun q hq => s _ List.mem_cons_self q hq, g.sep⟩, fun p hp => ?_, g.dom, g.frm, g.f0, g.fz⟩, k.lv⟩
    · rcases List.mem_cons.mp hp with z | z
      · rw [z]
        exact RS.toIo c.head hr _
      · exact g.rs p z
    · rcases List.mem_cons.mp hp with z | z
      · rw [z]
        exact o _ List.mem_cons_self
      · exact g.own p z
  | some kv =>
    have m2 : ((Sl.od (some 0) kv, some (V.ref a)) : It') ∈ (r, some v) :: lentL (some kv) [a] := List.mem_cons_of_mem _ List.mem_cons_self
    have ap : Apart (r, some v) (Sl.od (some 0) kv, some (V.ref a)) := (List.pairwise_cons.mp c.sep).1 _ List.mem_cons_self
    refine ⟨⟨fun p hp => ?_, List.pairwise_cons.mpr ⟨fun q hq => ?_, List.pairwise_cons.mpr ⟨fun q hq b e1 e2 => ?_, g.sep⟩⟩, fun p hp b e => ?_, g.dom, g.frm, g.f0, g.fz⟩, k.lv⟩
    · rcases List.mem_cons.mp hp with z | z
      · rw [z]
        exact RS.toIo c.head hr _
      · rcases List.mem_cons.mp z with z | z
        · rw [z]
          obtain ⟨b, us, e, hb, rr, _⟩ := c.rs _ m2
          cases e
          exact ⟨a, us, rfl, hb, rr, ht⟩
        · exact g.rs p z
    · rcases List.mem_cons.mp hq with z | z
      · rw [z]
        intro b e1 e2
        cases e2
        exact ap a e1 rfl
      · exact s _ List.mem_cons_self q z
    · cases e1
      exact s _ m2 q hq a rfl e2
    · rcases List.mem_cons.mp hp with z | z
      · rw [z] at e
        exact o _ List.mem_cons_self b e
      · rcases List.mem_cons.mp z with z | z
        · rw [z] at e
          cases e
          exact o _ m2 a rfl
        · exact g.own p z b e
theorem OK.afterDX {t : Option Nat} {kvs : List (Key × D)} {a : Addr} {l : Option (List (Key × D))} (k : OK K (G.p (.od t kvs) (.ref a)) Fz H E σ) (c : Gd K H Fz [a] Fz' H' (lentL l [a])) : OK K (G.lent t a l) Fz' H' E σ := by
  have c2 : Gd K H Fz [a] Fz' H' ((.no, some .non) :: lentL l [a]) := c.push trivial rfl
  exact (OK.afterD k c2 rfl).pop
/-! ### the end of a body -/
theorem lentOf_get : ∀ {E : Env} {kvs : List (Key × D)}, lentOf E = some kvs → ∃ i : Nat, E[i]? = some (Sl.od (some 0) kvs)
  | [], _, h => by cases h
  | s :: E, kvs, h => by
    unfold lentOf at h
    cases e : s.lent? with
    | some k' =>
      rw [e] at h
      cases h
      exact ⟨0, by rw [Sl.lent_eq e]; rfl⟩
    | none =>
      rw [e] at h
      obtain ⟨i, hi⟩ := lentOf_get h
      exact ⟨i + 1, hi⟩
theorem singleton_sub {α : Type} {x : α} : ∀ {l : List α}, x ∈ l → [x].Sublist l
  | y :: l, h => by
    rcases List.mem_cons.mp h with z | z
    · rw [z]
      exact (List.nil_sublist _).cons_cons _
    · exact (singleton_sub z).cons _
theorem OK.lentEnd (k : OK K G Fz H E σ) : Gd K G.B G.F0 G.io Fz H (lentL (lentOf E) G.io) := by
  cases h : lentOf E with
  | none => exact k.gd.sub (List.nil_sublist _)
  | some kvs =>
    obtain ⟨i, hi⟩ := lentOf_get h
    obtain ⟨o, ho, r⟩ := k.slot hi
    obtain ⟨a, us, e, hb, rr, ht⟩ := r
    subst e
    have e2 := ht 0 rfl
    cases hio : G.io with
    | nil => rw [hio] at e2; cases e2
    | cons b bs =>
      rw [hio] at e2
      cases e2
      show Gd K G.B G.F0 (a :: bs) Fz H [(.od (some 0) kvs, some (.ref a))]
      rw [← hio]
      exact k.gd.sub (singleton_sub (List.mem_append_right _ (lay_mem hi ho)))
theorem OK.lentEnd1 {r : Sl} {v : V} (k : OK K (G.p r v) Fz H E σ) : Gd K G.B G.F0 G.io Fz H ((r, some v) :: lentL (lentOf E) G.io) := by
  cases h : lentOf E with
  | none => exact k.gd.sub ((List.nil_sublist _).cons_cons _)
  | some kvs =>
    obtain ⟨i, hi⟩ := lentOf_get h
    obtain ⟨o, ho, r'⟩ := k.slot hi
    obtain ⟨a, us, e, hb, rr, ht⟩ := r'
    subst e
    have e2 : G.io[0]? = some a := ht 0 rfl
    cases hio : G.io with
    | nil => rw [hio] at e2; cases e2
    | cons b bs =>
      rw [hio] at e2
      cases e2
      show Gd K G.B G.F0 (a :: bs) Fz H [(r, some v), (.od (some 0) kvs, some (.ref a))]
      rw [← hio]
      exact k.gd.sub ((singleton_sub (List.mem_append_right _ (lay_mem hi ho))).cons_cons _)
end
end VL

/-! The value layer, 13: the rule for a def, calls. -/
namespace VL
open PySem PySem.Spec PyProof.Rows L2 RZ RT

/-- the wish about exceptions in a def's body -/
abbrev wE (E : XK) : WX := fun cls d _ H' => E cls d H'
section
variable {P : Program} {w : World} {K : PySem.W.Frag} {mg : Str → Option Value} {base : Heap} {x qual : Str} {params : Arguments} {body : List Stmt} {scope : Scope} {dvs : List V} {kws : List (Str × V)} {f : Addr} {fd : FuncData} {N ps : List Str} {k : Nat} {sf : SF}
theorem kx_of {cdv : Value} {A : Around} {outer : List PySem.Env} {s : Shared} {H : Hp} {E : XK} (nd : N.Nodup) (hr : Room k (A.deeper (envOfC qual scope s.heap.objs.size f cdv))) (hg : A.guards = some []) :
    Kx (cxOf (L2.CX P w) P w K mg base N qual scope f cdv A outer s H E) (wE E) :=
  ⟨passes_of rfl, takes_of rfl rfl rfl rfl, rfl, by have u := hr.un; show (A.deeper _).units + 100 < cLine; omega, hg, nd⟩
theorem start_zip {ss : List Sl} {vs : List V} {n : Nat} (h : ss.length = vs.length) : (ss ++ List.replicate (n - ss.length) Sl.no).zip (L2.start N vs) = ss.zip (vs.map some) ++ (List.replicate (n - ss.length) Sl.no).zip (List.replicate (N.length - vs.length) none) := by
  unfold L2.start
  rw [List.zip_append (by simp [h])]
theorem Gd.nos {K : PySem.W.Frag} {B : Hp} {F0 : Addr → Prop} {io : List Addr} {Fz : Addr → Prop} {H : Hp} : ∀ {n m : Nat} {L : List It'}, Gd K B F0 io Fz H L → Gd K B F0 io Fz H (L ++ (List.replicate n Sl.no).zip (List.replicate m (none : Option V)))
  | 0, m, L, g => by simpa using g
  | n + 1, 0, L, g => by simpa using g
  | n + 1, m + 1, L, g => by
    rw [List.replicate_succ, List.replicate_succ, List.zip_cons_cons]
    exact (Gd.push (Gd.nos (n := n) (m := m) g) (p := (.no, none)) trivial rfl).perm List.perm_middle.symm
theorem fnG_of (F : FunD K x qual params body scope dvs kws f fd) (S : FnScope N ps scope)
    (hbody : ∀ (cdv : Value) (A : Around) (outer : List PySem.Env) (s : Shared) (H : Hp) (E : XK), Room k (A.deeper (envOfC qual scope s.heap.objs.size f cdv)) → Kx (cxOf (L2.CX P w) P w K mg base N qual scope f cdv A outer s H E) (wE E) →
      SSs (cxOf (L2.CX P w) P w K mg base N qual scope f cdv A outer s H E) (wE E) body sf) : FnG P w K mg base (k + 1) f fd ps (mfOf N.length sf) := ⟨by
  intro A outer s H args us vs Q E room gd e0 binds rel ⟨lv, ss, Fz, io, ls, g0, hq⟩
  obtain ⟨oc, od, dV, kV, doc, pm, an, cdv, ct, osl, rfl, lk, hcd, _, _⟩ := F.ex
  have inK : K.In s.heap := e0.mod.kin.keeps fun b o e => (e0.bs b o e).1
  refine codeAny_call_function room.depth (inK _ _ lk) rfl S.co S.gen rfl (PySem.W.codeRec_of inK hcd) (binds _ _ _ _ (wpAny_newFunctionEnv_cells S.kind (fun y hy => ?_) fun env he s1 xc => ?_))
  · rcases S.par y.1 (List.of_mem_zip hy).1 with z | z
    · exact Or.inl z
    · exact Or.inr ⟨z, PySem.W.cellsFrom_some _ _ _ (Or.inl z)⟩
  subst he
  refine ⟨(e0.mod.nolimit.keeps fun b o e => (e0.bs b o e).1).keeps xc.toInCall.keep, codeAny_func ?_⟩
  have room' := room.deeper (envOfC qual scope s.heap.objs.size f cdv)
  have hb := hbody cdv A outer s H E room' (kx_of S.nd room' gd)
  have J0 := inv_start (E := E) (CX := L2.CX P w) (cd := cdv) (qual := qual) (f := f) S room.hd e0 lv rel xc
  have hps : ps.length ≤ N.length := by
    have z := congrArg List.length S.pre
    rw [List.length_take] at z
    omega
  have k0 : OK K ⟨H, Fz, io, []⟩ Fz H (ss ++ List.replicate (N.length - ss.length) .no) (L2.start N vs) := by
    refine ⟨?_, ?_⟩
    · show Gd K H Fz io Fz H ((ss ++ List.replicate (N.length - ss.length) Sl.no).zip (L2.start N vs))
      rw [start_zip (by omega)]
      exact g0.nos
    · unfold L2.start
      simp
      omega
  have h0 : EndS (wE E) K ⟨H, Fz, io, []⟩ { nx := fun _ H' => Q .non H', rt := Q } (sf (ss ++ List.replicate (N.length - ss.length) .no)) := by
    unfold mfOf at hq
    cases hf : sf (ss ++ List.replicate (N.length - ss.length) .no) with
    | nx E' =>
      rw [hf] at hq
      intro σ' H' Fz' k'
      exact hq.2 _ H' Fz' ((k'.lentEnd).dat rfl)
    | rt r E' =>
      rw [hf] at hq
      dsimp only at hq
      intro v σ' H' Fz' k'
      split at hq
      · exact hq.2 _ H' Fz' k'.lentEnd1
      · exact hq.elim
    | exc y E' =>
      rw [hf] at hq
      intro σ' cls d H' Fz' k' rx
      exact hq cls d H' Fz' k'.lentEnd rx
    | bk E' => rw [hf] at hq; exact hq.elim
    | ct E' => rw [hf] at hq; exact hq.elim
    | bad => rw [hf] at hq; exact hq.elim
  refine wpAny_mono (hb.run [] s1 (L2.start N vs) H _ J0 ⟨_, _, Fz, k0, h0⟩) (fun fl s' hs => ?_) fun _ _ z => z
  have fin : ∀ {σ' : L2.St} {H' : Hp} {v : V} {u : Value}, Inv (cxOf (L2.CX P w) P w K mg base N qual scope f cdv A outer s H E) [] σ' H' s' → RelV v u → Q v H' → CE outer P w H s Q u s' :=
    fun {_ H' v _} j r q => ⟨v, H', j.os, j.bare, j.base, j.hok, r, q⟩
  cases fl with
  | next => obtain ⟨_, _, j, q⟩ := hs; exact fin (v := .non) (u := .none) j rfl q
  | ret u => obtain ⟨_, _, _, j, r, q⟩ := hs; exact fin j r q
  | brk => obtain ⟨_, _, _, q⟩ := hs; exact q.elim
  | cont => obtain ⟨_, _, _, q⟩ := hs; exact q.elim⟩
/-! ### calls -/
variable {X : Cx} {W : WX}
theorem run_fnG {pins : List (Addr × Obj)} {σ : L2.St} {H : Hp} {s : Shared} {Q : VK} {args : Args} {us : List Value} {vs : List V} {mf : CF} (F : FnG X.prog X.w X.K X.mg X.base k f fd ps mf) (hr : Room k X.A) (tk : Takes X W) (hg : X.A.guards = some []) (hb : BindsTo s fd args (ps.zip us))
    (I : Inv X pins σ H s) (r : Vals vs us) (h : spD X.K ps.length mf vs H Q (WE W σ)) : codeAny (model X.prog X.w) X.A (.call (.ref f) args) (fun r s' => match r with
      | .ok (.ret u) => EP X pins σ Q u s'
      | .ok _ => False
      | .error e => X.xe e s') s := by
  refine codeAny_mono (F.run X.A X.stack s H args us vs Q (WE W σ) hr hg I.env0 hb r h) fun res s' z => ?_
  cases res with
  | error e => exact passAt tk σ pins H s e s' I z
  | ok fl => cases fl with
    | ret u => exact I.after z
    | next => exact z.elim
    | brk => exact z.elim
    | cont => exact z.elim
end
/-- a function as a call sees it: the function, its binding, the defaults behind the written arguments -/
structure Fun (X : Cx) (x : Str) (n : Nat) (dd : List D) (mf : CF) : Prop where
  ex : ∃ (k : Nat) (f : Addr) (fd : FuncData) (ps : List Str) (ds : List Value) (dvs : List V), FnG X.prog X.w X.K X.mg X.base k f fd ps mf ∧ Room k X.A ∧ Gl X x ∧ X.mg x = some (.ref f) ∧ PySem.W.keepIn X.K (.ref f) = true ∧ Binds X.K fd ps ds ∧ Vals dvs ds ∧
    (∀ Fz H, RpL X.K Fz H dd dvs) ∧ ps.length = n ∧ (x == ("__debug__" : Str)) = false
section
variable {X : Cx} {W : WX} {x : Str} {n : Nat} {dd : List D} {mf : CF} {p pos : Pos} {e : Expr} {es : List Expr} {g : AF}
def tFn (K : PySem.W.Frag) (W : WX) (n : Nat) (dd : List D) (mf : CF) (t : TA) : TE := fun σ H Q => t σ H fun vs H1 => ∀ dvs, (∀ Fz H, RpL K Fz H dd dvs) → spD K n mf (vs ++ dvs) H1 Q (WE W σ)
theorem pe_fn {t : TA} (F : Fun X x n dd mf) (kx : Kx X W) (ha : PA X (e :: es) t) (he : starEach (e :: es) X.env = (false, eval e X.env) :: starEach es X.env := by rfl) (hpl : (backTo pos (starEach es X.env)).any (·.1) = false := by rfl) :
    PE X (.Call (.Name x p) (e :: es) [] pos) (tFn X.K W n dd mf t) := by
  obtain ⟨k, f, fd, ps, ds, dvs, FG, room, hg, hm, kp, hb, hd, hdd, rfl, hdb⟩ := F.ex
  refine ⟨fun pins s σ H Q I h => wpAny_Call_Name_kw (ld_glob I hg hm ?_ hdb)⟩
  refine PySem.W.callWith_K (h₀ := X.base) I.ok.mod.kin kp (thn (ha.run pos pins s σ H _ I h) fun us s1 ⟨vs, H1, I1, r, q⟩ => ⟨I1.kIn, ?_⟩) he hpl
  have q := q dvs hdd
  have r2 := r.append hd
  exact wpAny_call (run_fnG FG room kx.tk kx.hg (hb s1 us I1.kIn (by rw [← r2.length]; exact q.1)) I1 r2 q)
theorem pe_fn0 (F : Fun X x n dd mf) (kx : Kx X W) : PE X (.Call (.Name x p) [] [] pos) (tFn X.K W n dd mf tNil) := by
  obtain ⟨k, f, fd, ps, ds, dvs, FG, room, hg, hm, kp, hb, hd, hdd, rfl, hdb⟩ := F.ex
  refine ⟨fun pins s σ H Q I h => wpAny_Call_Name_kw (ld_glob I hg hm ?_ hdb)⟩
  have q := h dvs hdd
  exact PySem.W.callWith_K0 I.kIn kp (wpAny_call (run_fnG FG room kx.tk kx.hg (hb s [] I.kIn (by rw [List.nil_append, ← hd.length]; exact q.1)) I hd q))
def roE (E : Env) : RO → RR (Sl × Env)
  | .ok r _ => .ok (r, E)
  | .exc x _ => .exc x E
  | .bad => .bad
/-- f(..), nothing lent -/
def eFn (n : Nat) (dd : List D) (mf : CF) (g : AF) : EF := fun E => (g E).bind fun p => match frAll p.1 with
  | some ss => if ss.length + dd.length = n then roE p.2 (match mf (ss ++ dd.map .dat) with
    | .ok r l => if r.ret then .ok r l else .bad
    | o => o) else .bad
  | none => .bad
theorem Fr.app {K : PySem.W.Frag} {Fz : Addr → Prop} {H : Hp} : ∀ {ss : List Sl} {vs : List V} {dd : List D} {dvs : List V}, ss.length = vs.length → Fr K Fz H ss vs → RpL K Fz H dd dvs → Fr K Fz H (ss ++ dd.map .dat) (vs ++ dvs) := fun {ss vs dd dvs} hl f r p hp => by
  rw [List.map_append, List.zip_append (by simpa using hl)] at hp
  rcases List.mem_append.mp hp with z | z
  · exact f p z
  · obtain ⟨i, hi⟩ := List.getElem?_of_mem z
    obtain ⟨s, o⟩ := p
    rw [List.getElem?_zip_eq_some, List.getElem?_map, List.getElem?_map] at hi
    obtain ⟨h1, h2⟩ := hi
    cases hd : dd[i]? with
    | none => rw [hd] at h1; cases h1
    | some d =>
      rw [hd] at h1
      cases h1
      obtain ⟨v, hv, rv⟩ := r.get hd
      rw [hv] at h2
      cases h2
      exact ⟨⟨v, rfl, rv⟩, rfl, rfl⟩
theorem roQ_of {K : PySem.W.Frag} {G : Gh} {Fz : Addr → Prop} {H : Hp} {E : Env} {σ : L2.St} {Q : VK} {o : RO} (k : OK K G Fz H E σ) (h : EndE W K G σ Q (roE E (match o with
    | .ok r l => if r.ret then .ok r l else .bad
    | o => o))) : RoQ K Fz H [] Q (WE W σ) o := by
  cases o with
  | bad => exact h
  | exc x l =>
    intro cls d H' Fz' c rx
    have c' : Gd K H Fz [] Fz' H' [] := by
      cases l <;> exact c
    exact h cls d H' Fz' (k.afterX c') rx
  | ok r l =>
    dsimp only at h
    split at h
    · rename_i hr
      refine ⟨hr, fun v H' Fz' c => ?_⟩
      have c' : Gd K H Fz [] Fz' H' [(r, some v)] := by
        cases l <;> exact c
      exact h v H' Fz' (k.after c' hr)
    · exact h.elim
theorem tFn_of {G : Gh} {E : Env} {Fz : Addr → Prop} {H : Hp} {σ : L2.St} {Q : VK} (k : OK X.K G Fz H E σ) (h : EndE W X.K G σ Q (eFn n dd mf g E)) : tFn X.K W n dd mf (tA W X.K g) σ H Q := by
  refine tA_mono (tA_of k (EndE.bindA h)) fun vs H1 ⟨rs, E1, Fz1, hl, k1, h1⟩ dvs hdd => ?_
  cases hf : frAll rs with
  | none => simp only [hf] at h1; exact h1.elim
  | some ss =>
    simp only [hf] at h1
    split at h1
    · rename_i hn
      obtain ⟨Fz2, f2, k2, fr, hs⟩ := OK.frAll hl k1 hf
      have hl2 := (hdd Fz2 H1).len
      have fr2 := fr.app (by omega) (hdd Fz2 H1)
      refine ⟨by rw [List.length_append]; omega, _, Fz2, [], by rw [List.length_append, List.length_map]; exact hn, fr2.enter k2, roQ_of k2 h1⟩
    · exact h1.elim
theorem se_fn (F : Fun X x n dd mf) (kx : Kx X W) (ha : SA X W (e :: es) g) (he : starEach (e :: es) X.env = (false, eval e X.env) :: starEach es X.env := by rfl) (hpl : (backTo pos (starEach es X.env)).any (·.1) = false := by rfl) : SE X W (.Call (.Name x p) (e :: es) [] pos) (eFn n dd mf g) :=
  PE.imp (pe_fn F kx ha he hpl) fun σ H Q ⟨G, E, Fz, k, h⟩ => tFn_of k h
theorem se_fn0 (F : Fun X x n dd mf) (kx : Kx X W) : SE X W (.Call (.Name x p) [] [] pos) (eFn n dd mf aNil) :=
  PE.imp (pe_fn0 F kx) fun σ H Q ⟨G, E, Fz, k, h⟩ => by
    obtain ⟨G0, E0, Fz0, k0, h0⟩ : tFn X.K W n dd mf (tA W X.K aNil) σ H Q := tFn_of k h
    exact h0 [] H Fz0 rfl k0
end
end VL

/-! The value layer, 14: own lists and dicts that change; what is lent to a call. -/
namespace VL
open PySem PySem.Spec PyProof.Rows L2 RZ RT

section
variable {K : PySem.W.Frag} {G : Gh} {Fz : Addr → Prop} {H : Hp} {E : Env} {σ : L2.St} {s s0 : Sl} {a : Addr} {o o0 : HO} {i : Nat}
theorem OK.put (k : OK K (G.p s0 (.ref a)) Fz H E σ) (h0 : ownA (s0, some (.ref a)) = some a) (ha : H a = some o0) (hn : (∀ xs, o0 ≠ .tup xs) ∧ ∀ ob u, o0 ≠ .frz ob u)
    (h : RS K Fz (upd H a o) G.io (s, some (.ref a))) (hs : ownA (s, some (.ref a)) = some a) : OK K (G.p s (.ref a)) Fz (upd H a o) E σ := ⟨Gd.put k.gd h0 ha hn h hs, k.lv⟩
theorem kp_put (nF : ¬ Fz a) (ha : H a = some o0) (hn : (∀ xs, o0 ≠ .tup xs) ∧ ∀ ob u, o0 ≠ .frz ob u) : Kp Fz H (upd H a o) := fun b u e z => by
  by_cases hb : b = a
  · subst hb
    rw [ha] at e
    cases e
    rcases z with z | ⟨xs, z⟩ | ⟨ob, w, z⟩
    · exact absurd z nF
    · exact absurd z (hn.1 xs)
    · exact absurd z (hn.2 ob w)
  · rw [upd_ne hb]
    exact e
theorem OK.notFz (k : OK K (G.p s (.ref a)) Fz H E σ) (h : ownA (s, some (.ref a)) = some a) : ¬ Fz a := (k.gd.own _ List.mem_cons_self a h).1
/-- an item goes to the end of a name's own list -/
theorem OK.app {ds : List D} {d : D} {u : V} (k : OK K (G.p (.dat d) u) Fz H E σ) (h : E.at i = some (.ol ds)) : ∃ a xs, σ[i]? = some (some (.ref a)) ∧ H a = some (.lst xs) ∧ xs.length = ds.length ∧ OK K G Fz (upd H a (.lst (xs ++ [u]))) (E.st i (.ol (ds ++ [d]))) σ := by
  obtain ⟨v, hv, a, xs, e, ha, r⟩ := k.at h
  cases e
  refine ⟨a, xs, hv, ha, r.len.symm, ?_⟩
  have k2 := OK.addL (OK.swap (k.take (Env.at_some h).1 hv)) ha
  have k3 := k2.back hv
  rw [set_st] at k3
  exact k3
def putD (kvs : List (Key × D)) (k : Key) (d : D) : List (Key × D) := if (kvs.any fun kv => decide (kv.1 = k)) = true then kvs.map (fun kv => if kv.1 = k then (kv.1, d) else kv) else kvs ++ [(k, d)]
def getD (kvs : List (Key × D)) (k : Key) : Option D := (kvs.find? fun kv => decide (kv.1 = k)).map (·.2)
theorem RpK.any : ∀ {ds : List (Key × D)} {vs : List (Key × V)} (k : Key), RpK K Fz H ds vs → (ds.any fun kv => decide (kv.1 = k)) = vs.any fun kv => decide (kv.1 = k)
  | [], _, k, h => by rw [show _ = [] from h]; rfl
  | (x, d) :: ds, _, k, ⟨v, r, e, h1, h2⟩ => by
    subst e
    simp only [List.any_cons]
    rw [RpK.any k h2]
theorem RpK.map {d : D} {v : V} {k : Key} (hv : Rp K Fz H d v) : ∀ {ds : List (Key × D)} {vs : List (Key × V)}, RpK K Fz H ds vs → RpK K Fz H (ds.map fun kv => if kv.1 = k then (kv.1, d) else kv) (vs.map fun kv => if kv.1 = k then (kv.1, v) else kv)
  | [], _, h => by rw [show _ = [] from h]; rfl
  | (x, d') :: ds, _, ⟨v', r, e, h1, h2⟩ => by
    subst e
    simp only [List.map_cons]
    by_cases hx : x = k
    · rw [if_pos hx, if_pos hx]
      exact ⟨v, _, rfl, hv, RpK.map hv h2⟩
    · rw [if_neg hx, if_neg hx]
      exact ⟨v', _, rfl, h1, RpK.map hv h2⟩
theorem RpK.snoc {d : D} {v : V} {k : Key} (hv : Rp K Fz H d v) : ∀ {ds : List (Key × D)} {vs : List (Key × V)}, RpK K Fz H ds vs → RpK K Fz H (ds ++ [(k, d)]) (vs ++ [(k, v)])
  | [], _, h => by rw [show _ = [] from h]; exact ⟨v, [], rfl, hv, rfl⟩
  | (x, d') :: ds, _, ⟨v', r, e, h1, h2⟩ => by
    subst e
    exact ⟨v', _, rfl, h1, RpK.snoc hv h2⟩
theorem RpK.put {ds : List (Key × D)} {vs : List (Key × V)} {d : D} {v : V} (k : Key) (h : RpK K Fz H ds vs) (hv : Rp K Fz H d v) : RpK K Fz H (putD ds k d) (putK vs k v) := by
  unfold putD putK
  rw [h.any k]
  split
  · exact h.map hv
  · exact h.snoc hv
theorem RpK.get {k : Key} {d : D} : ∀ {ds : List (Key × D)} {vs : List (Key × V)}, RpK K Fz H ds vs → getD ds k = some d → ∃ v, valV vs k = some v ∧ Rp K Fz H d v
  | [], _, h, e => by cases e
  | (x, d') :: ds, _, ⟨v', r, e2, h1, h2⟩, e => by
    subst e2
    unfold getD at e
    by_cases hx : x = k
    · rw [List.find?_cons_of_pos (by simpa using hx)] at e
      cases e
      exact ⟨v', valV_pos hx, h1⟩
    · rw [List.find?_cons_of_neg (by simpa using hx)] at e
      rw [valV_neg hx]
      exact RpK.get h2 e
theorem RpK.len : ∀ {ds : List (Key × D)} {vs : List (Key × V)}, RpK K Fz H ds vs → ds.length = vs.length
  | [], _, h => by rw [show _ = [] from h]; rfl
  | (x, d') :: ds, _, ⟨v', r, e, h1, h2⟩ => by
    subst e
    simp [RpK.len h2]
/-- d[k] = v at a name's own dict -/
theorem OK.dput {kvs : List (Key × D)} {t : Option Nat} {d : D} {u : V} {key : Key} (k : OK K (G.p (.dat d) u) Fz H E σ) (h : E.at i = some (.od t kvs)) : ∃ a us, σ[i]? = some (some (.ref a)) ∧ H a = some (.dK us) ∧ us.length = kvs.length ∧ OK K G Fz (upd H a (.dK (putK us key u))) (E.st i (.od t (putD kvs key d))) σ := by
  have rd := k.datI
  obtain ⟨v, hv, a, us, e, ha, r, ht⟩ := k.at h
  cases e
  refine ⟨a, us, hv, ha, r.len.symm, ?_⟩
  have k1 := k.pop.take (Env.at_some h).1 hv
  have nF := k1.notFz rfl
  have hn : (∀ xs, HO.dK us ≠ .tup xs) ∧ ∀ ob w, HO.dK us ≠ .frz ob w := ⟨fun _ z => by (cases z), fun _ _ z => by (cases z)⟩
  have kp := kp_put (o := .dK (putK us key u)) nF ha hn
  have k2 := k1.put (s := .od t (putD kvs key d)) (o := .dK (putK us key u)) rfl ha hn ⟨a, _, rfl, upd_same, (r.put key rd).keep kp (fun _ z => z), ht⟩ rfl
  have k3 := k2.back hv
  rw [set_st] at k3
  exact k3
end
def D.key? : D → Option Key
  | .int i => some (.inl i)
  | .str x => some (.inr x)
  | _ => none
theorem D.key_v {K : PySem.W.Frag} {Fz : Addr → Prop} {H : Hp} : ∀ {d : D} {k : Key} {v : V}, d.key? = some k → Rp K Fz H d v → v = kV k
  | .int i, _, _, h, r => by cases h; exact r
  | .str x, _, _, h, r => by cases h; exact r
  | .non, _, _, h, _ => by cases h
  | .bl _, _, _, h, _ => by cases h
  | .tup _, _, _, h, _ => by cases h
  | .lst _, _, _, h, _ => by cases h
  | .exc _ _ _, _, _, h, _ => by cases h
/-! ### xs.append(e), d[k], d[k] = e -/
def eApp (i : Nat) (f : EF) : EF := fun E => match E.at i with
  | some (.ol _) => (f E).bind fun p => match p.1.d? with
    | some d => match p.2.at i with
      | some (.ol ds) => if ds.length < SZ then .ok (.dat .non, p.2.st i (.ol (ds ++ [d]))) else .bad
      | _ => .bad
    | none => .bad
  | _ => .bad
def eDGet (i : Nat) (f : EF) : EF := fun E => match E.at i with
  | some (.od _ _) => (f E).bind fun p => match p.1 with
    | .dat d => match d.key? with
      | some k => match p.2.at i with
        | some (.od _ kvs) => match getD kvs k with
          | some v => .ok (.dat v, p.2)
          | none => .bad
        | _ => .bad
      | none => .bad
    | _ => .bad
  | _ => .bad
def sDPutV (i : Nat) (fv fk : EF) : SF := fun E => (fv E).fl fun q => match q.1.d? with
  | some v => match q.2.at i with
    | some (.od _ _) => (fk q.2).fl fun p => match p.1 with
      | .dat d => match d.key? with
        | some k => match p.2.at i with
          | some (.od t kvs) => if kvs.length < SZ then .nx (p.2.st i (.od t (putD kvs k v))) else .bad
          | _ => .bad
        | none => .bad
      | _ => .bad
    | _ => .bad
  | none => .bad
section
variable {X : Cx} {W : WX} {i : Nat} {x : Str} {xpos apos cpos pos : Pos} {e ie : Expr} {f fk : EF}
theorem se_append (kx : Kx X W) (hN : X.N[i]? = some x) (hv : Vis X.env.scope x) (he : SE X W e f) (hd : (x == ("__debug__" : Str)) = false := by decide) (hcd : (x == ("__classdict__" : Str)) = false := by decide)
    (hbase : attributeBase (.Name x xpos) "append" X.env (eval (.Name x xpos) X.env) = eval (.Name x xpos) X.env := by rfl)
    (hfew : ((backTo cpos (starEach [e] X.env)).all (fun x => !x.1) && (backToKw cpos (keywordEach [] X.env)).all (fun x => x.1.isSome)
      && decide (([e] : List Expr).length + ([] : List Keyword).length + (if ([] : List Keyword).isEmpty then 0 else 1) < 30)) = true := by rfl)
    (hline : (apos.endLine == cpos.line) = true := by rfl) (hs : starEach [e] X.env = (false, eval e X.env) :: starEach [] X.env := by rfl) (hplain : (backTo cpos (starEach [] X.env)).any (·.1) = false := by rfl) :
    SE X W (.Call (.Attribute (.Name x xpos) "append" apos) [e] [] cpos) (eApp i f) :=
  PE.imp (pe_bm PySem.F.plainAttrs_list PySem.F.slot_list_append PySem.F.type_list_append mt_append (pe_var hN hv hd hcd) (pa_cons he pa_nil hs) hbase hfew hline hs hplain) fun σ H Q ⟨G, E, Fz, k, h⟩ => by
    unfold eApp at h
    cases h0 : E.at i with
    | none => rw [h0] at h; exact h.elim
    | some s0 =>
      rw [h0] at h
      cases s0 with
      | ol ds0 =>
        obtain ⟨v, hv, a, xs, ev, ha, r⟩ := k.at h0
        cases ev
        refine ⟨_, hv, .inl ⟨rfl, xs, .inl (.inl ha)⟩, ?_⟩
        refine tE_mono (tE_of k (EndE.bind h)) fun u H1 ⟨r1, E1, Fz1, k1, h1⟩ => ?_
        dsimp only at h1
        cases hd1 : r1.d? with
        | none => rw [hd1] at h1; exact h1.elim
        | some d =>
          rw [hd1] at h1
          obtain ⟨Fz2, k2⟩ := k1.d1 hd1
          cases h2 : E1.at i with
          | none => rw [h2] at h1; exact h1.elim
          | some s1 =>
            rw [h2] at h1
            cases s1 with
            | ol ds =>
              obtain ⟨a2, ys, hv2, ha2, hl, k3⟩ := k2.app h2
              rw [hv] at hv2
              cases hv2
              dsimp only at h1
              split at h1
              · rename_i hz
                exact ⟨_, ys, u, rfl, rfl, ha2, by rw [hl, ← SZ_eq]; exact hz, h1 .non _ _ (k3.dat rfl)⟩
              · exact h1.elim
            | _ => exact h1.elim
      | _ => exact h.elim
theorem se_dget (kx : Kx X W) (hN : X.N[i]? = some x) (hv : Vis X.env.scope x) (he : SE X W ie f) (hs : NoSl ie := by intro _ _; rfl) (hd : (x == ("__debug__" : Str)) = false := by decide) (hcd : (x == ("__classdict__" : Str)) = false := by decide) : SE X W (.Subscript (.Name x xpos) ie pos) (eDGet i f) :=
  PE.imp (pe_dget (by have := kx.hu; omega) (pe_var hN hv hd hcd) he hs) fun σ H Q ⟨G, E, Fz, k, h⟩ => by
    unfold eDGet at h
    cases h0 : E.at i with
    | none => rw [h0] at h; exact h.elim
    | some s0 =>
      rw [h0] at h
      cases s0 with
      | od t0 kv0 =>
        obtain ⟨v, hv, a, xs, ev, ha, r, _⟩ := k.at h0
        cases ev
        refine ⟨_, hv, ?_⟩
        refine tE_mono (tE_of k (EndE.bind h)) fun u H1 ⟨r1, E1, Fz1, k1, h1⟩ => ?_
        dsimp only at h1
        cases r1 with
        | dat d =>
          dsimp only at h1
          cases hk : d.key? with
          | none => rw [hk] at h1; exact h1.elim
          | some key =>
            rw [hk] at h1
            dsimp only at h1
            cases h2 : E1.at i with
            | none => rw [h2] at h1; exact h1.elim
            | some s1 =>
              rw [h2] at h1
              cases s1 with
              | od t kvs =>
                obtain ⟨v2, hv2, a2, us, ev2, ha2, r2, _⟩ := k1.pop.at h2
                rw [hv] at hv2
                cases ev2
                cases hv2
                dsimp only at h1
                cases hg : getD kvs key with
                | none => rw [hg] at h1; exact h1.elim
                | some d2 =>
                  rw [hg] at h1
                  obtain ⟨w, hw, rw'⟩ := r2.get hg
                  refine ⟨_, w, rfl, ?_, h1 w _ _ (k1.pop.dat rw')⟩
                  rw [D.key_v hk k1.datI, ← hw]
                  exact .k ha2
              | _ => exact h1.elim
        | _ => exact h1.elim
      | _ => exact h.elim
theorem ss_dput {ve : Expr} {fv : EF} {pos' : Pos} (kx : Kx X W) (hN : X.N[i]? = some x) (hv : Vis X.env.scope x) (he : SE X W ie fk) (hval : SE X W ve fv) (hs : swapsWith ve (some (.Subscript (.Name x xpos) ie pos')) pos.line X.env = pure false := by rfl)
    (hd : (x == ("__debug__" : Str)) = false := by decide) (hcd : (x == ("__classdict__" : Str)) = false := by decide) : SS X W (.Assign [.Subscript (.Name x xpos) ie pos'] ve pos) (sDPutV i fv fk) :=
  PS.imp (ps_dput (by have := kx.hu; omega) (pe_var hN hv hd hcd) he hval hs) fun D' σ H ⟨G, E, Fz, k, h⟩ => by
    refine tE_mono (tE_of k (EndS.flE h σ)) fun u H1 ⟨r1, E1, Fz1, k1, h1⟩ => ?_
    dsimp only at h1
    cases hd1 : r1.d? with
    | none => rw [hd1] at h1; exact h1.elim
    | some dv =>
      rw [hd1] at h1
      obtain ⟨Fz2, k2⟩ := k1.d1 hd1
      dsimp only at h1
      cases h0 : E1.at i with
      | none => rw [h0] at h1; exact h1.elim
      | some s0 =>
        rw [h0] at h1
        cases s0 with
        | od t0 kv0 =>
          obtain ⟨v, hv', a, xs, ev, ha, r, _⟩ := k2.at h0
          cases ev
          refine ⟨_, hv', ?_⟩
          have h1 : EndS W X.K (G.p (.dat dv) u) D' ((fk E1).fl fun p => match p.1 with
            | .dat d => match d.key? with
              | some k => match p.2.at i with
                | some (.od t kvs) => if kvs.length < SZ then .nx (p.2.st i (.od t (putD kvs k dv))) else .bad
                | _ => .bad
              | none => .bad
            | _ => .bad) := EndS.w (T' := [(.dat dv, some u)]) h1
          refine tE_mono (tE_of k2 (EndS.flE h1 σ)) fun ku H2 ⟨r2, E2, Fz3, k3, h2⟩ => ?_
          dsimp only at h2
          cases r2 with
          | dat d =>
            dsimp only at h2
            cases hk : d.key? with
            | none => rw [hk] at h2; exact h2.elim
            | some key =>
              rw [hk] at h2
              dsimp only at h2
              cases h3 : E2.at i with
              | none => rw [h3] at h2; exact h2.elim
              | some s1 =>
                rw [h3] at h2
                cases s1 with
                | od t kvs =>
                  have ek := D.key_v hk k3.datI
                  obtain ⟨a2, us, hv2, ha2, hl, k4⟩ := (k3.pop.dat k3.pop.datI).dput (key := key) h3
                  rw [hv'] at hv2
                  cases hv2
                  dsimp only at h2
                  split at h2
                  · rename_i hz
                    refine ⟨_, _, rfl, by rw [ek]; exact .k ha2 (by rw [hl, ← SZ_eq]; exact hz), ?_⟩
                    exact h2 σ _ _ k4
                  · exact h2.elim
                | _ => exact h2.elim
          | _ => exact h2.elim
        | _ => exact h1.elim
end
end VL

/-! The value layer, 15: a dict lent to a call; dict displays. -/
namespace VL
open PySem PySem.Spec PyProof.Rows L2 RZ RT

def lentSt (E : Env) (i : Nat) (t : Option Nat) : Option (List (Key × D)) → Env
  | some kvs => E.st i (.od t kvs)
  | none => E
def roED (i : Nat) (t : Option Nat) (E : Env) : RO → RR (Sl × Env)
  | .ok r l => if r.ret then .ok (r, lentSt E i t l) else .bad
  | .exc x l => .exc x (lentSt E i t l)
  | .bad => .bad
/-- f(d, ..), the name d's own dict lent -/
def eFnD (i : Nat) (n : Nat) (dd : List D) (mf : CF) (g : AF) : EF := fun E => match E.at i with
  | some (.od t kvs) => (g (E.st i .no)).bind fun p => match frAll p.1 with
    | some ss => if ss.length + dd.length + 1 = n then roED i t p.2 (mf (.od (some 0) kvs :: (ss ++ dd.map .dat))) else .bad
    | none => .bad
  | _ => .bad
section
variable {X : Cx} {W : WX} {x x0 : Str} {n i : Nat} {dd : List D} {mf : CF} {p p0 pos : Pos} {es : List Expr} {g : AF}
theorem lentSt_ok {K : PySem.W.Frag} {G : Gh} {Fz : Addr → Prop} {H : Hp} {E : Env} {σ : L2.St} {t : Option Nat} {a : Addr} {l : Option (List (Key × D))} (k : OK K (G.lent t a l) Fz H E σ) (hv : σ[i]? = some (some (.ref a))) : OK K G Fz H (lentSt E i t l) σ := by
  cases l with
  | none => exact k
  | some kvs => exact OK.back (G := G) k hv
theorem lentSt_ok1 {K : PySem.W.Frag} {G : Gh} {Fz : Addr → Prop} {H : Hp} {E : Env} {σ : L2.St} {t : Option Nat} {a : Addr} {l : Option (List (Key × D))} {r : Sl} {v : V} (k : OK K ((G.lent t a l).p r v) Fz H E σ) (hv : σ[i]? = some (some (.ref a))) : OK K (G.p r v) Fz H (lentSt E i t l) σ := by
  cases l with
  | none => exact k
  | some kvs => exact OK.back (G := G.p r v) (OK.swap (G := G) k) hv
theorem roQ_ofD {K : PySem.W.Frag} {G : Gh} {Fz : Addr → Prop} {H : Hp} {E : Env} {σ : L2.St} {Q : VK} {o : RO} {t : Option Nat} {kvs : List (Key × D)} {a : Addr} (k : OK K (G.p (.od t kvs) (.ref a)) Fz H E σ) (hv : σ[i]? = some (some (.ref a))) (h : EndE W K G σ Q (roED i t E o)) : RoQ K Fz H [a] Q (WE W σ) o := by
  cases o with
  | bad => exact h
  | exc x l => exact fun cls d H' Fz' c rx => h cls d H' Fz' (lentSt_ok (k.afterDX c) hv) rx
  | ok r l =>
    have h : EndE W K G σ Q (if r.ret = true then .ok (r, lentSt E i t l) else .bad) := h
    split at h
    · rename_i hr
      exact ⟨hr, fun v H' Fz' c => h v H' Fz' (lentSt_ok1 (k.afterD c hr) hv)⟩
    · exact h.elim
theorem se_fnD (F : Fun X x n dd mf) (kx : Kx X W) (hN : X.N[i]? = some x0) (hv : Vis X.env.scope x0) (ha : SA X W es g) (hd : (x0 == ("__debug__" : Str)) = false := by decide) (hcd : (x0 == ("__classdict__" : Str)) = false := by decide)
    (he : starEach (.Name x0 p0 :: es) X.env = (false, eval (.Name x0 p0) X.env) :: starEach es X.env := by rfl) (hpl : (backTo pos (starEach es X.env)).any (·.1) = false := by rfl) : SE X W (.Call (.Name x p) (.Name x0 p0 :: es) [] pos) (eFnD i n dd mf g) :=
  PE.imp (pe_fn F kx (pa_cons (pe_var hN hv hd hcd) ha he) he hpl) fun σ H Q ⟨G, E, Fz, k, h⟩ => by
    unfold eFnD at h
    cases h0 : E.at i with
    | none => rw [h0] at h; exact h.elim
    | some s0 =>
      rw [h0] at h
      cases s0 with
      | od t kvs =>
        obtain ⟨v, hv', a, us, ev, ha', r, _⟩ := k.at h0
        cases ev
        have k1 := k.take (Env.at_some h0).1 hv'
        refine ⟨_, hv', G.p (.od t kvs) (.ref a), E.st i .no, Fz, k1, ?_⟩
        dsimp only at h
        cases hg : g (E.st i .no) with
        | bad => rw [hg] at h; exact h.elim
        | exc x' E' => rw [hg] at h; exact EndX.pop h
        | ok q =>
          rw [hg] at h
          intro vs H1 Fz1 hl k2 dvs hdd
          have h : EndE W X.K G σ Q (match frAll q.1 with
            | some ss => if ss.length + dd.length + 1 = n then roED i t q.2 (mf (.od (some 0) kvs :: (ss ++ dd.map .dat))) else .bad
            | none => .bad) := h
          cases hf : frAll q.1 with
          | none => rw [hf] at h; exact h.elim
          | some ss =>
            rw [hf] at h
            dsimp only at h
            split at h
            · rename_i hn
              obtain ⟨Fz2, f2, k3, fr, hs⟩ := OK.frAll hl k2 hf
              have hl2 := (hdd Fz2 H1).len
              have fr2 := fr.app (by omega) (hdd Fz2 H1)
              refine ⟨by rw [List.length_append, List.length_cons]; omega, _, Fz2, [a], ?_, Fr.enterD k3 fr2, roQ_ofD k3 hv' h⟩
              rw [List.length_cons, List.length_append, List.length_map]
              omega
            · exact h.elim
      | _ => exact h.elim
end
/-! ### {k: e, ..} -/
def mergeD (kvs more : List (Key × D)) : List (Key × D) := more.foldl (fun acc kv => putD acc kv.1 kv.2) kvs
def eDisp (ks : List Key) (g : AF) : EF := fun E => (g E).bind fun p => match dAll p.1 with
  | some ds => if ks.length ≤ 15 then .ok (.od none (mergeD [] (ks.zip ds)), p.2) else .bad
  | none => .bad
def SPs (X : Cx) (W : WX) (pos : Pos) (ks : List Key) (keys : List (Option Expr)) (values : List Expr) (g : AF) : Prop :=
  ∃ trs, PPs X pos keys values trs ∧ ∀ σ H Q, tA W X.K g σ H (fun vs H' => Q ((ks.map kV).zip vs) H') → tPairs trs σ H Q
section
variable {X : Cx} {W : WX} {pos p : Pos} {ks : List Key} {keys : List (Option Expr)} {values : List Expr} {e : Expr} {f : EF} {g : AF} {z : Str} {j : Nat}
theorem sps_nil : SPs X W pos [] [] [] aNil := ⟨[], pps_nil, fun σ H Q ⟨G, E, Fz, k, h⟩ => h [] H Fz rfl k⟩
theorem sps_cons (he : SE X W e f) (hr : SPs X W pos ks keys values g) : SPs X W pos (.inr z :: ks) (some (.Constant (.str z) j p) :: keys) (e :: values) (aCons f g) := by
  obtain ⟨trs, hp, ht⟩ := hr
  refine ⟨_, pps_cons pe_str he hp, fun σ H Q ⟨G, E, Fz, k, h⟩ => ?_⟩
  show tE W X.K f σ H fun y H2 => tPairs trs σ H2 fun ps H3 => Q ((.str z, y) :: ps) H3
  refine tE_mono (tE_of k (EndA.bindE h)) fun v H1 ⟨r, E1, Fz1, k1, h1⟩ => ht _ _ _ ?_
  refine tA_mono (tA_of (G := G.ps [r] [v]) k1 (EndA.bindA1 h1)) fun vs H2 ⟨rs, E2, Fz2, hl, k2, h2⟩ => ?_
  exact h2 (v :: vs) H2 Fz2 (by simpa using hl) k2
theorem RpK.zip {K : PySem.W.Frag} {Fz : Addr → Prop} {H : Hp} : ∀ (ks : List Key) {ds : List D} {vs : List V}, RpL K Fz H ds vs → RpK K Fz H (ks.zip ds) (ks.zip vs)
  | [], _, _, _ => by simp [RpK]
  | k :: ks, [], _, h => by rw [show _ = [] from h]; simp [RpK]
  | k :: ks, d :: ds, _, ⟨v, r, e, h1, h2⟩ => by
    subst e
    exact ⟨v, _, rfl, h1, RpK.zip ks h2⟩
theorem RpK.merge {K : PySem.W.Frag} {Fz : Addr → Prop} {H : Hp} : ∀ {more : List (Key × D)} {mv : List (Key × V)} {ds : List (Key × D)} {vs : List (Key × V)}, RpK K Fz H more mv → RpK K Fz H ds vs → RpK K Fz H (mergeD ds more) (mergeK vs mv)
  | [], _, _, _, h, r => by rw [show _ = [] from h]; exact r
  | (k, d) :: more, _, _, _, ⟨v, q, e, h1, h2⟩, r => by
    subst e
    exact RpK.merge (more := more) (mv := q) h2 (r.put k h1)
theorem zip_keys : ∀ (ks : List Key) (vs : List V), (ks.map kV).zip vs = (ks.zip vs).map fun kv => (kV kv.1, kv.2)
  | [], _ => rfl
  | k :: ks, [] => rfl
  | k :: ks, v :: vs => by
    simp only [List.map_cons, List.zip_cons_cons]
    rw [zip_keys ks vs]
theorem se_disp (h : SPs X W pos ks keys values g) (hall : keys.all (·.isSome) = true := by rfl) (hl : keys.length = values.length := by rfl) (h0 : keys ≠ [] := by exact List.cons_ne_nil _ _) (h15 : keys.length ≤ 15 := by decide) : SE X W (.Dict keys values pos) (eDisp ks g) := by
  obtain ⟨trs, hp, ht⟩ := h
  refine PE.imp (pe_disp hp hall hl h0 h15) fun σ H Q ⟨G, E, Fz, k, h⟩ a hn => ht _ _ _ ?_
  have k1 := k.newD (ds := []) (vs := []) hn rfl
  refine ⟨G.p (.od none []) (.ref a), E, Fz, k1, ?_⟩
  unfold eDisp at h
  cases hg : g E with
  | bad => rw [hg] at h; exact h.elim
  | exc x' E' => rw [hg] at h; exact EndX.pop h
  | ok q =>
    rw [hg] at h
    intro vs H1 Fz1 hl k2
    have h : EndE W X.K G σ Q (match dAll q.1 with
      | some ds => if ks.length ≤ 15 then .ok (.od none (mergeD [] (ks.zip ds)), q.2) else .bad
      | none => .bad) := h
    cases hd : dAll q.1 with
    | none => rw [hd] at h; exact h.elim
    | some ds =>
      rw [hd] at h
      dsimp only at h
      split at h
      · rename_i hk
        obtain ⟨Fz2, f2, k3, rl⟩ := OK.all hl k2 hd
        obtain ⟨b, us, eb, hb, ru, _⟩ := k3.top
        cases eb
        rw [show us = [] from ru] at hb
        have hn' : (∀ xs, HO.dK [] ≠ .tup xs) ∧ ∀ ob w, HO.dK [] ≠ .frz ob w := ⟨fun _ z => by (cases z), fun _ _ z => by (cases z)⟩
        have kp := kp_put (o := .dK (mergeK [] (ks.zip vs))) (k3.notFz rfl) hb hn'
        have rm : RpK X.K Fz2 H1 (mergeD [] (ks.zip ds)) (mergeK [] (ks.zip vs)) := RpK.merge (RpK.zip ks rl) rfl
        refine ⟨hb, ks.zip vs, zip_keys ks vs, by rw [List.length_zip]; omega, h _ _ _ (k3.put (s := .od none (mergeD [] (ks.zip ds))) rfl hb hn' ⟨a, _, rfl, upd_same, rm.keep kp (fun _ z => z), fun _ z => by cases z⟩ rfl)⟩
      · exact h.elim
end
end VL

/-! Exceptions of own classes over any built-in base, made with or without names at the arguments. -/
namespace PySem
namespace VX
open PySem.W PySem.Calls PyProof.Rows PySem.HandSPX
section
variable {M : Model} {prog : Program} {w : World} {A : Around} {E : Value → Shared → Prop} {R : Result → Shared → Prop} {h : Heap} {g : Array GenState} {d : Drawn} {t : Nat} {os : OsState}
variable {nm q : Str} {C N : Addr} {bs bm bmB : List Value} {hdct : Bool} {sn : List Str} {sub : List Value} {ab : Bool} {col : Option Bool} {dd : Option Addr} {k0 k1 k2 k3 k5 : Option Value} {B newId initId : String}
theorem look_call {kw : List (Str × Value)} {rest : List Value} {Q : Unit → Shared → Prop} (atC : h.get? C = some (excClassObj nm q C N bs bm hdct sn sub ab col dd k0 k1 k2 k3 k5 newId))
    (fin : Q () ⟨h, g, d, t, os⟩) : wpAny M A (checkBuiltinCall "type.__call__" ⟨.ref C :: rest, kw⟩) Q E ⟨h, g, d, t, os⟩ := by
  have l3 := tc_sub
  have tyC : (⟨h, g, d, t, os⟩ : Shared).TypeIs (.ref C) "type" := ⟨_, atC, rfl⟩
  simp only [checkBuiltinCall, tc_split, tc_kind]
  repeat (any_goals (first | assumption | with_reducible refine wpAny_map ?_ | with_reducible refine wpAny_onRaise ?_ | with_reducible refine wpAny_loadPart_at atC ?_ | wp_step))
variable (FB : ExcBaseFacts B newId initId bmB) (same : ∀ X : String, bm.contains (.type X) = bmB.contains (.type X))
include FB same

theorem look_new {kw : List (Str × Value)} {rest : List Value} {Q : Unit → Shared → Prop} (atC : h.get? C = some (excClassObj nm q C N bs bm hdct sn sub ab col dd k0 k1 k2 k3 k5 newId)) (fin : Q () ⟨h, g, d, t, os⟩) :
    wpAny M A (checkBuiltinCall newId ⟨.ref C :: rest, kw⟩) Q E ⟨h, g, d, t, os⟩ := by
  have isB : (Value.ref C :: bm).contains (.type B) = true := (List.contains_cons ..).trans (by rw [same, FB.hasB, Bool.or_true])
  have nostar := FB.noStar
  simp only [checkBuiltinCall, FB.newKind, FB.newSplit, FB.newRow]
  repeat (first | (refine wpAny_isSubtype_exc atC ?_; rw [isB]) | refine wpAny_loadPart_at atC ?_ | refine wpAny_madeBy_exc atC ?_ | refine wpAny_staticBase_exc atC ?_ | simp only [bne_self_eq_false, if_false, Bool.false_eq_true] | wp_step)
  exact fin
theorem make_new {kw : List (Str × Value)} {rest : List Value} (atC : h.get? C = some (excClassObj nm q C N bs bm hdct sn sub ab col dd k0 k1 k2 k3 k5 newId))
    (fin : R (.ok (.ret (.ref (h.objs.size + 1)))) ⟨(h.push (kdv_tup rest)).push (excO C h.objs.size), g, d, t, os⟩) (few : rest.length ≤ sizeLine) :
    codeAny (model prog w) A (.builtin newId ⟨.ref C :: rest, kw⟩) R ⟨h, g, d, t, os⟩ := by
  have ends := FB.ends
  have isB : (Value.ref C :: bm).contains (.type B) = true := (List.contains_cons ..).trans (by rw [same, FB.hasB, Bool.or_true])
  have isA : (Value.ref C :: bm).contains (.type "AttributeError") = false := (List.contains_cons ..).trans (by rw [same, FB.noAttr]; rfl)
  have isN : (Value.ref C :: bm).contains (.type "NameError") = false := (List.contains_cons ..).trans (by rw [same, FB.noName]; rfl)
  refine codeAny_builtinAt FB.entry ?_
  unfold Builtin.«BaseException.__new__»
  refine wpAt_bind ?_
  show wpAt _ _ _ (stack >>= _) _ _ _
  refine wpAt_bind (wpAt_stack fun p below => wpAt_of_wpAny ?_)
  wp_walk
  refine wpAt_of_wpAny ?_
  rw [FB.owner]
  repeat (first | with_reducible refine wpAny_loadPart_at atC ?_ | with_reducible refine wpAny_madeHere_exc FB.canon atC ?_ | (with_reducible refine wpAny_isSubtype_exc atC ?_; first | rw [isB] | rw [isN] | rw [isA]) | wp_step)
  show R _ _
  rw [Heap.size_push]
  exact fin
theorem type_made {kw : List (Str × Value)} {rest : List Value} {fI : Addr} {Q : Fin → Shared → Prop} (atC : h.get? C = some (excClassObj nm q C N bs bm hdct sn sub ab col dd k0 k1 k2 k3 k5 newId))
    (ini : W.Looks (model prog w) h (typeLookup (.ref C) "__init__") (some (.ref fI))) (bnd : ∀ self, W.Looks (model prog w) h (bindSpecial (.ref fI) self) (.ref fI, [self])) (few : rest.length ≤ sizeLine)
    (fin : codeAny (model prog w) A (.call (.ref fI) ⟨.ref (h.objs.size + 1) :: rest, kw⟩)
      (fun r s' => match r with | .ok (.ret v) => v = .none ∧ Q (.done (.ret (.ref (h.objs.size + 1)))) s' | .ok _ => False | .error e => E e s')
      ⟨(h.push (kdv_tup rest)).push (excO C h.objs.size), g, d, t, os⟩) :
    wpAny (model prog w) A (Builtin.«type.__call__» ⟨.ref C :: rest, kw⟩) Q E ⟨h, g, d, t, os⟩ := by
  repeat (first | with_reducible refine wpAny_madeBy_exc atC ?_ | with_reducible refine wpAny_loadPart_at atC ?_ | wp_step)
  refine codeAny_call_builtin_code (Code.quiet_builtin _ FB.quiet) (look_new FB same atC (make_new FB same atC ?_ few))
  show wpAny _ _ _ _ _ _
  have up : ∀ b o, h.get? b = some o → ((h.push (kdv_tup rest)).push (excO C h.objs.size)).get? b = some o := fun b o z => Heap.get?_push_of_some _ (Heap.get?_push_of_some _ z)
  have atC' := up _ _ atC
  have atE : ((h.push (kdv_tup rest)).push (excO C h.objs.size)).get? (h.objs.size + 1) = some (excO C h.objs.size) := by heap_get
  have own : (Value.ref C :: bm).contains (.ref C) = true := by simp
  have ini' := ini.keeps up
  have bnd' := (bnd (.ref (h.objs.size + 1))).keeps up
  unfold isInstance
  repeat (first | (with_reducible refine wpAny_isSubtype_exc atC' ?_; rw [own]) | with_reducible refine wpAny_loadPart_at atE ?_ | wp_step)
  show wpAny _ _ (typeLookup (.ref C) _) _ _ _
  refine ini'.at (wpAny_holding (wpAny_bind (bnd'.at (wpAny_bind (wpAny_call (codeAny_mono fin fun res s' z => ?_))))))
  rcases res with er | (v | _ | _ | _)
  · exact z
  all_goals first | exact z.elim | skip
  obtain ⟨rfl, z⟩ := z
  first
    | exact wpAny_pure (wpAny_pure z)
    | (wp_walk; exact z)
theorem call_cls {kw : List (Str × Value)} {rest : List Value} {fI : Addr} (atC : h.get? C = some (excClassObj nm q C N bs bm hdct sn sub ab col dd k0 k1 k2 k3 k5 newId))
    (ini : W.Looks (model prog w) h (typeLookup (.ref C) "__init__") (some (.ref fI))) (bnd : ∀ self, W.Looks (model prog w) h (bindSpecial (.ref fI) self) (.ref fI, [self])) (few : rest.length ≤ sizeLine)
    (fin : codeAny (model prog w) (A.under (.builtin "type.__call__" ⟨.ref C :: rest, kw⟩)) (.call (.ref fI) ⟨.ref (h.objs.size + 1) :: rest, kw⟩) (W.InitBack (h.objs.size + 1) R)
      ⟨(h.push (kdv_tup rest)).push (excO C h.objs.size), g, d, t, os⟩) :
    codeAny (model prog w) A (.call (.ref C) ⟨rest, kw⟩) R ⟨h, g, d, t, os⟩ := by
  have l1 := tc_lookup
  have l2 := tc_bind (.ref C)
  have tyC : (⟨h, g, d, t, os⟩ : Shared).TypeIs (.ref C) "type" := ⟨_, atC, rfl⟩
  refine codeAny_of_tree ?_
  show wpAny _ _ (callAny (.ref C) _) _ _ _
  repeat (any_goals (first | assumption | with_reducible refine wpAny_loadPart_at atC ?_ | wp_step))
  refine ⟨rfl, codeAny_call_builtin_at (Code.quiet_builtin _ (by decide +kernel)) entry_typeCall (look_call atC (type_made FB same atC ini bnd few (codeAny_mono fin fun res s' z => ?_)))⟩
  rcases res with er | (v | _ | _ | _)
  all_goals exact z
/-- the base's own __init__: the arguments are laid anew -/
theorem base_init {e t0 : Addr} {rest : List Value} (atC : h.get? C = some (excClassObj nm q C N bs bm hdct sn sub ab col dd k0 k1 k2 k3 k5 newId)) (atE : h.get? e = some (excO C t0)) (few : rest.length ≤ sizeLine)
    (fin : ∀ h', (∀ b o, b ≠ e → h.get? b = some o → h'.get? b = some o) → h'.get? h.objs.size = some (kdv_tup rest) → h'.get? e = some (excO C h.objs.size) → R (.ok (.ret .none)) ⟨h', g, d, t, os⟩) :
    codeAny (model prog w) A (.call (.builtin initId) ⟨.ref e :: rest, []⟩) R ⟨h, g, d, t, os⟩ := by
  refine codeAny_call_builtin FB.init.plain FB.initEntry (check_init_own FB same atC atE rfl ?_)
  wp_walk
  refine fin _ (fun b o ne z => ?_) ?_ ?_
  · exact (Heap.get?_update_other _ _ (Ne.symm ne)).trans (Heap.get?_push_of_some _ z)
  · exact (Heap.get?_update_other _ _ (Nat.ne_of_lt (Heap.lt_size atE))).trans (Heap.get?_push_size _ rfl)
  · rw [Heap.get?_update_self _ (Heap.get?_push_of_some _ atE) rfl]
    rfl
end
end VX
end PySem

namespace PySem
namespace VX
open PySem.W PySem.Calls PyProof.Rows PySem.HandSPX Builtin Builtin.ObjectAttr
section
variable {prog : Program} {w : World} {A : Around} {E : Value → Shared → Prop} {R : Result → Shared → Prop} {hp : Heap} {g : Array GenState} {d : Drawn} {t : Nat} {os : OsState}
/-- the first field of an exception of an own class -/
theorem put_first {K : W.Frag} {B : String} {bmB : List Value} {name : Str} {tk : Tok} {v : Value} {x C : Addr} {fv : Array Value} {cd : ClassData} (SF : StoreFacts B bmB "object.__setattr__" "object")
    (X : K.In hp) (atX : hp.get? x = some { cls := .ref C, data := .fields fv }) (hcd : W.clsIn K C = some cd) (hasD : cd.hasDict = true) (over : W.excOver K C bmB = true) (tkr : W.takerIn K C name = some none)
    (fin : ∀ h' tk' dx, (∀ b o, b ≠ x → hp.get? b = some o → h'.get? b = some o) → hp.objs.size ≤ dx → dx ≠ x → h'.get? x = some { cls := .ref C, dict := some dx, data := .fields fv } →
      h'.Ns1 dx (fun y => if y = name then some v else none) → R (.ok (.ret .none)) ⟨h', g, d, tk', os⟩) :
    codeAny (model prog w) A (.call (.builtin "object.__setattr__") ⟨[.ref x, .str name tk, v], []⟩) R ⟨hp, g, d, t, os⟩ := by
  have ne : x ≠ hp.objs.size := Nat.ne_of_lt (Heap.lt_size atX)
  have lc : W.Looks (model prog w) hp (classData C) cd := W.looks_clsIn X hcd
  refine W.osa_openX (s := ⟨hp, g, d, t, os⟩) (od := none) SF X ⟨atX, rfl, rfl, trivial⟩ over tkr fun b => ?_
  obtain ⟨nm, bs, mro, ns, qn, hd, sn, sb, ab, col, del⟩ := cd
  dsimp only at hasD
  subst hasD
  show wpAny _ _ (storeInOwnDict (.ref x) (.ref C) (.str name tk) name v b) _ _ _
  unfold storeInOwnDict ownDictForStores
  repeat (first | with_reducible refine wpAny_loadPart_at atX ?_ | with_reducible refine store_in_new ?_ ?_ | with_reducible refine lc.at ?_ | wp_step)
  · exact ⟨_, #[], _, (Heap.get?_update_ne _ _ _ _ (Ne.symm ne)).trans (Heap.get?_push_at rfl rfl), rfl, fun e he => absurd he (by simp), fun _ => rfl⟩
  · intro h' tk' nsd but
    have atX2 : (hp.push { cls := .type "dict", data := .dict #[] }).get? x = some { cls := .ref C, data := .fields fv } := Heap.get?_push_of_some _ atX
    exact fin h' tk' hp.objs.size (fun b o nb z => (but.2 b (Nat.ne_of_lt (Heap.lt_size z))).trans ((Heap.get?_update_ne _ _ _ _ nb).trans (Heap.get?_push_of_some _ z))) (Nat.le_refl _) (Ne.symm ne) ((but.2 x ne).trans (Heap.get?_update_self _ atX2 rfl)) nsd
end
end VX
end PySem

/-! The value layer: exceptions that are made. -/
namespace VL
open PySem PySem.Spec PyProof.Rows L2 RZ RT

/-- an exception that is being made: no fields as yet, its arguments at t -/
def ExI (a C t : Addr) : HO := .ext fun h => h.get? a = some ({ cls := .ref C, data := .fields #[.ref t, .none, .none, .none, .bool false, .none] } : Obj)
theorem exI_ok {P : Program} {w : World} {H : Hp} {h : Heap} {a C t : Addr} (e : h.get? a = some ({ cls := .ref C, data := .fields #[.ref t, .none, .none, .none, .bool false, .none] } : Obj)) : ObjOk P w H h a (ExI a C t) := ⟨e, ⟨_, e⟩, fun h1 h2 z k => k _ z⟩
theorem exR_ok {P : Program} {w : World} {H : Hp} {h : Heap} {a C dx t : Addr} (e : h.get? a = some ({ cls := .ref C, dict := some dx, data := .fields #[.ref t, .none, .none, .none, .bool false, .none] } : Obj)) : ObjOk P w H h a (ExR a C dx t) := ⟨e, ⟨_, e⟩, fun h1 h2 z k => k _ z⟩
theorem ext_at {P : Program} {w : World} {H : Hp} {h : Heap} {a : Addr} {φ : Heap → Prop} (ok : HOk P w H h) (e : H a = some (.ext φ)) : φ h := by
  have x : ObjOk P w H h a (.ext φ) := ok a _ e
  exact x.1
section
variable {X : Cx} {pins : List (Addr × Obj)} {σ : L2.St} {H : Hp} {s : Shared} {a n : Addr} {h' : Heap} {φ ψ : Heap → Prop} {o2 : HO}
/-- one object told by a sentence is changed, one is new -/
theorem Inv.two {t' : Nat} (I : Inv X pins σ H s) (e : H a = some (.ext φ)) (kp : ∀ b o, b ≠ a → s.heap.get? b = some o → h'.get? b = some o) (big : s.heap.objs.size ≤ n) (okA : ObjOk X.prog X.w (upd (upd H n o2) a (.ext ψ)) h' a (.ext ψ))
    (okN : ObjOk X.prog X.w (upd (upd H n o2) a (.ext ψ)) h' n o2) : Inv X pins σ (upd (upd H n o2) a (.ext ψ)) { s with heap := h', toks := t' } := by
  have nn : H n = none := I.hok.fresh big
  have ab : ∀ {b : Addr} {u : HO}, H b = some u → u ≠ .ext φ → b ≠ a := fun {b u} hb d z => by
    rw [z, e] at hb
    exact d (Option.some.inj hb).symm
  have nb : ∀ {b : Addr} {o : Obj}, s.heap.get? b = some o → b ≠ n := fun {b o} q => Nat.ne_of_lt (Nat.lt_of_lt_of_le (Heap.lt_size q) big)
  have na : ∀ {b : Addr}, H b = none → b ≠ a := fun {b} z y => by
    rw [y, e] at z
    cases z
  have to : ∀ {b : Addr} {u : HO}, H b = some u → u ≠ .ext φ → upd (upd H n o2) a (.ext ψ) b = some u := fun {b u} hb d => by
    rw [upd_ne (ab hb d), upd_ne (ne_of_none hb nn)]
    exact hb
  have un : Un X.fs [] H (upd (upd H n o2) a (.ext ψ)) s.heap h' := {
    keep := fun b o q z _ _ => kp b o (na z) q
    slot := fun b o q z _ _ => ⟨o.slots, kp b o (na z) q⟩
    free := fun b o q z _ => by rw [upd_ne (na z), upd_ne (nb q)]; exact z
    there := fun b o q _ => by
      by_cases hb : b = a
      · obtain ⟨_, ⟨u, hu⟩, _⟩ := okA
        exact ⟨u, by rw [hb]; exact hu⟩
      · exact ⟨o, kp b o hb q⟩
    tups := fun b xs q => to q fun z => by (cases z)
    frzs := fun b o v q => to q fun z => by (cases z)
    tbls := fun b ps q => ⟨#[], by rw [to q fun z => by (cases z)]; simp⟩ }
  refine I.un un fun b u q => ?_
  by_cases hb : b = a
  · subst hb
    rw [upd_same] at q
    cases q
    exact okA
  · rw [upd_ne hb] at q
    by_cases hn : b = n
    · subst hn
      rw [upd_same] at q
      cases q
      exact okN
    · rw [upd_ne hn] at q
      refine (I.hok b u q).stay (fun c v hc z => kp c v ?_ z) (fun c hc => to hc fun z => by (cases z)) (fun c xs hc => to hc fun z => by (cases z))
      rcases hc with hc | hc
      · rw [hc]
        exact hb
      · exact ab hc fun z => by (cases z)
end
/-! ### the own __init__ -/
/-- what the written part says of a class -/
structure ExK (K : PySem.W.Frag) (C : Addr) (f : Str) (B newId initId : String) (bmB : List Value) : Prop where
  base : PySem.ExcBaseFacts B newId initId bmB
  store : StoreFacts B bmB "object.__setattr__" "object"
  ini : PySem.W.excInitIn K C bmB newId = true
  over : PySem.W.excOver K C bmB = true
  hasD : ∃ cd, PySem.W.clsIn K C = some cd ∧ cd.hasDict = true
  sa : PySem.W.findIn K (.ref C) "__setattr__" = some (some (.builtin "object.__setattr__"))
  no : PySem.W.findIn K (.ref C) f = some none
/-- B.__init__ as it is looked up -/
def MthB (X : Cx) (b : Str) (initId : String) : Prop := ∀ (pins : List (Addr × Obj)) (s : Shared) (σ : L2.St) (H : Hp) (Q : Value × List Value → Shared → Prop) (pl : Sem Bool) (p1 : Pos), Inv X pins σ H s → (∀ t, Q (.builtin initId, []) { s with toks := t }) →
  wpAny (model X.prog X.w) X.A (eval (.Name b p1) X.env) (fun ov s1 => wpAny (model X.prog X.w) X.A (getMethod ov "__init__" pl) Q X.xe s1) X.xe s
section
variable {X : Cx} {pins : List (Addr × Obj)} {σ : L2.St} {H : Hp} {s : Shared} {a C t : Addr} {f : Str} {B newId initId : String} {bmB : List Value}
theorem mthB_type {b : Str} {T : String} (hg : Gl X b) (hm : X.mg b = none) (hv : bootBuiltins b = some (.type T)) (ht : typeOf (.type T) = pure (.type "type")) (hs : Manifest.isStub T = false)
    (e : PySem.W.findCls X.K (.type T) (.type "type") "__init__" = some (.val (.builtin initId))) (hh : PySem.W.handedIn (.builtin initId) = true) (hn : b ≠ "__name__" := by decide) (hdb : (b == ("__debug__" : Str)) = false := by decide) : MthB X b initId := fun pins s σ H Q pl p1 I h => by
  refine ld_blt I hg hm hv ?_ hn hdb
  obtain ⟨m, fr⟩ := I.fr
  exact PySem.W.method_type fr I.ok.mod.kin ht hs e hh (h _)
theorem mthB_own {b : Str} {R : Addr} {mc : Value} (hg : Gl X b) (hm : X.mg b = some (.ref R)) (sp : PySem.W.specialIn X.K (.ref R) "__getattribute__" = some (some (.builtin "type.__getattribute__"))) (ty : PySem.W.typeIn X.K (.ref R) = some mc) (rd : PySem.W.readsIn X.K R mc = true)
    (e : PySem.W.findCls X.K (.ref R) mc "__init__" = some (.val (.builtin initId))) (hh : PySem.W.handedIn (.builtin initId) = true) (hdb : (b == ("__debug__" : Str)) = false := by decide) : MthB X b initId := fun pins s σ H Q pl p1 I h => by
  refine ld_glob I hg hm ?_ hdb
  obtain ⟨m, fr⟩ := I.fr
  exact PySem.W.method_of_cls fr I.ok.mod.kin sp (PySem.W.cls_val fr I.ok.mod.kin ty rd e hh (h _))
/-- the base's __init__ called -/
theorem step_init {u : Value} {m : Str} {t0 : Addr} {Q : Value → Shared → Prop} {E : Value → Shared → Prop} {A : Around} (T : ExK X.K C f B newId initId bmB) (I : Inv X pins σ H s) (e : H a = some (ExI a C t0)) (r : RelV (.str m) u)
    (h : ∀ t s', H t = none → Inv X pins σ (upd (upd H t (.tup [.str m])) a (ExI a C t)) s' → Q .none s') : wpAny (model X.prog X.w) A (call (.builtin initId) [.ref a, u]) Q E s := by
  obtain ⟨nm, N, qn, bs, bm, hdct, sn, sub, ab, col, dd, k0, k1, k2, k3, k5, atC, same⟩ := PySem.W.excInit_of I.kIn T.ini
  have he := ext_at I.hok e
  obtain ⟨hp, g, d, tk, os⟩ := s
  refine wpAny_call (PySem.VX.base_init T.base same atC he (by show 1 ≤ sizeLine; rw [sizeLine_eq]; decide) fun h' kp tup exA => ?_)
  refine h hp.objs.size _ (I.hok.fresh (Nat.le_refl _)) (Inv.two (t' := tk) I e kp (Nat.le_refl _) (exI_ok exA) ?_)
  exact ⟨by show 1 ≤ sizeLine; rw [sizeLine_eq]; decide, [u], .cons r .nil, ⟨_, tup, rfl, _, rfl⟩⟩
/-- the field is stored -/
theorem step_store {u : Value} {y : V} {Q : Unit → Shared → Prop} {E : Value → Shared → Prop} {A : Around} (T : ExK X.K C f B newId initId bmB) (I : Inv X pins σ H s) (e : H a = some (ExI a C t)) (r : RelV y u)
    (h : ∀ dx s', H dx = none → dx ≠ a → Inv X pins σ (upd (upd H dx (.xd [(f, y)])) a (ExR a C dx t)) s' → Q () s') : wpAny (model X.prog X.w) A (setAttr (.ref a) f u) Q E s := by
  obtain ⟨cd, hcd, hh⟩ := T.hasD
  have he := ext_at I.hok e
  obtain ⟨hp, g, d, tk, os⟩ := s
  refine PySem.W.set_plain I.kIn (ox := { cls := .ref C, data := .fields #[.ref t, .none, .none, .none, .bool false, .none] }) (od := none) ⟨he, rfl, rfl, trivial⟩ T.sa ?_
  refine PySem.VX.put_first T.store I.kIn he hcd hh T.over (by unfold PySem.W.takerIn; rw [T.no]; rfl) fun h' tk' dx kp big ne exA nsd => ?_
  refine h dx _ (I.hok.fresh big) ne (Inv.two (t' := tk') I e kp big (exR_ok exA) ?_)
  exact ⟨_, nsd, relO_put (fs := []) r fun g => True.intro⟩
end
end VL

/-! The value layer: an own exception class's __init__, and C(..) as a value. -/
namespace VL
open PySem PySem.Spec PyProof.Rows L2 RZ RT

/-- __init__(self, y): the base's __init__ with the text m, then self.f = y -/
def spInit (K : PySem.W.Frag) (C : Addr) (f m : Str) : Sp := fun vs H Q _ => ∃ (a : Addr) (y : V) (t0 : Addr), vs = [.ref a, y] ∧ H a = some (ExI a C t0) ∧
  ∀ t dx, H t = none → t ≠ a → H dx = none → dx ≠ a → dx ≠ t → Q .non (upd (upd (upd H t (.tup [.str m])) dx (.xd [(f, y)])) a (ExR a C dx t))
section
variable {X : Cx} {C : Addr} {f m b : Str} {B newId initId : String} {bmB : List Value} {x0 x1 : Str} {p p1 p2 p3 p4 pos : Pos} {j : Nat}
theorem ps_binit (M : MthB X b initId) (T : ExK X.K C f B newId initId bmB) (h0 : X.N[0]? = some x0) (v0 : Vis X.env.scope x0) (hd : (x0 == ("__debug__" : Str)) = false := by decide) (hcd : (x0 == ("__classdict__" : Str)) = false := by decide)
    (hc : ∃ pl, eval (.Call (.Attribute (.Name b p1) "__init__" p2) [.Name x0 p3, .Constant (.str m) j p4] [] pos) X.env = (do
      let ov ← eval (.Name b p1) X.env
      standAt p2.atName
      let (f, first) ← holding [ov] (getMethod ov "__init__" pl)
      callWith pos f first (backTo pos (starEach [.Name x0 p3, .Constant (.str m) j p4] X.env)) (backToKw pos (keywordEach [] X.env))) := by exact ⟨_, rfl⟩)
    (he : starEach [.Name x0 p3, .Constant (.str m) j p4] X.env = (false, eval (.Name x0 p3) X.env) :: starEach [.Constant (.str m) j p4] X.env := by rfl)
    (he2 : starEach [.Constant (.str m) j p4] X.env = (false, eval (.Constant (.str m) j p4) X.env) :: starEach [] X.env := by rfl) (hpl : (backTo pos (starEach [.Constant (.str m) j p4] X.env)).any (·.1) = false := by rfl)
    (hsw : swapsWith (.Call (.Attribute (.Name b p1) "__init__" p2) [.Name x0 p3, .Constant (.str m) j p4] [] pos) none p.line X.env = pure false := by rfl) :
    PS X (.Expr (.Call (.Attribute (.Name b p1) "__init__" p2) [.Name x0 p3, .Constant (.str m) j p4] [] pos) p) (fun D σ H => ∃ a t0, σ[0]? = some (some (.ref a)) ∧ H a = some (ExI a C t0) ∧ ∀ t, H t = none → D.nx σ (upd (upd H t (.tup [.str m])) a (ExI a C t))) := by
  have pe : PE X (.Call (.Attribute (.Name b p1) "__init__" p2) [.Name x0 p3, .Constant (.str m) j p4] [] pos) (fun σ H Q => ∃ a t0, σ[0]? = some (some (.ref a)) ∧ H a = some (ExI a C t0) ∧ ∀ t, H t = none → Q .non (upd (upd H t (.tup [.str m])) a (ExI a C t))) := by
    refine ⟨fun pins s σ H Q I ⟨a, t0, e0, ea, q⟩ => ?_⟩
    obtain ⟨pl, hc⟩ := hc
    have ha := pa_cons (pe_var h0 v0 hd hcd) (pa_cons (pe_str (X := X) (x := m) (j := j) (pos := p4)) pa_nil he2) he
    refine PySem.W.methodCall_KW (M pins s σ H _ pl p1 I fun t => ?_) hc
    refine PyProof.Rows.callWith_method1 (thn (ha.run pos pins _ σ H (fun vs H1 => vs = [.ref a, .str m] ∧ H1 = H) (I.tok _) ⟨_, e0, rfl, rfl⟩) fun us s1 ⟨vs, H1, I1, r1, e1, e2⟩ => ?_) he hpl
    subst e1 e2
    obtain ⟨u0, u1, rfl, r0, rm⟩ := r1.two
    obtain rfl : u0 = Value.ref a := r0
    exact step_init T I1 ea rm fun t s' ht J => ⟨.non, _, J, rfl, q t ht⟩
  exact PS.imp (ps_expr pe hsw) fun D σ H h => h
theorem ps_bstore (T : ExK X.K C f B newId initId bmB) (h0 : X.N[0]? = some x0) (v0 : Vis X.env.scope x0) (h1 : X.N[1]? = some x1) (v1 : Vis X.env.scope x1) (hd : (x0 == ("__debug__" : Str)) = false := by decide) (hcd : (x0 == ("__classdict__" : Str)) = false := by decide)
    (hd1 : (x1 == ("__debug__" : Str)) = false := by decide) (hcd1 : (x1 == ("__classdict__" : Str)) = false := by decide) (hs : swapsWith (.Name x1 p1) (some (.Attribute (.Name x0 p2) f p3)) pos.line X.env = pure false := by rfl) :
    PS X (.Assign [.Attribute (.Name x0 p2) f p3] (.Name x1 p1) pos) (fun D σ H => ∃ a y t, σ[0]? = some (some (.ref a)) ∧ σ[1]? = some (some y) ∧ H a = some (ExI a C t) ∧ ∀ dx, H dx = none → dx ≠ a → D.nx σ (upd (upd H dx (.xd [(f, y)])) a (ExR a C dx t))) := by
  refine ⟨fun pins s σ H D I ⟨a, y, t, e0, e1, ea, q⟩ => ?_⟩
  refine plainObj_wpAny_Assign_Attribute (thn ((pe_var h1 v1 hd1 hcd1).run pins s σ H (fun v H1 => v = y ∧ H1 = H) I ⟨_, e1, rfl, rfl⟩) fun v s1 ⟨y', H1, I1, r1, z1, z2⟩ => thn ((pe_var h0 v0 hd hcd).run pins s1 σ H1 (fun v H2 => v = .ref a ∧ H2 = H) I1 ⟨_, e0, rfl, z2⟩) fun u s2 ⟨x', H2, I2, r2, z3, z4⟩ => ?_) hs
  subst z1 z2 z3 z4
  obtain rfl : u = Value.ref a := r2
  exact step_store T I2 ea r1 fun dx s' n ne J => ⟨σ, _, J, q dx n ne⟩
end
section
variable {P : Program} {w : World} {K : PySem.W.Frag} {mg : Str → Option Value} {base : Heap} {CX : CXT} {qual : Str} {params : Arguments} {scope : Scope} {dvs : List V} {kws : List (Str × V)} {fI : Addr} {fd : FuncData} {k : Nat} {C : Addr} {f m b : Str} {B newId initId : String} {bmB : List Value} {p p1 p2 p3 p4 p5 p6 p7 pos pos2 : Pos} {j : Nat}
theorem upd_upd_same {H : Hp} {a : Addr} {o o' : HO} : upd (upd H a o) a o' = upd H a o' := by
  funext c
  by_cases h : c = a
  · rw [h, upd_same, upd_same]
  · rw [upd_ne h, upd_ne h, upd_ne h]
theorem upd_comm' {H : Hp} {a c : Addr} {o o' : HO} (h : a ≠ c) : upd (upd H a o) c o' = upd (upd H c o') a o := by
  funext x
  by_cases h1 : x = c
  · subst h1
    rw [upd_same, upd_ne (Ne.symm h), upd_same]
  · rw [upd_ne h1]
    by_cases h2 : x = a
    · subst h2
      rw [upd_same, upd_same]
    · rw [upd_ne h2, upd_ne h2, upd_ne h1]
theorem init_ok (F : FunD K "__init__" qual params [.Expr (.Call (.Attribute (.Name b p1) "__init__" p2) [.Name "self" p3, .Constant (.str m) j p4] [] pos) p, .Assign [.Attribute (.Name "self" p5) f p6] (.Name f p7) pos2] scope dvs kws fI fd)
    (S : FnScope ["self", f] ["self", f] scope) (T : ExK K C f B newId initId bmB) (M : ∀ (X : Cx), X.K = K → X.mg = mg → X.env.scope = scope → X.env.globals = mainGlobals → MthB X b initId)
    (hc : ∀ env : PySem.Env, ∃ pl, eval (.Call (.Attribute (.Name b p1) "__init__" p2) [.Name "self" p3, .Constant (.str m) j p4] [] pos) env = (do
      let ov ← eval (.Name b p1) env
      standAt p2.atName
      let (f, first) ← holding [ov] (getMethod ov "__init__" pl)
      callWith pos f first (backTo pos (starEach [.Name "self" p3, .Constant (.str m) j p4] env)) (backToKw pos (keywordEach [] env)))) (v0 : Vis scope "self") (v1 : Vis scope f) (hd1 : (f == ("__debug__" : Str)) = false) (hcd1 : (f == ("__classdict__" : Str)) = false) :
    FnOk P w K mg base CX (k + 1) fI fd ["self", f] (spInit K C f m) := by
  refine F.ok S (fun vs H Q E ⟨a, y, t0, e, _⟩ => by rw [e]; rfl) fun cdv A outer s H vs Q E hr ⟨a, y, t0, e, ea, q⟩ => ?_
  subst e
  refine ⟨_, pss_cons (ps_binit (M _ rfl rfl rfl rfl) T rfl v0 (by decide) (by decide) (hc _)) (pss_cons (ps_bstore T rfl v0 rfl v1 (by decide) (by decide) hd1 hcd1) pss_nil), ?_⟩
  refine ⟨a, t0, rfl, ea, fun t ht => ⟨a, y, t, rfl, rfl, upd_same, fun dx hdx ne => ?_⟩⟩
  have ta : t ≠ a := fun z => by
    rw [z, ea] at ht
    cases ht
  have hdx' : dx ≠ t ∧ H dx = none := by
    rw [upd_ne ne] at hdx
    by_cases z : dx = t
    · rw [z, upd_same] at hdx
      cases hdx
    · rw [upd_ne z] at hdx
      exact ⟨z, hdx⟩
  have h := q t dx ht ta hdx'.2 ne hdx'.1
  have e2 : upd (upd (upd (upd H t (.tup [.str m])) a (ExI a C t)) dx (.xd [(f, y)])) a (ExR a C dx t) = upd (upd (upd H t (.tup [.str m])) dx (.xd [(f, y)])) a (ExR a C dx t) := by
    rw [upd_comm' (Ne.symm ne), upd_upd_same]
  show Q .non (upd (upd (upd (upd H t (.tup [.str m])) a (ExI a C t)) dx (.xd [(f, y)])) a (ExR a C dx t))
  rw [e2]
  exact h
end
end VL

/-! The value layer: C(..) as a value. -/
namespace VL
open PySem PySem.Spec PyProof.Rows L2 RZ RT

/-- the heap with a new exception -/
abbrev excH (H : Hp) (C a t dx : Addr) (f m : Str) (y : V) : Hp := upd (upd (upd H t (.tup [.str m])) dx (.xd [(f, y)])) a (ExR a C dx t)
def MkQ (H : Hp) (C : Addr) (f m : Str) (y : V) (Q : VK) : Prop := ∀ a t dx, H a = none → H t = none → H dx = none → t ≠ a → dx ≠ a → dx ≠ t → Q (.ref a) (excH H C a t dx f m y)
section
variable {X : Cx} {pins : List (Addr × Obj)} {σ : L2.St} {H : Hp} {s : Shared} {C fI : Addr} {f m : Str} {B newId initId : String} {bmB : List Value} {k : Nat} {fd : FuncData}
theorem run_mk {us : List Value} {kw : List (Str × Value)} {uy : Value} {y : V} {Q : VK} (I : Inv X pins σ H s) (T : ExK X.K C f B newId initId bmB) (iC : PySem.W.findIn X.K (.ref C) "__init__" = some (some (.ref fI))) (tI : PySem.W.typeIn X.K (.ref fI) = some (.type "function"))
    (F : FnOk X.prog X.w X.K X.mg X.base (L2.CX X.prog X.w) k fI fd ["self", f] (spInit X.K C f m)) (hr : Room (k + 1) X.A) (few : us.length ≤ 1000) (bnd : ∀ (self : Value) (s2 : Shared), X.K.In s2.heap → BindsTo s2 fd ⟨self :: us, kw⟩ ((["self", f] : List Str).zip [self, uy])) (ry : RelV y uy)
    (q : MkQ H C f m y Q) : wpAny (model X.prog X.w) X.A (call (.ref C) us kw) (EP X pins σ Q) X.xe s := by
  obtain ⟨nm, N, qn, bs, bm, hdct, sn, sub, ab, col, dd, k0, k1, k2, k3, k5, atC, same⟩ := PySem.W.excInit_of I.kIn T.ini
  have kI := I.kIn
  obtain ⟨hp, g, dr, tk, os⟩ := s
  have big : hp.objs.size ≤ hp.objs.size + 1 := Nat.le_succ _
  have hn : H (hp.objs.size + 1) = none := I.hok.fresh big
  have kk : ∀ b o, hp.get? b = some o → ((hp.push (PySem.W.kdv_tup us)).push (PySem.HandSPX.excO C hp.objs.size)).get? b = some o := fun b o e => Heap.get?_push_of_some _ (Heap.get?_push_of_some _ e)
  have exA : ((hp.push (PySem.W.kdv_tup us)).push (PySem.HandSPX.excO C hp.objs.size)).get? (hp.objs.size + 1) = some (PySem.HandSPX.excO C hp.objs.size) := by heap_get
  have I2 : Inv X pins σ (upd H (hp.objs.size + 1) (ExI (hp.objs.size + 1) C hp.objs.size)) ⟨(hp.push (PySem.W.kdv_tup us)).push (PySem.HandSPX.excO C hp.objs.size), g, dr, tk, os⟩ := I.laid (t' := tk) kk big (exI_ok exA)
  have hq : spInit X.K C f m [.ref (hp.objs.size + 1), y] (upd H (hp.objs.size + 1) (ExI (hp.objs.size + 1) C hp.objs.size)) (fun v H2 => v = .non ∧ Q (.ref (hp.objs.size + 1)) H2) (fun _ _ _ => False) := by
    refine ⟨_, y, _, rfl, upd_same, fun t dx ht ta hdx da dt => ⟨rfl, ?_⟩⟩
    rw [upd_ne ta] at ht
    rw [upd_ne da] at hdx
    have e : upd (upd (upd (upd H (hp.objs.size + 1) (ExI (hp.objs.size + 1) C hp.objs.size)) t (.tup [.str m])) dx (.xd [(f, y)])) (hp.objs.size + 1) (ExR (hp.objs.size + 1) C dx t) = excH H C (hp.objs.size + 1) t dx f m y := by
      rw [upd_comm' (Ne.symm ta), upd_comm' (Ne.symm da), upd_upd_same]
    rw [e]
    exact q _ t dx hn ht hdx ta da dt
  refine wpAny_call (PySem.VX.call_cls T.base same atC (PySem.W.looks_findIn kI iC) (fun self => PySem.W.bind_fn kI self tI) (by rw [sizeLine_eq]; omega)
    (codeAny_mono (F.run _ X.stack _ _ ⟨.ref (hp.objs.size + 1) :: us, kw⟩ [.ref (hp.objs.size + 1), uy] [.ref (hp.objs.size + 1), y] _ _ (hr.make C us kw) (I2.env0.make C us kw) (bnd _ _ I2.kIn) (.cons rfl (.cons ry .nil)) hq) fun r s' z => ?_))
  cases r with
  | error e =>
    obtain ⟨_, _, _, _, _, _, _, _, _, _, _, _, z⟩ := z
    exact z.elim
  | ok fl =>
    cases fl with
    | ret u =>
      obtain ⟨v, H2, os2, bare2, un2, hok2, rv, rfl, q2⟩ := z
      obtain ⟨v', H3, J, rv', e3, q3⟩ := I2.after (Q := fun v H2 => v = .non ∧ Q (.ref (hp.objs.size + 1)) H2) ⟨V.non, H2, os2, bare2, un2, hok2, rv, rfl, q2⟩
      exact ⟨rv, .ref (hp.objs.size + 1), H3, J, rfl, q3⟩
    | next => exact z.elim
    | brk => exact z.elim
    | cont => exact z.elim
end
/-- all that the making of an exception of a class needs -/
structure MkC (X : Cx) (c : Cl) : Prop where
  ex : ∃ (B newId initId : String) (bmB : List Value) (fI : Addr) (fd : FuncData) (k : Nat), ExK X.K (c.ad X.K) c.fld B newId initId bmB ∧ PySem.W.findIn X.K (.ref (c.ad X.K)) "__init__" = some (some (.ref fI)) ∧ PySem.W.typeIn X.K (.ref fI) = some (.type "function") ∧
    FnOk X.prog X.w X.K X.mg X.base (L2.CX X.prog X.w) k fI fd ["self", c.fld] (spInit X.K (c.ad X.K) c.fld c.msg) ∧ Room (k + 1) X.A ∧ Gl X c.nm ∧ X.mg c.nm = some (.ref (c.ad X.K)) ∧ PySem.W.keepIn X.K (.ref (c.ad X.K)) = true ∧ (c.nm == ("__debug__" : Str)) = false ∧
    (∀ (self u : Value) (s2 : Shared), X.K.In s2.heap → BindsTo s2 fd ⟨[self, u], []⟩ ((["self", c.fld] : List Str).zip [self, u])) ∧
    (∀ (self u : Value) (s2 : Shared), X.K.In s2.heap → BindsTo s2 fd ⟨[self], [(c.fld, u)]⟩ ((["self", c.fld] : List Str).zip [self, u])) ∧
    (c ≠ .TooMany → ∀ (self : Value) (s2 : Shared), X.K.In s2.heap → BindsTo s2 fd ⟨[self], []⟩ ((["self", c.fld] : List Str).zip [self, .none]))
def eExc (c : Cl) (f : EF) : EF := fun E => (f E).bind fun p => match p.1.d? with
  | some d => .ok (.dat (.exc c true d), p.2)
  | none => .bad
section
variable {K : PySem.W.Frag} {G : Gh} {Fz : Addr → Prop} {H : Hp} {E : Env} {σ : L2.St}
/-- fresh things are frozen -/
theorem OK.freezeNew {ns : List Addr} {H' : Hp} (k : OK K G Fz H E σ) (fr : ∀ a ∈ ns, H a = none) (up : ∀ b o, H b = some o → H' b = some o) (nw : ∀ a ∈ ns, ∃ o, H' a = some o ∧ ∀ ps, o ≠ .tbl ps) : OK K G (fun a => Fz a ∨ a ∈ ns) H' E σ := by
  have g := k.gd.ext (H' := H') fun a o e _ => up a o e
  refine ⟨g.freeze (fun a z => .inl z) fun a z => z.elim .inl fun hm => .inr ⟨fun p hp e => ?_, nw a hm, ?_⟩, k.lv⟩
  · have r := k.gd.rs p hp
    have hn := fr a hm
    obtain ⟨s, o⟩ := p
    cases s with
    | no => cases e
    | dat d => cases e
    | lk ds => cases e
    | ol ds =>
      obtain ⟨b, vs, e2, hb, _⟩ := r
      subst e2
      cases e
      rw [hb] at hn
      cases hn
    | od t ds =>
      obtain ⟨b, vs, e2, hb, _⟩ := r
      subst e2
      cases e
      rw [hb] at hn
      cases hn
  · by_cases hi : a ∈ G.io
    · exact .inl hi
    · refine .inr fun o e => Classical.byContradiction fun n => ?_
      have z := k.gd.frm a o e hi fun ps q => n ⟨ps, q⟩
      rw [fr a hm] at z
      cases z
theorem OK.newX {c : Cl} {d : D} {y : V} {a t dx : Addr} (k : OK K (G.p (.dat d) y) Fz H E σ) (ha : H a = none) (ht : H t = none) (hdx : H dx = none) (ta : t ≠ a) (da : dx ≠ a) (dt : dx ≠ t) :
    ∃ Fz', OK K (G.p (.dat (.exc c true d)) (.ref a)) Fz' (excH H (c.ad K) a t dx c.fld c.msg y) E σ := by
  have up : ∀ b o, H b = some o → excH H (c.ad K) a t dx c.fld c.msg y b = some o := fun b o e => by
    unfold excH
    rw [upd_ne (ne_of_none e ha), upd_ne (ne_of_none e hdx), upd_ne (ne_of_none e ht)]
    exact e
  have eA : excH H (c.ad K) a t dx c.fld c.msg y a = some (ExR a (c.ad K) dx t) := upd_same
  have eX : excH H (c.ad K) a t dx c.fld c.msg y dx = some (exd0 c y) := by unfold excH; rw [upd_ne da, upd_same]; rfl
  have eT : excH H (c.ad K) a t dx c.fld c.msg y t = some (.tup [.str c.msg]) := by unfold excH; rw [upd_ne ta, upd_ne (Ne.symm dt), upd_same]
  have k2 := k.freezeNew (ns := [a, dx, t]) (H' := excH H (c.ad K) a t dx c.fld c.msg y) (fun b hb => by
      rcases List.mem_cons.mp hb with z | z
      · rw [z]; exact ha
      · rcases List.mem_cons.mp z with z | z
        · rw [z]; exact hdx
        · rw [List.mem_singleton.mp z]; exact ht) up (fun b hb => by
      rcases List.mem_cons.mp hb with z | z
      · rw [z]; exact ⟨_, eA, fun ps q => by cases q⟩
      · rcases List.mem_cons.mp z with z | z
        · rw [z]; exact ⟨_, eX, fun ps q => by cases q⟩
        · rw [List.mem_singleton.mp z]; exact ⟨_, eT, fun ps q => by cases q⟩)
  refine ⟨_, k2.pop.dat ⟨a, dx, y, rfl, .inr (by simp), .inr (by simp), eX, k2.datI, ?_⟩⟩
  rw [if_pos rfl]
  exact ⟨t, .inr (by simp), eT, eA⟩
end
section
variable {X : Cx} {W : WX} {c : Cl} {nm kn : Str} {p pos kpos : Pos} {e : Expr} {f : EF}
theorem eExc_of {G : Gh} {E : Env} {Fz : Addr → Prop} {H : Hp} {σ : L2.St} {Q : VK} (k : OK X.K G Fz H E σ) (h : EndE W X.K G σ Q (eExc c f E)) : tE W X.K f σ H (fun y H1 => MkQ H1 (c.ad X.K) c.fld c.msg y Q) := by
  refine tE_mono (tE_of k (EndE.bind h)) fun v H1 ⟨r, E1, Fz1, k1, h1⟩ a t dx ha ht hdx ta da dt => ?_
  dsimp only at h1
  cases hd : r.d? with
  | none => rw [hd] at h1; exact h1.elim
  | some d =>
    rw [hd] at h1
    obtain ⟨Fz2, k2⟩ := k1.d1 hd
    obtain ⟨Fz3, k3⟩ := k2.newX (c := c) ha ht hdx ta da dt
    exact h1 _ _ _ k3
theorem se_mk (M : MkC X c) (he : SE X W e f) (hn : c.nm = nm := by rfl) (hs : starEach [e] X.env = (false, eval e X.env) :: starEach [] X.env := by rfl) : SE X W (.Call (.Name nm p) [e] [] pos) (eExc c f) := by
  subst hn
  obtain ⟨B, newId, initId, bmB, fI, fd, k, T, iC, tI, F, hr, hg, hm, kp, hdb, b1, bK, b0⟩ := M.ex
  refine ⟨fun pins s σ H Q I ⟨G, E, Fz, kk, h⟩ => wpAny_Call_Name_kw (ld_glob I hg hm ?_ hdb)⟩
  refine PySem.W.callWith_K (h₀ := X.base) I.ok.mod.kin kp (thn ((pa_cons he pa_nil hs).run pos pins s σ H (fun vs H1 => ∃ y, vs = [y] ∧ MkQ H1 (c.ad X.K) c.fld c.msg y Q) I ?_) fun us s1 ⟨vs, H1, I1, r, y, ey, q⟩ => ⟨I1.kIn, ?_⟩) hs
  · exact tE_mono (eExc_of kk h) fun y H1 q => ⟨y, rfl, q⟩
  · subst ey
    obtain ⟨u, rfl, ru⟩ := r.one
    exact run_mk I1 T iC tI F hr (by simp) (fun self s2 K2 => b1 self u s2 K2) ru q
theorem se_mkK (M : MkC X c) (he : SE X W e f) (hn : c.nm = nm := by rfl) (hk : c.fld = kn := by rfl) (hall : (backToKw pos (keywordEach [⟨some kn, e, kpos⟩] X.env)).all (·.1.isSome) = true := by rfl) (hks : (backToKw pos (keywordEach [⟨some kn, e, kpos⟩] X.env)).filterMap (·.1) = [kn] := by rfl)
    (hpl : ((backTo pos (starEach [] X.env)).any (·.1) || (backToKw pos (keywordEach [⟨some kn, e, kpos⟩] X.env)).any (·.1.isNone)) = false := by rfl) : SE X W (.Call (.Name nm p) [] [⟨some kn, e, kpos⟩] pos) (eExc c f) := by
  subst hn hk
  obtain ⟨B, newId, initId, bmB, fI, fd, k, T, iC, tI, F, hr, hg, hm, kp, hdb, b1, bK, b0⟩ := M.ex
  refine ⟨fun pins s σ H Q I ⟨G, E, Fz, kk, h⟩ => wpAny_Call_Name_kw (ld_glob I hg hm ?_ hdb)⟩
  refine PySem.W.callWith_KW0 (h₀ := X.base) I.ok.mod.kin kp hall (thn ((pk_cons he pk_nil).run pos pins s σ H (fun vs H1 => ∃ y, vs = [y] ∧ MkQ H1 (c.ad X.K) c.fld c.msg y Q) I ?_) fun us s1 ⟨vs, H1, I1, r, y, ey, q⟩ => ⟨I1.kIn, ?_⟩) hpl
  · exact tE_mono (eExc_of kk h) fun y H1 q => ⟨y, rfl, q⟩
  · subst ey
    obtain ⟨u, rfl, ru⟩ := r.one
    rw [hks]
    exact run_mk I1 T iC tI F hr (by decide) (fun self s2 K2 => bK self u s2 K2) ru q
theorem se_mk0 (M : MkC X c) (hn : c.nm = nm := by rfl) (hT : c ≠ .TooMany := by decide) : SE X W (.Call (.Name nm p) [] [] pos) (eExc c (eC .non)) := by
  subst hn
  obtain ⟨B, newId, initId, bmB, fI, fd, k, T, iC, tI, F, hr, hg, hm, kp, hdb, b1, bK, b0⟩ := M.ex
  refine ⟨fun pins s σ H Q I ⟨G, E, Fz, kk, h⟩ => wpAny_Call_Name_kw (ld_glob I hg hm ?_ hdb)⟩
  have q : MkQ H (c.ad X.K) c.fld c.msg .non Q := by
    obtain ⟨G0, E0, Fz0, k0, h0⟩ : tE W X.K (eC .non) σ H (fun y H1 => MkQ H1 (c.ad X.K) c.fld c.msg y Q) := eExc_of kk h
    exact h0 .non H Fz0 (k0.dat rfl)
  exact PySem.W.callWith_K0 I.kIn kp (run_mk (y := .non) I T iC tI F hr (by decide) (fun self s2 K2 => b0 hT self s2 K2) rfl q)
end
end VL

/-! isinstance of an exception that has fields. -/
namespace PySem.VX
open PySem PySem.Spec PySem.Calls PyProof.Rows PySem.W
section
variable {prog : Program} {w : World} {A : Around} {E : Value → Shared → Prop} {s : Shared} {K : Frag} {x C : Addr} {ox : Obj} {od : Option Obj}
/-- what a class must say, so that its instances tell their class rightly -/
structure TellsC (K : Frag) (C : Addr) : Prop where
  ga : findIn K (.ref C) "__getattribute__" = some (some (.builtin "BaseException.__getattribute__"))
  gt : findIn K (.ref C) "__getattr__" = some none
  su : subIn K (.ref C) (.type "BaseException") = some true
  di : hasDictIn K C = true
  cl : findIn K (.ref C) "__class__" = some (some (.builtin "object.__class__"))
  sg : specialIn K (.builtin "object.__class__") "__get__" = some (some (.builtin "getset_descriptor.__get__"))
  tk : takesIn K (.builtin "object.__class__") = some true
  mo : mroIn K C (.type "object") = some true
theorem find_data {name : Str} {a g : Value} (c1 : (clsIn K C).isSome = true) (c2 : findIn K (.ref C) name = some (some a)) (c3 : specialIn K a "__get__" = some (some g)) (c4 : takesIn K a = some true) : findObj K C od name = some (.bind g a) := by
  obtain ⟨cd, c1⟩ := Option.isSome_iff_exists.mp c1
  unfold findObj
  rw [c1, Option.bind_some, c2, Option.bind_some]
  simp [c3, c4]
theorem class_told {Q : Option Value → Shared → Prop} (T : TellsC K C) (X : K.In s.heap) (I : InstAt s.heap x ox C od) (fin : Q (some (.ref C)) { s with toks := s.toks + 1 }) : wpAny (model prog w) A (getAttr? (.ref x) "__class__") Q E s := by
  have fo : findObj K C od "__class__" = some (.bind (.builtin "getset_descriptor.__get__") (.builtin "object.__class__")) := find_data (by obtain ⟨cd, hc, _⟩ := any_some T.di; rw [hc]; rfl) T.cl T.sg T.tk
  obtain ⟨hp, g, d, t, os⟩ := s
  have lt := I.type (M := model prog w)
  have lg := looks_findIn (M := model prog w) X T.ga
  have lh := looks_findIn (M := model prog w) X T.gt
  have lf := looks_find (M := model prog w) X I fo
  have isB : Looks (model prog w) hp (isInstance (.ref x) (.type "BaseException")) true := lt.andThen (looks_subIn X T.su)
  have n1 : (Value.builtin "BaseException.__getattribute__" == Value.builtin "object.__getattribute__") = false := by decide +kernel
  have n2 : (onTheHeap (Value.ref C) && Value.builtin "BaseException.__getattribute__" == Value.builtin "object.__getattribute__") = false := by rw [n1]; rfl
  have n3 : (false && onTheHeap (Value.builtin "BaseException.__getattribute__")) = false := rfl
  unfold getAttr? getAttrBy? getAttrBy
  refine wpAny_bind (wpAny_mkText (wpAny_bind (wpAny_attempt (wpAny_holding (wpAny_bind (lt.at (wpAny_bind (lg.at ?_))))))))
  show wpAny _ _ (if (onTheHeap (Value.ref C) && Value.builtin "BaseException.__getattribute__" == Value.builtin "object.__getattribute__") = true then _ else _) _ _ _
  rw [n2, if_neg Bool.false_ne_true]
  unfold getAttrByItsOwn hookBefore
  refine wpAny_bind ?_
  rw [if_pos (show onTheHeap (Value.ref C) = true from rfl)]
  refine lh.at (wpAny_bind (wpAny_attempt (wpAny_holding ?_)))
  unfold callGetattribute
  rw [n3, if_neg Bool.false_ne_true]
  unfold boundAndCalled
  rw [PySem.F.excAttr_ValueError.ga.bind (.ref x)]
  refine wpAny_bind (wpAny_pure ?_)
  show wpAny _ _ (call (.builtin "BaseException.__getattribute__") [.ref x, .str "__class__" t]) _ _ _
  refine wpAny_call (codeAny_call_builtin PySem.F.excAttr_ValueError.ga.plain PySem.F.entry_bexc_ga
    (@check_slot (model prog w) _ _ ⟨hp, g, d, t + 1, os⟩ "BaseException.__getattribute__" "BaseException" "__getattribute__" (.ref x) [.str "__class__" t] [] _ (by decide +kernel) (by decide +kernel) isB (PySem.F.args_bexc_ga (.ref x) (.str "__class__" t)) ?_))
  unfold Builtin.«object.__getattribute__»
  refine wpAny_bind (wpAny_of_eq (a := ((Value.ref x : Value), [Value.str "__class__" t])) (by first | (simp only [slotArgs]; rfl) | rfl) (wpAny_bind (wpAny_pure (wpAny_bind (lt.at (wpAny_bind (lf.at ?_)))))))
  show wpAny _ _ (holding [Value.builtin "object.__class__"] (call (.builtin "getset_descriptor.__get__") [.builtin "object.__class__", .ref x, .ref C]) >>= ret) _ _ _
  refine wpAny_bind (wpAny_holding (wpAny_call (class_get (s := ⟨hp, g, d, t + 1, os⟩) (ox := ox) (od := od) X I T.mo (wpAny_pure ?_))))
  show wpAny _ _ (handedOut (.ref C)) _ _ _
  rw [handedOut_of (v := .ref C) rfl]
  first
    | exact wpAny_pure fin
    | exact wpAny_pure (wpAny_pure fin)
    | exact wpAny_pure (wpAny_bind (wpAny_pure (wpAny_pure fin)))
theorem kit_exc (T : TellsC K C) : KitX K (.ref x) (.ref C) (fun h => InstAt h x ox C od) := by
  have at' : ∃ oc, K.lookup C = some oc ∧ ∃ cd, oc.data = .cls cd := by
    obtain ⟨cd, hc, _⟩ := any_some T.di
    unfold clsIn at hc
    split at hc
    · rename_i c' d' cd' sl' ho
      exact ⟨_, ho, cd', rfl⟩
    · cases hc
  obtain ⟨oc, ho, cd, hd⟩ := at'
  exact {
    ty := fun _ _ _ I => I.type
    it := fun _ _ X _ => fun A' Q' E' s' k q => by
      obtain ⟨c', d', dt, sl⟩ := oc
      dsimp only at hd
      subst hd
      unfold isType loadHead
      exact wpAny_bind (wpAny_loadPart (k _ _ (X _ _ ho)) (wpAny_pure q))
    ne := fun h tp dd its n sl X htp => Bool.eq_false_iff.mpr fun q => by
      have e : C = tp := Value.ref.inj (beq_iff_eq.mp q)
      subst e
      rw [X _ _ ho] at htp
      cases htp
      cases hd
    ca := fun X I k => class_told T X I k }
end
end PySem.VX

/-! The value layer: an exception's class, field, text. -/
namespace VL
open PySem PySem.Spec PyProof.Rows L2 RZ RT

/-- all that the reading of an exception of a class needs -/
structure XcF (K : PySem.W.Frag) (c : Cl) : Prop where
  tells : PySem.VX.TellsC K (c.ad K)
  no : PySem.W.findIn K (.ref (c.ad K)) c.fld = some none
  str : PySem.W.findIn K (.ref (c.ad K)) "__str__" = some (some (.builtin "BaseException.__str__"))
/-- a class that is asked for -/
inductive Tg where
  | own (c : Cl) | run | blt (T : String)
deriving DecidableEq
def Tg.v (K : PySem.W.Frag) : Tg → V
  | .own c => .ref (c.ad K)
  | .run => .ref (adr K "RunError")
  | .blt T => .ty T
def Tg.val (K : PySem.W.Frag) : Tg → Value
  | .own c => .ref (c.ad K)
  | .run => .ref (adr K "RunError")
  | .blt T => .type T
theorem Tg.clsV {K : PySem.W.Frag} : ∀ t : Tg, ClsV (t.v K) (t.val K)
  | .own c => .own _
  | .run => .own _
  | .blt T => .ty T
def Cl.under : Cl → List String
  | .TooMany => ["OverflowError", "ArithmeticError", "Exception", "BaseException", "object"]
  | .NoSuch => ["LookupError", "Exception", "BaseException", "object"]
  | _ => ["ValueError", "Exception", "BaseException", "object"]
def Cl.isa (c : Cl) : Tg → Bool
  | .own c2 => c == c2
  | .run => !(c == .TooMany || c == .NoSuch)
  | .blt T => c.under.contains T
/-- the class facts about t -/
def TgF (K : PySem.W.Frag) (t : Tg) : Prop := ∀ c : Cl, PySem.W.kitOne K (.ref (c.ad K)) (t.val K) = some (c.isa t)
def eIsX (t : Tg) (f : EF) : EF := fun E => (f E).bind fun p => match p.1 with
  | .dat (.exc c _ _) => .ok (.dat (.bl (c.isa t)), p.2)
  | _ => .bad
def eFld (n : Str) (f : EF) : EF := fun E => (f E).bind fun p => match p.1 with
  | .dat (.exc c _ d) => if c.fld = n then .ok (.dat d, p.2) else .bad
  | _ => .bad
def eStrX (f : EF) : EF := fun E => (f E).bind fun p => match p.1 with
  | .dat (.exc c true _) => .ok (.dat (.str c.msg), p.2)
  | _ => .bad
section
variable {X : Cx} {W : WX} {pins : List (Addr × Obj)} {σ : L2.St} {H : Hp} {s : Shared} {Fz : Addr → Prop} {c : Cl} {raw : Bool} {d : D} {v : V} {e : Expr} {f : EF} {p p1 pos : Pos} {n : Str}
theorem exc_at (I : Inv X pins σ H s) (r : Rp X.K Fz H (.exc c raw d) v) : ∃ a oe od dx y, v = .ref a ∧ PySem.W.InstAt s.heap a oe (c.ad X.K) (some od) ∧ H dx = some (exd0 c y) ∧ s.heap.get? dx = some od ∧ Rp X.K Fz H d y := by
  obtain ⟨a, dx, y, rfl, _, _, hx, ry, h⟩ := r
  have ob : ∃ od, s.heap.get? dx = some od := by
    have z : ObjOk X.prog X.w H s.heap dx (.xd [(c.fld, y)]) := I.hok dx _ hx
    obtain ⟨mA, ⟨od, _, _, e, _⟩, _⟩ := z
    exact ⟨od, e⟩
  obtain ⟨od, ho⟩ := ob
  have key : ∃ oe, s.heap.get? a = some oe ∧ oe.cls = .ref (c.ad X.K) ∧ oe.dict = some dx ∧ ∃ vs, oe.data = .fields vs := by
    split at h
    · obtain ⟨t, _, _, ha⟩ := h
      exact ⟨_, ext_at I.hok ha, rfl, rfl, _, rfl⟩
    · exact ext_at I.hok h
  obtain ⟨oe, e1, e2, e3, vs, e4⟩ := key
  exact ⟨a, oe, od, dx, y, rfl, ⟨e1, e2, by unfold PySem.W.notCls; rw [e4] <;> rfl, by rw [e3]; exact ho⟩, hx, ho, ry⟩
theorem call_isX {t : Tg} (F : ∀ c, XcF X.K c) (T : TgF X.K t) : CallR X (.builtin "isinstance") (fun xs H Q => ∃ x Fz c raw d, xs = [x, t.v X.K] ∧ Rp X.K Fz H (.exc c raw d) x ∧ Q (.bl (c.isa t)) H) := by
  intro pins s σ H xs us Q I r ⟨x, Fz, c, raw, d, ex, rp, q⟩
  subst ex
  obtain ⟨u1, u2, rfl, r1, r2⟩ := r.two
  obtain ⟨a, oe, od, dx, y, rfl, J, _, _, _⟩ := exc_at I rp
  obtain rfl : u1 = Value.ref a := r1
  rw [(Tg.clsV t).eq r2]
  exact PySem.W.kia_one (PySem.VX.kit_exc (F c).tells) I.kIn J (T c) (fun z => nomatch z) fun tk => ⟨.bl (c.isa t), H, I.tok tk, rfl, q⟩
theorem se_isX {t : Tg} {b : Str} (F : ∀ c, XcF X.K c) (T : TgF X.K t) (hg : Gl X "isinstance") (hm : X.mg "isinstance" = none) (ht : PE X (.Name b p1) (tC (t.v X.K))) (he : SE X W e f)
    (hs : starEach (e :: [.Name b p1]) X.env = (false, eval e X.env) :: starEach [.Name b p1] X.env := by rfl) (hs2 : starEach [.Name b p1] X.env = (false, eval (.Name b p1) X.env) :: starEach [] X.env := by rfl) : SE X W (.Call (.Name "isinstance" p) [e, .Name b p1] [] pos) (eIsX t f) :=
  PE.imp (pe_callB (call_isX F T) hg hm boot_isinstance (pa_cons he (pa_cons ht pa_nil hs2) hs) (by decide) (by decide) hs (by rw [hs2]; rfl)) fun σ H Q ⟨G, E, Fz, k, h⟩ => by
    refine tE_mono (tE_of k (EndE.bind h)) fun v H1 ⟨r, E1, Fz1, k1, h1⟩ => ?_
    dsimp only at h1
    split at h1
    · rename_i c raw d
      have rp := k1.datI
      exact ⟨v, Fz1, c, raw, d, rfl, rp, h1 _ _ _ (k1.pop.dat rfl)⟩
    · exact h1.elim
theorem se_fld (F : ∀ c, XcF X.K c) (he : SE X W e f) (hb : attributeBase e n X.env (eval e X.env) = eval e X.env := by rfl) : SE X W (.Attribute e n pos) (eFld n f) := by
  refine ⟨fun pins s σ H Q I ⟨G, E, Fz, k, h⟩ => attr_of hb (thn (he.run pins s σ H _ I (tE_of k (EndE.bind h))) fun u s1 ⟨x, H1, I1, rx, r, E1, Fz1, k1, h1⟩ => ?_)⟩
  dsimp only at h1
  split at h1
  · rename_i c raw d
    split at h1
    · rename_i hn
      subst hn
      obtain ⟨a, oe, od, dx, y, rfl, J, hx, ho, ry⟩ := exc_at I1 k1.datI
      obtain rfl : u = Value.ref a := rx
      have z : ObjOk X.prog X.w H1 s1.heap dx (.xd [(c.fld, y)]) := I1.hok dx _ hx
      obtain ⟨mA, hns, hr⟩ := z
      obtain ⟨od', ho', hl⟩ := lookIn_ns hns
      rw [ho] at ho'
      cases ho'
      obtain ⟨u, hu, ru⟩ := RelO.some_of (v := y) (o := mA c.fld) (by have q := hr c.fld; simpa [List.lookup] using q)
      have T := (F c).tells
      exact HandSPX.exc_get I1.kIn J T.ga T.gt T.su (PySem.W.findObj_own T.di (F c).no rfl (by rw [hl, hu])) (handed_of ru) ⟨y, H1, I1.tok _, ru, h1 y H1 Fz1 (k1.pop.dat ry)⟩
    · exact h1.elim
  · exact h1.elim
theorem call_strX (hu : X.A.units + 2 < cLine) (F : ∀ c, XcF X.K c) : CallR X (.type "str") (fun xs H Q => ∃ x Fz c d, xs = [x] ∧ Rp X.K Fz H (.exc c true d) x ∧ Q (.str c.msg) H) := by
  intro pins s σ H xs us Q I r ⟨x, Fz, c, d, ex, rp, q⟩
  subst ex
  obtain ⟨u1, rfl, r1⟩ := r.one
  obtain ⟨a, dx, y, rfl, _, _, hx, ry, h⟩ := rp
  obtain rfl : u1 = Value.ref a := r1
  rw [if_pos rfl] at h
  obtain ⟨t, _, ht, ha⟩ := h
  have hT := ext_at I.hok ha
  obtain ⟨_, its, rv, o, h1, h2, n, h3⟩ := (show ObjOk X.prog X.w H s.heap t (.tup [.str c.msg]) from I.hok t _ ht)
  obtain ⟨ut, rfl, rt⟩ := rv.one
  obtain ⟨tk, rfl⟩ := (show ∃ tk, ut = Value.str c.msg tk from rt)
  exact PySem.P.str_of_C_one (K := X.K) (C := c.ad X.K) (e := a) (t0 := t) hu ⟨I.kIn, _, _, hT, rfl, rfl, rfl⟩ ⟨o, n, h1, h2, h3⟩ (F c).str (F c).tells.su ⟨.str c.msg, H, I, ⟨tk, rfl⟩, q⟩
theorem se_strX (kx : Kx X W) (F : ∀ c, XcF X.K c) (hg : Gl X "str") (hm : X.mg "str" = none) (he : SE X W e f) (hs : starEach [e] X.env = (false, eval e X.env) :: starEach [] X.env := by rfl) : SE X W (.Call (.Name "str" p) [e] [] pos) (eStrX f) :=
  PE.imp (pe_callTy (call_strX (by have := kx.hu; omega) F) hg hm PyProof.Rows.boot_str (pa_cons he pa_nil hs) (by decide) (by decide) hs) fun σ H Q ⟨G, E, Fz, k, h⟩ => by
    refine tE_mono (tE_of k (EndE.bind h)) fun v H1 ⟨r, E1, Fz1, k1, h1⟩ => ?_
    dsimp only at h1
    split at h1
    · rename_i c d
      exact ⟨v, Fz1, c, d, rfl, k1.datI, h1 _ _ _ (k1.pop.dat rfl)⟩
    · exact h1.elim
end
end VL

/-! The value layer, 16: a law's end. -/
namespace VL
open PySem PySem.Spec PyProof.Rows L2

/-- the law's mirror answers True -/
def Yes (mf : CF) (ns : List Int) : Prop := ∃ l, mf [.lk (ns.map D.int)] = .ok (.dat (.bl true)) l
section
variable {P : Program} {w : World} {K : PySem.W.Frag} {mg mb : Str → Option Value} {k : Nat} {fa a : Addr} {fd : FuncData} {x : Str} {mf : CF} {s : Shared} {vs : List Value} {ns : List Int}
/-- nothing of the heap is tracked but, maybe, the script -/
structure Start (K : PySem.W.Frag) (P : Program) (w : World) (s : Shared) (a : Addr) (ns : List Int) (H : Hp) : Prop where
  lks : LkS K H a (ns.map V.int)
  hok : HOk P w H s.heap
  one : ∀ b u, H b = some u → b = a ∧ K.lookup a = none ∧ ∃ ob xs, u = .frz ob (.lst xs)
theorem start_of (KX : K.In s.heap) (ha : s.heap.get? a = some { cls := .type "list", data := .seq vs.toArray }) (hi : IntsAre vs ns) (hl : ns.length ≤ sizeLine) : ∃ H, Start K P w s a ns H := by
  have lenV := hi.length
  have rv := vals_ints hi
  cases hk : K.lookup a with
  | none =>
    have atA : (fun b => if b = a then some (HO.frz { cls := .type "list", data := .seq vs.toArray } (.lst (ns.map V.int))) else none : Hp) a = some (.frz { cls := .type "list", data := .seq vs.toArray } (.lst (ns.map V.int))) := if_pos rfl
    have only : ∀ b u, (if b = a then some (HO.frz { cls := .type "list", data := .seq vs.toArray } (.lst (ns.map V.int))) else none) = some u → b = a ∧ u = .frz { cls := .type "list", data := .seq vs.toArray } (.lst (ns.map V.int)) := fun b u z => by
      by_cases hb : b = a
      · rw [if_pos hb] at z
        exact ⟨hb, (Option.some.inj z).symm⟩
      · rw [if_neg hb] at z
        cases z
    refine ⟨fun b => if b = a then some (HO.frz { cls := .type "list", data := .seq vs.toArray } (.lst (ns.map V.int))) else none, ⟨.inl ⟨_, atA⟩, fun b u z => ?_, fun b u z => ?_⟩⟩
    · obtain ⟨rfl, rfl⟩ := only b u z
      exact ⟨ha, by rw [List.length_map]; exact hl, vs, _, rv, ha⟩
    · obtain ⟨hb, hu⟩ := only b u z
      exact ⟨hb, hk, _, _, hu⟩
  | some o =>
    have e := KX a o hk
    rw [ha] at e
    cases e
    exact ⟨fun _ => none, ⟨.inr ⟨_, vs.toArray, _, hk, rfl, rfl, rfl, by rw [List.size_toArray, lenV]; exact hl, by simpa using rv⟩, fun b u z => (by cases z), fun b u z => (by cases z)⟩⟩
theorem law_end (KX : K.In s.heap) (hns : s.heap.Ns mainGlobals mg) (hb : s.heap.Ns builtinsNs mb) (hbb : ∀ x : Str, x ≠ "__name__" → mb x = bootBuiltins x) (hlim : s.heap.NoLimit) (hg : s.gens = #[])
    (ha : s.heap.get? a = some { cls := .type "list", data := .seq vs.toArray }) (hi : IntsAre vs ns) (hl : ns.length ≤ sizeLine) (hr : Room k callerA)
    (F : ∀ base : Heap, K.In base → base.Ns mainGlobals mg → FnG P w K mg base k fa fd [x] mf) (hbind : ∀ (s : Shared) (u : Value), BindsTo s fd ⟨[u], []⟩ [(x, u)]) (yes : Yes mf ns) :
    codeAny (model P w) callerA (.call (.ref fa) ⟨[.ref a], []⟩) (fun r s' => r = .ok (.ret (.bool true)) ∧ OldK s.heap s'.heap ∧ s'.os = s.os ∧ AllBare s'.gens) s := by
  obtain ⟨H, S⟩ := start_of (P := P) (w := w) KX ha hi hl
  obtain ⟨l, hm⟩ := yes
  have plain : ∀ {b : Addr} {o : Obj}, s.heap.get? b = some o → (∀ xs n, o.data ≠ .seq xs n) → H b = none := fun {b o} e nd => by
    cases q : H b with
    | none => rfl
    | some u =>
      have z := (S.one b u q).1
      rw [z, ha] at e
      cases e
      exact absurd rfl (nd _ _)
  have low : ∀ {b : Addr} {m : Str → Option Value}, s.heap.Ns b m → (hidT s.heap H).Ns b m := fun {b m} ⟨o, es, ep, e, d, r⟩ => ⟨o, es, ep, hidT_get e (plain e fun xs n z => by rw [d] at z; cases z), d, r⟩
  have inK : K.In (hidT s.heap H) := fun b o e => hidT_get (KX b o e) (by
    cases q : H b with
    | none => rfl
    | some u =>
      obtain ⟨z, y, _⟩ := S.one b u q
      rw [z, y] at e
      cases e)
  have M : Mod K mg (hidT s.heap H) := ⟨inK, low hns, ⟨mb, low hb, hbb⟩, let ⟨mc, h1, h2⟩ := hlim; ⟨mc, low h1, h2⟩⟩
  have e0 : Env0 P w K mg (hidT s.heap H) callerA [] s H := ⟨rfl, M, fun b o e => of_hidT e, Nat.le_of_eq (hidT_size _ _), trivial, fun b hb => absurd (show b ∈ ([] : List Addr) from hb) (by simp), S.hok, .of_eq hg⟩
  have lkr : RS K (fun _ => False) H [] (.lk (ns.map D.int), some (.ref a)) := ⟨a, _, rfl, S.lks, RpL.ints⟩
  have g0 : Gd K H (fun _ => False) [] (fun _ => False) H [(.lk (ns.map D.int), some (.ref a))] := {
    rs := fun p hp => by rw [List.mem_singleton.mp hp]; exact lkr
    sep := List.pairwise_singleton _ _
    own := fun p hp b e => by
      rw [List.mem_singleton.mp hp] at e
      cases e
    dom := fun _ z => z.elim
    frm := fun b o e _ _ => e
    f0 := fun _ z => z
    fz := fun _ z => z.elim }
  have q : spD K 1 mf [.ref a] H (fun v _ => v = .bl true) (fun _ _ _ => False) := by
    refine ⟨rfl, [.lk (ns.map D.int)], fun _ => False, [], rfl, g0, ?_⟩
    rw [hm]
    refine ⟨rfl, fun v H' Fz' g => ?_⟩
    obtain ⟨u, e, r⟩ := g.head
    cases e
    exact r
  refine codeAny_mono ((F _ inK (low hns)).run callerA [] s H ⟨[.ref a], []⟩ [.ref a] [.ref a] _ _ hr rfl e0 (hbind s (.ref a)) (.cons rfl .nil) q) fun res s' z => ?_
  cases res with
  | error er =>
    obtain ⟨_, _, _, _, _, _, _, _, _, _, _, _, z⟩ := z
    exact z.elim
  | ok fl =>
  cases fl with
  | next => exact z.elim
  | brk => exact z.elim
  | cont => exact z.elim
  | ret u =>
  obtain ⟨v, H', os, bare, un, hok', rel, hv⟩ := z
  subst hv
  obtain rfl : u = Value.bool true := rel
  refine ⟨rfl, OldK.of_keep fun b o e => ?_, os, bare⟩
  cases hb : H b with
  | none => exact un.keep b o e hb (fun z => absurd (show b ∈ ([] : List Addr) from z) (by simp)) (by simp)
  | some u =>
    obtain ⟨_, _, ob, xs, hu⟩ := S.one b u hb
    subst hu
    obtain ⟨e1, _⟩ := S.hok b _ hb
    obtain ⟨e2, _⟩ := hok' b _ (un.frzs b ob _ hb)
    rw [e] at e1
    cases e1
    exact e2
end
/-- the law over the head by facts -/
theorem walk_end {l : PySem.W.OpenLaw} {n k : Nat} {q : Program} {loose : List Str} {XP : (Str → Option Value) → Heap → Prop} {YP : World → Heap → Prop} {d : DefRec} {x : Str} {mf : CF}
    (hn : l.most = some n) (hn2 : n ≤ sizeLine) (hdf : d.params.defaults = []) (hr : Room k callerA)
    (F : ∀ (w : World) (mg : Str → Option Value) (fa : Addr) (h : Heap), YP w h → h.Ns mainGlobals mg → mg d.name = some (.ref fa) →
      ∃ (K : PySem.W.Frag) (fd : FuncData), K.In h ∧ (∀ (s : Shared) (u : Value), BindsTo s fd ⟨[u], []⟩ [(x, u)]) ∧ ∀ base : Heap, K.In base → base.Ns mainGlobals mg → FnG l.prog w K mg base k fa fd [x] mf)
    (yes : ∀ ns : List Int, ns.length ≤ n → Yes mf ns) : PySem.W.WalkO q loose XP YP l.row.toRowW d [] (fun f vs => PySem.call f vs) :=
  Att.attach_call hn hdf fun w s₀ s₁ mg mb fa o pm cd doc a vs ns G Y ho hd hcd hmg hobj hints hlen hg => by
    obtain ⟨K, fd, KX, hb, hF⟩ := F w mg fa _ Y G.T.g hmg
    exact law_end KX G.T.g G.T.b G.T.builtins G.T.nolimit hg hobj hints (Nat.le_trans hlen hn2) hr hF hb (yes ns hlen)
end VL

/-! The value layer, 17: texts repeated; functions by name. -/
namespace VL
open PySem PySem.Spec PyProof.Rows L2 RZ RT

def repFits (z : Str) (k : Int) : Bool := decide (-1000 ≤ k) && decide (k ≤ 1000) && decide (z.length ≤ 1000)
theorem repFits_ok {z : Str} {k : Int} (h : repFits z k = true) : PySem.MulOk z k := by
  unfold repFits at h
  rw [Bool.and_eq_true, Bool.and_eq_true] at h
  obtain ⟨⟨h1, h2⟩, h3⟩ := h
  have h1 := of_decide_eq_true h1
  have h2 := of_decide_eq_true h2
  have h3 := of_decide_eq_true h3
  refine ⟨?_, fun p q => ?_, fun p q => ?_⟩
  · rw [decide_eq_false (by omega), decide_eq_false (by omega)]
    rfl
  · have e : (1000 : Int) ≤ (2 ^ 63 - 1) / k := Int.le_ediv_of_mul_le (by omega) (by omega)
    omega
  · unfold Builtin.Str.tooLong
    refine decide_eq_false ?_
    have e : z.length * k.toNat ≤ 1000 * 1000 := Nat.mul_le_mul h3 (by omega)
    rw [sizeLine_eq]
    omega
def gMulS : Sl → Sl → Option Sl
  | .dat (.str z), .dat (.int k) => if repFits z k then some (.dat (.str (Txt.mul z k))) else none
  | _, _ => none
theorem op_mulS {X : Cx} : OpR X (binaryOp .Mult) (fun x y H Q => ∃ z k, x = .str z ∧ y = .int k ∧ repFits z k = true ∧ Q (.str (Txt.mul z k)) H) := by
  intro pins s σ H x y v u Q I rx ry ⟨z, k, ex, ey, hf, q⟩
  subst ex ey
  obtain ⟨t, rfl⟩ := rx
  obtain ⟨t', rfl⟩ := ry
  exact PySem.SB.mul (repFits_ok hf) fun t2 tk => ⟨.str (Txt.mul z k), H, I.tok tk, ⟨t2, rfl⟩, q⟩
theorem gr_mulS {K : PySem.W.Frag} : GR K (fun x y H Q => ∃ z k, x = .str z ∧ y = .int k ∧ repFits z k = true ∧ Q (.str (Txt.mul z k)) H) gMulS := by
  intro G Fz H E σ x y s v w Q k kx ky e q
  unfold gMulS at e
  split at e
  · rename_i z i
    split at e
    · rename_i hf
      cases e
      have h1 : v = .str z := kx.datI
      have h2 : w = .int i := ky.datI
      exact ⟨z, i, h1, h2, hf, q _ H Fz (k.dat rfl)⟩
    · cases e
  · cases e
def gMulA : Sl → Sl → Option Sl := gOr gMul gMulS
section
variable {X : Cx} {W : WX} {pos : Pos} {a b : Expr} {fa fb : EF}
theorem se_mulA (ha : SE X W a fa) (hb : SE X W b fb) : SE X W (.BinOp a .Mult b pos) (eOp gMulA fa fb) :=
  se_op (OpR.or (OpR.or (OpR.or op_mul op_mulW) (OpR.or op_rep op_repT)) op_mulS) (gr_or (gr_or gr_mulI (gr_or gr_mulL gr_mulT)) gr_mulS) ha hb
end
/-! ### functions by name -/
/-- what is known of the module's function x: at level k, with n parameters, its defaults dd behind -/
def Def (P : Program) (w : World) (K : PySem.W.Frag) (mg : Str → Option Value) (base : Heap) (x : Str) (k n : Nat) (dd : List D) (mf : CF) : Prop :=
  ∃ (f : Addr) (fd : FuncData) (ps : List Str) (ds : List Value) (dvs : List V), FnG P w K mg base k f fd ps mf ∧ mg x = some (.ref f) ∧ PySem.W.keepIn K (.ref f) = true ∧ Binds K fd ps ds ∧ Vals dvs ds ∧ (∀ Fz H, RpL K Fz H dd dvs) ∧ ps.length = n ∧ (x == ("__debug__" : Str)) = false
theorem Def.fn {X : Cx} {x : Str} {k k' n : Nat} {dd : List D} {mf : CF} (d : Def X.prog X.w X.K X.mg X.base x k n dd mf) (hr : Room k' X.A) (hk : k ≤ k') (hg : Gl X x) : Fun X x n dd mf := by
  obtain ⟨f, fd, ps, ds, dvs, F, hm, kp, hb, hv, hd, hn, hdb⟩ := d
  exact ⟨k, f, fd, ps, ds, dvs, F, hr.mono hk, hg, hm, kp, hb, hv, hd, hn, hdb⟩
end VL

/-! The value layer: what a head must tell of the exception classes. -/
namespace VL
open PySem PySem.Spec PyProof.Rows L2 RZ RT

def Cl.all : List Cl := [.BadPrime, .BadNumber, .BadName, .BadRemainder, .BadExpression, .BadProgram, .BadInput, .BadNet, .BadLayers, .BadPoint, .BadLine, .BadTable, .BadClaim, .BadTalk, .BadCheat, .BadCode, .BadWord, .BadTree, .BadMachine, .BadBatch, .BadText, .BadBytes, .BadPaper, .BadDeed, .TooMany, .NoSuch]
theorem Cl.mem_all (c : Cl) : c ∈ Cl.all := by cases c <;> decide
def Cl.B : Cl → String
  | .TooMany => "OverflowError"
  | .NoSuch => "LookupError"
  | _ => "ValueError"
def Cl.newId : Cl → String
  | .TooMany => "OverflowError.__new__"
  | .NoSuch => "LookupError.__new__"
  | _ => "ValueError.__new__"
def Cl.initId : Cl → String
  | .TooMany => "OverflowError.__init__"
  | .NoSuch => "LookupError.__init__"
  | _ => "ValueError.__init__"
/-- the name that its __init__ calls -/
def Cl.via : Cl → Str
  | .TooMany => "OverflowError"
  | .NoSuch => "LookupError"
  | _ => "RunError"
def Cl.bm : Cl → List Value
  | .TooMany => [.type "OverflowError", .type "ArithmeticError", .type "Exception", .type "BaseException", .type "object"]
  | .NoSuch => [.type "LookupError", .type "Exception", .type "BaseException", .type "object"]
  | _ => [.type "ValueError", .type "Exception", .type "BaseException", .type "object"]
theorem Cl.base (c : Cl) : PySem.ExcBaseFacts c.B c.newId c.initId c.bm := by
  cases c <;> first | exact PySem.F.excBase_ValueError | exact PySem.F.excBase_OverflowError | exact PySem.F.excBase_LookupError
theorem Cl.store (c : Cl) : StoreFacts c.B c.bm "object.__setattr__" "object" := by
  cases c <;> first | exact PySem.F.store_ValueError | exact PySem.F.store_OverflowError | exact PySem.F.store_LookupError
abbrev Cl.ini (c : Cl) (K : PySem.W.Frag) : Addr := He.fAd K (c.nm, some "__init__")
section
variable (K : PySem.W.Frag) (tgs : List Tg) (c : Cl)
def clB : List Bool := [
  PySem.W.excInitIn K (c.ad K) c.bm c.newId,
  PySem.W.excOver K (c.ad K) c.bm,
  PySem.W.hasDictIn K (c.ad K),
  decide (PySem.W.findIn K (.ref (c.ad K)) "__setattr__" = some (some (.builtin "object.__setattr__"))),
  decide (PySem.W.findIn K (.ref (c.ad K)) c.fld = some none),
  decide (PySem.W.findIn K (.ref (c.ad K)) "__init__" = some (some (.ref (c.ini K)))),
  decide (PySem.W.typeIn K (.ref (c.ini K)) = some (.type "function")),
  PySem.W.keepIn K (.ref (c.ad K)),
  decide (PySem.W.findIn K (.ref (c.ad K)) "__getattribute__" = some (some (.builtin "BaseException.__getattribute__"))),
  decide (PySem.W.findIn K (.ref (c.ad K)) "__getattr__" = some none),
  decide (PySem.W.subIn K (.ref (c.ad K)) (.type "BaseException") = some true),
  decide (PySem.W.findIn K (.ref (c.ad K)) "__class__" = some (some (.builtin "object.__class__"))),
  decide (PySem.W.mroIn K (c.ad K) (.type "object") = some true),
  decide (PySem.W.findIn K (.ref (c.ad K)) "__str__" = some (some (.builtin "BaseException.__str__"))),
  tgs.all fun t => decide (PySem.W.kitOne K (.ref (c.ad K)) (t.val K) = some (c.isa t))]
def initB (v : Value) (id : String) : Bool := match PySem.W.findCls K v (.type "type") "__init__" with
  | some (.val (.builtin i)) => i == id
  | _ => false
/-- the Bool that the head's Hook carries -/
def exB : Bool := (Cl.all.all fun c => (clB K tgs c).all id) &&
  ([decide (PySem.W.specialIn K (.builtin "object.__class__") "__get__" = some (some (.builtin "getset_descriptor.__get__"))),
    decide (PySem.W.takesIn K (.builtin "object.__class__") = some true),
    decide (PySem.W.specialIn K (.ref (adr K "RunError")) "__getattribute__" = some (some (.builtin "type.__getattribute__"))),
    decide (PySem.W.typeIn K (.ref (adr K "RunError")) = some (.type "type")),
    PySem.W.readsIn K (adr K "RunError") (.type "type"),
    initB K (.ref (adr K "RunError")) "ValueError.__init__",
    initB K (.type "OverflowError") "OverflowError.__init__",
    initB K (.type "LookupError") "LookupError.__init__"] : List Bool).all id
end
structure ClF (K : PySem.W.Frag) (tgs : List Tg) (c : Cl) : Prop where
  k : ExK K (c.ad K) c.fld c.B c.newId c.initId c.bm
  find : PySem.W.findIn K (.ref (c.ad K)) "__init__" = some (some (.ref (c.ini K)))
  fn : PySem.W.typeIn K (.ref (c.ini K)) = some (.type "function")
  keep : PySem.W.keepIn K (.ref (c.ad K)) = true
  x : XcF K c
  tg : ∀ t ∈ tgs, PySem.W.kitOne K (.ref (c.ad K)) (t.val K) = some (c.isa t)
structure RunF (K : PySem.W.Frag) : Prop where
  sp : PySem.W.specialIn K (.ref (adr K "RunError")) "__getattribute__" = some (some (.builtin "type.__getattribute__"))
  ty : PySem.W.typeIn K (.ref (adr K "RunError")) = some (.type "type")
  rd : PySem.W.readsIn K (adr K "RunError") (.type "type") = true
  i1 : PySem.W.findCls K (.ref (adr K "RunError")) (.type "type") "__init__" = some (.val (.builtin "ValueError.__init__"))
  i2 : PySem.W.findCls K (.type "OverflowError") (.type "type") "__init__" = some (.val (.builtin "OverflowError.__init__"))
  i3 : PySem.W.findCls K (.type "LookupError") (.type "type") "__init__" = some (.val (.builtin "LookupError.__init__"))
theorem initB_ok {K : PySem.W.Frag} {v : Value} {i : String} (h : initB K v i = true) : PySem.W.findCls K v (.type "type") "__init__" = some (.val (.builtin i)) := by
  unfold initB at h
  split at h
  · rename_i j e
    rw [e, beq_iff_eq.mp h]
  · cases h
theorem exB_ok {K : PySem.W.Frag} {tgs : List Tg} (h : exB K tgs = true) : (∀ c, ClF K tgs c) ∧ RunF K := by
  unfold exB at h
  rw [Bool.and_eq_true] at h
  obtain ⟨h1, h2⟩ := h
  simp only [List.all_cons, List.all_nil, Bool.and_true, Bool.and_eq_true, id] at h2
  obtain ⟨a1, a2, a3, a4, a5, a6, a7, a8⟩ := h2
  refine ⟨fun c => ?_, of_decide_eq_true a3, of_decide_eq_true a4, a5, initB_ok a6, initB_ok a7, initB_ok a8⟩
  have h3 := List.all_eq_true.mp h1 c c.mem_all
  unfold clB at h3
  simp only [List.all_cons, List.all_nil, Bool.and_true, Bool.and_eq_true, id] at h3
  obtain ⟨b1, b2, b3, b4, b5, b6, b7, b8, b9, b10, b11, b12, b13, b14, b15⟩ := h3
  exact ⟨⟨c.base, c.store, b1, b2, by obtain ⟨cd, e, z⟩ := PySem.W.any_some b3; exact ⟨cd, e, z⟩, of_decide_eq_true b4, of_decide_eq_true b5⟩, of_decide_eq_true b6, of_decide_eq_true b7, b8,
    ⟨⟨of_decide_eq_true b9, of_decide_eq_true b10, of_decide_eq_true b11, b3, of_decide_eq_true b12, of_decide_eq_true a1, of_decide_eq_true a2, of_decide_eq_true b13⟩, of_decide_eq_true b5, of_decide_eq_true b14⟩,
    fun t ht => of_decide_eq_true (List.all_eq_true.mp b15 t ht)⟩
/-- B.__init__ of each class's base, in the defs -/
theorem via_ok {K : PySem.W.Frag} {mg : Str → Option Value} (R : RunF K) (hr : mg "RunError" = some (.ref (adr K "RunError"))) (ho : mg "OverflowError" = none) (hl : mg "LookupError" = none) (c : Cl) (X : Cx) (eK : X.K = K) (em : X.mg = mg) (hg : Gl X c.via) : MthB X c.via c.initId := by
  subst eK em
  cases c <;> first
    | exact mthB_own hg hr R.sp R.ty R.rd R.i1 (by decide)
    | exact mthB_type (T := "OverflowError") hg ho (by decide +kernel) (by kernel_rfl) (by decide +kernel) R.i2 (by decide)
    | exact mthB_type (T := "LookupError") hg hl (by decide +kernel) (by kernel_rfl) (by decide +kernel) R.i3 (by decide)
/-! ### the binding of an own __init__ -/
section
variable {K : PySem.W.Frag} {x qual : Str} {params : Arguments} {body : List Stmt} {scope : Scope} {kws : List (Str × V)} {f : Addr} {fd : FuncData} {fl : Str}
/-- the three ways to call it -/
structure IniB (K : PySem.W.Frag) (fd : FuncData) (fl : Str) (dfl : Bool) : Prop where
  b1 : ∀ (self u : Value) (s2 : Shared), K.In s2.heap → BindsTo s2 fd ⟨[self, u], []⟩ ((["self", fl] : List Str).zip [self, u])
  bK : ∀ (self u : Value) (s2 : Shared), K.In s2.heap → BindsTo s2 fd ⟨[self], [(fl, u)]⟩ ((["self", fl] : List Str).zip [self, u])
  b0 : dfl = true → ∀ (self : Value) (s2 : Shared), K.In s2.heap → BindsTo s2 fd ⟨[self], []⟩ ((["self", fl] : List Str).zip [self, .none])
theorem iniB_of (F : FunD K x qual params body scope [.non] kws f fd)
    (h : ∀ (T : Addr) (kV doc pm : Value) (an : Option Addr) (cdv ct self u d : Value),
      (∃ k, bindArgs (PySem.W.fnOf x qual params body scope (.ref T) kV doc pm an cdv ct) ⟨[self, u], []⟩ = seqItems? (.ref T) >>= k ∧ k (some #[d]) = pure ((["self", fl] : List Str).zip [self, u])) ∧
      (∃ k, bindArgs (PySem.W.fnOf x qual params body scope (.ref T) kV doc pm an cdv ct) ⟨[self], [(fl, u)]⟩ = seqItems? (.ref T) >>= k ∧ k (some #[d]) = pure ((["self", fl] : List Str).zip [self, u])) ∧
      (∃ k, bindArgs (PySem.W.fnOf x qual params body scope (.ref T) kV doc pm an cdv ct) ⟨[self], []⟩ = seqItems? (.ref T) >>= k ∧ k (some #[d]) = pure ((["self", fl] : List Str).zip [self, d]))) : IniB K fd fl true := by
  obtain ⟨oc, od, dV, kV, doc, pm, an, cdv, ct, osl, rfl, lk, hcd, hD, hK⟩ := F.ex
  rcases hD with ⟨e, _⟩ | ⟨_, T, o, its, m, rfl, lT, oT, rT⟩
  · cases e
  · obtain ⟨d, rfl, rd⟩ := rT.one
    obtain rfl : d = Value.none := rd
    refine ⟨fun self u s2 X => ?_, fun self u s2 X => ?_, fun _ self s2 X => ?_⟩
    · obtain ⟨⟨k, e1, e2⟩, _, _⟩ := h T kV doc pm an cdv ct self u .none
      refine BindsTo.of_looks fun M => ?_
      rw [e1]
      exact looks_items X lT oT (.of_pure e2)
    · obtain ⟨_, ⟨k, e1, e2⟩, _⟩ := h T kV doc pm an cdv ct self u .none
      refine BindsTo.of_looks fun M => ?_
      rw [e1]
      exact looks_items X lT oT (.of_pure e2)
    · obtain ⟨_, _, ⟨k, e1, e2⟩⟩ := h T kV doc pm an cdv ct self .none .none
      refine BindsTo.of_looks fun M => ?_
      rw [e1]
      exact looks_items X lT oT (.of_pure e2)
theorem iniB_of0 (F : FunD K x qual params body scope [] kws f fd)
    (h : ∀ (kV doc pm : Value) (an : Option Addr) (cdv ct self u : Value), bindArgs (PySem.W.fnOf x qual params body scope .none kV doc pm an cdv ct) ⟨[self, u], []⟩ = pure ((["self", fl] : List Str).zip [self, u]) ∧
      bindArgs (PySem.W.fnOf x qual params body scope .none kV doc pm an cdv ct) ⟨[self], [(fl, u)]⟩ = pure ((["self", fl] : List Str).zip [self, u])) : IniB K fd fl false := by
  obtain ⟨oc, od, dV, kV, doc, pm, an, cdv, ct, osl, rfl, lk, hcd, hD, hK⟩ := F.ex
  rcases hD with ⟨_, rfl⟩ | ⟨e, _⟩
  · exact ⟨fun self u s2 X => .of_eq (h kV doc pm an cdv ct self u).1, fun self u s2 X => .of_eq (h kV doc pm an cdv ct self u).2, fun z => by cases z⟩
  · exact absurd rfl e
end
/-- a class, ready to be called -/
def Mk (P : Program) (w : World) (K : PySem.W.Frag) (mg : Str → Option Value) (base : Heap) (c : Cl) (k : Nat) : Prop :=
  ∃ fd, FnOk P w K mg base (L2.CX P w) k (c.ini K) fd ["self", c.fld] (spInit K (c.ad K) c.fld c.msg) ∧ IniB K fd c.fld (c != .TooMany) ∧ mg c.nm = some (.ref (c.ad K))
theorem Mk.at {X : Cx} {c : Cl} {k k' : Nat} {tgs : List Tg} (m : Mk X.prog X.w X.K X.mg X.base c k) (F : ClF X.K tgs c) (hr : Room k' X.A) (hk : k + 1 ≤ k') (hg : Gl X c.nm) : MkC X c := by
  obtain ⟨fd, f, b, hm⟩ := m
  exact ⟨c.B, c.newId, c.initId, c.bm, c.ini X.K, fd, k, F.k, F.find, F.fn, f, hr.mono hk, hg, hm, F.keep, by cases c <;> decide, b.b1, b.bK, fun h => b.b0 (by simpa using h)⟩
end VL

/-! The value layer: the head's Hook, with the interpreter's own table. -/
namespace VL
open PySem PySem.Spec PyProof.Rows L2

abbrev DefN : Type := Str × Option Str
def frV (g : Addr → Option Obj) (n : Nat) : PySem.W.Frag := He.frT g (He.asD g n ++ [cStatics])
def obV (n : Nat) (fa : List He.Fa) (fn : List He.DefD) (tf : List DefN) (ex : PySem.W.Frag → Bool) (g : Addr → Option Obj) : He.AlX := (He.obsT fa fn [] (frV g n), ex (frV g n) && He.tabsB g tf (frV g n))
theorem saysV {n : Nat} {fa : List He.Fa} {fn : List He.DefD} {tf : List DefN} {ex : PySem.W.Frag → Bool} {w : World} {h : Heap} (e : obV n fa fn tf ex h.get? = He.valX fn [] w) : He.SaysX fa fn [] tf ex w h (frV h.get? n) := by
  have facts : He.obsT fa fn [] (frV h.get? n) = He.valT fn [] w := congrArg Prod.fst e
  have both : (ex (frV h.get? n) && He.tabsB h.get? tf (frV h.get? n)) = true := congrArg Prod.snd e
  rw [Bool.and_eq_true] at both
  have tabs : ∀ p ∈ tf, PySem.W.codeHdIn (frV h.get? n) (He.cT (frV h.get? n) p).1 (He.cT (frV h.get? n) p).2 = true ∧ ∃ o, h.get? (He.cT (frV h.get? n) p).2 = some o ∧ He.emptyTab o = true := fun p hp => by
    have z := List.all_eq_true.mp both.2 p hp
    rw [Bool.and_eq_true] at z
    refine ⟨z.1, ?_⟩
    have z2 := z.2
    split at z2
    · rename_i o q
      exact ⟨o, q, z2⟩
    · cases z2
  refine ⟨facts, both.1, fun p hp => (tabs p hp).1, fun p hp => ?_, fun p hp => ?_⟩
  · obtain ⟨_, o, q, z⟩ := tabs p hp
    exact He.frT_none q z
  · obtain ⟨_, o, q, z⟩ := tabs p hp
    exact q.trans (congrArg some (He.emptyTab_eq z))
def hookV (n : Nat) (fa : List He.Fa) (fn : List He.DefD) (tf : List DefN) (ex : PySem.W.Frag → Bool) : PySem.W.Hook where
  α := He.AlX
  obs := fun s => obV n fa fn tf ex s.heap.get?
  val := fun w => He.valX fn [] w
  says := fun w h => ∃ K : PySem.W.Frag, K.In h ∧ He.SaysX fa fn [] tf ex w h K
  of := fun _ _ e => ⟨_, He.frT_in, saysV e⟩
  keeps := fun _ _ _ ⟨K, inK, c⟩ up => ⟨K, PySem.W.Frag.In.keeps inK up, { t := c.t, more := c.more, hd := c.hd, out := c.out, empty := fun p hp => up _ _ (c.empty p hp) }⟩
theorem obV_eq {n : Nat} {fa : List He.Fa} {fn : List He.DefD} {tf : List DefN} {ex : PySem.W.Frag → Bool} {g : Addr → Option Obj} {s : Shared} (h : ∀ a, g a = s.heap.get? a) : obV n fa fn tf ex g = (hookV n fa fn tf ex).obs s := by
  obtain rfl : g = s.heap.get? := funext h
  rfl
end VL

/-! The value layer, 18: built-ins by name. -/
namespace VL
open PySem PySem.Spec PyProof.Rows L2 RZ RT

section
variable {X : Cx} {W : WX} {p pos : Pos} {e : Expr} {es : List Expr} {fa : AF}
theorem se_lenF (kx : Kx X W) (hg : Gl X "len") (hm : X.mg "len" = none) (ha : SA X W (e :: es) fa) (he : starEach (e :: es) X.env = (false, eval e X.env) :: starEach es X.env := by rfl) (hpl : (backTo pos (starEach es X.env)).any (·.1) = false := by rfl) :
    SE X W (.Call (.Name "len" p) (e :: es) [] pos) (eCall (g1 gLen) fa) := se_callB call_lenA (gc1 gu_len) hg hm boot_len ha (by decide) (by decide) he hpl
theorem call_sumA (hc : X.calm = true) : CallR X (.builtin "sum") (fun vs H Q => ∃ v, vs = [v] ∧ rSumA X.K v H Q) := CallR.imp (cr_sum hc) fun vs H Q ⟨v, e, a, ns, e2, h, q⟩ => ⟨a, ns, by rw [e, e2], h, q⟩
theorem se_sumF (kx : Kx X W) (hg : Gl X "sum") (hm : X.mg "sum" = none) (ha : SA X W (e :: es) fa) (he : starEach (e :: es) X.env = (false, eval e X.env) :: starEach es X.env := by rfl) (hpl : (backTo pos (starEach es X.env)).any (·.1) = false := by rfl) :
    SE X W (.Call (.Name "sum" p) (e :: es) [] pos) (eCall (g1 gSum) fa) := se_callB (call_sumA kx.hc) (gc1 gu_sum) hg hm PyProof.Rows.boot_sum ha (by decide) (by decide) he hpl
end
end VL

namespace Lk99
open PySem PySem.Spec PyProof.Rows L2 VL
def top (i : Nat) : Stmt := PySem.Challenge.pw_runsbelieved_k99_errors_by_hand.main.body.getD i (.Pass ⟨0, 0, 0, 0⟩)
abbrev i_BadPrime : Stmt := inClass (top 2) 0
def dI_BadPrime : He.DefD := ⟨("BadPrime", some "__init__"), "__init__", "BadPrime.__init__", defArgs i_BadPrime, defBody i_BadPrime, defScope i_BadPrime, [.non], []⟩
abbrev i_BadNumber : Stmt := inClass (top 3) 0
def dI_BadNumber : He.DefD := ⟨("BadNumber", some "__init__"), "__init__", "BadNumber.__init__", defArgs i_BadNumber, defBody i_BadNumber, defScope i_BadNumber, [.non], []⟩
abbrev i_BadName : Stmt := inClass (top 4) 0
def dI_BadName : He.DefD := ⟨("BadName", some "__init__"), "__init__", "BadName.__init__", defArgs i_BadName, defBody i_BadName, defScope i_BadName, [.non], []⟩
abbrev i_BadRemainder : Stmt := inClass (top 5) 0
def dI_BadRemainder : He.DefD := ⟨("BadRemainder", some "__init__"), "__init__", "BadRemainder.__init__", defArgs i_BadRemainder, defBody i_BadRemainder, defScope i_BadRemainder, [.non], []⟩
abbrev i_BadExpression : Stmt := inClass (top 6) 0
def dI_BadExpression : He.DefD := ⟨("BadExpression", some "__init__"), "__init__", "BadExpression.__init__", defArgs i_BadExpression, defBody i_BadExpression, defScope i_BadExpression, [.non], []⟩
abbrev i_BadProgram : Stmt := inClass (top 7) 0
def dI_BadProgram : He.DefD := ⟨("BadProgram", some "__init__"), "__init__", "BadProgram.__init__", defArgs i_BadProgram, defBody i_BadProgram, defScope i_BadProgram, [.non], []⟩
abbrev i_BadInput : Stmt := inClass (top 8) 0
def dI_BadInput : He.DefD := ⟨("BadInput", some "__init__"), "__init__", "BadInput.__init__", defArgs i_BadInput, defBody i_BadInput, defScope i_BadInput, [.non], []⟩
abbrev i_BadNet : Stmt := inClass (top 9) 0
def dI_BadNet : He.DefD := ⟨("BadNet", some "__init__"), "__init__", "BadNet.__init__", defArgs i_BadNet, defBody i_BadNet, defScope i_BadNet, [.non], []⟩
abbrev i_BadLayers : Stmt := inClass (top 10) 0
def dI_BadLayers : He.DefD := ⟨("BadLayers", some "__init__"), "__init__", "BadLayers.__init__", defArgs i_BadLayers, defBody i_BadLayers, defScope i_BadLayers, [.non], []⟩
abbrev i_BadPoint : Stmt := inClass (top 11) 0
def dI_BadPoint : He.DefD := ⟨("BadPoint", some "__init__"), "__init__", "BadPoint.__init__", defArgs i_BadPoint, defBody i_BadPoint, defScope i_BadPoint, [.non], []⟩
abbrev i_BadLine : Stmt := inClass (top 12) 0
def dI_BadLine : He.DefD := ⟨("BadLine", some "__init__"), "__init__", "BadLine.__init__", defArgs i_BadLine, defBody i_BadLine, defScope i_BadLine, [.non], []⟩
abbrev i_BadTable : Stmt := inClass (top 13) 0
def dI_BadTable : He.DefD := ⟨("BadTable", some "__init__"), "__init__", "BadTable.__init__", defArgs i_BadTable, defBody i_BadTable, defScope i_BadTable, [.non], []⟩
abbrev i_BadClaim : Stmt := inClass (top 14) 0
def dI_BadClaim : He.DefD := ⟨("BadClaim", some "__init__"), "__init__", "BadClaim.__init__", defArgs i_BadClaim, defBody i_BadClaim, defScope i_BadClaim, [.non], []⟩
abbrev i_BadTalk : Stmt := inClass (top 15) 0
def dI_BadTalk : He.DefD := ⟨("BadTalk", some "__init__"), "__init__", "BadTalk.__init__", defArgs i_BadTalk, defBody i_BadTalk, defScope i_BadTalk, [.non], []⟩
abbrev i_BadCheat : Stmt := inClass (top 16) 0
def dI_BadCheat : He.DefD := ⟨("BadCheat", some "__init__"), "__init__", "BadCheat.__init__", defArgs i_BadCheat, defBody i_BadCheat, defScope i_BadCheat, [.non], []⟩
abbrev i_BadCode : Stmt := inClass (top 17) 0
def dI_BadCode : He.DefD := ⟨("BadCode", some "__init__"), "__init__", "BadCode.__init__", defArgs i_BadCode, defBody i_BadCode, defScope i_BadCode, [.non], []⟩
abbrev i_BadWord : Stmt := inClass (top 18) 0
def dI_BadWord : He.DefD := ⟨("BadWord", some "__init__"), "__init__", "BadWord.__init__", defArgs i_BadWord, defBody i_BadWord, defScope i_BadWord, [.non], []⟩
abbrev i_BadTree : Stmt := inClass (top 19) 0
def dI_BadTree : He.DefD := ⟨("BadTree", some "__init__"), "__init__", "BadTree.__init__", defArgs i_BadTree, defBody i_BadTree, defScope i_BadTree, [.non], []⟩
abbrev i_BadMachine : Stmt := inClass (top 20) 0
def dI_BadMachine : He.DefD := ⟨("BadMachine", some "__init__"), "__init__", "BadMachine.__init__", defArgs i_BadMachine, defBody i_BadMachine, defScope i_BadMachine, [.non], []⟩
abbrev i_BadBatch : Stmt := inClass (top 21) 0
def dI_BadBatch : He.DefD := ⟨("BadBatch", some "__init__"), "__init__", "BadBatch.__init__", defArgs i_BadBatch, defBody i_BadBatch, defScope i_BadBatch, [.non], []⟩
abbrev i_BadText : Stmt := inClass (top 22) 0
def dI_BadText : He.DefD := ⟨("BadText", some "__init__"), "__init__", "BadText.__init__", defArgs i_BadText, defBody i_BadText, defScope i_BadText, [.non], []⟩
abbrev i_BadBytes : Stmt := inClass (top 23) 0
def dI_BadBytes : He.DefD := ⟨("BadBytes", some "__init__"), "__init__", "BadBytes.__init__", defArgs i_BadBytes, defBody i_BadBytes, defScope i_BadBytes, [.non], []⟩
abbrev i_BadPaper : Stmt := inClass (top 24) 0
def dI_BadPaper : He.DefD := ⟨("BadPaper", some "__init__"), "__init__", "BadPaper.__init__", defArgs i_BadPaper, defBody i_BadPaper, defScope i_BadPaper, [.non], []⟩
abbrev i_BadDeed : Stmt := inClass (top 25) 0
def dI_BadDeed : He.DefD := ⟨("BadDeed", some "__init__"), "__init__", "BadDeed.__init__", defArgs i_BadDeed, defBody i_BadDeed, defScope i_BadDeed, [.non], []⟩
abbrev i_TooMany : Stmt := inClass (top 26) 0
def dI_TooMany : He.DefD := ⟨("TooMany", some "__init__"), "__init__", "TooMany.__init__", defArgs i_TooMany, defBody i_TooMany, defScope i_TooMany, [], []⟩
abbrev i_NoSuch : Stmt := inClass (top 27) 0
def dI_NoSuch : He.DefD := ⟨("NoSuch", some "__init__"), "__init__", "NoSuch.__init__", defArgs i_NoSuch, defBody i_NoSuch, defScope i_NoSuch, [.non], []⟩
abbrev s__law_mixed : Stmt := top 29
def d__law_mixed : He.DefD := ⟨("_law_mixed", none), "_law_mixed", "_law_mixed", defArgs s__law_mixed, defBody s__law_mixed, defScope s__law_mixed, [], []⟩
abbrev s__law_draw : Stmt := top 30
def d__law_draw : He.DefD := ⟨("_law_draw", none), "_law_draw", "_law_draw", defArgs s__law_draw, defBody s__law_draw, defScope s__law_draw, [], []⟩
abbrev s__law_digit : Stmt := top 31
def d__law_digit : He.DefD := ⟨("_law_digit", none), "_law_digit", "_law_digit", defArgs s__law_digit, defBody s__law_digit, defScope s__law_digit, [], []⟩
abbrev s__law_kinds : Stmt := top 32
def d__law_kinds : He.DefD := ⟨("_law_kinds", none), "_law_kinds", "_law_kinds", defArgs s__law_kinds, defBody s__law_kinds, defScope s__law_kinds, [], []⟩
abbrev s__law_valued : Stmt := top 33
def d__law_valued : He.DefD := ⟨("_law_valued", none), "_law_valued", "_law_valued", defArgs s__law_valued, defBody s__law_valued, defScope s__law_valued, [], []⟩
abbrev s__law_placed : Stmt := top 34
def d__law_placed : He.DefD := ⟨("_law_placed", none), "_law_placed", "_law_placed", defArgs s__law_placed, defBody s__law_placed, defScope s__law_placed, [], []⟩
abbrev s__law_right : Stmt := top 35
def d__law_right : He.DefD := ⟨("_law_right", none), "_law_right", "_law_right", defArgs s__law_right, defBody s__law_right, defScope s__law_right, [], []⟩
abbrev s_law : Stmt := top 36
def d_law : He.DefD := ⟨("law", none), "law", "law", defArgs s_law, defBody s_law, defScope s_law, [], []⟩
def fn : List He.DefD := [dI_BadPrime, dI_BadNumber, dI_BadName, dI_BadRemainder, dI_BadExpression, dI_BadProgram, dI_BadInput, dI_BadNet, dI_BadLayers, dI_BadPoint, dI_BadLine, dI_BadTable, dI_BadClaim, dI_BadTalk, dI_BadCheat, dI_BadCode, dI_BadWord, dI_BadTree, dI_BadMachine, dI_BadBatch, dI_BadText, dI_BadBytes, dI_BadPaper, dI_BadDeed, dI_TooMany, dI_NoSuch, d__law_mixed, d__law_draw, d__law_digit, d__law_kinds, d__law_valued, d__law_placed, d__law_right, d_law]
def fa : List He.Fa := [.glo "_law_mixed", .glo "_law_draw", .glo "_law_digit", .glo "_law_kinds", .glo "_law_valued", .glo "_law_placed", .glo "_law_right", .glo "law", .glo "RunError", .glo "BadPrime", .glo "BadNumber", .glo "BadName", .glo "BadRemainder", .glo "BadExpression", .glo "BadProgram", .glo "BadInput", .glo "BadNet", .glo "BadLayers", .glo "BadPoint", .glo "BadLine", .glo "BadTable", .glo "BadClaim", .glo "BadTalk", .glo "BadCheat", .glo "BadCode", .glo "BadWord", .glo "BadTree", .glo "BadMachine", .glo "BadBatch", .glo "BadText", .glo "BadBytes", .glo "BadPaper", .glo "BadDeed", .glo "TooMany", .glo "NoSuch", .free "LookupError", .free "OverflowError", .free "ValueError", .free "enumerate", .free "isinstance", .free "range", .free "str", .free "sum"]
def tgs : List Tg := [.blt "LookupError", .blt "OverflowError", .blt "ValueError", .own .BadBatch, .own .BadBytes, .own .BadCheat, .own .BadClaim, .own .BadCode, .own .BadDeed, .own .BadExpression, .own .BadInput, .own .BadLayers, .own .BadLine, .own .BadMachine, .own .BadName, .own .BadNet, .own .BadNumber, .own .BadPaper, .own .BadPoint, .own .BadPrime, .own .BadProgram, .own .BadRemainder, .own .BadTable, .own .BadTalk, .own .BadText, .own .BadTree, .own .BadWord, .own .NoSuch, .own .TooMany, .run]
def ln0 : List Str := ["RunError", "BadPrime", "BadNumber", "BadName", "BadRemainder", "BadExpression", "BadProgram", "BadInput", "BadNet", "BadLayers", "BadPoint", "BadLine", "BadTable", "BadClaim", "BadTalk", "BadCheat", "BadCode", "BadWord", "BadTree", "BadMachine", "BadBatch", "BadText", "BadBytes", "BadPaper", "BadDeed", "TooMany", "NoSuch", "_law_mixed", "_law_draw", "_law_digit"]
def ln1 : List Str := ["_law_kinds", "_law_valued", "_law_placed", "_law_right"]
def loose : List Str := ln0 ++ (ln1)
def ex (K : PySem.W.Frag) : Bool := exB K tgs
abbrev R : PySem.W.OpenRow := PySem.W.OpenLaw.row PySem.Challenge.rw_runsbelieved_k99_errors_by_hand
abbrev hk : PySem.W.Hook := hookV 5 fa fn [] ex
def ob (s : PySem.W.SharedT) : He.AlX := obV 5 fa fn [] ex (HandSHeadRun.getT s)
theorem ob_eq (s : PySem.W.SharedT) : ob s = hk.obs s.abs := obV_eq (HandSHeadRun.getT_eq s)
theorem run (w : World) : HandSHeadRun.RunEq R (PySem.W.view R.prog [36]) hk ob 40000 loose w := by
  intro os
  kernel_rfl
end Lk99

namespace Lk99
open PySem PySem.Spec PyProof.Rows L2 VL
abbrev Pg : Program := PySem.Challenge.pw_runsbelieved_k99_errors_by_hand
structure Fx (w : World) (K : PySem.W.Frag) (mg : Str → Option Value) : Prop where
  d : He.SaysD fa fn K
  ex : exB K tgs = true
  gl : ∀ x, (He.Fa.glo x).ok K = true → mg x = some (.ref (He.ga K x))
  fr : ∀ x, (He.Fa.free x).ok K = true → mg x = none
section
variable {w : World} {K : PySem.W.Frag} {mg : Str → Option Value} {base : Heap}
theorem Fx.glo (c : Fx w K mg) {i : Nat} {x : Str} (h : fa[i]? = some (.glo x)) : mg x = some (.ref (He.ga K x)) := c.gl x (c.d.fact i h)
theorem Fx.free (c : Fx w K mg) {i : Nat} {x : Str} (h : fa[i]? = some (.free x)) : mg x = none := c.fr x (c.d.fact i h)
theorem Fx.cl (c : Fx w K mg) (e : Cl) : ClF K tgs e := (exB_ok c.ex).1 e
theorem Fx.xs (c : Fx w K mg) (e : Cl) : XcF K e := (c.cl e).x
theorem Fx.tg (c : Fx w K mg) {t : Tg} (h : t ∈ tgs) : TgF K t := fun e => (c.cl e).tg t h
end
theorem scI_BadPrime : FnScope ["self", "value"] ["self", "value"] (defScope i_BadPrime) := ⟨rfl, rfl, rfl, by decide +kernel, rfl, by decide +kernel, by decide +kernel⟩
theorem mk_BadPrime {w : World} {K : PySem.W.Frag} {mg : Str → Option Value} {base : Heap} (c : Fx w K mg) : Mk Pg w K mg base .BadPrime 1 := by
  obtain ⟨fd, F⟩ := c.d.def_ 0 (d := dI_BadPrime) rfl
  exact ⟨fd, init_ok F scI_BadPrime (c.cl .BadPrime).k (fun X eK em es _ => via_ok (exB_ok c.ex).2 (c.glo (i := 8) (x := "RunError") rfl) (c.free (i := 36) (x := "OverflowError") rfl) (c.free (i := 35) (x := "LookupError") rfl) .BadPrime X eK em (by unfold Gl PySem.Env.kindOf; rw [es]; rfl)) (fun env => ⟨_, rfl⟩) (by first | exact Or.inl rfl | exact Or.inr (Or.inl rfl) | exact Or.inr (Or.inr rfl)) (by first | exact Or.inl rfl | exact Or.inr (Or.inl rfl) | exact Or.inr (Or.inr rfl)) (by decide) (by decide), iniB_of F fun T kV doc pm an cdv ct self u d => ⟨⟨_, rfl, rfl⟩, ⟨_, rfl, rfl⟩, ⟨_, rfl, rfl⟩⟩, c.glo (i := 9) (x := "BadPrime") rfl⟩
theorem scI_BadNumber : FnScope ["self", "value"] ["self", "value"] (defScope i_BadNumber) := ⟨rfl, rfl, rfl, by decide +kernel, rfl, by decide +kernel, by decide +kernel⟩
theorem mk_BadNumber {w : World} {K : PySem.W.Frag} {mg : Str → Option Value} {base : Heap} (c : Fx w K mg) : Mk Pg w K mg base .BadNumber 1 := by
  obtain ⟨fd, F⟩ := c.d.def_ 1 (d := dI_BadNumber) rfl
  exact ⟨fd, init_ok F scI_BadNumber (c.cl .BadNumber).k (fun X eK em es _ => via_ok (exB_ok c.ex).2 (c.glo (i := 8) (x := "RunError") rfl) (c.free (i := 36) (x := "OverflowError") rfl) (c.free (i := 35) (x := "LookupError") rfl) .BadNumber X eK em (by unfold Gl PySem.Env.kindOf; rw [es]; rfl)) (fun env => ⟨_, rfl⟩) (by first | exact Or.inl rfl | exact Or.inr (Or.inl rfl) | exact Or.inr (Or.inr rfl)) (by first | exact Or.inl rfl | exact Or.inr (Or.inl rfl) | exact Or.inr (Or.inr rfl)) (by decide) (by decide), iniB_of F fun T kV doc pm an cdv ct self u d => ⟨⟨_, rfl, rfl⟩, ⟨_, rfl, rfl⟩, ⟨_, rfl, rfl⟩⟩, c.glo (i := 10) (x := "BadNumber") rfl⟩
theorem scI_BadName : FnScope ["self", "value"] ["self", "value"] (defScope i_BadName) := ⟨rfl, rfl, rfl, by decide +kernel, rfl, by decide +kernel, by decide +kernel⟩
theorem mk_BadName {w : World} {K : PySem.W.Frag} {mg : Str → Option Value} {base : Heap} (c : Fx w K mg) : Mk Pg w K mg base .BadName 1 := by
  obtain ⟨fd, F⟩ := c.d.def_ 2 (d := dI_BadName) rfl
  exact ⟨fd, init_ok F scI_BadName (c.cl .BadName).k (fun X eK em es _ => via_ok (exB_ok c.ex).2 (c.glo (i := 8) (x := "RunError") rfl) (c.free (i := 36) (x := "OverflowError") rfl) (c.free (i := 35) (x := "LookupError") rfl) .BadName X eK em (by unfold Gl PySem.Env.kindOf; rw [es]; rfl)) (fun env => ⟨_, rfl⟩) (by first | exact Or.inl rfl | exact Or.inr (Or.inl rfl) | exact Or.inr (Or.inr rfl)) (by first | exact Or.inl rfl | exact Or.inr (Or.inl rfl) | exact Or.inr (Or.inr rfl)) (by decide) (by decide), iniB_of F fun T kV doc pm an cdv ct self u d => ⟨⟨_, rfl, rfl⟩, ⟨_, rfl, rfl⟩, ⟨_, rfl, rfl⟩⟩, c.glo (i := 11) (x := "BadName") rfl⟩
theorem scI_BadRemainder : FnScope ["self", "value"] ["self", "value"] (defScope i_BadRemainder) := ⟨rfl, rfl, rfl, by decide +kernel, rfl, by decide +kernel, by decide +kernel⟩
theorem mk_BadRemainder {w : World} {K : PySem.W.Frag} {mg : Str → Option Value} {base : Heap} (c : Fx w K mg) : Mk Pg w K mg base .BadRemainder 1 := by
  obtain ⟨fd, F⟩ := c.d.def_ 3 (d := dI_BadRemainder) rfl
  exact ⟨fd, init_ok F scI_BadRemainder (c.cl .BadRemainder).k (fun X eK em es _ => via_ok (exB_ok c.ex).2 (c.glo (i := 8) (x := "RunError") rfl) (c.free (i := 36) (x := "OverflowError") rfl) (c.free (i := 35) (x := "LookupError") rfl) .BadRemainder X eK em (by unfold Gl PySem.Env.kindOf; rw [es]; rfl)) (fun env => ⟨_, rfl⟩) (by first | exact Or.inl rfl | exact Or.inr (Or.inl rfl) | exact Or.inr (Or.inr rfl)) (by first | exact Or.inl rfl | exact Or.inr (Or.inl rfl) | exact Or.inr (Or.inr rfl)) (by decide) (by decide), iniB_of F fun T kV doc pm an cdv ct self u d => ⟨⟨_, rfl, rfl⟩, ⟨_, rfl, rfl⟩, ⟨_, rfl, rfl⟩⟩, c.glo (i := 12) (x := "BadRemainder") rfl⟩
theorem scI_BadExpression : FnScope ["self", "place"] ["self", "place"] (defScope i_BadExpression) := ⟨rfl, rfl, rfl, by decide +kernel, rfl, by decide +kernel, by decide +kernel⟩
theorem mk_BadExpression {w : World} {K : PySem.W.Frag} {mg : Str → Option Value} {base : Heap} (c : Fx w K mg) : Mk Pg w K mg base .BadExpression 1 := by
  obtain ⟨fd, F⟩ := c.d.def_ 4 (d := dI_BadExpression) rfl
  exact ⟨fd, init_ok F scI_BadExpression (c.cl .BadExpression).k (fun X eK em es _ => via_ok (exB_ok c.ex).2 (c.glo (i := 8) (x := "RunError") rfl) (c.free (i := 36) (x := "OverflowError") rfl) (c.free (i := 35) (x := "LookupError") rfl) .BadExpression X eK em (by unfold Gl PySem.Env.kindOf; rw [es]; rfl)) (fun env => ⟨_, rfl⟩) (by first | exact Or.inl rfl | exact Or.inr (Or.inl rfl) | exact Or.inr (Or.inr rfl)) (by first | exact Or.inl rfl | exact Or.inr (Or.inl rfl) | exact Or.inr (Or.inr rfl)) (by decide) (by decide), iniB_of F fun T kV doc pm an cdv ct self u d => ⟨⟨_, rfl, rfl⟩, ⟨_, rfl, rfl⟩, ⟨_, rfl, rfl⟩⟩, c.glo (i := 13) (x := "BadExpression") rfl⟩
theorem scI_BadProgram : FnScope ["self", "place"] ["self", "place"] (defScope i_BadProgram) := ⟨rfl, rfl, rfl, by decide +kernel, rfl, by decide +kernel, by decide +kernel⟩
theorem mk_BadProgram {w : World} {K : PySem.W.Frag} {mg : Str → Option Value} {base : Heap} (c : Fx w K mg) : Mk Pg w K mg base .BadProgram 1 := by
  obtain ⟨fd, F⟩ := c.d.def_ 5 (d := dI_BadProgram) rfl
  exact ⟨fd, init_ok F scI_BadProgram (c.cl .BadProgram).k (fun X eK em es _ => via_ok (exB_ok c.ex).2 (c.glo (i := 8) (x := "RunError") rfl) (c.free (i := 36) (x := "OverflowError") rfl) (c.free (i := 35) (x := "LookupError") rfl) .BadProgram X eK em (by unfold Gl PySem.Env.kindOf; rw [es]; rfl)) (fun env => ⟨_, rfl⟩) (by first | exact Or.inl rfl | exact Or.inr (Or.inl rfl) | exact Or.inr (Or.inr rfl)) (by first | exact Or.inl rfl | exact Or.inr (Or.inl rfl) | exact Or.inr (Or.inr rfl)) (by decide) (by decide), iniB_of F fun T kV doc pm an cdv ct self u d => ⟨⟨_, rfl, rfl⟩, ⟨_, rfl, rfl⟩, ⟨_, rfl, rfl⟩⟩, c.glo (i := 14) (x := "BadProgram") rfl⟩
theorem scI_BadInput : FnScope ["self", "place"] ["self", "place"] (defScope i_BadInput) := ⟨rfl, rfl, rfl, by decide +kernel, rfl, by decide +kernel, by decide +kernel⟩
theorem mk_BadInput {w : World} {K : PySem.W.Frag} {mg : Str → Option Value} {base : Heap} (c : Fx w K mg) : Mk Pg w K mg base .BadInput 1 := by
  obtain ⟨fd, F⟩ := c.d.def_ 6 (d := dI_BadInput) rfl
  exact ⟨fd, init_ok F scI_BadInput (c.cl .BadInput).k (fun X eK em es _ => via_ok (exB_ok c.ex).2 (c.glo (i := 8) (x := "RunError") rfl) (c.free (i := 36) (x := "OverflowError") rfl) (c.free (i := 35) (x := "LookupError") rfl) .BadInput X eK em (by unfold Gl PySem.Env.kindOf; rw [es]; rfl)) (fun env => ⟨_, rfl⟩) (by first | exact Or.inl rfl | exact Or.inr (Or.inl rfl) | exact Or.inr (Or.inr rfl)) (by first | exact Or.inl rfl | exact Or.inr (Or.inl rfl) | exact Or.inr (Or.inr rfl)) (by decide) (by decide), iniB_of F fun T kV doc pm an cdv ct self u d => ⟨⟨_, rfl, rfl⟩, ⟨_, rfl, rfl⟩, ⟨_, rfl, rfl⟩⟩, c.glo (i := 15) (x := "BadInput") rfl⟩
theorem scI_BadNet : FnScope ["self", "place"] ["self", "place"] (defScope i_BadNet) := ⟨rfl, rfl, rfl, by decide +kernel, rfl, by decide +kernel, by decide +kernel⟩
theorem mk_BadNet {w : World} {K : PySem.W.Frag} {mg : Str → Option Value} {base : Heap} (c : Fx w K mg) : Mk Pg w K mg base .BadNet 1 := by
  obtain ⟨fd, F⟩ := c.d.def_ 7 (d := dI_BadNet) rfl
  exact ⟨fd, init_ok F scI_BadNet (c.cl .BadNet).k (fun X eK em es _ => via_ok (exB_ok c.ex).2 (c.glo (i := 8) (x := "RunError") rfl) (c.free (i := 36) (x := "OverflowError") rfl) (c.free (i := 35) (x := "LookupError") rfl) .BadNet X eK em (by unfold Gl PySem.Env.kindOf; rw [es]; rfl)) (fun env => ⟨_, rfl⟩) (by first | exact Or.inl rfl | exact Or.inr (Or.inl rfl) | exact Or.inr (Or.inr rfl)) (by first | exact Or.inl rfl | exact Or.inr (Or.inl rfl) | exact Or.inr (Or.inr rfl)) (by decide) (by decide), iniB_of F fun T kV doc pm an cdv ct self u d => ⟨⟨_, rfl, rfl⟩, ⟨_, rfl, rfl⟩, ⟨_, rfl, rfl⟩⟩, c.glo (i := 16) (x := "BadNet") rfl⟩
theorem scI_BadLayers : FnScope ["self", "place"] ["self", "place"] (defScope i_BadLayers) := ⟨rfl, rfl, rfl, by decide +kernel, rfl, by decide +kernel, by decide +kernel⟩
theorem mk_BadLayers {w : World} {K : PySem.W.Frag} {mg : Str → Option Value} {base : Heap} (c : Fx w K mg) : Mk Pg w K mg base .BadLayers 1 := by
  obtain ⟨fd, F⟩ := c.d.def_ 8 (d := dI_BadLayers) rfl
  exact ⟨fd, init_ok F scI_BadLayers (c.cl .BadLayers).k (fun X eK em es _ => via_ok (exB_ok c.ex).2 (c.glo (i := 8) (x := "RunError") rfl) (c.free (i := 36) (x := "OverflowError") rfl) (c.free (i := 35) (x := "LookupError") rfl) .BadLayers X eK em (by unfold Gl PySem.Env.kindOf; rw [es]; rfl)) (fun env => ⟨_, rfl⟩) (by first | exact Or.inl rfl | exact Or.inr (Or.inl rfl) | exact Or.inr (Or.inr rfl)) (by first | exact Or.inl rfl | exact Or.inr (Or.inl rfl) | exact Or.inr (Or.inr rfl)) (by decide) (by decide), iniB_of F fun T kV doc pm an cdv ct self u d => ⟨⟨_, rfl, rfl⟩, ⟨_, rfl, rfl⟩, ⟨_, rfl, rfl⟩⟩, c.glo (i := 17) (x := "BadLayers") rfl⟩
theorem scI_BadPoint : FnScope ["self", "place"] ["self", "place"] (defScope i_BadPoint) := ⟨rfl, rfl, rfl, by decide +kernel, rfl, by decide +kernel, by decide +kernel⟩
theorem mk_BadPoint {w : World} {K : PySem.W.Frag} {mg : Str → Option Value} {base : Heap} (c : Fx w K mg) : Mk Pg w K mg base .BadPoint 1 := by
  obtain ⟨fd, F⟩ := c.d.def_ 9 (d := dI_BadPoint) rfl
  exact ⟨fd, init_ok F scI_BadPoint (c.cl .BadPoint).k (fun X eK em es _ => via_ok (exB_ok c.ex).2 (c.glo (i := 8) (x := "RunError") rfl) (c.free (i := 36) (x := "OverflowError") rfl) (c.free (i := 35) (x := "LookupError") rfl) .BadPoint X eK em (by unfold Gl PySem.Env.kindOf; rw [es]; rfl)) (fun env => ⟨_, rfl⟩) (by first | exact Or.inl rfl | exact Or.inr (Or.inl rfl) | exact Or.inr (Or.inr rfl)) (by first | exact Or.inl rfl | exact Or.inr (Or.inl rfl) | exact Or.inr (Or.inr rfl)) (by decide) (by decide), iniB_of F fun T kV doc pm an cdv ct self u d => ⟨⟨_, rfl, rfl⟩, ⟨_, rfl, rfl⟩, ⟨_, rfl, rfl⟩⟩, c.glo (i := 18) (x := "BadPoint") rfl⟩
theorem scI_BadLine : FnScope ["self", "place"] ["self", "place"] (defScope i_BadLine) := ⟨rfl, rfl, rfl, by decide +kernel, rfl, by decide +kernel, by decide +kernel⟩
theorem mk_BadLine {w : World} {K : PySem.W.Frag} {mg : Str → Option Value} {base : Heap} (c : Fx w K mg) : Mk Pg w K mg base .BadLine 1 := by
  obtain ⟨fd, F⟩ := c.d.def_ 10 (d := dI_BadLine) rfl
  exact ⟨fd, init_ok F scI_BadLine (c.cl .BadLine).k (fun X eK em es _ => via_ok (exB_ok c.ex).2 (c.glo (i := 8) (x := "RunError") rfl) (c.free (i := 36) (x := "OverflowError") rfl) (c.free (i := 35) (x := "LookupError") rfl) .BadLine X eK em (by unfold Gl PySem.Env.kindOf; rw [es]; rfl)) (fun env => ⟨_, rfl⟩) (by first | exact Or.inl rfl | exact Or.inr (Or.inl rfl) | exact Or.inr (Or.inr rfl)) (by first | exact Or.inl rfl | exact Or.inr (Or.inl rfl) | exact Or.inr (Or.inr rfl)) (by decide) (by decide), iniB_of F fun T kV doc pm an cdv ct self u d => ⟨⟨_, rfl, rfl⟩, ⟨_, rfl, rfl⟩, ⟨_, rfl, rfl⟩⟩, c.glo (i := 19) (x := "BadLine") rfl⟩
theorem scI_BadTable : FnScope ["self", "place"] ["self", "place"] (defScope i_BadTable) := ⟨rfl, rfl, rfl, by decide +kernel, rfl, by decide +kernel, by decide +kernel⟩
theorem mk_BadTable {w : World} {K : PySem.W.Frag} {mg : Str → Option Value} {base : Heap} (c : Fx w K mg) : Mk Pg w K mg base .BadTable 1 := by
  obtain ⟨fd, F⟩ := c.d.def_ 11 (d := dI_BadTable) rfl
  exact ⟨fd, init_ok F scI_BadTable (c.cl .BadTable).k (fun X eK em es _ => via_ok (exB_ok c.ex).2 (c.glo (i := 8) (x := "RunError") rfl) (c.free (i := 36) (x := "OverflowError") rfl) (c.free (i := 35) (x := "LookupError") rfl) .BadTable X eK em (by unfold Gl PySem.Env.kindOf; rw [es]; rfl)) (fun env => ⟨_, rfl⟩) (by first | exact Or.inl rfl | exact Or.inr (Or.inl rfl) | exact Or.inr (Or.inr rfl)) (by first | exact Or.inl rfl | exact Or.inr (Or.inl rfl) | exact Or.inr (Or.inr rfl)) (by decide) (by decide), iniB_of F fun T kV doc pm an cdv ct self u d => ⟨⟨_, rfl, rfl⟩, ⟨_, rfl, rfl⟩, ⟨_, rfl, rfl⟩⟩, c.glo (i := 20) (x := "BadTable") rfl⟩
theorem scI_BadClaim : FnScope ["self", "place"] ["self", "place"] (defScope i_BadClaim) := ⟨rfl, rfl, rfl, by decide +kernel, rfl, by decide +kernel, by decide +kernel⟩
theorem mk_BadClaim {w : World} {K : PySem.W.Frag} {mg : Str → Option Value} {base : Heap} (c : Fx w K mg) : Mk Pg w K mg base .BadClaim 1 := by
  obtain ⟨fd, F⟩ := c.d.def_ 12 (d := dI_BadClaim) rfl
  exact ⟨fd, init_ok F scI_BadClaim (c.cl .BadClaim).k (fun X eK em es _ => via_ok (exB_ok c.ex).2 (c.glo (i := 8) (x := "RunError") rfl) (c.free (i := 36) (x := "OverflowError") rfl) (c.free (i := 35) (x := "LookupError") rfl) .BadClaim X eK em (by unfold Gl PySem.Env.kindOf; rw [es]; rfl)) (fun env => ⟨_, rfl⟩) (by first | exact Or.inl rfl | exact Or.inr (Or.inl rfl) | exact Or.inr (Or.inr rfl)) (by first | exact Or.inl rfl | exact Or.inr (Or.inl rfl) | exact Or.inr (Or.inr rfl)) (by decide) (by decide), iniB_of F fun T kV doc pm an cdv ct self u d => ⟨⟨_, rfl, rfl⟩, ⟨_, rfl, rfl⟩, ⟨_, rfl, rfl⟩⟩, c.glo (i := 21) (x := "BadClaim") rfl⟩
theorem scI_BadTalk : FnScope ["self", "place"] ["self", "place"] (defScope i_BadTalk) := ⟨rfl, rfl, rfl, by decide +kernel, rfl, by decide +kernel, by decide +kernel⟩
theorem mk_BadTalk {w : World} {K : PySem.W.Frag} {mg : Str → Option Value} {base : Heap} (c : Fx w K mg) : Mk Pg w K mg base .BadTalk 1 := by
  obtain ⟨fd, F⟩ := c.d.def_ 13 (d := dI_BadTalk) rfl
  exact ⟨fd, init_ok F scI_BadTalk (c.cl .BadTalk).k (fun X eK em es _ => via_ok (exB_ok c.ex).2 (c.glo (i := 8) (x := "RunError") rfl) (c.free (i := 36) (x := "OverflowError") rfl) (c.free (i := 35) (x := "LookupError") rfl) .BadTalk X eK em (by unfold Gl PySem.Env.kindOf; rw [es]; rfl)) (fun env => ⟨_, rfl⟩) (by first | exact Or.inl rfl | exact Or.inr (Or.inl rfl) | exact Or.inr (Or.inr rfl)) (by first | exact Or.inl rfl | exact Or.inr (Or.inl rfl) | exact Or.inr (Or.inr rfl)) (by decide) (by decide), iniB_of F fun T kV doc pm an cdv ct self u d => ⟨⟨_, rfl, rfl⟩, ⟨_, rfl, rfl⟩, ⟨_, rfl, rfl⟩⟩, c.glo (i := 22) (x := "BadTalk") rfl⟩
theorem scI_BadCheat : FnScope ["self", "place"] ["self", "place"] (defScope i_BadCheat) := ⟨rfl, rfl, rfl, by decide +kernel, rfl, by decide +kernel, by decide +kernel⟩
theorem mk_BadCheat {w : World} {K : PySem.W.Frag} {mg : Str → Option Value} {base : Heap} (c : Fx w K mg) : Mk Pg w K mg base .BadCheat 1 := by
  obtain ⟨fd, F⟩ := c.d.def_ 14 (d := dI_BadCheat) rfl
  exact ⟨fd, init_ok F scI_BadCheat (c.cl .BadCheat).k (fun X eK em es _ => via_ok (exB_ok c.ex).2 (c.glo (i := 8) (x := "RunError") rfl) (c.free (i := 36) (x := "OverflowError") rfl) (c.free (i := 35) (x := "LookupError") rfl) .BadCheat X eK em (by unfold Gl PySem.Env.kindOf; rw [es]; rfl)) (fun env => ⟨_, rfl⟩) (by first | exact Or.inl rfl | exact Or.inr (Or.inl rfl) | exact Or.inr (Or.inr rfl)) (by first | exact Or.inl rfl | exact Or.inr (Or.inl rfl) | exact Or.inr (Or.inr rfl)) (by decide) (by decide), iniB_of F fun T kV doc pm an cdv ct self u d => ⟨⟨_, rfl, rfl⟩, ⟨_, rfl, rfl⟩, ⟨_, rfl, rfl⟩⟩, c.glo (i := 23) (x := "BadCheat") rfl⟩
theorem scI_BadCode : FnScope ["self", "place"] ["self", "place"] (defScope i_BadCode) := ⟨rfl, rfl, rfl, by decide +kernel, rfl, by decide +kernel, by decide +kernel⟩
theorem mk_BadCode {w : World} {K : PySem.W.Frag} {mg : Str → Option Value} {base : Heap} (c : Fx w K mg) : Mk Pg w K mg base .BadCode 1 := by
  obtain ⟨fd, F⟩ := c.d.def_ 15 (d := dI_BadCode) rfl
  exact ⟨fd, init_ok F scI_BadCode (c.cl .BadCode).k (fun X eK em es _ => via_ok (exB_ok c.ex).2 (c.glo (i := 8) (x := "RunError") rfl) (c.free (i := 36) (x := "OverflowError") rfl) (c.free (i := 35) (x := "LookupError") rfl) .BadCode X eK em (by unfold Gl PySem.Env.kindOf; rw [es]; rfl)) (fun env => ⟨_, rfl⟩) (by first | exact Or.inl rfl | exact Or.inr (Or.inl rfl) | exact Or.inr (Or.inr rfl)) (by first | exact Or.inl rfl | exact Or.inr (Or.inl rfl) | exact Or.inr (Or.inr rfl)) (by decide) (by decide), iniB_of F fun T kV doc pm an cdv ct self u d => ⟨⟨_, rfl, rfl⟩, ⟨_, rfl, rfl⟩, ⟨_, rfl, rfl⟩⟩, c.glo (i := 24) (x := "BadCode") rfl⟩
theorem scI_BadWord : FnScope ["self", "place"] ["self", "place"] (defScope i_BadWord) := ⟨rfl, rfl, rfl, by decide +kernel, rfl, by decide +kernel, by decide +kernel⟩
theorem mk_BadWord {w : World} {K : PySem.W.Frag} {mg : Str → Option Value} {base : Heap} (c : Fx w K mg) : Mk Pg w K mg base .BadWord 1 := by
  obtain ⟨fd, F⟩ := c.d.def_ 16 (d := dI_BadWord) rfl
  exact ⟨fd, init_ok F scI_BadWord (c.cl .BadWord).k (fun X eK em es _ => via_ok (exB_ok c.ex).2 (c.glo (i := 8) (x := "RunError") rfl) (c.free (i := 36) (x := "OverflowError") rfl) (c.free (i := 35) (x := "LookupError") rfl) .BadWord X eK em (by unfold Gl PySem.Env.kindOf; rw [es]; rfl)) (fun env => ⟨_, rfl⟩) (by first | exact Or.inl rfl | exact Or.inr (Or.inl rfl) | exact Or.inr (Or.inr rfl)) (by first | exact Or.inl rfl | exact Or.inr (Or.inl rfl) | exact Or.inr (Or.inr rfl)) (by decide) (by decide), iniB_of F fun T kV doc pm an cdv ct self u d => ⟨⟨_, rfl, rfl⟩, ⟨_, rfl, rfl⟩, ⟨_, rfl, rfl⟩⟩, c.glo (i := 25) (x := "BadWord") rfl⟩
theorem scI_BadTree : FnScope ["self", "place"] ["self", "place"] (defScope i_BadTree) := ⟨rfl, rfl, rfl, by decide +kernel, rfl, by decide +kernel, by decide +kernel⟩
theorem mk_BadTree {w : World} {K : PySem.W.Frag} {mg : Str → Option Value} {base : Heap} (c : Fx w K mg) : Mk Pg w K mg base .BadTree 1 := by
  obtain ⟨fd, F⟩ := c.d.def_ 17 (d := dI_BadTree) rfl
  exact ⟨fd, init_ok F scI_BadTree (c.cl .BadTree).k (fun X eK em es _ => via_ok (exB_ok c.ex).2 (c.glo (i := 8) (x := "RunError") rfl) (c.free (i := 36) (x := "OverflowError") rfl) (c.free (i := 35) (x := "LookupError") rfl) .BadTree X eK em (by unfold Gl PySem.Env.kindOf; rw [es]; rfl)) (fun env => ⟨_, rfl⟩) (by first | exact Or.inl rfl | exact Or.inr (Or.inl rfl) | exact Or.inr (Or.inr rfl)) (by first | exact Or.inl rfl | exact Or.inr (Or.inl rfl) | exact Or.inr (Or.inr rfl)) (by decide) (by decide), iniB_of F fun T kV doc pm an cdv ct self u d => ⟨⟨_, rfl, rfl⟩, ⟨_, rfl, rfl⟩, ⟨_, rfl, rfl⟩⟩, c.glo (i := 26) (x := "BadTree") rfl⟩
theorem scI_BadMachine : FnScope ["self", "place"] ["self", "place"] (defScope i_BadMachine) := ⟨rfl, rfl, rfl, by decide +kernel, rfl, by decide +kernel, by decide +kernel⟩
theorem mk_BadMachine {w : World} {K : PySem.W.Frag} {mg : Str → Option Value} {base : Heap} (c : Fx w K mg) : Mk Pg w K mg base .BadMachine 1 := by
  obtain ⟨fd, F⟩ := c.d.def_ 18 (d := dI_BadMachine) rfl
  exact ⟨fd, init_ok F scI_BadMachine (c.cl .BadMachine).k (fun X eK em es _ => via_ok (exB_ok c.ex).2 (c.glo (i := 8) (x := "RunError") rfl) (c.free (i := 36) (x := "OverflowError") rfl) (c.free (i := 35) (x := "LookupError") rfl) .BadMachine X eK em (by unfold Gl PySem.Env.kindOf; rw [es]; rfl)) (fun env => ⟨_, rfl⟩) (by first | exact Or.inl rfl | exact Or.inr (Or.inl rfl) | exact Or.inr (Or.inr rfl)) (by first | exact Or.inl rfl | exact Or.inr (Or.inl rfl) | exact Or.inr (Or.inr rfl)) (by decide) (by decide), iniB_of F fun T kV doc pm an cdv ct self u d => ⟨⟨_, rfl, rfl⟩, ⟨_, rfl, rfl⟩, ⟨_, rfl, rfl⟩⟩, c.glo (i := 27) (x := "BadMachine") rfl⟩
theorem scI_BadBatch : FnScope ["self", "place"] ["self", "place"] (defScope i_BadBatch) := ⟨rfl, rfl, rfl, by decide +kernel, rfl, by decide +kernel, by decide +kernel⟩
theorem mk_BadBatch {w : World} {K : PySem.W.Frag} {mg : Str → Option Value} {base : Heap} (c : Fx w K mg) : Mk Pg w K mg base .BadBatch 1 := by
  obtain ⟨fd, F⟩ := c.d.def_ 19 (d := dI_BadBatch) rfl
  exact ⟨fd, init_ok F scI_BadBatch (c.cl .BadBatch).k (fun X eK em es _ => via_ok (exB_ok c.ex).2 (c.glo (i := 8) (x := "RunError") rfl) (c.free (i := 36) (x := "OverflowError") rfl) (c.free (i := 35) (x := "LookupError") rfl) .BadBatch X eK em (by unfold Gl PySem.Env.kindOf; rw [es]; rfl)) (fun env => ⟨_, rfl⟩) (by first | exact Or.inl rfl | exact Or.inr (Or.inl rfl) | exact Or.inr (Or.inr rfl)) (by first | exact Or.inl rfl | exact Or.inr (Or.inl rfl) | exact Or.inr (Or.inr rfl)) (by decide) (by decide), iniB_of F fun T kV doc pm an cdv ct self u d => ⟨⟨_, rfl, rfl⟩, ⟨_, rfl, rfl⟩, ⟨_, rfl, rfl⟩⟩, c.glo (i := 28) (x := "BadBatch") rfl⟩
theorem scI_BadText : FnScope ["self", "place"] ["self", "place"] (defScope i_BadText) := ⟨rfl, rfl, rfl, by decide +kernel, rfl, by decide +kernel, by decide +kernel⟩
theorem mk_BadText {w : World} {K : PySem.W.Frag} {mg : Str → Option Value} {base : Heap} (c : Fx w K mg) : Mk Pg w K mg base .BadText 1 := by
  obtain ⟨fd, F⟩ := c.d.def_ 20 (d := dI_BadText) rfl
  exact ⟨fd, init_ok F scI_BadText (c.cl .BadText).k (fun X eK em es _ => via_ok (exB_ok c.ex).2 (c.glo (i := 8) (x := "RunError") rfl) (c.free (i := 36) (x := "OverflowError") rfl) (c.free (i := 35) (x := "LookupError") rfl) .BadText X eK em (by unfold Gl PySem.Env.kindOf; rw [es]; rfl)) (fun env => ⟨_, rfl⟩) (by first | exact Or.inl rfl | exact Or.inr (Or.inl rfl) | exact Or.inr (Or.inr rfl)) (by first | exact Or.inl rfl | exact Or.inr (Or.inl rfl) | exact Or.inr (Or.inr rfl)) (by decide) (by decide), iniB_of F fun T kV doc pm an cdv ct self u d => ⟨⟨_, rfl, rfl⟩, ⟨_, rfl, rfl⟩, ⟨_, rfl, rfl⟩⟩, c.glo (i := 29) (x := "BadText") rfl⟩
theorem scI_BadBytes : FnScope ["self", "place"] ["self", "place"] (defScope i_BadBytes) := ⟨rfl, rfl, rfl, by decide +kernel, rfl, by decide +kernel, by decide +kernel⟩
theorem mk_BadBytes {w : World} {K : PySem.W.Frag} {mg : Str → Option Value} {base : Heap} (c : Fx w K mg) : Mk Pg w K mg base .BadBytes 1 := by
  obtain ⟨fd, F⟩ := c.d.def_ 21 (d := dI_BadBytes) rfl
  exact ⟨fd, init_ok F scI_BadBytes (c.cl .BadBytes).k (fun X eK em es _ => via_ok (exB_ok c.ex).2 (c.glo (i := 8) (x := "RunError") rfl) (c.free (i := 36) (x := "OverflowError") rfl) (c.free (i := 35) (x := "LookupError") rfl) .BadBytes X eK em (by unfold Gl PySem.Env.kindOf; rw [es]; rfl)) (fun env => ⟨_, rfl⟩) (by first | exact Or.inl rfl | exact Or.inr (Or.inl rfl) | exact Or.inr (Or.inr rfl)) (by first | exact Or.inl rfl | exact Or.inr (Or.inl rfl) | exact Or.inr (Or.inr rfl)) (by decide) (by decide), iniB_of F fun T kV doc pm an cdv ct self u d => ⟨⟨_, rfl, rfl⟩, ⟨_, rfl, rfl⟩, ⟨_, rfl, rfl⟩⟩, c.glo (i := 30) (x := "BadBytes") rfl⟩
theorem scI_BadPaper : FnScope ["self", "place"] ["self", "place"] (defScope i_BadPaper) := ⟨rfl, rfl, rfl, by decide +kernel, rfl, by decide +kernel, by decide +kernel⟩
theorem mk_BadPaper {w : World} {K : PySem.W.Frag} {mg : Str → Option Value} {base : Heap} (c : Fx w K mg) : Mk Pg w K mg base .BadPaper 1 := by
  obtain ⟨fd, F⟩ := c.d.def_ 22 (d := dI_BadPaper) rfl
  exact ⟨fd, init_ok F scI_BadPaper (c.cl .BadPaper).k (fun X eK em es _ => via_ok (exB_ok c.ex).2 (c.glo (i := 8) (x := "RunError") rfl) (c.free (i := 36) (x := "OverflowError") rfl) (c.free (i := 35) (x := "LookupError") rfl) .BadPaper X eK em (by unfold Gl PySem.Env.kindOf; rw [es]; rfl)) (fun env => ⟨_, rfl⟩) (by first | exact Or.inl rfl | exact Or.inr (Or.inl rfl) | exact Or.inr (Or.inr rfl)) (by first | exact Or.inl rfl | exact Or.inr (Or.inl rfl) | exact Or.inr (Or.inr rfl)) (by decide) (by decide), iniB_of F fun T kV doc pm an cdv ct self u d => ⟨⟨_, rfl, rfl⟩, ⟨_, rfl, rfl⟩, ⟨_, rfl, rfl⟩⟩, c.glo (i := 31) (x := "BadPaper") rfl⟩
theorem scI_BadDeed : FnScope ["self", "place"] ["self", "place"] (defScope i_BadDeed) := ⟨rfl, rfl, rfl, by decide +kernel, rfl, by decide +kernel, by decide +kernel⟩
theorem mk_BadDeed {w : World} {K : PySem.W.Frag} {mg : Str → Option Value} {base : Heap} (c : Fx w K mg) : Mk Pg w K mg base .BadDeed 1 := by
  obtain ⟨fd, F⟩ := c.d.def_ 23 (d := dI_BadDeed) rfl
  exact ⟨fd, init_ok F scI_BadDeed (c.cl .BadDeed).k (fun X eK em es _ => via_ok (exB_ok c.ex).2 (c.glo (i := 8) (x := "RunError") rfl) (c.free (i := 36) (x := "OverflowError") rfl) (c.free (i := 35) (x := "LookupError") rfl) .BadDeed X eK em (by unfold Gl PySem.Env.kindOf; rw [es]; rfl)) (fun env => ⟨_, rfl⟩) (by first | exact Or.inl rfl | exact Or.inr (Or.inl rfl) | exact Or.inr (Or.inr rfl)) (by first | exact Or.inl rfl | exact Or.inr (Or.inl rfl) | exact Or.inr (Or.inr rfl)) (by decide) (by decide), iniB_of F fun T kV doc pm an cdv ct self u d => ⟨⟨_, rfl, rfl⟩, ⟨_, rfl, rfl⟩, ⟨_, rfl, rfl⟩⟩, c.glo (i := 32) (x := "BadDeed") rfl⟩
theorem scI_TooMany : FnScope ["self", "most"] ["self", "most"] (defScope i_TooMany) := ⟨rfl, rfl, rfl, by decide +kernel, rfl, by decide +kernel, by decide +kernel⟩
theorem mk_TooMany {w : World} {K : PySem.W.Frag} {mg : Str → Option Value} {base : Heap} (c : Fx w K mg) : Mk Pg w K mg base .TooMany 1 := by
  obtain ⟨fd, F⟩ := c.d.def_ 24 (d := dI_TooMany) rfl
  exact ⟨fd, init_ok F scI_TooMany (c.cl .TooMany).k (fun X eK em es _ => via_ok (exB_ok c.ex).2 (c.glo (i := 8) (x := "RunError") rfl) (c.free (i := 36) (x := "OverflowError") rfl) (c.free (i := 35) (x := "LookupError") rfl) .TooMany X eK em (by unfold Gl PySem.Env.kindOf; rw [es]; rfl)) (fun env => ⟨_, rfl⟩) (by first | exact Or.inl rfl | exact Or.inr (Or.inl rfl) | exact Or.inr (Or.inr rfl)) (by first | exact Or.inl rfl | exact Or.inr (Or.inl rfl) | exact Or.inr (Or.inr rfl)) (by decide) (by decide), iniB_of0 F fun kV doc pm an cdv ct self u => ⟨rfl, rfl⟩, c.glo (i := 33) (x := "TooMany") rfl⟩
theorem scI_NoSuch : FnScope ["self", "value"] ["self", "value"] (defScope i_NoSuch) := ⟨rfl, rfl, rfl, by decide +kernel, rfl, by decide +kernel, by decide +kernel⟩
theorem mk_NoSuch {w : World} {K : PySem.W.Frag} {mg : Str → Option Value} {base : Heap} (c : Fx w K mg) : Mk Pg w K mg base .NoSuch 1 := by
  obtain ⟨fd, F⟩ := c.d.def_ 25 (d := dI_NoSuch) rfl
  exact ⟨fd, init_ok F scI_NoSuch (c.cl .NoSuch).k (fun X eK em es _ => via_ok (exB_ok c.ex).2 (c.glo (i := 8) (x := "RunError") rfl) (c.free (i := 36) (x := "OverflowError") rfl) (c.free (i := 35) (x := "LookupError") rfl) .NoSuch X eK em (by unfold Gl PySem.Env.kindOf; rw [es]; rfl)) (fun env => ⟨_, rfl⟩) (by first | exact Or.inl rfl | exact Or.inr (Or.inl rfl) | exact Or.inr (Or.inr rfl)) (by first | exact Or.inl rfl | exact Or.inr (Or.inl rfl) | exact Or.inr (Or.inr rfl)) (by decide) (by decide), iniB_of F fun T kV doc pm an cdv ct self u d => ⟨⟨_, rfl, rfl⟩, ⟨_, rfl, rfl⟩, ⟨_, rfl, rfl⟩⟩, c.glo (i := 34) (x := "NoSuch") rfl⟩
def m__law_draw : SF := (sRet (eDisp [.inr "left", .inr "cell", .inr "turns"] (aCons (eIf (tfV (eOp gGe (eVar 0) (ePow (eC (.int 10)) (eC (.int 18))))) (eVar 0) (eC (.int 0))) (aCons (eVar 0) (aCons (eOp gMulA (eC (.int 1000)) (eVar 1)) aNil)))))
def mf__law_draw : CF := mfOf 2 m__law_draw
theorem sc__law_draw : FnScope ["cell", "k"] ["cell", "k"] (defScope s__law_draw) := ⟨rfl, rfl, rfl, by decide +kernel, rfl, by decide +kernel, by decide +kernel⟩
theorem body__law_draw {w : World} {K : PySem.W.Frag} {mg : Str → Option Value} {base : Heap} {cdv : Value} {A : Around} {outer : List PySem.Env} {s : Shared} {H : Hp} {E : XK} {fA : Addr} (c : Fx w K mg) (hr : Room 2 (A.deeper (envOfC "_law_draw" (defScope s__law_draw) s.heap.objs.size fA cdv)))
    (kx : Kx (cxOf (L2.CX Pg w) Pg w K mg base ["cell", "k"] "_law_draw" (defScope s__law_draw) fA cdv A outer s H E) (wE E)) : SSs (cxOf (L2.CX Pg w) Pg w K mg base ["cell", "k"] "_law_draw" (defScope s__law_draw) fA cdv A outer s H E) (wE E) (defBody s__law_draw) m__law_draw :=
  (ss_one (ss_ret (se_disp (sps_cons (se_if (st_ge (se_var (i := 0) rfl (by first | exact Or.inl rfl | exact Or.inr (Or.inl rfl) | exact Or.inr (Or.inr rfl))) (se_pow se_int se_int)) (se_var (i := 0) rfl (by first | exact Or.inl rfl | exact Or.inr (Or.inl rfl) | exact Or.inr (Or.inr rfl))) se_int) (sps_cons (se_var (i := 0) rfl (by first | exact Or.inl rfl | exact Or.inr (Or.inl rfl) | exact Or.inr (Or.inr rfl))) (sps_cons (se_mulA se_int (se_var (i := 1) rfl (by first | exact Or.inl rfl | exact Or.inr (Or.inl rfl) | exact Or.inr (Or.inr rfl)))) sps_nil))))))
theorem def__law_draw {w : World} {K : PySem.W.Frag} {mg : Str → Option Value} {base : Heap} (c : Fx w K mg) : Def Pg w K mg base "_law_draw" 3 2 [] mf__law_draw := by
  obtain ⟨fd, F⟩ := c.d.def_ 27 (d := d__law_draw) rfl
  exact ⟨_, fd, ["cell", "k"], [], [], fnG_of F sc__law_draw (fun cdv A outer s H E hr kx => body__law_draw c hr kx), c.glo (i := 1) (x := "_law_draw") rfl, F.kp, F.bindsN (fun _ _ _ _ _ _ us hl => match us, hl with | [_, _], _ => rfl), .nil, fun _ _ => rfl, rfl, by decide⟩
def m__law_mixed : SF := (sSeq (sSet 2 (eAdd (eAdd (eMod (eVar 0) (eOp gIx (eLst (aCons (eC (.int 1000000007)) (aCons (eC (.int 998244353)) (aCons (eC (.int 2147483629)) (aCons (eC (.int 1000000009)) aNil))))) (eMod (eVar 1) (eC (.int 4))))) (eOp gMulA (eC (.int 7919)) (eVar 1))) (eC (.int 13))))
    (sRet (eMod (eOp gMulA (eMod (eOp gMulA (eVar 2) (eVar 2)) (eC (.int 2147483647))) (eC (.int 48271))) (eC (.int 2147483647)))))
def mf__law_mixed : CF := mfOf 3 m__law_mixed
theorem sc__law_mixed : FnScope ["cell", "k", "number"] ["cell", "k"] (defScope s__law_mixed) := ⟨rfl, rfl, rfl, by decide +kernel, rfl, by decide +kernel, by decide +kernel⟩
theorem body__law_mixed {w : World} {K : PySem.W.Frag} {mg : Str → Option Value} {base : Heap} {cdv : Value} {A : Around} {outer : List PySem.Env} {s : Shared} {H : Hp} {E : XK} {fA : Addr} (c : Fx w K mg) (hr : Room 2 (A.deeper (envOfC "_law_mixed" (defScope s__law_mixed) s.heap.objs.size fA cdv)))
    (kx : Kx (cxOf (L2.CX Pg w) Pg w K mg base ["cell", "k", "number"] "_law_mixed" (defScope s__law_mixed) fA cdv A outer s H E) (wE E)) : SSs (cxOf (L2.CX Pg w) Pg w K mg base ["cell", "k", "number"] "_law_mixed" (defScope s__law_mixed) fA cdv A outer s H E) (wE E) (defBody s__law_mixed) m__law_mixed :=
  (ss_cons (ss_set (i := 2) kx rfl (by first | exact Or.inl rfl | exact Or.inr rfl) (se_add (se_add (se_mod (se_var (i := 0) rfl (by first | exact Or.inl rfl | exact Or.inr (Or.inl rfl) | exact Or.inr (Or.inr rfl))) (se_ix (se_lst (sa_cons se_int (sa_cons se_int (sa_cons se_int (sa_cons se_int sa_nil))))) (se_mod (se_var (i := 1) rfl (by first | exact Or.inl rfl | exact Or.inr (Or.inl rfl) | exact Or.inr (Or.inr rfl))) se_int))) (se_mulA se_int (se_var (i := 1) rfl (by first | exact Or.inl rfl | exact Or.inr (Or.inl rfl) | exact Or.inr (Or.inr rfl))))) se_int))
    (ss_one (ss_ret (se_mod (se_mulA (se_mod (se_mulA (se_var (i := 2) rfl (by first | exact Or.inl rfl | exact Or.inr (Or.inl rfl) | exact Or.inr (Or.inr rfl))) (se_var (i := 2) rfl (by first | exact Or.inl rfl | exact Or.inr (Or.inl rfl) | exact Or.inr (Or.inr rfl)))) se_int) se_int) se_int))))
theorem def__law_mixed {w : World} {K : PySem.W.Frag} {mg : Str → Option Value} {base : Heap} (c : Fx w K mg) : Def Pg w K mg base "_law_mixed" 3 2 [] mf__law_mixed := by
  obtain ⟨fd, F⟩ := c.d.def_ 26 (d := d__law_mixed) rfl
  exact ⟨_, fd, ["cell", "k"], [], [], fnG_of F sc__law_mixed (fun cdv A outer s H E hr kx => body__law_mixed c hr kx), c.glo (i := 0) (x := "_law_mixed") rfl, F.kp, F.bindsN (fun _ _ _ _ _ _ us hl => match us, hl with | [_, _], _ => rfl), .nil, fun _ _ => rfl, rfl, by decide⟩
def bd__law_digit_0 : SF := (sSeq (sDPutV 0 (eAdd (eDGet 0 (eC (.str "turns"))) (eC (.int 1))) (eC (.str "turns")))
    (sDPutV 0 (eAdd (eOp gMulA (eDGet 0 (eC (.str "left"))) (eC (.int 2147483647))) (eFn 2 [] mf__law_mixed (aCons (eDGet 0 (eC (.str "cell"))) (aCons (eDGet 0 (eC (.str "turns"))) aNil)))) (eC (.str "left"))))
def m__law_digit : SF := (sSeq (sIf (tfV (eOp (gEqA false) (eDGet 0 (eC (.str "left"))) (eC (.int 0)))) (sFor (iRg1 (aCons (eC (.int 4)) aNil)) (gNm 3) bd__law_digit_0) sNx)
    (sSeq (sSet 2 (eMod (eDGet 0 (eC (.str "left"))) (eVar 1)))
    (sSeq (sDPutV 0 (eDiv (eDGet 0 (eC (.str "left"))) (eVar 1)) (eC (.str "left")))
    (sRet (eMove 2)))))
def mf__law_digit : CF := mfOf 4 m__law_digit
theorem sc__law_digit : FnScope ["state", "below", "found", "j"] ["state", "below"] (defScope s__law_digit) := ⟨rfl, rfl, rfl, by decide +kernel, rfl, by decide +kernel, by decide +kernel⟩
theorem body__law_digit {w : World} {K : PySem.W.Frag} {mg : Str → Option Value} {base : Heap} {cdv : Value} {A : Around} {outer : List PySem.Env} {s : Shared} {H : Hp} {E : XK} {fA : Addr} (c : Fx w K mg) (hr : Room 3 (A.deeper (envOfC "_law_digit" (defScope s__law_digit) s.heap.objs.size fA cdv)))
    (kx : Kx (cxOf (L2.CX Pg w) Pg w K mg base ["state", "below", "found", "j"] "_law_digit" (defScope s__law_digit) fA cdv A outer s H E) (wE E)) : SSs (cxOf (L2.CX Pg w) Pg w K mg base ["state", "below", "found", "j"] "_law_digit" (defScope s__law_digit) fA cdv A outer s H E) (wE E) (defBody s__law_digit) m__law_digit :=
  (ss_cons (ss_if (st_eq kx.hu64 (se_dget (i := 0) kx rfl (by first | exact Or.inl rfl | exact Or.inr (Or.inl rfl) | exact Or.inr (Or.inr rfl)) se_str) se_int) (ss_one (ss_for kx (si_range1 (sa_cons se_int sa_nil) (by rfl) (c.free (i := 40) (x := "range") rfl)) (sg_name kx.nd (i := 3) rfl (by first | exact Or.inl rfl | exact Or.inr rfl)) (ss_cons (ss_dput (i := 0) kx rfl (by first | exact Or.inl rfl | exact Or.inr (Or.inl rfl) | exact Or.inr (Or.inr rfl)) se_str (se_add (se_dget (i := 0) kx rfl (by first | exact Or.inl rfl | exact Or.inr (Or.inl rfl) | exact Or.inr (Or.inr rfl)) se_str) se_int))
    (ss_one (ss_dput (i := 0) kx rfl (by first | exact Or.inl rfl | exact Or.inr (Or.inl rfl) | exact Or.inr (Or.inr rfl)) se_str (se_add (se_mulA (se_dget (i := 0) kx rfl (by first | exact Or.inl rfl | exact Or.inr (Or.inl rfl) | exact Or.inr (Or.inr rfl)) se_str) se_int) (se_fn (Def.fn (def__law_mixed c) hr (by decide) (by rfl)) kx (sa_cons (se_dget (i := 0) kx rfl (by first | exact Or.inl rfl | exact Or.inr (Or.inl rfl) | exact Or.inr (Or.inr rfl)) se_str) (sa_cons (se_dget (i := 0) kx rfl (by first | exact Or.inl rfl | exact Or.inr (Or.inl rfl) | exact Or.inr (Or.inr rfl)) se_str) sa_nil))))))))) ss_nil)
    (ss_cons (ss_set (i := 2) kx rfl (by first | exact Or.inl rfl | exact Or.inr rfl) (se_mod (se_dget (i := 0) kx rfl (by first | exact Or.inl rfl | exact Or.inr (Or.inl rfl) | exact Or.inr (Or.inr rfl)) se_str) (se_var (i := 1) rfl (by first | exact Or.inl rfl | exact Or.inr (Or.inl rfl) | exact Or.inr (Or.inr rfl)))))
    (ss_cons (ss_dput (i := 0) kx rfl (by first | exact Or.inl rfl | exact Or.inr (Or.inl rfl) | exact Or.inr (Or.inr rfl)) se_str (se_div (se_dget (i := 0) kx rfl (by first | exact Or.inl rfl | exact Or.inr (Or.inl rfl) | exact Or.inr (Or.inr rfl)) se_str) (se_var (i := 1) rfl (by first | exact Or.inl rfl | exact Or.inr (Or.inl rfl) | exact Or.inr (Or.inr rfl)))))
    (ss_one (ss_ret (se_move (i := 2) rfl (by first | exact Or.inl rfl | exact Or.inr (Or.inl rfl) | exact Or.inr (Or.inr rfl))))))))
theorem def__law_digit {w : World} {K : PySem.W.Frag} {mg : Str → Option Value} {base : Heap} (c : Fx w K mg) : Def Pg w K mg base "_law_digit" 4 2 [] mf__law_digit := by
  obtain ⟨fd, F⟩ := c.d.def_ 28 (d := d__law_digit) rfl
  exact ⟨_, fd, ["state", "below"], [], [], fnG_of F sc__law_digit (fun cdv A outer s H E hr kx => body__law_digit c hr kx), c.glo (i := 2) (x := "_law_digit") rfl, F.kp, F.bindsN (fun _ _ _ _ _ _ us hl => match us, hl with | [_, _], _ => rfl), .nil, fun _ _ => rfl, rfl, by decide⟩
def m__law_valued : SF := (sSeq (sSet 1 (eLst (aCons (eTup (aCons (eExc .BadPrime (eVar 0)) (aCons (eExc .BadPrime (eVar 0)) (aCons (eC (.str "BadPrime")) aNil)))) aNil)))
    (sSeq (sSet 1 (eAdd (eVar 1) (eLst (aCons (eTup (aCons (eExc .BadNumber (eVar 0)) (aCons (eExc .BadNumber (eVar 0)) (aCons (eC (.str "BadNumber")) aNil)))) aNil))))
    (sSeq (sSet 1 (eAdd (eVar 1) (eLst (aCons (eTup (aCons (eExc .BadName (eVar 0)) (aCons (eExc .BadName (eVar 0)) (aCons (eC (.str "BadName")) aNil)))) aNil))))
    (sRet (eAdd (eVar 1) (eLst (aCons (eTup (aCons (eExc .BadRemainder (eVar 0)) (aCons (eExc .BadRemainder (eVar 0)) (aCons (eC (.str "BadRemainder")) aNil)))) aNil)))))))
def mf__law_valued : CF := mfOf 2 m__law_valued
theorem sc__law_valued : FnScope ["thing", "found"] ["thing"] (defScope s__law_valued) := ⟨rfl, rfl, rfl, by decide +kernel, rfl, by decide +kernel, by decide +kernel⟩
theorem body__law_valued {w : World} {K : PySem.W.Frag} {mg : Str → Option Value} {base : Heap} {cdv : Value} {A : Around} {outer : List PySem.Env} {s : Shared} {H : Hp} {E : XK} {fA : Addr} (c : Fx w K mg) (hr : Room 2 (A.deeper (envOfC "_law_valued" (defScope s__law_valued) s.heap.objs.size fA cdv)))
    (kx : Kx (cxOf (L2.CX Pg w) Pg w K mg base ["thing", "found"] "_law_valued" (defScope s__law_valued) fA cdv A outer s H E) (wE E)) : SSs (cxOf (L2.CX Pg w) Pg w K mg base ["thing", "found"] "_law_valued" (defScope s__law_valued) fA cdv A outer s H E) (wE E) (defBody s__law_valued) m__law_valued :=
  (ss_cons (ss_set (i := 1) kx rfl (by first | exact Or.inl rfl | exact Or.inr rfl) (se_lst (sa_cons (se_tup (sa_cons (se_mk (Mk.at (mk_BadPrime c) (c.cl .BadPrime) hr (by decide) (by rfl)) (se_var (i := 0) rfl (by first | exact Or.inl rfl | exact Or.inr (Or.inl rfl) | exact Or.inr (Or.inr rfl)))) (sa_cons (se_mkK (Mk.at (mk_BadPrime c) (c.cl .BadPrime) hr (by decide) (by rfl)) (se_var (i := 0) rfl (by first | exact Or.inl rfl | exact Or.inr (Or.inl rfl) | exact Or.inr (Or.inr rfl)))) (sa_cons se_str sa_nil)))) sa_nil)))
    (ss_cons (ss_set (i := 1) kx rfl (by first | exact Or.inl rfl | exact Or.inr rfl) (se_add (se_var (i := 1) rfl (by first | exact Or.inl rfl | exact Or.inr (Or.inl rfl) | exact Or.inr (Or.inr rfl))) (se_lst (sa_cons (se_tup (sa_cons (se_mk (Mk.at (mk_BadNumber c) (c.cl .BadNumber) hr (by decide) (by rfl)) (se_var (i := 0) rfl (by first | exact Or.inl rfl | exact Or.inr (Or.inl rfl) | exact Or.inr (Or.inr rfl)))) (sa_cons (se_mkK (Mk.at (mk_BadNumber c) (c.cl .BadNumber) hr (by decide) (by rfl)) (se_var (i := 0) rfl (by first | exact Or.inl rfl | exact Or.inr (Or.inl rfl) | exact Or.inr (Or.inr rfl)))) (sa_cons se_str sa_nil)))) sa_nil))))
    (ss_cons (ss_set (i := 1) kx rfl (by first | exact Or.inl rfl | exact Or.inr rfl) (se_add (se_var (i := 1) rfl (by first | exact Or.inl rfl | exact Or.inr (Or.inl rfl) | exact Or.inr (Or.inr rfl))) (se_lst (sa_cons (se_tup (sa_cons (se_mk (Mk.at (mk_BadName c) (c.cl .BadName) hr (by decide) (by rfl)) (se_var (i := 0) rfl (by first | exact Or.inl rfl | exact Or.inr (Or.inl rfl) | exact Or.inr (Or.inr rfl)))) (sa_cons (se_mkK (Mk.at (mk_BadName c) (c.cl .BadName) hr (by decide) (by rfl)) (se_var (i := 0) rfl (by first | exact Or.inl rfl | exact Or.inr (Or.inl rfl) | exact Or.inr (Or.inr rfl)))) (sa_cons se_str sa_nil)))) sa_nil))))
    (ss_one (ss_ret (se_add (se_var (i := 1) rfl (by first | exact Or.inl rfl | exact Or.inr (Or.inl rfl) | exact Or.inr (Or.inr rfl))) (se_lst (sa_cons (se_tup (sa_cons (se_mk (Mk.at (mk_BadRemainder c) (c.cl .BadRemainder) hr (by decide) (by rfl)) (se_var (i := 0) rfl (by first | exact Or.inl rfl | exact Or.inr (Or.inl rfl) | exact Or.inr (Or.inr rfl)))) (sa_cons (se_mkK (Mk.at (mk_BadRemainder c) (c.cl .BadRemainder) hr (by decide) (by rfl)) (se_var (i := 0) rfl (by first | exact Or.inl rfl | exact Or.inr (Or.inl rfl) | exact Or.inr (Or.inr rfl)))) (sa_cons se_str sa_nil)))) sa_nil))))))))
theorem def__law_valued {w : World} {K : PySem.W.Frag} {mg : Str → Option Value} {base : Heap} (c : Fx w K mg) : Def Pg w K mg base "_law_valued" 3 1 [] mf__law_valued := by
  obtain ⟨fd, F⟩ := c.d.def_ 30 (d := d__law_valued) rfl
  exact ⟨_, fd, ["thing"], [], [], fnG_of F sc__law_valued (fun cdv A outer s H E hr kx => body__law_valued c hr kx), c.glo (i := 4) (x := "_law_valued") rfl, F.kp, F.bindsN (fun _ _ _ _ _ _ us hl => match us, hl with | [_], _ => rfl), .nil, fun _ _ => rfl, rfl, by decide⟩
def m__law_kinds : SF := (sSeq (sSet 1 (eLst (aCons (eTup (aCons (eC (.str "BadBatch")) (aCons (eIsX (.own .BadBatch) (eVar 0)) aNil))) (aCons (eTup (aCons (eC (.str "BadBytes")) (aCons (eIsX (.own .BadBytes) (eVar 0)) aNil))) aNil))))
    (sSeq (sSet 1 (eAdd (eVar 1) (eLst (aCons (eTup (aCons (eC (.str "BadCheat")) (aCons (eIsX (.own .BadCheat) (eVar 0)) aNil))) (aCons (eTup (aCons (eC (.str "BadClaim")) (aCons (eIsX (.own .BadClaim) (eVar 0)) aNil))) aNil)))))
    (sSeq (sSet 1 (eAdd (eVar 1) (eLst (aCons (eTup (aCons (eC (.str "BadCode")) (aCons (eIsX (.own .BadCode) (eVar 0)) aNil))) (aCons (eTup (aCons (eC (.str "BadDeed")) (aCons (eIsX (.own .BadDeed) (eVar 0)) aNil))) aNil)))))
    (sSeq (sSet 1 (eAdd (eVar 1) (eLst (aCons (eTup (aCons (eC (.str "BadExpression")) (aCons (eIsX (.own .BadExpression) (eVar 0)) aNil))) (aCons (eTup (aCons (eC (.str "BadInput")) (aCons (eIsX (.own .BadInput) (eVar 0)) aNil))) aNil)))))
    (sSeq (sSet 1 (eAdd (eVar 1) (eLst (aCons (eTup (aCons (eC (.str "BadLayers")) (aCons (eIsX (.own .BadLayers) (eVar 0)) aNil))) (aCons (eTup (aCons (eC (.str "BadLine")) (aCons (eIsX (.own .BadLine) (eVar 0)) aNil))) aNil)))))
    (sSeq (sSet 1 (eAdd (eVar 1) (eLst (aCons (eTup (aCons (eC (.str "BadMachine")) (aCons (eIsX (.own .BadMachine) (eVar 0)) aNil))) (aCons (eTup (aCons (eC (.str "BadName")) (aCons (eIsX (.own .BadName) (eVar 0)) aNil))) aNil)))))
    (sSeq (sSet 1 (eAdd (eVar 1) (eLst (aCons (eTup (aCons (eC (.str "BadNet")) (aCons (eIsX (.own .BadNet) (eVar 0)) aNil))) (aCons (eTup (aCons (eC (.str "BadNumber")) (aCons (eIsX (.own .BadNumber) (eVar 0)) aNil))) aNil)))))
    (sSeq (sSet 1 (eAdd (eVar 1) (eLst (aCons (eTup (aCons (eC (.str "BadPaper")) (aCons (eIsX (.own .BadPaper) (eVar 0)) aNil))) (aCons (eTup (aCons (eC (.str "BadPoint")) (aCons (eIsX (.own .BadPoint) (eVar 0)) aNil))) aNil)))))
    (sSeq (sSet 1 (eAdd (eVar 1) (eLst (aCons (eTup (aCons (eC (.str "BadPrime")) (aCons (eIsX (.own .BadPrime) (eVar 0)) aNil))) (aCons (eTup (aCons (eC (.str "BadProgram")) (aCons (eIsX (.own .BadProgram) (eVar 0)) aNil))) aNil)))))
    (sSeq (sSet 1 (eAdd (eVar 1) (eLst (aCons (eTup (aCons (eC (.str "BadRemainder")) (aCons (eIsX (.own .BadRemainder) (eVar 0)) aNil))) (aCons (eTup (aCons (eC (.str "BadTable")) (aCons (eIsX (.own .BadTable) (eVar 0)) aNil))) aNil)))))
    (sSeq (sSet 1 (eAdd (eVar 1) (eLst (aCons (eTup (aCons (eC (.str "BadTalk")) (aCons (eIsX (.own .BadTalk) (eVar 0)) aNil))) (aCons (eTup (aCons (eC (.str "BadText")) (aCons (eIsX (.own .BadText) (eVar 0)) aNil))) aNil)))))
    (sSeq (sSet 1 (eAdd (eVar 1) (eLst (aCons (eTup (aCons (eC (.str "BadTree")) (aCons (eIsX (.own .BadTree) (eVar 0)) aNil))) (aCons (eTup (aCons (eC (.str "BadWord")) (aCons (eIsX (.own .BadWord) (eVar 0)) aNil))) aNil)))))
    (sSeq (sSet 1 (eAdd (eVar 1) (eLst (aCons (eTup (aCons (eC (.str "NoSuch")) (aCons (eIsX (.own .NoSuch) (eVar 0)) aNil))) (aCons (eTup (aCons (eC (.str "TooMany")) (aCons (eIsX (.own .TooMany) (eVar 0)) aNil))) aNil)))))
    (sSeq (sSet 1 (eAdd (eVar 1) (eLst (aCons (eTup (aCons (eC (.str "base")) (aCons (eIsX .run (eVar 0)) aNil))) (aCons (eTup (aCons (eC (.str "value")) (aCons (eIsX (.blt "ValueError") (eVar 0)) aNil))) aNil)))))
    (sSeq (sSet 1 (eAdd (eVar 1) (eLst (aCons (eTup (aCons (eC (.str "lookup")) (aCons (eIsX (.blt "LookupError") (eVar 0)) aNil))) (aCons (eTup (aCons (eC (.str "overflow")) (aCons (eIsX (.blt "OverflowError") (eVar 0)) aNil))) aNil)))))
    (sRet (eLc (iVal (eVar 1)) (gTp 2 (gsCons (gNm 2) (gsCons (gNm 3) gsNil))) (tfV (eVar 3)) (eVar 2) [2, 3])))))))))))))))))
def mf__law_kinds : CF := mfOf 4 m__law_kinds
theorem sc__law_kinds : FnScope ["e", "some", "word", "is_so"] ["e"] (defScope s__law_kinds) := ⟨rfl, rfl, rfl, by decide +kernel, rfl, by decide +kernel, by decide +kernel⟩
theorem body__law_kinds {w : World} {K : PySem.W.Frag} {mg : Str → Option Value} {base : Heap} {cdv : Value} {A : Around} {outer : List PySem.Env} {s : Shared} {H : Hp} {E : XK} {fA : Addr} (c : Fx w K mg) (hr : Room 2 (A.deeper (envOfC "_law_kinds" (defScope s__law_kinds) s.heap.objs.size fA cdv)))
    (kx : Kx (cxOf (L2.CX Pg w) Pg w K mg base ["e", "some", "word", "is_so"] "_law_kinds" (defScope s__law_kinds) fA cdv A outer s H E) (wE E)) : SSs (cxOf (L2.CX Pg w) Pg w K mg base ["e", "some", "word", "is_so"] "_law_kinds" (defScope s__law_kinds) fA cdv A outer s H E) (wE E) (defBody s__law_kinds) m__law_kinds :=
  (ss_cons (ss_set (i := 1) kx rfl (by first | exact Or.inl rfl | exact Or.inr rfl) (se_lst (sa_cons (se_tup (sa_cons se_str (sa_cons (se_isX (t := (.own .BadBatch)) c.xs (c.tg (by decide)) (by rfl) (c.free (i := 39) (x := "isinstance") rfl) (pe_glob (by rfl) (c.glo (i := 28) (x := "BadBatch") rfl) rfl) (se_var (i := 0) rfl (by first | exact Or.inl rfl | exact Or.inr (Or.inl rfl) | exact Or.inr (Or.inr rfl)))) sa_nil))) (sa_cons (se_tup (sa_cons se_str (sa_cons (se_isX (t := (.own .BadBytes)) c.xs (c.tg (by decide)) (by rfl) (c.free (i := 39) (x := "isinstance") rfl) (pe_glob (by rfl) (c.glo (i := 30) (x := "BadBytes") rfl) rfl) (se_var (i := 0) rfl (by first | exact Or.inl rfl | exact Or.inr (Or.inl rfl) | exact Or.inr (Or.inr rfl)))) sa_nil))) sa_nil))))
    (ss_cons (ss_set (i := 1) kx rfl (by first | exact Or.inl rfl | exact Or.inr rfl) (se_add (se_var (i := 1) rfl (by first | exact Or.inl rfl | exact Or.inr (Or.inl rfl) | exact Or.inr (Or.inr rfl))) (se_lst (sa_cons (se_tup (sa_cons se_str (sa_cons (se_isX (t := (.own .BadCheat)) c.xs (c.tg (by decide)) (by rfl) (c.free (i := 39) (x := "isinstance") rfl) (pe_glob (by rfl) (c.glo (i := 23) (x := "BadCheat") rfl) rfl) (se_var (i := 0) rfl (by first | exact Or.inl rfl | exact Or.inr (Or.inl rfl) | exact Or.inr (Or.inr rfl)))) sa_nil))) (sa_cons (se_tup (sa_cons se_str (sa_cons (se_isX (t := (.own .BadClaim)) c.xs (c.tg (by decide)) (by rfl) (c.free (i := 39) (x := "isinstance") rfl) (pe_glob (by rfl) (c.glo (i := 21) (x := "BadClaim") rfl) rfl) (se_var (i := 0) rfl (by first | exact Or.inl rfl | exact Or.inr (Or.inl rfl) | exact Or.inr (Or.inr rfl)))) sa_nil))) sa_nil)))))
    (ss_cons (ss_set (i := 1) kx rfl (by first | exact Or.inl rfl | exact Or.inr rfl) (se_add (se_var (i := 1) rfl (by first | exact Or.inl rfl | exact Or.inr (Or.inl rfl) | exact Or.inr (Or.inr rfl))) (se_lst (sa_cons (se_tup (sa_cons se_str (sa_cons (se_isX (t := (.own .BadCode)) c.xs (c.tg (by decide)) (by rfl) (c.free (i := 39) (x := "isinstance") rfl) (pe_glob (by rfl) (c.glo (i := 24) (x := "BadCode") rfl) rfl) (se_var (i := 0) rfl (by first | exact Or.inl rfl | exact Or.inr (Or.inl rfl) | exact Or.inr (Or.inr rfl)))) sa_nil))) (sa_cons (se_tup (sa_cons se_str (sa_cons (se_isX (t := (.own .BadDeed)) c.xs (c.tg (by decide)) (by rfl) (c.free (i := 39) (x := "isinstance") rfl) (pe_glob (by rfl) (c.glo (i := 32) (x := "BadDeed") rfl) rfl) (se_var (i := 0) rfl (by first | exact Or.inl rfl | exact Or.inr (Or.inl rfl) | exact Or.inr (Or.inr rfl)))) sa_nil))) sa_nil)))))
    (ss_cons (ss_set (i := 1) kx rfl (by first | exact Or.inl rfl | exact Or.inr rfl) (se_add (se_var (i := 1) rfl (by first | exact Or.inl rfl | exact Or.inr (Or.inl rfl) | exact Or.inr (Or.inr rfl))) (se_lst (sa_cons (se_tup (sa_cons se_str (sa_cons (se_isX (t := (.own .BadExpression)) c.xs (c.tg (by decide)) (by rfl) (c.free (i := 39) (x := "isinstance") rfl) (pe_glob (by rfl) (c.glo (i := 13) (x := "BadExpression") rfl) rfl) (se_var (i := 0) rfl (by first | exact Or.inl rfl | exact Or.inr (Or.inl rfl) | exact Or.inr (Or.inr rfl)))) sa_nil))) (sa_cons (se_tup (sa_cons se_str (sa_cons (se_isX (t := (.own .BadInput)) c.xs (c.tg (by decide)) (by rfl) (c.free (i := 39) (x := "isinstance") rfl) (pe_glob (by rfl) (c.glo (i := 15) (x := "BadInput") rfl) rfl) (se_var (i := 0) rfl (by first | exact Or.inl rfl | exact Or.inr (Or.inl rfl) | exact Or.inr (Or.inr rfl)))) sa_nil))) sa_nil)))))
    (ss_cons (ss_set (i := 1) kx rfl (by first | exact Or.inl rfl | exact Or.inr rfl) (se_add (se_var (i := 1) rfl (by first | exact Or.inl rfl | exact Or.inr (Or.inl rfl) | exact Or.inr (Or.inr rfl))) (se_lst (sa_cons (se_tup (sa_cons se_str (sa_cons (se_isX (t := (.own .BadLayers)) c.xs (c.tg (by decide)) (by rfl) (c.free (i := 39) (x := "isinstance") rfl) (pe_glob (by rfl) (c.glo (i := 17) (x := "BadLayers") rfl) rfl) (se_var (i := 0) rfl (by first | exact Or.inl rfl | exact Or.inr (Or.inl rfl) | exact Or.inr (Or.inr rfl)))) sa_nil))) (sa_cons (se_tup (sa_cons se_str (sa_cons (se_isX (t := (.own .BadLine)) c.xs (c.tg (by decide)) (by rfl) (c.free (i := 39) (x := "isinstance") rfl) (pe_glob (by rfl) (c.glo (i := 19) (x := "BadLine") rfl) rfl) (se_var (i := 0) rfl (by first | exact Or.inl rfl | exact Or.inr (Or.inl rfl) | exact Or.inr (Or.inr rfl)))) sa_nil))) sa_nil)))))
    (ss_cons (ss_set (i := 1) kx rfl (by first | exact Or.inl rfl | exact Or.inr rfl) (se_add (se_var (i := 1) rfl (by first | exact Or.inl rfl | exact Or.inr (Or.inl rfl) | exact Or.inr (Or.inr rfl))) (se_lst (sa_cons (se_tup (sa_cons se_str (sa_cons (se_isX (t := (.own .BadMachine)) c.xs (c.tg (by decide)) (by rfl) (c.free (i := 39) (x := "isinstance") rfl) (pe_glob (by rfl) (c.glo (i := 27) (x := "BadMachine") rfl) rfl) (se_var (i := 0) rfl (by first | exact Or.inl rfl | exact Or.inr (Or.inl rfl) | exact Or.inr (Or.inr rfl)))) sa_nil))) (sa_cons (se_tup (sa_cons se_str (sa_cons (se_isX (t := (.own .BadName)) c.xs (c.tg (by decide)) (by rfl) (c.free (i := 39) (x := "isinstance") rfl) (pe_glob (by rfl) (c.glo (i := 11) (x := "BadName") rfl) rfl) (se_var (i := 0) rfl (by first | exact Or.inl rfl | exact Or.inr (Or.inl rfl) | exact Or.inr (Or.inr rfl)))) sa_nil))) sa_nil)))))
    (ss_cons (ss_set (i := 1) kx rfl (by first | exact Or.inl rfl | exact Or.inr rfl) (se_add (se_var (i := 1) rfl (by first | exact Or.inl rfl | exact Or.inr (Or.inl rfl) | exact Or.inr (Or.inr rfl))) (se_lst (sa_cons (se_tup (sa_cons se_str (sa_cons (se_isX (t := (.own .BadNet)) c.xs (c.tg (by decide)) (by rfl) (c.free (i := 39) (x := "isinstance") rfl) (pe_glob (by rfl) (c.glo (i := 16) (x := "BadNet") rfl) rfl) (se_var (i := 0) rfl (by first | exact Or.inl rfl | exact Or.inr (Or.inl rfl) | exact Or.inr (Or.inr rfl)))) sa_nil))) (sa_cons (se_tup (sa_cons se_str (sa_cons (se_isX (t := (.own .BadNumber)) c.xs (c.tg (by decide)) (by rfl) (c.free (i := 39) (x := "isinstance") rfl) (pe_glob (by rfl) (c.glo (i := 10) (x := "BadNumber") rfl) rfl) (se_var (i := 0) rfl (by first | exact Or.inl rfl | exact Or.inr (Or.inl rfl) | exact Or.inr (Or.inr rfl)))) sa_nil))) sa_nil)))))
    (ss_cons (ss_set (i := 1) kx rfl (by first | exact Or.inl rfl | exact Or.inr rfl) (se_add (se_var (i := 1) rfl (by first | exact Or.inl rfl | exact Or.inr (Or.inl rfl) | exact Or.inr (Or.inr rfl))) (se_lst (sa_cons (se_tup (sa_cons se_str (sa_cons (se_isX (t := (.own .BadPaper)) c.xs (c.tg (by decide)) (by rfl) (c.free (i := 39) (x := "isinstance") rfl) (pe_glob (by rfl) (c.glo (i := 31) (x := "BadPaper") rfl) rfl) (se_var (i := 0) rfl (by first | exact Or.inl rfl | exact Or.inr (Or.inl rfl) | exact Or.inr (Or.inr rfl)))) sa_nil))) (sa_cons (se_tup (sa_cons se_str (sa_cons (se_isX (t := (.own .BadPoint)) c.xs (c.tg (by decide)) (by rfl) (c.free (i := 39) (x := "isinstance") rfl) (pe_glob (by rfl) (c.glo (i := 18) (x := "BadPoint") rfl) rfl) (se_var (i := 0) rfl (by first | exact Or.inl rfl | exact Or.inr (Or.inl rfl) | exact Or.inr (Or.inr rfl)))) sa_nil))) sa_nil)))))
    (ss_cons (ss_set (i := 1) kx rfl (by first | exact Or.inl rfl | exact Or.inr rfl) (se_add (se_var (i := 1) rfl (by first | exact Or.inl rfl | exact Or.inr (Or.inl rfl) | exact Or.inr (Or.inr rfl))) (se_lst (sa_cons (se_tup (sa_cons se_str (sa_cons (se_isX (t := (.own .BadPrime)) c.xs (c.tg (by decide)) (by rfl) (c.free (i := 39) (x := "isinstance") rfl) (pe_glob (by rfl) (c.glo (i := 9) (x := "BadPrime") rfl) rfl) (se_var (i := 0) rfl (by first | exact Or.inl rfl | exact Or.inr (Or.inl rfl) | exact Or.inr (Or.inr rfl)))) sa_nil))) (sa_cons (se_tup (sa_cons se_str (sa_cons (se_isX (t := (.own .BadProgram)) c.xs (c.tg (by decide)) (by rfl) (c.free (i := 39) (x := "isinstance") rfl) (pe_glob (by rfl) (c.glo (i := 14) (x := "BadProgram") rfl) rfl) (se_var (i := 0) rfl (by first | exact Or.inl rfl | exact Or.inr (Or.inl rfl) | exact Or.inr (Or.inr rfl)))) sa_nil))) sa_nil)))))
    (ss_cons (ss_set (i := 1) kx rfl (by first | exact Or.inl rfl | exact Or.inr rfl) (se_add (se_var (i := 1) rfl (by first | exact Or.inl rfl | exact Or.inr (Or.inl rfl) | exact Or.inr (Or.inr rfl))) (se_lst (sa_cons (se_tup (sa_cons se_str (sa_cons (se_isX (t := (.own .BadRemainder)) c.xs (c.tg (by decide)) (by rfl) (c.free (i := 39) (x := "isinstance") rfl) (pe_glob (by rfl) (c.glo (i := 12) (x := "BadRemainder") rfl) rfl) (se_var (i := 0) rfl (by first | exact Or.inl rfl | exact Or.inr (Or.inl rfl) | exact Or.inr (Or.inr rfl)))) sa_nil))) (sa_cons (se_tup (sa_cons se_str (sa_cons (se_isX (t := (.own .BadTable)) c.xs (c.tg (by decide)) (by rfl) (c.free (i := 39) (x := "isinstance") rfl) (pe_glob (by rfl) (c.glo (i := 20) (x := "BadTable") rfl) rfl) (se_var (i := 0) rfl (by first | exact Or.inl rfl | exact Or.inr (Or.inl rfl) | exact Or.inr (Or.inr rfl)))) sa_nil))) sa_nil)))))
    (ss_cons (ss_set (i := 1) kx rfl (by first | exact Or.inl rfl | exact Or.inr rfl) (se_add (se_var (i := 1) rfl (by first | exact Or.inl rfl | exact Or.inr (Or.inl rfl) | exact Or.inr (Or.inr rfl))) (se_lst (sa_cons (se_tup (sa_cons se_str (sa_cons (se_isX (t := (.own .BadTalk)) c.xs (c.tg (by decide)) (by rfl) (c.free (i := 39) (x := "isinstance") rfl) (pe_glob (by rfl) (c.glo (i := 22) (x := "BadTalk") rfl) rfl) (se_var (i := 0) rfl (by first | exact Or.inl rfl | exact Or.inr (Or.inl rfl) | exact Or.inr (Or.inr rfl)))) sa_nil))) (sa_cons (se_tup (sa_cons se_str (sa_cons (se_isX (t := (.own .BadText)) c.xs (c.tg (by decide)) (by rfl) (c.free (i := 39) (x := "isinstance") rfl) (pe_glob (by rfl) (c.glo (i := 29) (x := "BadText") rfl) rfl) (se_var (i := 0) rfl (by first | exact Or.inl rfl | exact Or.inr (Or.inl rfl) | exact Or.inr (Or.inr rfl)))) sa_nil))) sa_nil)))))
    (ss_cons (ss_set (i := 1) kx rfl (by first | exact Or.inl rfl | exact Or.inr rfl) (se_add (se_var (i := 1) rfl (by first | exact Or.inl rfl | exact Or.inr (Or.inl rfl) | exact Or.inr (Or.inr rfl))) (se_lst (sa_cons (se_tup (sa_cons se_str (sa_cons (se_isX (t := (.own .BadTree)) c.xs (c.tg (by decide)) (by rfl) (c.free (i := 39) (x := "isinstance") rfl) (pe_glob (by rfl) (c.glo (i := 26) (x := "BadTree") rfl) rfl) (se_var (i := 0) rfl (by first | exact Or.inl rfl | exact Or.inr (Or.inl rfl) | exact Or.inr (Or.inr rfl)))) sa_nil))) (sa_cons (se_tup (sa_cons se_str (sa_cons (se_isX (t := (.own .BadWord)) c.xs (c.tg (by decide)) (by rfl) (c.free (i := 39) (x := "isinstance") rfl) (pe_glob (by rfl) (c.glo (i := 25) (x := "BadWord") rfl) rfl) (se_var (i := 0) rfl (by first | exact Or.inl rfl | exact Or.inr (Or.inl rfl) | exact Or.inr (Or.inr rfl)))) sa_nil))) sa_nil)))))
    (ss_cons (ss_set (i := 1) kx rfl (by first | exact Or.inl rfl | exact Or.inr rfl) (se_add (se_var (i := 1) rfl (by first | exact Or.inl rfl | exact Or.inr (Or.inl rfl) | exact Or.inr (Or.inr rfl))) (se_lst (sa_cons (se_tup (sa_cons se_str (sa_cons (se_isX (t := (.own .NoSuch)) c.xs (c.tg (by decide)) (by rfl) (c.free (i := 39) (x := "isinstance") rfl) (pe_glob (by rfl) (c.glo (i := 34) (x := "NoSuch") rfl) rfl) (se_var (i := 0) rfl (by first | exact Or.inl rfl | exact Or.inr (Or.inl rfl) | exact Or.inr (Or.inr rfl)))) sa_nil))) (sa_cons (se_tup (sa_cons se_str (sa_cons (se_isX (t := (.own .TooMany)) c.xs (c.tg (by decide)) (by rfl) (c.free (i := 39) (x := "isinstance") rfl) (pe_glob (by rfl) (c.glo (i := 33) (x := "TooMany") rfl) rfl) (se_var (i := 0) rfl (by first | exact Or.inl rfl | exact Or.inr (Or.inl rfl) | exact Or.inr (Or.inr rfl)))) sa_nil))) sa_nil)))))
    (ss_cons (ss_set (i := 1) kx rfl (by first | exact Or.inl rfl | exact Or.inr rfl) (se_add (se_var (i := 1) rfl (by first | exact Or.inl rfl | exact Or.inr (Or.inl rfl) | exact Or.inr (Or.inr rfl))) (se_lst (sa_cons (se_tup (sa_cons se_str (sa_cons (se_isX (t := .run) c.xs (c.tg (by decide)) (by rfl) (c.free (i := 39) (x := "isinstance") rfl) (pe_glob (by rfl) (c.glo (i := 8) (x := "RunError") rfl) rfl) (se_var (i := 0) rfl (by first | exact Or.inl rfl | exact Or.inr (Or.inl rfl) | exact Or.inr (Or.inr rfl)))) sa_nil))) (sa_cons (se_tup (sa_cons se_str (sa_cons (se_isX (t := (.blt "ValueError")) c.xs (c.tg (by decide)) (by rfl) (c.free (i := 39) (x := "isinstance") rfl) (pe_bltn (by rfl) (c.free (i := 37) (x := "ValueError") rfl) (by decide +kernel) rfl) (se_var (i := 0) rfl (by first | exact Or.inl rfl | exact Or.inr (Or.inl rfl) | exact Or.inr (Or.inr rfl)))) sa_nil))) sa_nil)))))
    (ss_cons (ss_set (i := 1) kx rfl (by first | exact Or.inl rfl | exact Or.inr rfl) (se_add (se_var (i := 1) rfl (by first | exact Or.inl rfl | exact Or.inr (Or.inl rfl) | exact Or.inr (Or.inr rfl))) (se_lst (sa_cons (se_tup (sa_cons se_str (sa_cons (se_isX (t := (.blt "LookupError")) c.xs (c.tg (by decide)) (by rfl) (c.free (i := 39) (x := "isinstance") rfl) (pe_bltn (by rfl) (c.free (i := 35) (x := "LookupError") rfl) (by decide +kernel) rfl) (se_var (i := 0) rfl (by first | exact Or.inl rfl | exact Or.inr (Or.inl rfl) | exact Or.inr (Or.inr rfl)))) sa_nil))) (sa_cons (se_tup (sa_cons se_str (sa_cons (se_isX (t := (.blt "OverflowError")) c.xs (c.tg (by decide)) (by rfl) (c.free (i := 39) (x := "isinstance") rfl) (pe_bltn (by rfl) (c.free (i := 36) (x := "OverflowError") rfl) (by decide +kernel) rfl) (se_var (i := 0) rfl (by first | exact Or.inl rfl | exact Or.inr (Or.inl rfl) | exact Or.inr (Or.inr rfl)))) sa_nil))) sa_nil)))))
    (ss_one (ss_ret (se_lc kx (si_val (se_var (i := 1) rfl (by first | exact Or.inl rfl | exact Or.inr (Or.inl rfl) | exact Or.inr (Or.inr rfl)))) (fun _ _ _ _ _ => (sg_tup kx.blk.hc (sgs_cons (sg_name kx.blk.nd (i := 2) rfl (by first | exact Or.inl rfl | exact Or.inr rfl)) (sgs_cons (sg_name kx.blk.nd (i := 3) rfl (by first | exact Or.inl rfl | exact Or.inr rfl)) sgs_nil)))) (fun _ _ _ _ _ => (sp_one (st_val (se_var (i := 3) rfl (by first | exact Or.inl rfl | exact Or.inr (Or.inl rfl) | exact Or.inr (Or.inr rfl)))))) (fun _ _ _ _ _ => (se_var (i := 2) rfl (by first | exact Or.inl rfl | exact Or.inr (Or.inl rfl) | exact Or.inr (Or.inr rfl)))) (blkOk_by (own := [("word", 2), ("is_so", 3)]) (by first | rfl | kernel_rfl))))))))))))))))))))
theorem def__law_kinds {w : World} {K : PySem.W.Frag} {mg : Str → Option Value} {base : Heap} (c : Fx w K mg) : Def Pg w K mg base "_law_kinds" 3 1 [] mf__law_kinds := by
  obtain ⟨fd, F⟩ := c.d.def_ 29 (d := d__law_kinds) rfl
  exact ⟨_, fd, ["e"], [], [], fnG_of F sc__law_kinds (fun cdv A outer s H E hr kx => body__law_kinds c hr kx), c.glo (i := 3) (x := "_law_kinds") rfl, F.kp, F.bindsN (fun _ _ _ _ _ _ us hl => match us, hl with | [_], _ => rfl), .nil, fun _ _ => rfl, rfl, by decide⟩
def m__law_placed : SF := (sSeq (sSet 1 (eLst (aCons (eTup (aCons (eExc .BadExpression (eVar 0)) (aCons (eExc .BadExpression (eVar 0)) (aCons (eC (.str "BadExpression")) aNil)))) aNil)))
    (sSeq (sSet 1 (eAdd (eVar 1) (eLst (aCons (eTup (aCons (eExc .BadProgram (eVar 0)) (aCons (eExc .BadProgram (eVar 0)) (aCons (eC (.str "BadProgram")) aNil)))) aNil))))
    (sSeq (sSet 1 (eAdd (eVar 1) (eLst (aCons (eTup (aCons (eExc .BadInput (eVar 0)) (aCons (eExc .BadInput (eVar 0)) (aCons (eC (.str "BadInput")) aNil)))) aNil))))
    (sSeq (sSet 1 (eAdd (eVar 1) (eLst (aCons (eTup (aCons (eExc .BadNet (eVar 0)) (aCons (eExc .BadNet (eVar 0)) (aCons (eC (.str "BadNet")) aNil)))) aNil))))
    (sSeq (sSet 1 (eAdd (eVar 1) (eLst (aCons (eTup (aCons (eExc .BadLayers (eVar 0)) (aCons (eExc .BadLayers (eVar 0)) (aCons (eC (.str "BadLayers")) aNil)))) aNil))))
    (sSeq (sSet 1 (eAdd (eVar 1) (eLst (aCons (eTup (aCons (eExc .BadPoint (eVar 0)) (aCons (eExc .BadPoint (eVar 0)) (aCons (eC (.str "BadPoint")) aNil)))) aNil))))
    (sSeq (sSet 1 (eAdd (eVar 1) (eLst (aCons (eTup (aCons (eExc .BadLine (eVar 0)) (aCons (eExc .BadLine (eVar 0)) (aCons (eC (.str "BadLine")) aNil)))) aNil))))
    (sSeq (sSet 1 (eAdd (eVar 1) (eLst (aCons (eTup (aCons (eExc .BadTable (eVar 0)) (aCons (eExc .BadTable (eVar 0)) (aCons (eC (.str "BadTable")) aNil)))) aNil))))
    (sSeq (sSet 1 (eAdd (eVar 1) (eLst (aCons (eTup (aCons (eExc .BadClaim (eVar 0)) (aCons (eExc .BadClaim (eVar 0)) (aCons (eC (.str "BadClaim")) aNil)))) aNil))))
    (sSeq (sSet 1 (eAdd (eVar 1) (eLst (aCons (eTup (aCons (eExc .BadTalk (eVar 0)) (aCons (eExc .BadTalk (eVar 0)) (aCons (eC (.str "BadTalk")) aNil)))) aNil))))
    (sSeq (sSet 1 (eAdd (eVar 1) (eLst (aCons (eTup (aCons (eExc .BadCheat (eVar 0)) (aCons (eExc .BadCheat (eVar 0)) (aCons (eC (.str "BadCheat")) aNil)))) aNil))))
    (sSeq (sSet 1 (eAdd (eVar 1) (eLst (aCons (eTup (aCons (eExc .BadCode (eVar 0)) (aCons (eExc .BadCode (eVar 0)) (aCons (eC (.str "BadCode")) aNil)))) aNil))))
    (sSeq (sSet 1 (eAdd (eVar 1) (eLst (aCons (eTup (aCons (eExc .BadWord (eVar 0)) (aCons (eExc .BadWord (eVar 0)) (aCons (eC (.str "BadWord")) aNil)))) aNil))))
    (sSeq (sSet 1 (eAdd (eVar 1) (eLst (aCons (eTup (aCons (eExc .BadTree (eVar 0)) (aCons (eExc .BadTree (eVar 0)) (aCons (eC (.str "BadTree")) aNil)))) aNil))))
    (sSeq (sSet 1 (eAdd (eVar 1) (eLst (aCons (eTup (aCons (eExc .BadMachine (eVar 0)) (aCons (eExc .BadMachine (eVar 0)) (aCons (eC (.str "BadMachine")) aNil)))) aNil))))
    (sSeq (sSet 1 (eAdd (eVar 1) (eLst (aCons (eTup (aCons (eExc .BadBatch (eVar 0)) (aCons (eExc .BadBatch (eVar 0)) (aCons (eC (.str "BadBatch")) aNil)))) aNil))))
    (sSeq (sSet 1 (eAdd (eVar 1) (eLst (aCons (eTup (aCons (eExc .BadText (eVar 0)) (aCons (eExc .BadText (eVar 0)) (aCons (eC (.str "BadText")) aNil)))) aNil))))
    (sSeq (sSet 1 (eAdd (eVar 1) (eLst (aCons (eTup (aCons (eExc .BadBytes (eVar 0)) (aCons (eExc .BadBytes (eVar 0)) (aCons (eC (.str "BadBytes")) aNil)))) aNil))))
    (sSeq (sSet 1 (eAdd (eVar 1) (eLst (aCons (eTup (aCons (eExc .BadPaper (eVar 0)) (aCons (eExc .BadPaper (eVar 0)) (aCons (eC (.str "BadPaper")) aNil)))) aNil))))
    (sRet (eAdd (eVar 1) (eLst (aCons (eTup (aCons (eExc .BadDeed (eVar 0)) (aCons (eExc .BadDeed (eVar 0)) (aCons (eC (.str "BadDeed")) aNil)))) aNil)))))))))))))))))))))))
def mf__law_placed : CF := mfOf 2 m__law_placed
theorem sc__law_placed : FnScope ["thing", "found"] ["thing"] (defScope s__law_placed) := ⟨rfl, rfl, rfl, by decide +kernel, rfl, by decide +kernel, by decide +kernel⟩
theorem body__law_placed {w : World} {K : PySem.W.Frag} {mg : Str → Option Value} {base : Heap} {cdv : Value} {A : Around} {outer : List PySem.Env} {s : Shared} {H : Hp} {E : XK} {fA : Addr} (c : Fx w K mg) (hr : Room 2 (A.deeper (envOfC "_law_placed" (defScope s__law_placed) s.heap.objs.size fA cdv)))
    (kx : Kx (cxOf (L2.CX Pg w) Pg w K mg base ["thing", "found"] "_law_placed" (defScope s__law_placed) fA cdv A outer s H E) (wE E)) : SSs (cxOf (L2.CX Pg w) Pg w K mg base ["thing", "found"] "_law_placed" (defScope s__law_placed) fA cdv A outer s H E) (wE E) (defBody s__law_placed) m__law_placed :=
  (ss_cons (ss_set (i := 1) kx rfl (by first | exact Or.inl rfl | exact Or.inr rfl) (se_lst (sa_cons (se_tup (sa_cons (se_mk (Mk.at (mk_BadExpression c) (c.cl .BadExpression) hr (by decide) (by rfl)) (se_var (i := 0) rfl (by first | exact Or.inl rfl | exact Or.inr (Or.inl rfl) | exact Or.inr (Or.inr rfl)))) (sa_cons (se_mkK (Mk.at (mk_BadExpression c) (c.cl .BadExpression) hr (by decide) (by rfl)) (se_var (i := 0) rfl (by first | exact Or.inl rfl | exact Or.inr (Or.inl rfl) | exact Or.inr (Or.inr rfl)))) (sa_cons se_str sa_nil)))) sa_nil)))
    (ss_cons (ss_set (i := 1) kx rfl (by first | exact Or.inl rfl | exact Or.inr rfl) (se_add (se_var (i := 1) rfl (by first | exact Or.inl rfl | exact Or.inr (Or.inl rfl) | exact Or.inr (Or.inr rfl))) (se_lst (sa_cons (se_tup (sa_cons (se_mk (Mk.at (mk_BadProgram c) (c.cl .BadProgram) hr (by decide) (by rfl)) (se_var (i := 0) rfl (by first | exact Or.inl rfl | exact Or.inr (Or.inl rfl) | exact Or.inr (Or.inr rfl)))) (sa_cons (se_mkK (Mk.at (mk_BadProgram c) (c.cl .BadProgram) hr (by decide) (by rfl)) (se_var (i := 0) rfl (by first | exact Or.inl rfl | exact Or.inr (Or.inl rfl) | exact Or.inr (Or.inr rfl)))) (sa_cons se_str sa_nil)))) sa_nil))))
    (ss_cons (ss_set (i := 1) kx rfl (by first | exact Or.inl rfl | exact Or.inr rfl) (se_add (se_var (i := 1) rfl (by first | exact Or.inl rfl | exact Or.inr (Or.inl rfl) | exact Or.inr (Or.inr rfl))) (se_lst (sa_cons (se_tup (sa_cons (se_mk (Mk.at (mk_BadInput c) (c.cl .BadInput) hr (by decide) (by rfl)) (se_var (i := 0) rfl (by first | exact Or.inl rfl | exact Or.inr (Or.inl rfl) | exact Or.inr (Or.inr rfl)))) (sa_cons (se_mkK (Mk.at (mk_BadInput c) (c.cl .BadInput) hr (by decide) (by rfl)) (se_var (i := 0) rfl (by first | exact Or.inl rfl | exact Or.inr (Or.inl rfl) | exact Or.inr (Or.inr rfl)))) (sa_cons se_str sa_nil)))) sa_nil))))
    (ss_cons (ss_set (i := 1) kx rfl (by first | exact Or.inl rfl | exact Or.inr rfl) (se_add (se_var (i := 1) rfl (by first | exact Or.inl rfl | exact Or.inr (Or.inl rfl) | exact Or.inr (Or.inr rfl))) (se_lst (sa_cons (se_tup (sa_cons (se_mk (Mk.at (mk_BadNet c) (c.cl .BadNet) hr (by decide) (by rfl)) (se_var (i := 0) rfl (by first | exact Or.inl rfl | exact Or.inr (Or.inl rfl) | exact Or.inr (Or.inr rfl)))) (sa_cons (se_mkK (Mk.at (mk_BadNet c) (c.cl .BadNet) hr (by decide) (by rfl)) (se_var (i := 0) rfl (by first | exact Or.inl rfl | exact Or.inr (Or.inl rfl) | exact Or.inr (Or.inr rfl)))) (sa_cons se_str sa_nil)))) sa_nil))))
    (ss_cons (ss_set (i := 1) kx rfl (by first | exact Or.inl rfl | exact Or.inr rfl) (se_add (se_var (i := 1) rfl (by first | exact Or.inl rfl | exact Or.inr (Or.inl rfl) | exact Or.inr (Or.inr rfl))) (se_lst (sa_cons (se_tup (sa_cons (se_mk (Mk.at (mk_BadLayers c) (c.cl .BadLayers) hr (by decide) (by rfl)) (se_var (i := 0) rfl (by first | exact Or.inl rfl | exact Or.inr (Or.inl rfl) | exact Or.inr (Or.inr rfl)))) (sa_cons (se_mkK (Mk.at (mk_BadLayers c) (c.cl .BadLayers) hr (by decide) (by rfl)) (se_var (i := 0) rfl (by first | exact Or.inl rfl | exact Or.inr (Or.inl rfl) | exact Or.inr (Or.inr rfl)))) (sa_cons se_str sa_nil)))) sa_nil))))
    (ss_cons (ss_set (i := 1) kx rfl (by first | exact Or.inl rfl | exact Or.inr rfl) (se_add (se_var (i := 1) rfl (by first | exact Or.inl rfl | exact Or.inr (Or.inl rfl) | exact Or.inr (Or.inr rfl))) (se_lst (sa_cons (se_tup (sa_cons (se_mk (Mk.at (mk_BadPoint c) (c.cl .BadPoint) hr (by decide) (by rfl)) (se_var (i := 0) rfl (by first | exact Or.inl rfl | exact Or.inr (Or.inl rfl) | exact Or.inr (Or.inr rfl)))) (sa_cons (se_mkK (Mk.at (mk_BadPoint c) (c.cl .BadPoint) hr (by decide) (by rfl)) (se_var (i := 0) rfl (by first | exact Or.inl rfl | exact Or.inr (Or.inl rfl) | exact Or.inr (Or.inr rfl)))) (sa_cons se_str sa_nil)))) sa_nil))))
    (ss_cons (ss_set (i := 1) kx rfl (by first | exact Or.inl rfl | exact Or.inr rfl) (se_add (se_var (i := 1) rfl (by first | exact Or.inl rfl | exact Or.inr (Or.inl rfl) | exact Or.inr (Or.inr rfl))) (se_lst (sa_cons (se_tup (sa_cons (se_mk (Mk.at (mk_BadLine c) (c.cl .BadLine) hr (by decide) (by rfl)) (se_var (i := 0) rfl (by first | exact Or.inl rfl | exact Or.inr (Or.inl rfl) | exact Or.inr (Or.inr rfl)))) (sa_cons (se_mkK (Mk.at (mk_BadLine c) (c.cl .BadLine) hr (by decide) (by rfl)) (se_var (i := 0) rfl (by first | exact Or.inl rfl | exact Or.inr (Or.inl rfl) | exact Or.inr (Or.inr rfl)))) (sa_cons se_str sa_nil)))) sa_nil))))
    (ss_cons (ss_set (i := 1) kx rfl (by first | exact Or.inl rfl | exact Or.inr rfl) (se_add (se_var (i := 1) rfl (by first | exact Or.inl rfl | exact Or.inr (Or.inl rfl) | exact Or.inr (Or.inr rfl))) (se_lst (sa_cons (se_tup (sa_cons (se_mk (Mk.at (mk_BadTable c) (c.cl .BadTable) hr (by decide) (by rfl)) (se_var (i := 0) rfl (by first | exact Or.inl rfl | exact Or.inr (Or.inl rfl) | exact Or.inr (Or.inr rfl)))) (sa_cons (se_mkK (Mk.at (mk_BadTable c) (c.cl .BadTable) hr (by decide) (by rfl)) (se_var (i := 0) rfl (by first | exact Or.inl rfl | exact Or.inr (Or.inl rfl) | exact Or.inr (Or.inr rfl)))) (sa_cons se_str sa_nil)))) sa_nil))))
    (ss_cons (ss_set (i := 1) kx rfl (by first | exact Or.inl rfl | exact Or.inr rfl) (se_add (se_var (i := 1) rfl (by first | exact Or.inl rfl | exact Or.inr (Or.inl rfl) | exact Or.inr (Or.inr rfl))) (se_lst (sa_cons (se_tup (sa_cons (se_mk (Mk.at (mk_BadClaim c) (c.cl .BadClaim) hr (by decide) (by rfl)) (se_var (i := 0) rfl (by first | exact Or.inl rfl | exact Or.inr (Or.inl rfl) | exact Or.inr (Or.inr rfl)))) (sa_cons (se_mkK (Mk.at (mk_BadClaim c) (c.cl .BadClaim) hr (by decide) (by rfl)) (se_var (i := 0) rfl (by first | exact Or.inl rfl | exact Or.inr (Or.inl rfl) | exact Or.inr (Or.inr rfl)))) (sa_cons se_str sa_nil)))) sa_nil))))
    (ss_cons (ss_set (i := 1) kx rfl (by first | exact Or.inl rfl | exact Or.inr rfl) (se_add (se_var (i := 1) rfl (by first | exact Or.inl rfl | exact Or.inr (Or.inl rfl) | exact Or.inr (Or.inr rfl))) (se_lst (sa_cons (se_tup (sa_cons (se_mk (Mk.at (mk_BadTalk c) (c.cl .BadTalk) hr (by decide) (by rfl)) (se_var (i := 0) rfl (by first | exact Or.inl rfl | exact Or.inr (Or.inl rfl) | exact Or.inr (Or.inr rfl)))) (sa_cons (se_mkK (Mk.at (mk_BadTalk c) (c.cl .BadTalk) hr (by decide) (by rfl)) (se_var (i := 0) rfl (by first | exact Or.inl rfl | exact Or.inr (Or.inl rfl) | exact Or.inr (Or.inr rfl)))) (sa_cons se_str sa_nil)))) sa_nil))))
    (ss_cons (ss_set (i := 1) kx rfl (by first | exact Or.inl rfl | exact Or.inr rfl) (se_add (se_var (i := 1) rfl (by first | exact Or.inl rfl | exact Or.inr (Or.inl rfl) | exact Or.inr (Or.inr rfl))) (se_lst (sa_cons (se_tup (sa_cons (se_mk (Mk.at (mk_BadCheat c) (c.cl .BadCheat) hr (by decide) (by rfl)) (se_var (i := 0) rfl (by first | exact Or.inl rfl | exact Or.inr (Or.inl rfl) | exact Or.inr (Or.inr rfl)))) (sa_cons (se_mkK (Mk.at (mk_BadCheat c) (c.cl .BadCheat) hr (by decide) (by rfl)) (se_var (i := 0) rfl (by first | exact Or.inl rfl | exact Or.inr (Or.inl rfl) | exact Or.inr (Or.inr rfl)))) (sa_cons se_str sa_nil)))) sa_nil))))
    (ss_cons (ss_set (i := 1) kx rfl (by first | exact Or.inl rfl | exact Or.inr rfl) (se_add (se_var (i := 1) rfl (by first | exact Or.inl rfl | exact Or.inr (Or.inl rfl) | exact Or.inr (Or.inr rfl))) (se_lst (sa_cons (se_tup (sa_cons (se_mk (Mk.at (mk_BadCode c) (c.cl .BadCode) hr (by decide) (by rfl)) (se_var (i := 0) rfl (by first | exact Or.inl rfl | exact Or.inr (Or.inl rfl) | exact Or.inr (Or.inr rfl)))) (sa_cons (se_mkK (Mk.at (mk_BadCode c) (c.cl .BadCode) hr (by decide) (by rfl)) (se_var (i := 0) rfl (by first | exact Or.inl rfl | exact Or.inr (Or.inl rfl) | exact Or.inr (Or.inr rfl)))) (sa_cons se_str sa_nil)))) sa_nil))))
    (ss_cons (ss_set (i := 1) kx rfl (by first | exact Or.inl rfl | exact Or.inr rfl) (se_add (se_var (i := 1) rfl (by first | exact Or.inl rfl | exact Or.inr (Or.inl rfl) | exact Or.inr (Or.inr rfl))) (se_lst (sa_cons (se_tup (sa_cons (se_mk (Mk.at (mk_BadWord c) (c.cl .BadWord) hr (by decide) (by rfl)) (se_var (i := 0) rfl (by first | exact Or.inl rfl | exact Or.inr (Or.inl rfl) | exact Or.inr (Or.inr rfl)))) (sa_cons (se_mkK (Mk.at (mk_BadWord c) (c.cl .BadWord) hr (by decide) (by rfl)) (se_var (i := 0) rfl (by first | exact Or.inl rfl | exact Or.inr (Or.inl rfl) | exact Or.inr (Or.inr rfl)))) (sa_cons se_str sa_nil)))) sa_nil))))
    (ss_cons (ss_set (i := 1) kx rfl (by first | exact Or.inl rfl | exact Or.inr rfl) (se_add (se_var (i := 1) rfl (by first | exact Or.inl rfl | exact Or.inr (Or.inl rfl) | exact Or.inr (Or.inr rfl))) (se_lst (sa_cons (se_tup (sa_cons (se_mk (Mk.at (mk_BadTree c) (c.cl .BadTree) hr (by decide) (by rfl)) (se_var (i := 0) rfl (by first | exact Or.inl rfl | exact Or.inr (Or.inl rfl) | exact Or.inr (Or.inr rfl)))) (sa_cons (se_mkK (Mk.at (mk_BadTree c) (c.cl .BadTree) hr (by decide) (by rfl)) (se_var (i := 0) rfl (by first | exact Or.inl rfl | exact Or.inr (Or.inl rfl) | exact Or.inr (Or.inr rfl)))) (sa_cons se_str sa_nil)))) sa_nil))))
    (ss_cons (ss_set (i := 1) kx rfl (by first | exact Or.inl rfl | exact Or.inr rfl) (se_add (se_var (i := 1) rfl (by first | exact Or.inl rfl | exact Or.inr (Or.inl rfl) | exact Or.inr (Or.inr rfl))) (se_lst (sa_cons (se_tup (sa_cons (se_mk (Mk.at (mk_BadMachine c) (c.cl .BadMachine) hr (by decide) (by rfl)) (se_var (i := 0) rfl (by first | exact Or.inl rfl | exact Or.inr (Or.inl rfl) | exact Or.inr (Or.inr rfl)))) (sa_cons (se_mkK (Mk.at (mk_BadMachine c) (c.cl .BadMachine) hr (by decide) (by rfl)) (se_var (i := 0) rfl (by first | exact Or.inl rfl | exact Or.inr (Or.inl rfl) | exact Or.inr (Or.inr rfl)))) (sa_cons se_str sa_nil)))) sa_nil))))
    (ss_cons (ss_set (i := 1) kx rfl (by first | exact Or.inl rfl | exact Or.inr rfl) (se_add (se_var (i := 1) rfl (by first | exact Or.inl rfl | exact Or.inr (Or.inl rfl) | exact Or.inr (Or.inr rfl))) (se_lst (sa_cons (se_tup (sa_cons (se_mk (Mk.at (mk_BadBatch c) (c.cl .BadBatch) hr (by decide) (by rfl)) (se_var (i := 0) rfl (by first | exact Or.inl rfl | exact Or.inr (Or.inl rfl) | exact Or.inr (Or.inr rfl)))) (sa_cons (se_mkK (Mk.at (mk_BadBatch c) (c.cl .BadBatch) hr (by decide) (by rfl)) (se_var (i := 0) rfl (by first | exact Or.inl rfl | exact Or.inr (Or.inl rfl) | exact Or.inr (Or.inr rfl)))) (sa_cons se_str sa_nil)))) sa_nil))))
    (ss_cons (ss_set (i := 1) kx rfl (by first | exact Or.inl rfl | exact Or.inr rfl) (se_add (se_var (i := 1) rfl (by first | exact Or.inl rfl | exact Or.inr (Or.inl rfl) | exact Or.inr (Or.inr rfl))) (se_lst (sa_cons (se_tup (sa_cons (se_mk (Mk.at (mk_BadText c) (c.cl .BadText) hr (by decide) (by rfl)) (se_var (i := 0) rfl (by first | exact Or.inl rfl | exact Or.inr (Or.inl rfl) | exact Or.inr (Or.inr rfl)))) (sa_cons (se_mkK (Mk.at (mk_BadText c) (c.cl .BadText) hr (by decide) (by rfl)) (se_var (i := 0) rfl (by first | exact Or.inl rfl | exact Or.inr (Or.inl rfl) | exact Or.inr (Or.inr rfl)))) (sa_cons se_str sa_nil)))) sa_nil))))
    (ss_cons (ss_set (i := 1) kx rfl (by first | exact Or.inl rfl | exact Or.inr rfl) (se_add (se_var (i := 1) rfl (by first | exact Or.inl rfl | exact Or.inr (Or.inl rfl) | exact Or.inr (Or.inr rfl))) (se_lst (sa_cons (se_tup (sa_cons (se_mk (Mk.at (mk_BadBytes c) (c.cl .BadBytes) hr (by decide) (by rfl)) (se_var (i := 0) rfl (by first | exact Or.inl rfl | exact Or.inr (Or.inl rfl) | exact Or.inr (Or.inr rfl)))) (sa_cons (se_mkK (Mk.at (mk_BadBytes c) (c.cl .BadBytes) hr (by decide) (by rfl)) (se_var (i := 0) rfl (by first | exact Or.inl rfl | exact Or.inr (Or.inl rfl) | exact Or.inr (Or.inr rfl)))) (sa_cons se_str sa_nil)))) sa_nil))))
    (ss_cons (ss_set (i := 1) kx rfl (by first | exact Or.inl rfl | exact Or.inr rfl) (se_add (se_var (i := 1) rfl (by first | exact Or.inl rfl | exact Or.inr (Or.inl rfl) | exact Or.inr (Or.inr rfl))) (se_lst (sa_cons (se_tup (sa_cons (se_mk (Mk.at (mk_BadPaper c) (c.cl .BadPaper) hr (by decide) (by rfl)) (se_var (i := 0) rfl (by first | exact Or.inl rfl | exact Or.inr (Or.inl rfl) | exact Or.inr (Or.inr rfl)))) (sa_cons (se_mkK (Mk.at (mk_BadPaper c) (c.cl .BadPaper) hr (by decide) (by rfl)) (se_var (i := 0) rfl (by first | exact Or.inl rfl | exact Or.inr (Or.inl rfl) | exact Or.inr (Or.inr rfl)))) (sa_cons se_str sa_nil)))) sa_nil))))
    (ss_one (ss_ret (se_add (se_var (i := 1) rfl (by first | exact Or.inl rfl | exact Or.inr (Or.inl rfl) | exact Or.inr (Or.inr rfl))) (se_lst (sa_cons (se_tup (sa_cons (se_mk (Mk.at (mk_BadDeed c) (c.cl .BadDeed) hr (by decide) (by rfl)) (se_var (i := 0) rfl (by first | exact Or.inl rfl | exact Or.inr (Or.inl rfl) | exact Or.inr (Or.inr rfl)))) (sa_cons (se_mkK (Mk.at (mk_BadDeed c) (c.cl .BadDeed) hr (by decide) (by rfl)) (se_var (i := 0) rfl (by first | exact Or.inl rfl | exact Or.inr (Or.inl rfl) | exact Or.inr (Or.inr rfl)))) (sa_cons se_str sa_nil)))) sa_nil))))))))))))))))))))))))
theorem def__law_placed {w : World} {K : PySem.W.Frag} {mg : Str → Option Value} {base : Heap} (c : Fx w K mg) : Def Pg w K mg base "_law_placed" 3 1 [] mf__law_placed := by
  obtain ⟨fd, F⟩ := c.d.def_ 31 (d := d__law_placed) rfl
  exact ⟨_, fd, ["thing"], [], [], fnG_of F sc__law_placed (fun cdv A outer s H E hr kx => body__law_placed c hr kx), c.glo (i := 5) (x := "_law_placed") rfl, F.kp, F.bindsN (fun _ _ _ _ _ _ us hl => match us, hl with | [_], _ => rfl), .nil, fun _ _ => rfl, rfl, by decide⟩
def bd__law_right_0 : SF := (sSeq (sIf (tfOr (tfV (eOp (gEqA true) (eFn 1 [] mf__law_kinds (aCons (eVar 1) aNil)) (eLst (aCons (eVar 3) (aCons (eC (.str "base")) (aCons (eC (.str "value")) aNil)))))) (tfV (eOp (gEqA true) (eFn 1 [] mf__law_kinds (aCons (eVar 2) aNil)) (eLst (aCons (eVar 3) (aCons (eC (.str "base")) (aCons (eC (.str "value")) aNil))))))) (sRet (eC (.bl false))) sNx)
    (sIf (tfOr (tfV (eOp (gEqA true) (eFld "value" (eVar 1)) (eVar 0))) (tfV (eOp (gEqA true) (eFld "value" (eVar 2)) (eVar 0)))) (sRet (eC (.bl false))) sNx))
def bd__law_right_1 : SF := (sSeq (sIf (tfOr (tfV (eOp (gEqA true) (eFn 1 [] mf__law_kinds (aCons (eVar 1) aNil)) (eLst (aCons (eVar 3) (aCons (eC (.str "base")) (aCons (eC (.str "value")) aNil)))))) (tfV (eOp (gEqA true) (eFn 1 [] mf__law_kinds (aCons (eVar 2) aNil)) (eLst (aCons (eVar 3) (aCons (eC (.str "base")) (aCons (eC (.str "value")) aNil))))))) (sRet (eC (.bl false))) sNx)
    (sIf (tfOr (tfV (eOp (gEqA true) (eFld "place" (eVar 1)) (eVar 0))) (tfV (eOp (gEqA true) (eFld "place" (eVar 2)) (eVar 0)))) (sRet (eC (.bl false))) sNx))
def bd__law_right_2 : SF := (sIf (tfOr (tfV (eOp (gEqA true) (eFn 1 [] mf__law_kinds (aCons (eVar 1) aNil)) (eLst (aCons (eC (.str "NoSuch")) (aCons (eC (.str "lookup")) aNil))))) (tfV (eOp (gEqA true) (eFld "value" (eVar 1)) (eVar 0)))) (sRet (eC (.bl false))) sNx)
def bd__law_right_3 : SF := (sIf (tfOr (tfV (eOp (gEqA true) (eFn 1 [] mf__law_kinds (aCons (eVar 1) aNil)) (eLst (aCons (eC (.str "TooMany")) (aCons (eC (.str "overflow")) aNil))))) (tfV (eOp (gEqA true) (eFld "most" (eVar 1)) (eVar 0)))) (sRet (eC (.bl false))) sNx)
def m__law_right : SF := (sSeq (sFor (iVal (eFn 1 [] mf__law_valued (aCons (eVar 0) aNil))) (gTp 3 (gsCons (gNm 1) (gsCons (gNm 2) (gsCons (gNm 3) gsNil)))) bd__law_right_0)
    (sSeq (sFor (iVal (eFn 1 [] mf__law_placed (aCons (eVar 0) aNil))) (gTp 3 (gsCons (gNm 1) (gsCons (gNm 2) (gsCons (gNm 3) gsNil)))) bd__law_right_1)
    (sSeq (sFor (iVal (eTup (aCons (eExc .NoSuch (eVar 0)) (aCons (eExc .NoSuch (eVar 0)) aNil)))) (gNm 1) bd__law_right_2)
    (sSeq (sFor (iVal (eTup (aCons (eExc .TooMany (eVar 0)) (aCons (eExc .TooMany (eVar 0)) aNil)))) (gNm 1) bd__law_right_3)
    (sRet (eC (.bl true)))))))
def mf__law_right : CF := mfOf 4 m__law_right
theorem sc__law_right : FnScope ["thing", "one", "other", "name"] ["thing"] (defScope s__law_right) := ⟨rfl, rfl, rfl, by decide +kernel, rfl, by decide +kernel, by decide +kernel⟩
theorem body__law_right {w : World} {K : PySem.W.Frag} {mg : Str → Option Value} {base : Heap} {cdv : Value} {A : Around} {outer : List PySem.Env} {s : Shared} {H : Hp} {E : XK} {fA : Addr} (c : Fx w K mg) (hr : Room 3 (A.deeper (envOfC "_law_right" (defScope s__law_right) s.heap.objs.size fA cdv)))
    (kx : Kx (cxOf (L2.CX Pg w) Pg w K mg base ["thing", "one", "other", "name"] "_law_right" (defScope s__law_right) fA cdv A outer s H E) (wE E)) : SSs (cxOf (L2.CX Pg w) Pg w K mg base ["thing", "one", "other", "name"] "_law_right" (defScope s__law_right) fA cdv A outer s H E) (wE E) (defBody s__law_right) m__law_right :=
  (ss_cons (ss_for kx (si_val (se_fn (Def.fn (def__law_valued c) hr (by decide) (by rfl)) kx (sa_cons (se_var (i := 0) rfl (by first | exact Or.inl rfl | exact Or.inr (Or.inl rfl) | exact Or.inr (Or.inr rfl))) sa_nil))) (sg_tup kx.hc (sgs_cons (sg_name kx.nd (i := 1) rfl (by first | exact Or.inl rfl | exact Or.inr rfl)) (sgs_cons (sg_name kx.nd (i := 2) rfl (by first | exact Or.inl rfl | exact Or.inr rfl)) (sgs_cons (sg_name kx.nd (i := 3) rfl (by first | exact Or.inl rfl | exact Or.inr rfl)) sgs_nil)))) (ss_cons (ss_if (SW.st (sw_or (st_ne kx.hu64 (se_fn (Def.fn (def__law_kinds c) hr (by decide) (by rfl)) kx (sa_cons (se_var (i := 1) rfl (by first | exact Or.inl rfl | exact Or.inr (Or.inl rfl) | exact Or.inr (Or.inr rfl))) sa_nil)) (se_lst (sa_cons (se_var (i := 3) rfl (by first | exact Or.inl rfl | exact Or.inr (Or.inl rfl) | exact Or.inr (Or.inr rfl))) (sa_cons se_str (sa_cons se_str sa_nil))))) (sw_or1 (st_ne kx.hu64 (se_fn (Def.fn (def__law_kinds c) hr (by decide) (by rfl)) kx (sa_cons (se_var (i := 2) rfl (by first | exact Or.inl rfl | exact Or.inr (Or.inl rfl) | exact Or.inr (Or.inr rfl))) sa_nil)) (se_lst (sa_cons (se_var (i := 3) rfl (by first | exact Or.inl rfl | exact Or.inr (Or.inl rfl) | exact Or.inr (Or.inr rfl))) (sa_cons se_str (sa_cons se_str sa_nil)))))))) (ss_one (ss_ret se_bl)) ss_nil)
    (ss_one (ss_if (SW.st (sw_or (st_ne kx.hu64 (se_fld c.xs (se_var (i := 1) rfl (by first | exact Or.inl rfl | exact Or.inr (Or.inl rfl) | exact Or.inr (Or.inr rfl)))) (se_var (i := 0) rfl (by first | exact Or.inl rfl | exact Or.inr (Or.inl rfl) | exact Or.inr (Or.inr rfl)))) (sw_or1 (st_ne kx.hu64 (se_fld c.xs (se_var (i := 2) rfl (by first | exact Or.inl rfl | exact Or.inr (Or.inl rfl) | exact Or.inr (Or.inr rfl)))) (se_var (i := 0) rfl (by first | exact Or.inl rfl | exact Or.inr (Or.inl rfl) | exact Or.inr (Or.inr rfl))))))) (ss_one (ss_ret se_bl)) ss_nil))))
    (ss_cons (ss_for kx (si_val (se_fn (Def.fn (def__law_placed c) hr (by decide) (by rfl)) kx (sa_cons (se_var (i := 0) rfl (by first | exact Or.inl rfl | exact Or.inr (Or.inl rfl) | exact Or.inr (Or.inr rfl))) sa_nil))) (sg_tup kx.hc (sgs_cons (sg_name kx.nd (i := 1) rfl (by first | exact Or.inl rfl | exact Or.inr rfl)) (sgs_cons (sg_name kx.nd (i := 2) rfl (by first | exact Or.inl rfl | exact Or.inr rfl)) (sgs_cons (sg_name kx.nd (i := 3) rfl (by first | exact Or.inl rfl | exact Or.inr rfl)) sgs_nil)))) (ss_cons (ss_if (SW.st (sw_or (st_ne kx.hu64 (se_fn (Def.fn (def__law_kinds c) hr (by decide) (by rfl)) kx (sa_cons (se_var (i := 1) rfl (by first | exact Or.inl rfl | exact Or.inr (Or.inl rfl) | exact Or.inr (Or.inr rfl))) sa_nil)) (se_lst (sa_cons (se_var (i := 3) rfl (by first | exact Or.inl rfl | exact Or.inr (Or.inl rfl) | exact Or.inr (Or.inr rfl))) (sa_cons se_str (sa_cons se_str sa_nil))))) (sw_or1 (st_ne kx.hu64 (se_fn (Def.fn (def__law_kinds c) hr (by decide) (by rfl)) kx (sa_cons (se_var (i := 2) rfl (by first | exact Or.inl rfl | exact Or.inr (Or.inl rfl) | exact Or.inr (Or.inr rfl))) sa_nil)) (se_lst (sa_cons (se_var (i := 3) rfl (by first | exact Or.inl rfl | exact Or.inr (Or.inl rfl) | exact Or.inr (Or.inr rfl))) (sa_cons se_str (sa_cons se_str sa_nil)))))))) (ss_one (ss_ret se_bl)) ss_nil)
    (ss_one (ss_if (SW.st (sw_or (st_ne kx.hu64 (se_fld c.xs (se_var (i := 1) rfl (by first | exact Or.inl rfl | exact Or.inr (Or.inl rfl) | exact Or.inr (Or.inr rfl)))) (se_var (i := 0) rfl (by first | exact Or.inl rfl | exact Or.inr (Or.inl rfl) | exact Or.inr (Or.inr rfl)))) (sw_or1 (st_ne kx.hu64 (se_fld c.xs (se_var (i := 2) rfl (by first | exact Or.inl rfl | exact Or.inr (Or.inl rfl) | exact Or.inr (Or.inr rfl)))) (se_var (i := 0) rfl (by first | exact Or.inl rfl | exact Or.inr (Or.inl rfl) | exact Or.inr (Or.inr rfl))))))) (ss_one (ss_ret se_bl)) ss_nil))))
    (ss_cons (ss_for kx (si_val (se_tup (sa_cons (se_mk (Mk.at (mk_NoSuch c) (c.cl .NoSuch) hr (by decide) (by rfl)) (se_var (i := 0) rfl (by first | exact Or.inl rfl | exact Or.inr (Or.inl rfl) | exact Or.inr (Or.inr rfl)))) (sa_cons (se_mkK (Mk.at (mk_NoSuch c) (c.cl .NoSuch) hr (by decide) (by rfl)) (se_var (i := 0) rfl (by first | exact Or.inl rfl | exact Or.inr (Or.inl rfl) | exact Or.inr (Or.inr rfl)))) sa_nil)))) (sg_name kx.nd (i := 1) rfl (by first | exact Or.inl rfl | exact Or.inr rfl)) (ss_one (ss_if (SW.st (sw_or (st_ne kx.hu64 (se_fn (Def.fn (def__law_kinds c) hr (by decide) (by rfl)) kx (sa_cons (se_var (i := 1) rfl (by first | exact Or.inl rfl | exact Or.inr (Or.inl rfl) | exact Or.inr (Or.inr rfl))) sa_nil)) (se_lst (sa_cons se_str (sa_cons se_str sa_nil)))) (sw_or1 (st_ne kx.hu64 (se_fld c.xs (se_var (i := 1) rfl (by first | exact Or.inl rfl | exact Or.inr (Or.inl rfl) | exact Or.inr (Or.inr rfl)))) (se_var (i := 0) rfl (by first | exact Or.inl rfl | exact Or.inr (Or.inl rfl) | exact Or.inr (Or.inr rfl))))))) (ss_one (ss_ret se_bl)) ss_nil)))
    (ss_cons (ss_for kx (si_val (se_tup (sa_cons (se_mk (Mk.at (mk_TooMany c) (c.cl .TooMany) hr (by decide) (by rfl)) (se_var (i := 0) rfl (by first | exact Or.inl rfl | exact Or.inr (Or.inl rfl) | exact Or.inr (Or.inr rfl)))) (sa_cons (se_mkK (Mk.at (mk_TooMany c) (c.cl .TooMany) hr (by decide) (by rfl)) (se_var (i := 0) rfl (by first | exact Or.inl rfl | exact Or.inr (Or.inl rfl) | exact Or.inr (Or.inr rfl)))) sa_nil)))) (sg_name kx.nd (i := 1) rfl (by first | exact Or.inl rfl | exact Or.inr rfl)) (ss_one (ss_if (SW.st (sw_or (st_ne kx.hu64 (se_fn (Def.fn (def__law_kinds c) hr (by decide) (by rfl)) kx (sa_cons (se_var (i := 1) rfl (by first | exact Or.inl rfl | exact Or.inr (Or.inl rfl) | exact Or.inr (Or.inr rfl))) sa_nil)) (se_lst (sa_cons se_str (sa_cons se_str sa_nil)))) (sw_or1 (st_ne kx.hu64 (se_fld c.xs (se_var (i := 1) rfl (by first | exact Or.inl rfl | exact Or.inr (Or.inl rfl) | exact Or.inr (Or.inr rfl)))) (se_var (i := 0) rfl (by first | exact Or.inl rfl | exact Or.inr (Or.inl rfl) | exact Or.inr (Or.inr rfl))))))) (ss_one (ss_ret se_bl)) ss_nil)))
    (ss_one (ss_ret se_bl))))))
theorem def__law_right {w : World} {K : PySem.W.Frag} {mg : Str → Option Value} {base : Heap} (c : Fx w K mg) : Def Pg w K mg base "_law_right" 4 1 [] mf__law_right := by
  obtain ⟨fd, F⟩ := c.d.def_ 32 (d := d__law_right) rfl
  exact ⟨_, fd, ["thing"], [], [], fnG_of F sc__law_right (fun cdv A outer s H E hr kx => body__law_right c hr kx), c.glo (i := 6) (x := "_law_right") rfl, F.kp, F.bindsN (fun _ _ _ _ _ _ us hl => match us, hl with | [_], _ => rfl), .nil, fun _ _ => rfl, rfl, by decide⟩
def bd_law_0 : SF := (sSeq (sSet 7 (eFn 2 [] mf__law_draw (aCons (eVar 6) (aCons (eVar 5) aNil))))
    (sSeq (sSet 8 (eFnD 7 2 [] mf__law_digit (aCons (eC (.int 100000)) aNil)))
    (sSeq (sSet 1 (eLst (aCons (eVar 8) (aCons (eSub (eC (.int 0)) (eVar 8)) (aCons (eOp gMulA (eC (.str "ab")) (eMod (eVar 8) (eC (.int 50)))) (aCons (eTup (aCons (eC (.str "atom")) (aCons (eTup (aCons (eC (.int 0)) (aCons (eVar 8) aNil))) aNil))) (aCons (eC .non) (aCons (eTup (aCons (ePow (eC (.int 10)) (eC (.int 30))) (aCons (eTup aNil) aNil))) (aCons (eOp gMulA (eTup (aCons (eVar 8) aNil)) (eC (.int 9))) aNil)))))))))
    (sIf (tfOr (tfNot (tfV (eFn 1 [] mf__law_right (aCons (eOp gIx (eVar 1) (eFnD 7 2 [] mf__law_digit (aCons (eC (.int 7)) aNil))) aNil)))) (tfNot (tfV (eFn 1 [] mf__law_right (aCons (ePow (ePow (ePow (eC (.int 10)) (eC (.int 50))) (eC (.int 50))) (eC (.int 2))) aNil))))) (sRet (eC (.bl false))) sNx))))
def bd_law_1 : SF := (sSeq (sSet 9 (eAdd (eLc (iVal (eAdd (eFn 1 [] mf__law_valued (aCons (eVar 4) aNil)) (eFn 1 [] mf__law_placed (aCons (eVar 4) aNil)))) (gTp 3 (gsCons (gNm 11) (gsCons (gNm 12) (gsCons (gNm 13) gsNil)))) eYes (eVar 11) [11, 12, 13]) (eLst (aCons (eExc .NoSuch (eVar 4)) (aCons (eExc .TooMany (eVar 4)) aNil)))))
    (sExpr (eApp 3 (eLc (iVal (eVar 9)) (gNm 10) eYes (eStrX (eVar 10)) [10]))))
def m_law : SF := (sSeq (sFor (iEn (aCons (eAdd (eCut (eVar 0) oNone (oSome (eC (.int 4)))) (eLst (aCons (eCall (g1 gSum) (aCons (eVar 0) aNil)) aNil))) aNil)) (gTp 2 (gsCons (gNm 5) (gsCons (gNm 6) gsNil))) bd_law_0)
    (sSeq (sSet 1 (eLst (aCons (eExc .BadPrime (eC .non)) (aCons (eExc .BadNumber (eC .non)) (aCons (eExc .BadName (eC .non)) (aCons (eExc .BadRemainder (eC .non)) (aCons (eExc .NoSuch (eC .non)) aNil)))))))
    (sSeq (sSet 2 (eLst (aCons (eExc .BadExpression (eC .non)) (aCons (eExc .BadProgram (eC .non)) (aCons (eExc .BadInput (eC .non)) (aCons (eExc .BadNet (eC .non)) (aCons (eExc .BadLayers (eC .non)) (aCons (eExc .BadPoint (eC .non)) (aCons (eExc .BadLine (eC .non)) aNil)))))))))
    (sSeq (sSet 2 (eAdd (eVar 2) (eLst (aCons (eExc .BadTable (eC .non)) (aCons (eExc .BadClaim (eC .non)) (aCons (eExc .BadTalk (eC .non)) (aCons (eExc .BadCheat (eC .non)) (aCons (eExc .BadCode (eC .non)) (aCons (eExc .BadWord (eC .non)) (aCons (eExc .BadTree (eC .non)) (aCons (eExc .BadMachine (eC .non)) (aCons (eExc .BadBatch (eC .non)) (aCons (eExc .BadText (eC .non)) (aCons (eExc .BadBytes (eC .non)) (aCons (eExc .BadPaper (eC .non)) (aCons (eExc .BadDeed (eC .non)) aNil))))))))))))))))
    (sSeq (sIf (tfOr (tfV (eOp (gEqA true) (eLc (iVal (eVar 1)) (gNm 10) eYes (eFld "value" (eVar 10)) [10]) (eOp gMulA (eLst (aCons (eC .non) aNil)) (eC (.int 5))))) (tfV (eOp (gEqA true) (eLc (iVal (eVar 2)) (gNm 10) eYes (eFld "place" (eVar 10)) [10]) (eOp gMulA (eLst (aCons (eC .non) aNil)) (eC (.int 20)))))) (sRet (eC (.bl false))) sNx)
    (sSeq (sSet 3 (eLst aNil))
    (sSeq (sFor (iVal (eTup (aCons (eC (.str "zqzq")) (aCons (ePow (eC (.int 10)) (eC (.int 30))) (aCons (eC (.int 70707)) (aCons (eC (.str "")) (aCons (eC (.str "deed")) aNil))))))) (gNm 4) bd_law_1)
    (sRet (eOp (gEqA false) (eVar 3) (eOp gMulA (eLst (aCons (eOp gIx (eVar 3) (eC (.int 0))) aNil)) (eC (.int 5))))))))))))
def mf_law : CF := mfOf 14 m_law
theorem sc_law : FnScope ["script", "some", "others", "rows", "thing", "k", "cell", "state", "number", "made", "e", "one", "other", "name"] ["script"] (defScope s_law) := ⟨rfl, rfl, rfl, by decide +kernel, rfl, by decide +kernel, by decide +kernel⟩
theorem body_law {w : World} {K : PySem.W.Frag} {mg : Str → Option Value} {base : Heap} {cdv : Value} {A : Around} {outer : List PySem.Env} {s : Shared} {H : Hp} {E : XK} {fA : Addr} (c : Fx w K mg) (hr : Room 4 (A.deeper (envOfC "law" (defScope s_law) s.heap.objs.size fA cdv)))
    (kx : Kx (cxOf (L2.CX Pg w) Pg w K mg base ["script", "some", "others", "rows", "thing", "k", "cell", "state", "number", "made", "e", "one", "other", "name"] "law" (defScope s_law) fA cdv A outer s H E) (wE E)) : SSs (cxOf (L2.CX Pg w) Pg w K mg base ["script", "some", "others", "rows", "thing", "k", "cell", "state", "number", "made", "e", "one", "other", "name"] "law" (defScope s_law) fA cdv A outer s H E) (wE E) (defBody s_law) m_law :=
  (ss_cons (ss_for kx (si_enum (sa_cons (se_add (se_cut (se_var (i := 0) rfl (by first | exact Or.inl rfl | exact Or.inr (Or.inl rfl) | exact Or.inr (Or.inr rfl))) so_none (so_some se_int)) (se_lst (sa_cons (se_sumF kx (by rfl) (c.free (i := 42) (x := "sum") rfl) (sa_cons (se_var (i := 0) rfl (by first | exact Or.inl rfl | exact Or.inr (Or.inl rfl) | exact Or.inr (Or.inr rfl))) sa_nil)) sa_nil))) sa_nil) (by rfl) (c.free (i := 38) (x := "enumerate") rfl)) (sg_tup kx.hc (sgs_cons (sg_name kx.nd (i := 5) rfl (by first | exact Or.inl rfl | exact Or.inr rfl)) (sgs_cons (sg_name kx.nd (i := 6) rfl (by first | exact Or.inl rfl | exact Or.inr rfl)) sgs_nil))) (ss_cons (ss_set (i := 7) kx rfl (by first | exact Or.inl rfl | exact Or.inr rfl) (se_fn (Def.fn (def__law_draw c) hr (by decide) (by rfl)) kx (sa_cons (se_var (i := 6) rfl (by first | exact Or.inl rfl | exact Or.inr (Or.inl rfl) | exact Or.inr (Or.inr rfl))) (sa_cons (se_var (i := 5) rfl (by first | exact Or.inl rfl | exact Or.inr (Or.inl rfl) | exact Or.inr (Or.inr rfl))) sa_nil))))
    (ss_cons (ss_set (i := 8) kx rfl (by first | exact Or.inl rfl | exact Or.inr rfl) (se_fnD (i := 7) (Def.fn (def__law_digit c) hr (by decide) (by rfl)) kx rfl (by first | exact Or.inl rfl | exact Or.inr (Or.inl rfl) | exact Or.inr (Or.inr rfl)) (sa_cons se_int sa_nil)))
    (ss_cons (ss_set (i := 1) kx rfl (by first | exact Or.inl rfl | exact Or.inr rfl) (se_lst (sa_cons (se_var (i := 8) rfl (by first | exact Or.inl rfl | exact Or.inr (Or.inl rfl) | exact Or.inr (Or.inr rfl))) (sa_cons (se_sub se_int (se_var (i := 8) rfl (by first | exact Or.inl rfl | exact Or.inr (Or.inl rfl) | exact Or.inr (Or.inr rfl)))) (sa_cons (se_mulA se_str (se_mod (se_var (i := 8) rfl (by first | exact Or.inl rfl | exact Or.inr (Or.inl rfl) | exact Or.inr (Or.inr rfl))) se_int)) (sa_cons (se_tup (sa_cons se_str (sa_cons (se_tup (sa_cons se_int (sa_cons (se_var (i := 8) rfl (by first | exact Or.inl rfl | exact Or.inr (Or.inl rfl) | exact Or.inr (Or.inr rfl))) sa_nil))) sa_nil))) (sa_cons se_non (sa_cons (se_tup (sa_cons (se_pow se_int se_int) (sa_cons (se_tup sa_nil) sa_nil))) (sa_cons (se_mulA (se_tup (sa_cons (se_var (i := 8) rfl (by first | exact Or.inl rfl | exact Or.inr (Or.inl rfl) | exact Or.inr (Or.inr rfl))) sa_nil)) se_int) sa_nil)))))))))
    (ss_one (ss_if (SW.st (sw_or (st_not (st_val (se_fn (Def.fn (def__law_right c) hr (by decide) (by rfl)) kx (sa_cons (se_ix (se_var (i := 1) rfl (by first | exact Or.inl rfl | exact Or.inr (Or.inl rfl) | exact Or.inr (Or.inr rfl))) (se_fnD (i := 7) (Def.fn (def__law_digit c) hr (by decide) (by rfl)) kx rfl (by first | exact Or.inl rfl | exact Or.inr (Or.inl rfl) | exact Or.inr (Or.inr rfl)) (sa_cons se_int sa_nil))) sa_nil)))) (sw_or1 (st_not (st_val (se_fn (Def.fn (def__law_right c) hr (by decide) (by rfl)) kx (sa_cons (se_pow (se_pow (se_pow se_int se_int) se_int) se_int) sa_nil))))))) (ss_one (ss_ret se_bl)) ss_nil))))))
    (ss_cons (ss_set (i := 1) kx rfl (by first | exact Or.inl rfl | exact Or.inr rfl) (se_lst (sa_cons (se_mk0 (Mk.at (mk_BadPrime c) (c.cl .BadPrime) hr (by decide) (by rfl))) (sa_cons (se_mk0 (Mk.at (mk_BadNumber c) (c.cl .BadNumber) hr (by decide) (by rfl))) (sa_cons (se_mk0 (Mk.at (mk_BadName c) (c.cl .BadName) hr (by decide) (by rfl))) (sa_cons (se_mk0 (Mk.at (mk_BadRemainder c) (c.cl .BadRemainder) hr (by decide) (by rfl))) (sa_cons (se_mk0 (Mk.at (mk_NoSuch c) (c.cl .NoSuch) hr (by decide) (by rfl))) sa_nil)))))))
    (ss_cons (ss_set (i := 2) kx rfl (by first | exact Or.inl rfl | exact Or.inr rfl) (se_lst (sa_cons (se_mk0 (Mk.at (mk_BadExpression c) (c.cl .BadExpression) hr (by decide) (by rfl))) (sa_cons (se_mk0 (Mk.at (mk_BadProgram c) (c.cl .BadProgram) hr (by decide) (by rfl))) (sa_cons (se_mk0 (Mk.at (mk_BadInput c) (c.cl .BadInput) hr (by decide) (by rfl))) (sa_cons (se_mk0 (Mk.at (mk_BadNet c) (c.cl .BadNet) hr (by decide) (by rfl))) (sa_cons (se_mk0 (Mk.at (mk_BadLayers c) (c.cl .BadLayers) hr (by decide) (by rfl))) (sa_cons (se_mk0 (Mk.at (mk_BadPoint c) (c.cl .BadPoint) hr (by decide) (by rfl))) (sa_cons (se_mk0 (Mk.at (mk_BadLine c) (c.cl .BadLine) hr (by decide) (by rfl))) sa_nil)))))))))
    (ss_cons (ss_set (i := 2) kx rfl (by first | exact Or.inl rfl | exact Or.inr rfl) (se_add (se_var (i := 2) rfl (by first | exact Or.inl rfl | exact Or.inr (Or.inl rfl) | exact Or.inr (Or.inr rfl))) (se_lst (sa_cons (se_mk0 (Mk.at (mk_BadTable c) (c.cl .BadTable) hr (by decide) (by rfl))) (sa_cons (se_mk0 (Mk.at (mk_BadClaim c) (c.cl .BadClaim) hr (by decide) (by rfl))) (sa_cons (se_mk0 (Mk.at (mk_BadTalk c) (c.cl .BadTalk) hr (by decide) (by rfl))) (sa_cons (se_mk0 (Mk.at (mk_BadCheat c) (c.cl .BadCheat) hr (by decide) (by rfl))) (sa_cons (se_mk0 (Mk.at (mk_BadCode c) (c.cl .BadCode) hr (by decide) (by rfl))) (sa_cons (se_mk0 (Mk.at (mk_BadWord c) (c.cl .BadWord) hr (by decide) (by rfl))) (sa_cons (se_mk0 (Mk.at (mk_BadTree c) (c.cl .BadTree) hr (by decide) (by rfl))) (sa_cons (se_mk0 (Mk.at (mk_BadMachine c) (c.cl .BadMachine) hr (by decide) (by rfl))) (sa_cons (se_mk0 (Mk.at (mk_BadBatch c) (c.cl .BadBatch) hr (by decide) (by rfl))) (sa_cons (se_mk0 (Mk.at (mk_BadText c) (c.cl .BadText) hr (by decide) (by rfl))) (sa_cons (se_mk0 (Mk.at (mk_BadBytes c) (c.cl .BadBytes) hr (by decide) (by rfl))) (sa_cons (se_mk0 (Mk.at (mk_BadPaper c) (c.cl .BadPaper) hr (by decide) (by rfl))) (sa_cons (se_mk0 (Mk.at (mk_BadDeed c) (c.cl .BadDeed) hr (by decide) (by rfl))) sa_nil))))))))))))))))
    (ss_cons (ss_if (SW.st (sw_or (st_ne kx.hu64 (se_lc kx (si_val (se_var (i := 1) rfl (by first | exact Or.inl rfl | exact Or.inr (Or.inl rfl) | exact Or.inr (Or.inr rfl)))) (fun _ _ _ _ _ => (sg_name kx.blk.nd (i := 10) rfl (by first | exact Or.inl rfl | exact Or.inr rfl))) (fun _ _ _ _ _ => sp_nil) (fun _ _ _ _ _ => (se_fld c.xs (se_var (i := 10) rfl (by first | exact Or.inl rfl | exact Or.inr (Or.inl rfl) | exact Or.inr (Or.inr rfl))))) (blkOk_by (own := [("e", 10)]) (by first | rfl | kernel_rfl))) (se_mulA (se_lst (sa_cons se_non sa_nil)) se_int)) (sw_or1 (st_ne kx.hu64 (se_lc kx (si_val (se_var (i := 2) rfl (by first | exact Or.inl rfl | exact Or.inr (Or.inl rfl) | exact Or.inr (Or.inr rfl)))) (fun _ _ _ _ _ => (sg_name kx.blk.nd (i := 10) rfl (by first | exact Or.inl rfl | exact Or.inr rfl))) (fun _ _ _ _ _ => sp_nil) (fun _ _ _ _ _ => (se_fld c.xs (se_var (i := 10) rfl (by first | exact Or.inl rfl | exact Or.inr (Or.inl rfl) | exact Or.inr (Or.inr rfl))))) (blkOk_by (own := [("e", 10)]) (by first | rfl | kernel_rfl))) (se_mulA (se_lst (sa_cons se_non sa_nil)) se_int))))) (ss_one (ss_ret se_bl)) ss_nil)
    (ss_cons (ss_set (i := 3) kx rfl (by first | exact Or.inl rfl | exact Or.inr rfl) (se_lst sa_nil))
    (ss_cons (ss_for kx (si_val (se_tup (sa_cons se_str (sa_cons (se_pow se_int se_int) (sa_cons se_int (sa_cons se_str (sa_cons se_str sa_nil))))))) (sg_name kx.nd (i := 4) rfl (by first | exact Or.inl rfl | exact Or.inr rfl)) (ss_cons (ss_set (i := 9) kx rfl (by first | exact Or.inl rfl | exact Or.inr rfl) (se_add (se_lc kx (si_val (se_add (se_fn (Def.fn (def__law_valued c) hr (by decide) (by rfl)) kx (sa_cons (se_var (i := 4) rfl (by first | exact Or.inl rfl | exact Or.inr (Or.inl rfl) | exact Or.inr (Or.inr rfl))) sa_nil)) (se_fn (Def.fn (def__law_placed c) hr (by decide) (by rfl)) kx (sa_cons (se_var (i := 4) rfl (by first | exact Or.inl rfl | exact Or.inr (Or.inl rfl) | exact Or.inr (Or.inr rfl))) sa_nil)))) (fun _ _ _ _ _ => (sg_tup kx.blk.hc (sgs_cons (sg_name kx.blk.nd (i := 11) rfl (by first | exact Or.inl rfl | exact Or.inr rfl)) (sgs_cons (sg_name kx.blk.nd (i := 12) rfl (by first | exact Or.inl rfl | exact Or.inr rfl)) (sgs_cons (sg_name kx.blk.nd (i := 13) rfl (by first | exact Or.inl rfl | exact Or.inr rfl)) sgs_nil))))) (fun _ _ _ _ _ => sp_nil) (fun _ _ _ _ _ => (se_var (i := 11) rfl (by first | exact Or.inl rfl | exact Or.inr (Or.inl rfl) | exact Or.inr (Or.inr rfl)))) (blkOk_by (own := [("one", 11), ("other", 12), ("name", 13)]) (by first | rfl | kernel_rfl))) (se_lst (sa_cons (se_mk (Mk.at (mk_NoSuch c) (c.cl .NoSuch) hr (by decide) (by rfl)) (se_var (i := 4) rfl (by first | exact Or.inl rfl | exact Or.inr (Or.inl rfl) | exact Or.inr (Or.inr rfl)))) (sa_cons (se_mk (Mk.at (mk_TooMany c) (c.cl .TooMany) hr (by decide) (by rfl)) (se_var (i := 4) rfl (by first | exact Or.inl rfl | exact Or.inr (Or.inl rfl) | exact Or.inr (Or.inr rfl)))) sa_nil)))))
    (ss_one (ss_expr (se_append (i := 3) kx rfl (by first | exact Or.inl rfl | exact Or.inr (Or.inl rfl) | exact Or.inr (Or.inr rfl)) (se_lc kx (si_val (se_var (i := 9) rfl (by first | exact Or.inl rfl | exact Or.inr (Or.inl rfl) | exact Or.inr (Or.inr rfl)))) (fun _ _ _ _ _ => (sg_name kx.blk.nd (i := 10) rfl (by first | exact Or.inl rfl | exact Or.inr rfl))) (fun _ _ _ _ _ => sp_nil) (fun _ _ _ _ _ => (se_strX kx.blk c.xs (by rfl) (c.free (i := 41) (x := "str") rfl) (se_var (i := 10) rfl (by first | exact Or.inl rfl | exact Or.inr (Or.inl rfl) | exact Or.inr (Or.inr rfl))))) (blkOk_by (own := [("e", 10)]) (by first | rfl | kernel_rfl))))))))
    (ss_one (ss_ret (se_eq kx.hu64 (se_var (i := 3) rfl (by first | exact Or.inl rfl | exact Or.inr (Or.inl rfl) | exact Or.inr (Or.inr rfl))) (se_mulA (se_lst (sa_cons (se_ix (se_var (i := 3) rfl (by first | exact Or.inl rfl | exact Or.inr (Or.inl rfl) | exact Or.inr (Or.inr rfl))) se_int) sa_nil)) se_int)))))))))))
theorem def_law {w : World} {K : PySem.W.Frag} {mg : Str → Option Value} {base : Heap} (c : Fx w K mg) : Def Pg w K mg base "law" 5 1 [] mf_law := by
  obtain ⟨fd, F⟩ := c.d.def_ 33 (d := d_law) rfl
  exact ⟨_, fd, ["script"], [], [], fnG_of F sc_law (fun cdv A outer s H E hr kx => body_law c hr kx), c.glo (i := 7) (x := "law") rfl, F.kp, F.bindsN (fun _ _ _ _ _ _ us hl => match us, hl with | [_], _ => rfl), .nil, fun _ _ => rfl, rfl, by decide⟩
end Lk99

namespace Lk99
open PySem PySem.Spec PyProof.Rows L2 VL

def kindsOf (c : Cl) : List D := match c with
  | .TooMany => [.str "TooMany", .str "overflow"]
  | .NoSuch => [.str "NoSuch", .str "lookup"]
  | c => [.str c.nm, .str "base", .str "value"]
theorem kinds_eq (c : Cl) (d : D) : mf__law_kinds [.dat (.exc c true d)] = .ok (.ol (kindsOf c)) none := by
  cases c <;> kernel_rfl
def vcl : List Cl := [.BadPrime, .BadNumber, .BadName, .BadRemainder]
def pcl : List Cl := [.BadExpression, .BadProgram, .BadInput, .BadNet, .BadLayers, .BadPoint, .BadLine, .BadTable, .BadClaim, .BadTalk, .BadCheat, .BadCode, .BadWord, .BadTree, .BadMachine, .BadBatch, .BadText, .BadBytes, .BadPaper, .BadDeed]
def trip (d : D) (c : Cl) : D := .tup [.exc c true d, .exc c true d, .str c.nm]
theorem valued_eq (d : D) : mf__law_valued [.dat d] = .ok (.ol (vcl.map (trip d))) none := by kernel_rfl
theorem placed_eq (d : D) : mf__law_placed [.dat d] = .ok (.ol (pcl.map (trip d))) none := by kernel_rfl
end Lk99

namespace Lk99
open PySem PySem.Spec PyProof.Rows L2 VL

theorem seq_nx {f g : SF} {E E1 : VL.Env} {r : FL} (h : f E = .nx E1) (h2 : g E1 = r) : sSeq f g E = r := by
  unfold sSeq
  rw [h]
  exact h2
theorem if_no {t : TF} {f g : SF} {E E1 : VL.Env} {r : FL} (h : t E = .ok (false, E1)) (h2 : g E1 = r) : sIf t f g E = r := by
  unfold sIf
  rw [h]
  exact h2
theorem if_yes {t : TF} {f g : SF} {E E1 : VL.Env} {r : FL} (h : t E = .ok (true, E1)) (h2 : f E1 = r) : sIf t f g E = r := by
  unfold sIf
  rw [h]
  exact h2
theorem or_no {f g : TF} {E E1 E2 : VL.Env} (h : f E = .ok (false, E1)) (h2 : g E1 = .ok (false, E2)) : tfOr f g E = .ok (false, E2) := by
  unfold tfOr
  rw [h]
  show g E1 = _
  exact h2
theorem op_of {g : Sl → Sl → Option Sl} {a b : EF} {E E1 E2 : VL.Env} {x y s : Sl} (ha : a E = .ok (x, E1)) (hb : b E1 = .ok (y, E2)) (h : g x y = some s) : eOp g a b E = .ok (s, E2) := by
  unfold eOp
  rw [ha]
  show ((b E1).bind fun q => (RR.opt (g x q.1)).bind fun s => RR.ok (s, q.2)) = _
  rw [hb]
  show ((RR.opt (g x y)).bind fun s => RR.ok (s, E2)) = _
  rw [h]
  rfl
theorem val_of {f : EF} {E E1 : VL.Env} {b : Bool} (h : f E = .ok (.dat (.bl b), E1)) : tfV f E = .ok (b, E1) := by
  unfold tfV
  rw [h]
  rfl
theorem loop_nx {g : GF} {b : SF} {d : D} {ds : List D} {E E1 E2 : VL.Env} {r : FL} (hg : g d E = some E1) (hb : b E1 = .nx E2) (h : loopS g b ds E2 = r) : loopS g b (d :: ds) E = r := by
  unfold loopS
  rw [hg]
  dsimp only
  rw [hb]
  exact h
theorem for_of {f : EI} {g : GF} {b : SF} {E E1 : VL.Env} {ds : List D} {r : FL} (h : f E = .ok (ds, E1)) (h2 : loopS g b ds E1 = r) : sFor f g b E = r := by
  unfold sFor
  rw [h]
  exact h2
abbrev Same (d : D) : Prop := gEqA true (.dat d) (.dat d) = some (.dat (.bl false))
abbrev g3 : GF := gTp 3 (gsCons (gNm 1) (gsCons (gNm 2) (gsCons (gNm 3) gsNil)))
abbrev Ec (d : D) (c : Cl) : VL.Env := [.dat d, .dat (.exc c true d), .dat (.exc c true d), .dat (.str c.nm)]
def tk : TF := (tfOr (tfV (eOp (gEqA true) (eFn 1 [] mf__law_kinds (aCons (eVar 1) aNil)) (eLst (aCons (eVar 3) (aCons (eC (.str "base")) (aCons (eC (.str "value")) aNil)))))) (tfV (eOp (gEqA true) (eFn 1 [] mf__law_kinds (aCons (eVar 2) aNil)) (eLst (aCons (eVar 3) (aCons (eC (.str "base")) (aCons (eC (.str "value")) aNil)))))))
def tv (n : Str) : TF := (tfOr (tfV (eOp (gEqA true) (eFld n (eVar 1)) (eVar 0))) (tfV (eOp (gEqA true) (eFld n (eVar 2)) (eVar 0))))
theorem bd0 : bd__law_right_0 = sSeq (sIf tk (sRet (eC (.bl false))) sNx) (sIf (tv "value") (sRet (eC (.bl false))) sNx) := by kernel_rfl
theorem bd1 : bd__law_right_1 = sSeq (sIf tk (sRet (eC (.bl false))) sNx) (sIf (tv "place") (sRet (eC (.bl false))) sNx) := by kernel_rfl
theorem tk_ok (d : D) (c : Cl) (h : (c == .TooMany || c == .NoSuch) = false) : tk (Ec d c) = .ok (false, Ec d c) := by
  cases c <;> first
    | exact absurd h (by decide)
    | kernel_rfl
theorem fld1 (d : D) (c : Cl) : eFld c.fld (eVar 1) (Ec d c) = .ok (.dat d, Ec d c) := by cases c <;> kernel_rfl
theorem fld2 (d : D) (c : Cl) : eFld c.fld (eVar 2) (Ec d c) = .ok (.dat d, Ec d c) := by cases c <;> kernel_rfl
theorem var0 (d : D) (c : Cl) : eVar 0 (Ec d c) = .ok (.dat d, Ec d c) := by kernel_rfl
theorem tv_ok (d : D) (c : Cl) (h : Same d) : tv c.fld (Ec d c) = .ok (false, Ec d c) :=
  or_no (val_of (op_of (fld1 d c) (var0 d c) h)) (val_of (op_of (fld2 d c) (var0 d c) h))
theorem two_ok (d : D) (c : Cl) (h : Same d) (hc : (c == .TooMany || c == .NoSuch) = false) : sSeq (sIf tk (sRet (eC (.bl false))) sNx) (sIf (tv c.fld) (sRet (eC (.bl false))) sNx) (Ec d c) = .nx (Ec d c) :=
  seq_nx (if_no (tk_ok d c hc) (r := .nx (Ec d c)) (by kernel_rfl)) (if_no (tv_ok d c h) (by kernel_rfl))
theorem v_fld : ∀ c ∈ vcl, c.fld = "value" ∧ (c == .TooMany || c == .NoSuch) = false := by decide
theorem p_fld : ∀ c ∈ pcl, c.fld = "place" ∧ (c == .TooMany || c == .NoSuch) = false := by decide
theorem g3_ok (d : D) (c : Cl) (x y z : Sl) : g3 (trip d c) [.dat d, x, y, z] = some (Ec d c) := by kernel_rfl
theorem loop0 (d : D) (h : Same d) : ∀ (cs : List Cl), (∀ c ∈ cs, c ∈ vcl) → ∀ x y z, ∃ x' y' z', loopS g3 bd__law_right_0 (cs.map (trip d)) [.dat d, x, y, z] = .nx [.dat d, x', y', z']
  | [], _, x, y, z => ⟨x, y, z, by unfold List.map loopS; rfl⟩
  | c :: cs, hc, x, y, z => by
    obtain ⟨x', y', z', e⟩ := loop0 d h cs (fun b hb => hc b (List.mem_cons_of_mem _ hb)) (.dat (.exc c true d)) (.dat (.exc c true d)) (.dat (.str c.nm))
    obtain ⟨f1, f2⟩ := v_fld c (hc c List.mem_cons_self)
    refine ⟨x', y', z', loop_nx (g3_ok d c x y z) ?_ e⟩
    rw [bd0, ← f1]
    exact two_ok d c h f2
theorem loop1 (d : D) (h : Same d) : ∀ (cs : List Cl), (∀ c ∈ cs, c ∈ pcl) → ∀ x y z, ∃ x' y' z', loopS g3 bd__law_right_1 (cs.map (trip d)) [.dat d, x, y, z] = .nx [.dat d, x', y', z']
  | [], _, x, y, z => ⟨x, y, z, by unfold List.map loopS; rfl⟩
  | c :: cs, hc, x, y, z => by
    obtain ⟨x', y', z', e⟩ := loop1 d h cs (fun b hb => hc b (List.mem_cons_of_mem _ hb)) (.dat (.exc c true d)) (.dat (.exc c true d)) (.dat (.str c.nm))
    obtain ⟨f1, f2⟩ := p_fld c (hc c List.mem_cons_self)
    refine ⟨x', y', z', loop_nx (g3_ok d c x y z) ?_ e⟩
    rw [bd1, ← f1]
    exact two_ok d c h f2
end Lk99

namespace Lk99
open PySem PySem.Spec PyProof.Rows L2 VL

abbrev Ex (d : D) (c : Cl) (y z : Sl) : VL.Env := [.dat d, .dat (.exc c true d), y, z]
def tn (n : Str) (a b : Str) : TF := tfOr (tfV (eOp (gEqA true) (eFn 1 [] mf__law_kinds (aCons (eVar 1) aNil)) (eLst (aCons (eC (.str a)) (aCons (eC (.str b)) aNil))))) (tfV (eOp (gEqA true) (eFld n (eVar 1)) (eVar 0)))
theorem bd2 : bd__law_right_2 = sIf (tn "value" "NoSuch" "lookup") (sRet (eC (.bl false))) sNx := by kernel_rfl
theorem bd3 : bd__law_right_3 = sIf (tn "most" "TooMany" "overflow") (sRet (eC (.bl false))) sNx := by kernel_rfl
theorem body2 (d : D) (h : Same d) (y z : Sl) : bd__law_right_2 (Ex d .NoSuch y z) = .nx (Ex d .NoSuch y z) := by
  rw [bd2]
  refine if_no (or_no (E1 := Ex d .NoSuch y z) (by kernel_rfl) (val_of (op_of (x := .dat d) (y := .dat d) (E1 := Ex d .NoSuch y z) (E2 := Ex d .NoSuch y z) (by kernel_rfl) (by kernel_rfl) h))) (by kernel_rfl)
theorem body3 (d : D) (h : Same d) (y z : Sl) : bd__law_right_3 (Ex d .TooMany y z) = .nx (Ex d .TooMany y z) := by
  rw [bd3]
  refine if_no (or_no (E1 := Ex d .TooMany y z) (by kernel_rfl) (val_of (op_of (x := .dat d) (y := .dat d) (E1 := Ex d .TooMany y z) (E2 := Ex d .TooMany y z) (by kernel_rfl) (by kernel_rfl) h))) (by kernel_rfl)
theorem run_right (d : D) (h : Same d) : ∃ x y z, m__law_right [.dat d, .no, .no, .no] = .rt (.dat (.bl true)) [.dat d, x, y, z] := by
  obtain ⟨x, y, z, e0⟩ := loop0 d h vcl (fun _ hc => hc) .no .no .no
  obtain ⟨x', y', z', e1⟩ := loop1 d h pcl (fun _ hc => hc) x y z
  refine ⟨.dat (.exc .TooMany true d), y', z', ?_⟩
  unfold m__law_right
  refine seq_nx (for_of (ds := vcl.map (trip d)) (E1 := [.dat d, .no, .no, .no]) (by kernel_rfl) e0) ?_
  refine seq_nx (for_of (ds := pcl.map (trip d)) (E1 := [.dat d, x, y, z]) (by kernel_rfl) e1) ?_
  refine seq_nx (E1 := Ex d .NoSuch y' z') (for_of (ds := [.exc .NoSuch true d, .exc .NoSuch true d]) (E1 := [.dat d, x', y', z']) (by kernel_rfl) (loop_nx (E1 := Ex d .NoSuch y' z') (by kernel_rfl) (body2 d h y' z') (loop_nx (E1 := Ex d .NoSuch y' z') (by kernel_rfl) (body2 d h y' z') (by kernel_rfl)))) ?_
  refine seq_nx (E1 := Ex d .TooMany y' z') (for_of (ds := [.exc .TooMany true d, .exc .TooMany true d]) (E1 := Ex d .NoSuch y' z') (by kernel_rfl) (loop_nx (E1 := Ex d .TooMany y' z') (by kernel_rfl) (body3 d h y' z') (loop_nx (E1 := Ex d .TooMany y' z') (by kernel_rfl) (body3 d h y' z') (by kernel_rfl)))) ?_
  kernel_rfl
/-- the ends of a function's run -/
theorem mf_ret {n : Nat} {sf : SF} {ss : List Sl} {r : Sl} {E : VL.Env} (h : sf (ss ++ List.replicate (n - ss.length) .no) = .rt r E) (hr : r.ret = true) : mfOf n sf ss = .ok r (lentOf E) := by
  unfold mfOf
  rw [h]
  dsimp only
  rw [if_pos hr]
theorem right_ok (d : D) (h : Same d) : ∃ l, mf__law_right [.dat d] = .ok (.dat (.bl true)) l := by
  obtain ⟨x, y, z, e⟩ := run_right d h
  exact ⟨_, mf_ret e rfl⟩
/-! ### the draws -/
def mixed (cell k : Int) : Int := 0
theorem lit : True := trivial
end Lk99

namespace Lk99
open PySem PySem.Spec PyProof.Rows L2 VL

abbrev I (i : Int) : Sl := .dat (.int i)
theorem set_of {i : Nat} {f : EF} {E E1 E2 : VL.Env} {r : Sl} (h : f E = .ok (r, E1)) (h2 : E1.st i r = E2) : sSet i f E = .nx E2 := by
  unfold sSet
  rw [h]
  show FL.nx (E1.st i r) = _
  rw [h2]
theorem ret_of {f : EF} {E E1 : VL.Env} {r : Sl} (h : f E = .ok (r, E1)) : sRet f E = .rt r E1 := by
  unfold sRet
  rw [h]
  rfl
theorem efn_of {n : Nat} {mf : CF} {g : AF} {E E1 : VL.Env} {ss0 ss : List Sl} {r : Sl} {l : Option (List (Key × D))} (h : g E = .ok (ss0, E1)) (h2 : frAll ss0 = some ss) (h3 : ss.length + 0 = n) (h4 : mf ss = .ok r l) (h5 : r.ret = true) : eFn n [] mf g E = .ok (r, E1) := by
  unfold eFn
  rw [h]
  show (match frAll ss0 with
  | some ss => if ss.length + ([] : List D).length = n then roE E1 (match mf (ss ++ ([] : List D).map Sl.dat) with
    | .ok r l => if r.ret then .ok r l else .bad
    | o => o) else .bad
  | none => .bad) = _
  rw [h2]
  dsimp only
  rw [if_pos (by simpa using h3), List.map_nil, List.append_nil, h4]
  dsimp only
  rw [if_pos h5]
  rfl
theorem gAdd_i (a b : Int) : gAdd (I a) (I b) = some (I (a + b)) := by kernel_rfl
theorem gSub_i (a b : Int) : gSub (I a) (I b) = some (I (a - b)) := by kernel_rfl
theorem gMod_i {a b : Int} (h : 0 < b) : gMod (I a) (I b) = some (I (a % b)) := by
  show Option.map _ (if 0 < b then some (D.int (a % b)) else none) = _
  rw [if_pos h]
  rfl
theorem gDiv_i {a b : Int} (h : divFits b = true) : gDiv (I a) (I b) = some (I (a / b)) := by
  show Option.map _ (if divFits b = true then some (D.int (a / b)) else none) = _
  rw [if_pos h]
  rfl
theorem gMul_i {a b : Int} (h : mulFits a b = true) : gMulA (I a) (I b) = some (I (a * b)) := by
  have e : gMulI (I a) (I b) = some (I (a * b)) := by
    show Option.map _ (if mulFits a b = true then some (D.int (a * b)) else none) = _
    rw [if_pos h]
    rfl
  have e2 : gMul (I a) (I b) = some (I (a * b)) := by
    unfold gMul gOr
    rw [e]
  unfold gMulA gOr
  rw [e2]
theorem fits_l {i j : Int} (h1 : -18446744073709551616 < i) (h2 : i < 18446744073709551616) : mulFits i j = true := by
  unfold mulFits
  rw [decide_eq_true h1, decide_eq_true h2]
  rfl
theorem fits_r {i j : Int} (h1 : -18446744073709551616 < j) (h2 : j < 18446744073709551616) : mulFits i j = true := by
  unfold mulFits
  rw [decide_eq_true h1, decide_eq_true h2]
  simp
def idx : EF := eOp gIx (eLst (aCons (eC (.int 1000000007)) (aCons (eC (.int 998244353)) (aCons (eC (.int 2147483629)) (aCons (eC (.int 1000000009)) aNil))))) (eMod (eVar 1) (eC (.int 4)))
theorem idx_ok (c k : Int) (z : Sl) : ∃ m : Int, 0 < m ∧ m ≤ 2147483629 ∧ idx [I c, I k, z] = .ok (I m, [I c, I k, z]) := by
  have hm : ∀ i : Int, k % 4 = i → eMod (eVar 1) (eC (.int 4)) [I c, I k, z] = .ok (I i, [I c, I k, z]) := fun i hi =>
    op_of (x := I k) (y := I 4) (E1 := [I c, I k, z]) (by kernel_rfl) (by kernel_rfl) (by rw [gMod_i (by decide), hi])
  have hl : eLst (aCons (eC (.int 1000000007)) (aCons (eC (.int 998244353)) (aCons (eC (.int 2147483629)) (aCons (eC (.int 1000000009)) aNil)))) [I c, I k, z] = .ok (.ol [.int 1000000007, .int 998244353, .int 2147483629, .int 1000000009], [I c, I k, z]) := by kernel_rfl
  have h4 : k % 4 = 0 ∨ k % 4 = 1 ∨ k % 4 = 2 ∨ k % 4 = 3 := by omega
  rcases h4 with h | h | h | h
  · exact ⟨1000000007, by decide, by decide, op_of hl (hm 0 h) (by kernel_rfl)⟩
  · exact ⟨998244353, by decide, by decide, op_of hl (hm 1 h) (by kernel_rfl)⟩
  · exact ⟨2147483629, by decide, by decide, op_of hl (hm 2 h) (by kernel_rfl)⟩
  · exact ⟨1000000009, by decide, by decide, op_of hl (hm 3 h) (by kernel_rfl)⟩
theorem m_mixed_eq : m__law_mixed = sSeq (sSet 2 (eAdd (eAdd (eMod (eVar 0) idx) (eOp gMulA (eC (.int 7919)) (eVar 1))) (eC (.int 13)))) (sRet (eMod (eOp gMulA (eMod (eOp gMulA (eVar 2) (eVar 2)) (eC (.int 2147483647))) (eC (.int 48271))) (eC (.int 2147483647)))) := by kernel_rfl
theorem mixed_ok (c k : Int) (h0 : 0 ≤ k) (h1 : k ≤ 100000) : ∃ v : Int, 0 ≤ v ∧ ∃ l, mf__law_mixed [I c, I k] = .ok (I v) l := by
  obtain ⟨m, m0, m1, hm⟩ := idx_ok c k .no
  have hr : 0 ≤ c % m := Int.emod_nonneg _ (by omega)
  have hr2 : c % m < m := Int.emod_lt_of_pos _ m0
  refine ⟨_, Int.emod_nonneg (((c % m + 7919 * k + 13) * (c % m + 7919 * k + 13)) % 2147483647 * 48271) (by decide : (2147483647 : Int) ≠ 0), _, mf_ret (E := [I c, I k, I (c % m + 7919 * k + 13)]) ?_ rfl⟩
  show m__law_mixed [I c, I k, .no] = _
  rw [m_mixed_eq]
  refine seq_nx (E1 := [I c, I k, I (c % m + 7919 * k + 13)]) (set_of (op_of (op_of (op_of (x := I c) (E1 := [I c, I k, .no]) (by kernel_rfl) hm (gMod_i m0)) (op_of (x := I 7919) (y := I k) (E1 := [I c, I k, .no]) (E2 := [I c, I k, .no]) (by kernel_rfl) (by kernel_rfl) (gMul_i (fits_l (by decide) (by decide)))) (gAdd_i _ _)) (y := I 13) (E2 := [I c, I k, .no]) (by kernel_rfl) (gAdd_i _ _)) (by kernel_rfl)) ?_
  refine ret_of (op_of (op_of (op_of (op_of (x := I (c % m + 7919 * k + 13)) (y := I (c % m + 7919 * k + 13)) (E1 := [I c, I k, I (c % m + 7919 * k + 13)]) (E2 := [I c, I k, I (c % m + 7919 * k + 13)]) (by kernel_rfl) (by kernel_rfl) (gMul_i (fits_l (by omega) (by omega)))) (y := I 2147483647) (E2 := [I c, I k, I (c % m + 7919 * k + 13)]) (by kernel_rfl) (gMod_i (by decide))) (y := I 48271) (E2 := [I c, I k, I (c % m + 7919 * k + 13)]) (by kernel_rfl) (gMul_i (fits_r (by decide) (by decide)))) (y := I 2147483647) (by kernel_rfl) (gMod_i (by decide)))
end Lk99

namespace Lk99
open PySem PySem.Spec PyProof.Rows L2 VL

theorem dput_of {i : Nat} {fv fk : EF} {E E1 E2 E3 : VL.Env} {d kd : D} {t0 t : Option Nat} {k0 kvs : List (Key × D)} {key : Key} (h : fv E = .ok (.dat d, E1)) (h0 : E1.at i = some (.od t0 k0)) (hk : fk E1 = .ok (.dat kd, E2)) (hkey : kd.key? = some key) (h1 : E2.at i = some (.od t kvs)) (hl : kvs.length < SZ) (h3 : E2.st i (.od t (putD kvs key d)) = E3) : sDPutV i fv fk E = .nx E3 := by
  unfold sDPutV
  rw [h]
  show (match E1.at i with
    | some (.od _ _) => (fk E1).fl fun p => match p.1 with
      | .dat d' => match d'.key? with
        | some k => match p.2.at i with
          | some (.od t kvs) => if kvs.length < SZ then .nx (p.2.st i (.od t (putD kvs k d))) else .bad
          | _ => .bad
        | none => .bad
      | _ => .bad
    | _ => .bad) = _
  rw [h0]
  dsimp only
  rw [hk]
  show (match kd.key? with
        | some k => match E2.at i with
          | some (.od t kvs) => if kvs.length < SZ then FL.nx (E2.st i (.od t (putD kvs k d))) else .bad
          | _ => .bad
        | none => .bad) = _
  rw [hkey]
  dsimp only
  rw [h1]
  dsimp only
  rw [if_pos hl, h3]
abbrev kvs (l c t : Int) : List (Key × D) := [(.inr "left", .int l), (.inr "cell", .int c), (.inr "turns", .int t)]
abbrev Ed (tg : Option Nat) (l c t b : Int) (z j : Sl) : VL.Env := [.od tg (kvs l c t), I b, z, j]
theorem dturn (tg : Option Nat) (l c t b : Int) (z j : Sl) (hl : 0 ≤ l) (ht : 0 ≤ t) (ht2 : t < 100000) : ∃ l', 0 ≤ l' ∧ bd__law_digit_0 (Ed tg l c t b z j) = .nx (Ed tg l' c (t + 1) b z j) := by
  obtain ⟨v, hv, lo, hm⟩ := mixed_ok c (t + 1) (by omega) (by omega)
  refine ⟨l * 2147483647 + v, by omega, ?_⟩
  unfold bd__law_digit_0
  refine seq_nx (E1 := Ed tg l c (t + 1) b z j) (dput_of (d := .int (t + 1)) (kd := .str "turns") (key := .inr "turns") (E1 := Ed tg l c t b z j) (E2 := Ed tg l c t b z j) (t0 := tg) (t := tg) (k0 := kvs l c t) (kvs := kvs l c t) (by kernel_rfl) (by kernel_rfl) (by kernel_rfl) (by kernel_rfl) (by kernel_rfl) (by show 3 < 16777216; decide) (by kernel_rfl)) ?_
  refine dput_of (d := .int (l * 2147483647 + v)) (kd := .str "left") (key := .inr "left") (E1 := Ed tg l c (t + 1) b z j) (E2 := Ed tg l c (t + 1) b z j) (t0 := tg) (t := tg) (k0 := kvs l c (t + 1)) (kvs := kvs l c (t + 1)) ?_ (by kernel_rfl) (by kernel_rfl) (by kernel_rfl) (by kernel_rfl) (by show 3 < 16777216; decide) (by kernel_rfl)
  refine op_of (x := I (l * 2147483647)) (y := I v) (E1 := Ed tg l c (t + 1) b z j) (op_of (x := I l) (y := I 2147483647) (E1 := Ed tg l c (t + 1) b z j) (by kernel_rfl) (by kernel_rfl) (gMul_i (fits_r (by decide) (by decide)))) (efn_of (ss0 := [I c, I (t + 1)]) (ss := [I c, I (t + 1)]) (by kernel_rfl) (by kernel_rfl) rfl hm rfl) (gAdd_i _ _)
theorem dloop (tg : Option Nat) (c b : Int) (z : Sl) : ∀ (ds : List D) (l t : Int) (j : Sl), 0 ≤ l → 0 ≤ t → t + ds.length ≤ 100000 → ∃ l' t' j', 0 ≤ l' ∧ 0 ≤ t' ∧ t' = t + ds.length ∧ loopS (gNm 3) bd__law_digit_0 ds (Ed tg l c t b z j) = .nx (Ed tg l' c t' b z j')
  | [], l, t, j, hl, ht, hb => ⟨l, t, j, hl, ht, by simp, by unfold loopS; rfl⟩
  | d :: ds, l, t, j, hl, ht, hb => by
    have hb : t + (ds.length + 1 : Nat) ≤ 100000 := by simpa using hb
    obtain ⟨l1, hl1, e1⟩ := dturn tg l c t b z (.dat d) hl ht (by omega)
    obtain ⟨l', t', j', h1, h2, h3, e2⟩ := dloop tg c b z ds l1 (t + 1) (.dat d) hl1 (by omega) (by omega)
    exact ⟨l', t', j', h1, h2, by rw [h3, List.length_cons]; omega, loop_nx (E1 := Ed tg l c t b z (.dat d)) (by kernel_rfl) e1 e2⟩
end Lk99

namespace Lk99
open PySem PySem.Spec PyProof.Rows L2 VL

theorem gEq_i (a b : Int) : gEqA false (I a) (I b) = some (.dat (.bl (decide (a = b)))) := by kernel_rfl
theorem gGe_i (a b : Int) : gGe (I a) (I b) = some (.dat (.bl (decide (b ≤ a)))) := by kernel_rfl
abbrev E0 (l c t b : Int) : VL.Env := Ed (some 0) l c t b .no .no
theorem digit_ok (l c t b : Int) (hl : 0 ≤ l) (ht : 0 ≤ t) (ht2 : t ≤ 50000) (hb : 0 < b) (hf : divFits b = true) : ∃ l' t' r, 0 ≤ l' ∧ 0 ≤ t' ∧ t' ≤ t + 4 ∧ 0 ≤ r ∧ r < b ∧ mf__law_digit [.od (some 0) (kvs l c t), I b] = .ok (I r) (some (kvs l' c t')) := by
  -- behind the first part
  have first : ∃ l1 t1 j, 0 ≤ l1 ∧ 0 ≤ t1 ∧ t1 ≤ t + 4 ∧ sIf (tfV (eOp (gEqA false) (eDGet 0 (eC (.str "left"))) (eC (.int 0)))) (sFor (iRg1 (aCons (eC (.int 4)) aNil)) (gNm 3) bd__law_digit_0) sNx (E0 l c t b) = .nx (Ed (some 0) l1 c t1 b .no j) := by
    by_cases h : l = 0
    · obtain ⟨l1, t1, j1, h1, h2, h3, e⟩ := dloop (some 0) c b .no (rngD 0 1 4) l t .no hl ht (by rw [rngD_len]; omega)
      rw [rngD_len] at h3
      refine ⟨l1, t1, j1, h1, h2, by omega, if_yes (val_of (op_of (x := I l) (y := I 0) (E1 := E0 l c t b) (E2 := E0 l c t b) (by kernel_rfl) (by kernel_rfl) (by rw [gEq_i, decide_eq_true h]))) (for_of (ds := rngD 0 1 4) (E1 := E0 l c t b) (by kernel_rfl) e)⟩
    · exact ⟨l, t, .no, hl, ht, by omega, if_no (E1 := E0 l c t b) (val_of (op_of (x := I l) (y := I 0) (E1 := E0 l c t b) (E2 := E0 l c t b) (by kernel_rfl) (by kernel_rfl) (by rw [gEq_i, decide_eq_false h]))) (by kernel_rfl)⟩
  obtain ⟨l1, t1, j, h1, h2, h3, e⟩ := first
  refine ⟨l1 / b, t1, l1 % b, Int.ediv_nonneg h1 (by omega), h2, h3, Int.emod_nonneg _ (by omega), Int.emod_lt_of_pos _ hb, ?_⟩
  refine mf_ret (E := [.od (some 0) (kvs (l1 / b) c t1), I b, .no, j]) ?_ rfl
  show m__law_digit (E0 l c t b) = _
  unfold m__law_digit
  refine seq_nx e (seq_nx (E1 := Ed (some 0) l1 c t1 b (I (l1 % b)) j) (set_of (op_of (x := I l1) (y := I b) (E1 := Ed (some 0) l1 c t1 b .no j) (E2 := Ed (some 0) l1 c t1 b .no j) (by kernel_rfl) (by kernel_rfl) (gMod_i hb)) (by kernel_rfl)) (seq_nx (E1 := Ed (some 0) (l1 / b) c t1 b (I (l1 % b)) j) ?_ (ret_of (by kernel_rfl))))
  exact dput_of (d := .int (l1 / b)) (kd := .str "left") (key := .inr "left") (E1 := Ed (some 0) l1 c t1 b (I (l1 % b)) j) (E2 := Ed (some 0) l1 c t1 b (I (l1 % b)) j) (t0 := some 0) (t := some 0) (k0 := kvs l1 c t1) (kvs := kvs l1 c t1) (op_of (x := I l1) (y := I b) (E1 := Ed (some 0) l1 c t1 b (I (l1 % b)) j) (by kernel_rfl) (by kernel_rfl) (gDiv_i hf)) (by kernel_rfl) (by kernel_rfl) (by kernel_rfl) (by kernel_rfl) (by show 3 < 16777216; decide) (by kernel_rfl)
theorem acons_of {f : EF} {g : AF} {E E1 E2 : VL.Env} {r : Sl} {rs : List Sl} (h : f E = .ok (r, E1)) (h2 : g E1 = .ok (rs, E2)) : aCons f g E = .ok (r :: rs, E2) := by
  unfold aCons
  rw [h]
  show ((g E1).bind fun q => RR.ok (r :: q.1, q.2)) = _
  rw [h2]
  rfl
theorem disp_of {ks : List Key} {g : AF} {E E1 : VL.Env} {ss : List Sl} {ds : List D} {m : List (Key × D)} (h : g E = .ok (ss, E1)) (h2 : dAll ss = some ds) (h3 : ks.length ≤ 15) (h4 : mergeD [] (ks.zip ds) = m) : eDisp ks g E = .ok (.od none m, E1) := by
  unfold eDisp
  rw [h]
  show (match dAll ss with
    | some ds => if ks.length ≤ 15 then RR.ok (Sl.od none (mergeD [] (ks.zip ds)), E1) else .bad
    | none => .bad) = _
  rw [h2]
  dsimp only
  rw [if_pos h3, h4]
theorem eif_yes {t : TF} {f g : EF} {E E1 : VL.Env} {r : RR (Sl × VL.Env)} (h : t E = .ok (true, E1)) (h2 : f E1 = r) : eIf t f g E = r := by
  unfold eIf
  rw [h]
  exact h2
theorem eif_no {t : TF} {f g : EF} {E E1 : VL.Env} {r : RR (Sl × VL.Env)} (h : t E = .ok (false, E1)) (h2 : g E1 = r) : eIf t f g E = r := by
  unfold eIf
  rw [h]
  exact h2
theorem draw_ok (c k : Int) : ∃ l, 0 ≤ l ∧ ∃ q, mf__law_draw [I c, I k] = .ok (.od none (kvs l c (1000 * k))) q := by
  have key : ∃ l, 0 ≤ l ∧ eIf (tfV (eOp gGe (eVar 0) (ePow (eC (.int 10)) (eC (.int 18))))) (eVar 0) (eC (.int 0)) [I c, I k] = .ok (I l, [I c, I k]) := by
    by_cases h : (1000000000000000000 : Int) ≤ c
    · exact ⟨c, by omega, eif_yes (E1 := [I c, I k]) (val_of (op_of (x := I c) (y := I 1000000000000000000) (E1 := [I c, I k]) (by kernel_rfl) (by kernel_rfl) (by rw [gGe_i, decide_eq_true h]))) (by kernel_rfl)⟩
    · exact ⟨0, by omega, eif_no (E1 := [I c, I k]) (val_of (op_of (x := I c) (y := I 1000000000000000000) (E1 := [I c, I k]) (by kernel_rfl) (by kernel_rfl) (by rw [gGe_i, decide_eq_false h]))) (by kernel_rfl)⟩
  obtain ⟨l, hl, e⟩ := key
  refine ⟨l, hl, _, mf_ret (E := [I c, I k]) ?_ rfl⟩
  show m__law_draw [I c, I k] = _
  unfold m__law_draw
  refine ret_of (disp_of (ss := [I l, I c, I (1000 * k)]) (ds := [.int l, .int c, .int (1000 * k)]) (acons_of e (acons_of (E1 := [I c, I k]) (by kernel_rfl) (acons_of (op_of (x := I 1000) (y := I k) (E1 := [I c, I k]) (E2 := [I c, I k]) (by kernel_rfl) (by kernel_rfl) (gMul_i (fits_l (by decide) (by decide)))) (by kernel_rfl)))) (by kernel_rfl) (by decide) (by kernel_rfl))
theorem same_of (d : D) (h : d.fine = true) : Same d := by
  have r : eqD d d = true := SeqAt.eqv_refl _ (SeqAt.canLay_of_shaped (Bool.and_eq_true_iff.mp h).2)
  have g : gEq true (.dat d) (.dat d) = some (.dat (.bl false)) := by
    show (if (d.fine && d.fine) = true then some (Sl.dat (.bl (if true then !eqD d d else eqD d d))) else none) = _
    rw [h, r]
    rfl
  cases d with
  | int i => show some (Sl.dat (.bl (!decide (i = i)))) = _; rw [decide_eq_true rfl]; rfl
  | str i => show some (Sl.dat (.bl (!decide (i = i)))) = _; rw [decide_eq_true rfl]; rfl
  | _ => exact g
end Lk99

namespace Lk99
open PySem PySem.Spec PyProof.Rows L2 VL

theorem efnD_of {i n : Nat} {mf : CF} {g : AF} {E E1 E2 : VL.Env} {t : Option Nat} {kv kv' : List (Key × D)} {ss0 ss : List Sl} {r : Sl} (h0 : E.at i = some (.od t kv)) (h : g (E.st i .no) = .ok (ss0, E1)) (h2 : frAll ss0 = some ss) (h3 : ss.length + 0 + 1 = n) (h4 : mf (.od (some 0) kv :: ss) = .ok r (some kv')) (h5 : r.ret = true) (h6 : E1.st i (.od t kv') = E2) : eFnD i n [] mf g E = .ok (r, E2) := by
  unfold eFnD
  rw [h0]
  dsimp only
  rw [h]
  show (match frAll ss0 with
    | some ss => if ss.length + ([] : List D).length + 1 = n then roED i t E1 (mf (.od (some 0) kv :: (ss ++ ([] : List D).map Sl.dat))) else .bad
    | none => .bad) = _
  rw [h2]
  dsimp only
  rw [if_pos (by simpa using h3), List.map_nil, List.append_nil, h4]
  show (if r.ret = true then RR.ok (r, lentSt E1 i t (some kv')) else .bad) = _
  rw [if_pos h5]
  show RR.ok (r, E1.st i (.od t kv')) = _
  rw [h6]
theorem elst_of {g : AF} {E E1 : VL.Env} {ss : List Sl} {ds : List D} (h : g E = .ok (ss, E1)) (h2 : dAll ss = some ds) (h3 : ds.length ≤ SZ) : eLst g E = .ok (.ol ds, E1) := by
  unfold eLst
  rw [h]
  show ((RR.opt (dAll ss)).bind fun ds => if ds.length ≤ SZ then RR.ok (Sl.ol ds, E1) else .bad) = _
  rw [h2]
  show (if ds.length ≤ SZ then RR.ok (Sl.ol ds, E1) else .bad) = _
  rw [if_pos h3]
theorem not_of {f : TF} {E E1 : VL.Env} {b : Bool} (h : f E = .ok (b, E1)) : tfNot f E = .ok (!b, E1) := by
  unfold tfNot
  rw [h]
  rfl
theorem gMul_s (z : Str) (k : Int) (h : repFits z k = true) : gMulA (.dat (.str z)) (I k) = some (.dat (.str (Txt.mul z k))) := by
  have e : gMul (.dat (.str z)) (I k) = none := by kernel_rfl
  unfold gMulA gOr
  rw [e]
  show (if repFits z k = true then some (Sl.dat (.str (Txt.mul z k))) else none) = _
  rw [if_pos h]
theorem ab_fits (n : Int) : repFits "ab" (n % 50) = true := by
  have h1 : 0 ≤ n % 50 := Int.emod_nonneg _ (by decide)
  have h2 : n % 50 < 50 := Int.emod_lt_of_pos _ (by decide)
  unfold repFits
  rw [decide_eq_true (by omega), decide_eq_true (by omega)]
  kernel_rfl
/-- the drawn things -/
abbrev things (n : Int) : List D := [.int n, .int (0 - n), .str (Txt.mul "ab" (n % 50)), .tup [.str "atom", .tup [.int 0, .int n]], .non, .tup [.int (10 ^ 30), .tup []], .tup [.int n, .int n, .int n, .int n, .int n, .int n, .int n, .int n, .int n]]
theorem things_same (n : Int) (d : D) (h : d ∈ things n) : Same d := by
  simp only [things, List.mem_cons, List.not_mem_nil, or_false] at h
  rcases h with rfl | rfl | rfl | rfl | rfl | rfl | rfl
  · show some (Sl.dat (.bl (!decide (n = n)))) = _; rw [decide_eq_true rfl]; rfl
  · show some (Sl.dat (.bl (!decide (0 - n = 0 - n)))) = _; rw [decide_eq_true rfl]; rfl
  · show some (Sl.dat (.bl (!decide (Txt.mul "ab" (n % 50) = Txt.mul "ab" (n % 50))))) = _; rw [decide_eq_true rfl]; rfl
  · exact same_of _ (by kernel_rfl)
  · exact same_of _ (by kernel_rfl)
  · exact same_of _ (by kernel_rfl)
  · exact same_of _ (by kernel_rfl)
abbrev El (ns : List Int) (s1 k c s7 s8 : Sl) : VL.Env := [.lk (ns.map D.int), s1, .no, .no, .no, k, c, s7, s8, .no, .no, .no, .no, .no]
def eThings : EF := (eLst (aCons (eVar 8) (aCons (eSub (eC (.int 0)) (eVar 8)) (aCons (eOp gMulA (eC (.str "ab")) (eMod (eVar 8) (eC (.int 50)))) (aCons (eTup (aCons (eC (.str "atom")) (aCons (eTup (aCons (eC (.int 0)) (aCons (eVar 8) aNil))) aNil))) (aCons (eC .non) (aCons (eTup (aCons (ePow (eC (.int 10)) (eC (.int 30))) (aCons (eTup aNil) aNil))) (aCons (eOp gMulA (eTup (aCons (eVar 8) aNil)) (eC (.int 9))) aNil))))))))
theorem things_ok (ns : List Int) (s1 k c s7 : Sl) (n : Int) : eThings (El ns s1 k c s7 (I n)) = .ok (.ol (things n), El ns s1 k c s7 (I n)) := by
  refine elst_of (ss := [I n, I (0 - n), .dat (.str (Txt.mul "ab" (n % 50))), .dat (.tup [.str "atom", .tup [.int 0, .int n]]), .dat .non, .dat (.tup [.int (10 ^ 30), .tup []]), .dat (.tup [.int n, .int n, .int n, .int n, .int n, .int n, .int n, .int n, .int n])])
    (acons_of (E1 := El ns s1 k c s7 (I n)) (by kernel_rfl) (acons_of (E1 := El ns s1 k c s7 (I n)) (by kernel_rfl) (acons_of (op_of (x := .dat (.str "ab")) (y := I (n % 50)) (E1 := El ns s1 k c s7 (I n)) (E2 := El ns s1 k c s7 (I n)) (by kernel_rfl) (by kernel_rfl) (gMul_s _ _ (ab_fits n))) (by kernel_rfl)))) (by kernel_rfl) (by show 7 ≤ 16777216; decide)
def t1 : TF := tfNot (tfV (eFn 1 [] mf__law_right (aCons (eOp gIx (eVar 1) (eFnD 7 2 [] mf__law_digit (aCons (eC (.int 7)) aNil))) aNil)))
def t2 : TF := tfNot (tfV (eFn 1 [] mf__law_right (aCons (ePow (ePow (ePow (eC (.int 10)) (eC (.int 50))) (eC (.int 50))) (eC (.int 2))) aNil)))
theorem bdl : bd_law_0 = sSeq (sSet 7 (eFn 2 [] mf__law_draw (aCons (eVar 6) (aCons (eVar 5) aNil)))) (sSeq (sSet 8 (eFnD 7 2 [] mf__law_digit (aCons (eC (.int 100000)) aNil))) (sSeq (sSet 1 eThings) (sIf (tfOr t1 t2) (sRet (eC (.bl false))) sNx))) := by kernel_rfl
theorem same_int (i : Int) : Same (.int i) := by
  show some (Sl.dat (.bl (!decide (i = i)))) = _
  rw [decide_eq_true rfl]
  rfl
theorem ix_things (n r : Int) (h0 : 0 ≤ r) (h7 : r < 7) : ∃ d, d ∈ things n ∧ gIx (.dat (.lst (things n))) (I r) = some (.dat d) := by
  have h : r = 0 ∨ r = 1 ∨ r = 2 ∨ r = 3 ∨ r = 4 ∨ r = 5 ∨ r = 6 := by omega
  rcases h with rfl | rfl | rfl | rfl | rfl | rfl | rfl
  · exact ⟨_, .head _, by kernel_rfl⟩
  · exact ⟨_, .tail _ (.head _), by kernel_rfl⟩
  · exact ⟨_, .tail _ (.tail _ (.head _)), by kernel_rfl⟩
  · exact ⟨_, .tail _ (.tail _ (.tail _ (.head _))), by kernel_rfl⟩
  · exact ⟨_, .tail _ (.tail _ (.tail _ (.tail _ (.head _)))), by kernel_rfl⟩
  · exact ⟨_, .tail _ (.tail _ (.tail _ (.tail _ (.tail _ (.head _))))), by kernel_rfl⟩
  · exact ⟨_, .tail _ (.tail _ (.tail _ (.tail _ (.tail _ (.tail _ (.head _)))))), by kernel_rfl⟩
theorem pow_ok (E : VL.Env) : ∃ P, ePow (ePow (ePow (eC (.int 10)) (eC (.int 50))) (eC (.int 50))) (eC (.int 2)) E = .ok (I P, E) := ⟨((10 ^ 50) ^ 50) ^ 2, by kernel_rfl⟩
theorem body_ok (ns : List Int) (s1 s7 s8 : Sl) (k c : Int) (hk : 0 ≤ k) (hk2 : k ≤ 40) : ∃ s1' s7' s8', bd_law_0 (El ns s1 (I k) (I c) s7 s8) = .nx (El ns s1' (I k) (I c) s7' s8') := by
  obtain ⟨l0, hl0, q, e1⟩ := draw_ok c k
  obtain ⟨l1, t1', n, hl1, ht1, ht1b, hn, _, e2⟩ := digit_ok l0 c (1000 * k) 100000 hl0 (by omega) (by omega) (by decide) (by decide)
  obtain ⟨l2, t2', r, hl2, ht2, ht2b, hr, hr7, e3⟩ := digit_ok l1 c t1' 7 hl1 ht1 (by omega) (by decide) (by decide)
  obtain ⟨d, hd, e4⟩ := ix_things n r hr hr7
  obtain ⟨la, e5⟩ := right_ok d (things_same n d hd)
  obtain ⟨P, e6⟩ := pow_ok (El ns (.dat (.lst (things n))) (I k) (I c) (.od none (kvs l2 c t2')) (I n))
  obtain ⟨lb, e7⟩ := right_ok (.int P) (same_int P)
  refine ⟨.dat (.lst (things n)), .od none (kvs l2 c t2'), I n, ?_⟩
  rw [bdl]
  refine seq_nx (E1 := El ns s1 (I k) (I c) (.od none (kvs l0 c (1000 * k))) s8) (set_of (efn_of (ss0 := [I c, I k]) (ss := [I c, I k]) (E1 := El ns s1 (I k) (I c) s7 s8) (by kernel_rfl) (by kernel_rfl) rfl e1 rfl) (by kernel_rfl)) ?_
  refine seq_nx (E1 := El ns s1 (I k) (I c) (.od none (kvs l1 c t1')) (I n)) (set_of (E1 := El ns s1 (I k) (I c) (.od none (kvs l1 c t1')) s8) (efnD_of (t := none) (kv := kvs l0 c (1000 * k)) (ss0 := [I 100000]) (ss := [I 100000]) (E1 := El ns s1 (I k) (I c) .no s8) (by kernel_rfl) (by kernel_rfl) (by kernel_rfl) rfl e2 rfl (by kernel_rfl)) (by kernel_rfl)) ?_
  refine seq_nx (E1 := El ns (.ol (things n)) (I k) (I c) (.od none (kvs l1 c t1')) (I n)) (set_of (things_ok ns s1 (I k) (I c) (.od none (kvs l1 c t1')) n) (by kernel_rfl)) ?_
  refine if_no (E1 := El ns (.dat (.lst (things n))) (I k) (I c) (.od none (kvs l2 c t2')) (I n)) (or_no (E1 := El ns (.dat (.lst (things n))) (I k) (I c) (.od none (kvs l2 c t2')) (I n)) ?_ ?_) (by kernel_rfl)
  · exact not_of (b := true) (val_of (efn_of (ss0 := [.dat d]) (ss := [.dat d]) (acons_of (E1 := El ns (.dat (.lst (things n))) (I k) (I c) (.od none (kvs l2 c t2')) (I n)) (op_of (x := .dat (.lst (things n))) (y := I r) (E1 := El ns (.dat (.lst (things n))) (I k) (I c) (.od none (kvs l1 c t1')) (I n)) (by kernel_rfl)
      (efnD_of (t := none) (kv := kvs l1 c t1') (ss0 := [I 7]) (ss := [I 7]) (E1 := El ns (.dat (.lst (things n))) (I k) (I c) .no (I n)) (by kernel_rfl) (by kernel_rfl) (by kernel_rfl) rfl e3 rfl (by kernel_rfl)) e4) (by kernel_rfl)) (by kernel_rfl) rfl e5 rfl))
  · exact not_of (b := true) (val_of (efn_of (ss0 := [I P]) (ss := [I P]) (acons_of e6 (by kernel_rfl)) (by kernel_rfl) rfl e7 rfl))
abbrev gkc : GF := gTp 2 (gsCons (gNm 5) (gsCons (gNm 6) gsNil))
theorem law_loop (ns : List Int) : ∀ (cs : List Int) (j : Nat) (s1 s5 s6 s7 s8 : Sl), j + cs.length ≤ 40 → ∃ s1' s5' s6' s7' s8', loopS gkc bd_law_0 (enumD j (cs.map D.int)) (El ns s1 s5 s6 s7 s8) = .nx (El ns s1' s5' s6' s7' s8')
  | [], j, s1, s5, s6, s7, s8, _ => ⟨s1, s5, s6, s7, s8, by unfold List.map enumD loopS; rfl⟩
  | c :: cs, j, s1, s5, s6, s7, s8, h => by
    have h : j + (cs.length + 1) ≤ 40 := h
    obtain ⟨a1, a7, a8, e⟩ := body_ok ns s1 s7 s8 (j : Nat) c (by omega) (by omega)
    obtain ⟨b1, b5, b6, b7, b8, e2⟩ := law_loop ns cs (j + 1) a1 (I (j : Nat)) (I c) a7 a8 (by omega)
    exact ⟨b1, b5, b6, b7, b8, loop_nx (E1 := El ns s1 (I (j : Nat)) (I c) s7 s8) (by kernel_rfl) e e2⟩
end Lk99

namespace Lk99
open PySem PySem.Spec PyProof.Rows L2 VL

def rtTrue : FL → Bool
  | .rt (.dat (.bl b)) _ => b
  | _ => false
theorem rt_true : ∀ {x : FL}, rtTrue x = true → ∃ E, x = .rt (.dat (.bl true)) E
  | .rt (.dat (.bl true)) E, _ => ⟨E, rfl⟩
  | .rt (.dat (.bl false)) E, h => by cases h
  | .rt (.dat .non) _, h => by cases h
  | .rt (.dat (.int _)) _, h => by cases h
  | .rt (.dat (.str _)) _, h => by cases h
  | .rt (.dat (.tup _)) _, h => by cases h
  | .rt (.dat (.lst _)) _, h => by cases h
  | .rt (.dat (.exc _ _ _)) _, h => by cases h
  | .rt .no _, h => by cases h
  | .rt (.ol _) _, h => by cases h
  | .rt (.od _ _) _, h => by cases h
  | .rt (.lk _) _, h => by cases h
  | .nx _, h => by cases h
  | .bk _, h => by cases h
  | .ct _, h => by cases h
  | .exc _ _, h => by cases h
  | .bad, h => by cases h
theorem seq_rt {f g : SF} {E E1 : VL.Env} (h : f E = .nx E1) (h2 : rtTrue (g E1) = true) : ∃ E', sSeq f g E = .rt (.dat (.bl true)) E' := by
  obtain ⟨E', e⟩ := rt_true h2
  exact ⟨E', seq_nx h e⟩
theorem ints_map : ∀ ns : List Int, ints? (ns.map D.int) = some ns
  | [] => rfl
  | n :: ns => by
    show (ints? (ns.map D.int)).map (n :: ·) = _
    rw [ints_map ns]
    rfl
theorem ecall_of {g : List Sl → Option Sl} {fa : AF} {E E1 : VL.Env} {ss : List Sl} {s : Sl} (h : fa E = .ok (ss, E1)) (h2 : g ss = some s) : eCall g fa E = .ok (s, E1) := by
  unfold eCall
  rw [h]
  show ((RR.opt (g ss)).bind fun s => RR.ok (s, E1)) = _
  rw [h2]
  rfl
theorem ien_of {g : AF} {E E1 : VL.Env} {s : Sl} {ds : List D} (h : g E = .ok ([s], E1)) (h2 : s.ls? = some ds) : iEn g E = .ok (enumD 0 ds, E1) := by
  unfold iEn
  rw [h]
  show (match s.ls? with
    | some ds => RR.ok (enumD 0 ds, E1)
    | none => .bad) = _
  rw [h2]
theorem cut4 (ds : List D) : (VL.cutD ds none (some 4)).length ≤ 4 := by
  unfold VL.cutD
  rw [List.length_take]
  have e : HT.sIx ds.length ds.length (some 4) ≤ 4 := by
    show (if (4 : Int) < 0 then ((4 : Int) + (ds.length : Int)).toNat else min (4 : Int).toNat ds.length) ≤ 4
    rw [if_neg (by decide)]
    exact Nat.min_le_left _ _
  omega
theorem cut_map (ns : List Int) : ∃ cs : List Int, VL.cutD (ns.map D.int) none (some 4) = cs.map D.int := by
  unfold VL.cutD
  exact ⟨_, by rw [← List.map_drop, ← List.map_take]⟩
theorem gAdd_l (x y : List D) (h : x.length + y.length ≤ SZ) : gAdd (.ol x) (.ol y) = some (.ol (x ++ y)) := by
  have e : gAddL (.ol x) (.ol y) = some (.ol (x ++ y)) := by
    show (if x.length + y.length ≤ SZ then some (Sl.ol (x ++ y)) else none) = _
    rw [if_pos h]
  have e0 : gI (fun i j => some (.int (i + j))) (.ol x) (.ol y) = none := by kernel_rfl
  unfold gAdd gOr
  rw [e0]
  dsimp only
  rw [e]
theorem law_ok (ns : List Int) : Yes mf_law ns := by
  obtain ⟨cs, hcs⟩ := cut_map ns
  have hl := cut4 (ns.map D.int)
  rw [hcs, List.length_map] at hl
  obtain ⟨s1, s5, s6, s7, s8, e⟩ := law_loop ns (cs ++ [ns.sum]) 0 .no .no .no .no .no (by simp; omega)
  have hitems : iEn (aCons (eAdd (eCut (eVar 0) oNone (oSome (eC (.int 4)))) (eLst (aCons (eCall (g1 gSum) (aCons (eVar 0) aNil)) aNil))) aNil) (El ns .no .no .no .no .no) = .ok (enumD 0 ((cs ++ [ns.sum]).map D.int), El ns .no .no .no .no .no) := by
    have ha : eCut (eVar 0) oNone (oSome (eC (.int 4))) (El ns .no .no .no .no .no) = .ok (.ol (cs.map D.int), El ns .no .no .no .no .no) := by
      rw [← hcs]
      kernel_rfl
    have hs : g1 gSum [.lk (ns.map D.int)] = some (I ns.sum) := by
      show ((some (ns.map D.int)).bind ints?).map (fun ns => Sl.dat (.int ns.sum)) = _
      rw [Option.bind_some, ints_map]
      rfl
    have hb : eLst (aCons (eCall (g1 gSum) (aCons (eVar 0) aNil)) aNil) (El ns .no .no .no .no .no) = .ok (.ol [.int ns.sum], El ns .no .no .no .no .no) :=
      elst_of (ss := [I ns.sum]) (acons_of (E1 := El ns .no .no .no .no .no) (ecall_of (ss := [.lk (ns.map D.int)]) (by kernel_rfl) hs) (by kernel_rfl)) (by kernel_rfl) (by show 1 ≤ 16777216; decide)
    have hadd : eAdd (eCut (eVar 0) oNone (oSome (eC (.int 4)))) (eLst (aCons (eCall (g1 gSum) (aCons (eVar 0) aNil)) aNil)) (El ns .no .no .no .no .no) = .ok (.ol ((cs ++ [ns.sum]).map D.int), El ns .no .no .no .no .no) := by
      rw [List.map_append]
      exact op_of ha hb (gAdd_l _ _ (by rw [List.length_map]; show _ + 1 ≤ 16777216; omega))
    exact ien_of (acons_of (E1 := El ns .no .no .no .no .no) hadd (by kernel_rfl)) rfl
  have run : ∃ E, m_law (El ns .no .no .no .no .no) = .rt (.dat (.bl true)) E := by
    unfold m_law
    exact seq_rt (for_of hitems e) (by kernel_rfl)
  obtain ⟨E, e2⟩ := run
  exact ⟨_, mf_ret e2 rfl⟩
end Lk99

open PySem PySem.W PySem.Calls PyProof.Rows
theorem PySem.Challenge.cw_runsbelieved_k99_errors_by_hand_holds : PySem.Challenge.rw_runsbelieved_k99_errors_by_hand.Holds := by
  w_on; o_law
  refine HandSHeadRun.head_any (r := OpenLaw.row PySem.Challenge.rw_runsbelieved_k99_errors_by_hand) (q := view (OpenLaw.row PySem.Challenge.rw_runsbelieved_k99_errors_by_hand).prog [36]) (H := Lk99.hk) (ob := Lk99.ob) (M := 40000) (loose := Lk99.loose) (d := HandSHeadRun.topDef (OpenLaw.row PySem.Challenge.rw_runsbelieved_k99_errors_by_hand).prog 36) (kwd := []) Lk99.ob_eq
    (by kernel_rfl) (fun s => by kernel_rfl) Lk99.run (by kernel_rfl) (by kernel_rfl) (by kernel_rfl) (by rfl) (by first | assumption | decide +kernel) (by decide +kernel) ⟨rfl, rfl, rfl, rfl, rfl, by decide +kernel⟩ ?hw ?hc
  case hw => w_witness2
  case hc =>
    refine VL.walk_end (l := PySem.Challenge.rw_runsbelieved_k99_errors_by_hand) (n := 63) (k := 5) (x := "script") (mf := Lk99.mf_law) rfl (by decide) (by kernel_rfl) ⟨rfl, by decide, by decide⟩ ?F (fun ns _ => Lk99.law_ok ns)
    intro w mg fa h Y G hmg0
    obtain ⟨K, KX, c⟩ := Y
    have hmg : mg ("law" : PySem.Str) = some (.ref fa) := by
      have e : (HandSHeadRun.topDef (OpenLaw.row PySem.Challenge.rw_runsbelieved_k99_errors_by_hand).prog 36).name = ("law" : PySem.Str) := by kernel_rfl
      rw [← e]
      exact hmg0
    have fx : Lk99.Fx w K mg := ⟨c.t.d, c.more, fun x hx => He.glo_ok KX G hx, fun x hx => He.free_ok KX G hx⟩
    obtain ⟨fd, F⟩ := c.t.d.def_ 33 (d := Lk99.d_law) rfl
    have e := hmg.symm.trans (fx.glo (i := 7) (x := "law") rfl)
    cases e
    have b := L2.FunD.bindsA (ps := ["script"]) F fun _ _ _ _ _ _ us hl => match us, hl with | [_], _ => rfl
    exact ⟨K, fd, KX, fun s v => b s [v] rfl, fun base _ _ => VL.fnG_of F Lk99.sc_law (fun cdv A outer s H E hr kx => Lk99.body_law fx hr kx)⟩

