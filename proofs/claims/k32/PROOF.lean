import PyProof.Rows.All
import Wide.All
import OpenK.AllK
import Wide.FinOn
import HandS.ForMost
import HandS.Deep
import HandS.Wide
import HandS.Style
import HandS.TupAny
import HandS.TupMul
import HandS.Small
import HandS.IsInst
import HandS.SortInts
import HandS.Conv
import HandS.MapJoin
import HandS.SetFor
import KE.SortData
import KE.KDictItemsList
import KE.KDictSum
import KE.KDictExact
import HandS.SetKeys
import HandS.WideBits
import HandS.EndBits
import PyProof.StrBlock2
import KE.DatumOrd
import HandS.Text
import HandS.Iter
import KE.GoesEnum
import KE.GoesZip
import KE.DataAny
import PyProof.Rows.StrCountLaw
import PyProof.Rows.StrCase
import PyProof.Ascii
import PySem.Challenge.RW_whowaswhere_k32_whole_notes_cut_freely
set_option Elab.async false
set_option linter.all false
set_option maxRecDepth 100000
set_option maxHeartbeats 4000000
namespace PV
open PySem L2

/-- plain data -/
inductive D where
  | non | bl (b : Bool) | int (i : Int) | str (x : Str)
  | tup (xs : List D) | lst (xs : List D) | dic (kvs : List (D × D)) | st (xs : List D)

/-- a text that the model can hold -/
def SOk (x : Str) : Prop := x.length ≤ sizeLine ∧ x.cps.all (· < 0x110000) = true

/-- a key of a dict as the hand layer has it -/
def kD : Key → D
  | .inl i => .int i
  | .inr x => .str x

mutual
/-- the value v stands for d, by what F knows -/
inductive Rp (K : PySem.W.Frag) (F : Hp) : V → D → Prop
  | non : Rp K F .non .non
  | bl (b : Bool) : Rp K F (.bl b) (.bl b)
  | int (i : Int) : Rp K F (.int i) (.int i)
  | str (x : Str) : SOk x → Rp K F (.str x) (.str x)
  | lst {a : Addr} {xs : List V} {ds : List D} : F a = some (.lst xs) → RpA K F xs ds → ds.length ≤ sizeLine → Rp K F (.ref a) (.lst ds)
  | tup {a : Addr} {xs : List V} {ds : List D} : SqT K F a xs → RpA K F xs ds → ds.length ≤ sizeLine → Rp K F (.ref a) (.tup ds)
  | dic {a : Addr} {o : Obj} {kvs : List (Key × V)} {ds : List (D × D)} : F a = some (.frz o (.dK kvs)) → RpK K F kvs ds → Rp K F (.ref a) (.dic ds)
inductive RpA (K : PySem.W.Frag) (F : Hp) : List V → List D → Prop
  | nil : RpA K F [] []
  | cons {v : V} {vs : List V} {d : D} {ds : List D} : Rp K F v d → RpA K F vs ds → RpA K F (v :: vs) (d :: ds)
inductive RpK (K : PySem.W.Frag) (F : Hp) : List (Key × V) → List (D × D) → Prop
  | nil : RpK K F [] []
  | cons {k : Key} {v : V} {d : D} {kvs : List (Key × V)} {ds : List (D × D)} : Rp K F v d → (∀ x, k = .inr x → SOk x) → RpK K F kvs ds → RpK K F ((k, v) :: kvs) ((kD k, d) :: ds)
end

/-- all that H knows H' knows -/
def Ex (H H' : Hp) : Prop := ∀ a o, H a = some o → H' a = some o
theorem Ex.refl (H : Hp) : Ex H H := fun _ _ h => h
theorem Ex.trans {H H1 H2 : Hp} (a : Ex H H1) (b : Ex H1 H2) : Ex H H2 := fun x o h => b x o (a x o h)
theorem Ex.new {H : Hp} {p : Addr} {o : HO} (h : H p = none) : Ex H (upd H p o) := fun a u e => by
  rw [upd_ne (ne_of_none e h)]
  exact e
theorem ex_l {K : PySem.W.Frag} {H H' : Hp} {a : Addr} {xs : List V} (e : Ex H H') (h : SqL K H a xs) : SqL K H' a xs := by
  rcases h with (h | ⟨o, h⟩) | h
  · exact Or.inl (.inl (e a _ h))
  · exact Or.inl (.inr ⟨o, e a _ h⟩)
  · exact Or.inr h
theorem ex_t {K : PySem.W.Frag} {H H' : Hp} {a : Addr} {xs : List V} (e : Ex H H') (h : SqT K H a xs) : SqT K H' a xs := by
  rcases h with (h | ⟨o, h⟩) | h
  · exact Or.inl (.inl (e a _ h))
  · exact Or.inl (.inr ⟨o, e a _ h⟩)
  · exact Or.inr h

section
variable {K : PySem.W.Frag} {F F' : Hp}
mutual
theorem Rp.mono (e : Ex F F') : ∀ {v : V} {d : D}, Rp K F v d → Rp K F' v d
  | _, _, .non => .non
  | _, _, .bl b => .bl b
  | _, _, .int i => .int i
  | _, _, .str x h => .str x h
  | _, _, .lst h r l => .lst (e _ _ h) (RpA.mono e r) l
  | _, _, .tup h r l => .tup (ex_t e h) (RpA.mono e r) l
  | _, _, .dic h r => .dic (e _ _ h) (RpK.mono e r)
theorem RpA.mono (e : Ex F F') : ∀ {v : List V} {d : List D}, RpA K F v d → RpA K F' v d
  | _, _, .nil => .nil
  | _, _, .cons h r => .cons (Rp.mono e h) (RpA.mono e r)
theorem RpK.mono (e : Ex F F') : ∀ {v : List (Key × V)} {d : List (D × D)}, RpK K F v d → RpK K F' v d
  | _, _, .nil => .nil
  | _, _, .cons h s r => .cons (Rp.mono e h) s (RpK.mono e r)
end
theorem RpA.length : ∀ {v : List V} {d : List D}, RpA K F v d → v.length = d.length
  | _, _, .nil => rfl
  | _, _, .cons h r => congrArg (· + 1) (RpA.length r)
theorem RpA.get : ∀ {v : List V} {d : List D} {i : Nat} {x : D}, RpA K F v d → d[i]? = some x → ∃ u, v[i]? = some u ∧ Rp K F u x
  | _, _, _, _, .nil, e => by simp at e
  | _, _, 0, _, .cons h r, e => by simp at e; subst e; exact ⟨_, rfl, h⟩
  | _, _, i + 1, x, .cons h r, e => by
    obtain ⟨u, h1, h2⟩ := RpA.get (i := i) (x := x) r (by simpa using e)
    exact ⟨u, by simpa using h1, h2⟩
theorem RpA.append : ∀ {v w : List V} {d e : List D}, RpA K F v d → RpA K F w e → RpA K F (v ++ w) (d ++ e)
  | _, _, _, _, .nil, s => s
  | _, _, _, _, .cons h r, s => .cons h (RpA.append r s)
theorem RpA.take : ∀ {v : List V} {d : List D} (n : Nat), RpA K F v d → RpA K F (v.take n) (d.take n)
  | _, _, 0, _ => .nil
  | _, _, _ + 1, .nil => .nil
  | _, _, n + 1, .cons h r => .cons h (RpA.take n r)
theorem RpA.drop : ∀ {v : List V} {d : List D} (n : Nat), RpA K F v d → RpA K F (v.drop n) (d.drop n)
  | _, _, 0, r => r
  | _, _, _ + 1, .nil => .nil
  | _, _, n + 1, .cons h r => RpA.drop n r
theorem RpA.set {x : V} {y : D} (q : Rp K F x y) : ∀ {v : List V} {d : List D} (n : Nat), RpA K F v d → RpA K F (v.set n x) (d.set n y)
  | _, _, _, .nil => .nil
  | _, _, 0, .cons h r => .cons q r
  | _, _, n + 1, .cons h r => .cons h (RpA.set q n r)
theorem RpA.eraseIdx : ∀ {v : List V} {d : List D} (n : Nat), RpA K F v d → RpA K F (v.eraseIdx n) (d.eraseIdx n)
  | _, _, _, .nil => .nil
  | _, _, 0, .cons h r => r
  | _, _, n + 1, .cons h r => .cons h (RpA.eraseIdx n r)
theorem RpA.dropLast : ∀ {v : List V} {d : List D}, RpA K F v d → RpA K F v.dropLast d.dropLast := fun {v d} r => by
  rw [List.dropLast_eq_take, List.dropLast_eq_take, r.length]; exact r.take _
theorem RpA.reverse : ∀ {v : List V} {d : List D}, RpA K F v d → RpA K F v.reverse d.reverse
  | _, _, .nil => .nil
  | _, _, .cons h r => by rw [List.reverse_cons, List.reverse_cons]; exact (RpA.reverse r).append (.cons h .nil)
theorem RpA.ints : ∀ (ns : List Int), RpA K F (ns.map V.int) (ns.map D.int)
  | [] => .nil
  | n :: ns => .cons (.int n) (RpA.ints ns)
theorem RpA.replicate {v : List V} {d : List D} (h : RpA K F v d) : ∀ n, RpA K F (List.replicate n v).flatten (List.replicate n d).flatten
  | 0 => .nil
  | n + 1 => by rw [List.replicate_succ, List.replicate_succ, List.flatten_cons, List.flatten_cons]; exact h.append (RpA.replicate h n)
end

/-! ### slots, the state of a frame -/
/-- a slot: nothing (or not known), a value, a container of one's own (lk: it is walked just now), one that a caller lent, the box -/
inductive Sl where
  | no | v (d : D) | o (lk : Bool) (d : D) | b (d : D) | bx
/-- the box: the cells, the rest -/
abbrev Bx := List Int × List Int
structure En where
  sl : List Sl
  bx : Bx
/-- what an expression gives: a value, or a fresh container -/
inductive R where
  | v (d : D) | f (d : D)
/-- an operand: a value, or the container of a slot -/
inductive P where
  | v (d : D) | s (i : Nat)

/-- the container at p -/
def Ct (K : PySem.W.Frag) (F H : Hp) (p : Addr) : D → Prop
  | .lst ds => ∃ vs, H p = some (.lst vs) ∧ RpA K F vs ds ∧ ds.length ≤ sizeLine
  | .dic ds => ∃ kvs, Rd H p (.dK kvs) ∧ RpK K F kvs ds
  | _ => False
/-- it may be written -/
def Wr (H : Hp) (p : Addr) : Prop := ∀ od u, H p ≠ some (.frz od u)
theorem Ct.ex {K : PySem.W.Frag} {F H : Hp} {p : Addr} {d : D} (h : Ct K F H p d) : ∃ o, H p = some o := by
  cases d with
  | lst ds => obtain ⟨vs, e, _⟩ := h; exact ⟨_, e⟩
  | dic ds =>
    obtain ⟨vs, e | ⟨o, e⟩, _⟩ := h
    · exact ⟨_, e⟩
    · exact ⟨_, e⟩
  | _ => exact False.elim h
theorem Ct.mono {K : PySem.W.Frag} {F F' H H' : Hp} {p : Addr} {d : D} (h : Ct K F H p d) (e : Ex F F') (q : H' p = H p) : Ct K F' H' p d := by
  cases d with
  | lst ds => obtain ⟨vs, e1, r, l⟩ := h; exact ⟨vs, q.trans e1, r.mono e, l⟩
  | dic ds =>
    obtain ⟨vs, e1, r⟩ := h
    refine ⟨vs, ?_, r.mono e⟩
    rcases e1 with e1 | ⟨o, e1⟩
    · exact .inl (q.trans e1)
    · exact .inr ⟨o, q.trans e1⟩
  | _ => exact False.elim h
/-- from now on never changed -/
theorem Ct.freeze {K : PySem.W.Frag} {F H : Hp} {p : Addr} {ds : List D} {o : HO} (h : Ct K F H p (.lst ds)) (q : H p = some o) (n : F p = none) : Rp K (upd F p o) (.ref p) (.lst ds) := by
  obtain ⟨vs, e1, r, l⟩ := h
  rw [q] at e1; cases e1
  exact .lst upd_same (r.mono (Ex.new n)) l

/-- the addresses of the box -/
abbrev Ob := Option (Addr × Addr)
/-- what is fixed in a frame: F0, H0 at its entry, the box, what is locked (a dict that is walked), what is held (a container at hand), the lists of one's own that are walked (by slot), the places -/
structure FP where
  F0 : Hp
  H0 : Hp
  ob : Ob
  lk : List (Addr × Obj × HO)
  hs : List (Addr × D)
  ls : List (Nat × Addr × D)
  σ : L2.St
def NB (W : FP) (a : Addr) : Prop := ∀ q, W.ob = some q → a ≠ q.1 ∧ a ≠ q.2
def BxOk (F H : Hp) (q : Addr × Addr) (b : Bx) : Prop :=
  q.1 ≠ q.2 ∧ F q.1 = none ∧ F q.2 = none ∧ H q.1 = some (.lst (.ref q.2 :: b.2.map V.int)) ∧ H q.2 = some (.lst (b.1.map V.int))
/-- a container made in this frame -/
structure Own (K : PySem.W.Frag) (W : FP) (F H : Hp) (p : Addr) (d : D) : Prop where
  ct : Ct K F H p d
  nf : F p = none
  n0 : W.H0 p = none
  nb : NB W p
def SlOk (K : PySem.W.Frag) (W : FP) (F H : Hp) (x : Option (Option V)) : Sl → Prop
  | .no => True
  | .v d => ∃ v, x = some (some v) ∧ Rp K F v d
  | .o l d => ∃ p, x = some (some (.ref p)) ∧ Own K W F H p d ∧ (l = false → Wr H p)
  | .b d => ∃ p, x = some (some (.ref p)) ∧ Ct K F H p d ∧ F p = none ∧ W.H0 p ≠ none ∧ NB W p
  | .bx => ∃ q, W.ob = some q ∧ x = some (some (.ref q.1))

/-- what holds of a frame -/
structure FI (K : PySem.W.Frag) (W : FP) (E : En) (F H : Hp) : Prop where
  fF : Ex W.F0 F
  FH : Ex F H
  kp : ∀ a o, W.H0 a = some o → NB W a → (∀ x ∈ W.lk, x.1 ≠ a) → H a = some o
  nw : ∀ a, W.H0 a ≠ none → F a = W.F0 a
  sl : ∀ (i : Nat) (s : Sl), E.sl[i]? = some s → SlOk K W F H W.σ[i]? s
  ds : ∀ (i j : Nat) li ci lj cj (p : Addr), i ≠ j → E.sl[i]? = some (.o li ci) → E.sl[j]? = some (.o lj cj) → W.σ[i]? = some (some (.ref p)) → W.σ[j]? = some (some (.ref p)) → False
  bo : ∀ q, W.ob = some q → BxOk F H q E.bx
  lo : ∀ x ∈ W.lk, H x.1 = some (.frz x.2.1 x.2.2) ∧ F x.1 = none
  ho : ∀ x ∈ W.hs, Own K W F H x.1 x.2 ∧ Wr H x.1 ∧ ∀ (i : Nat) l c, E.sl[i]? = some (.o l c) → W.σ[i]? ≠ some (some (.ref x.1))
  l1 : ∀ (i : Nat) d (p : Addr), E.sl[i]? = some (.o true d) → W.σ[i]? = some (some (.ref p)) → W.ls.lookup i = some (p, d)
  l2 : ∀ x ∈ W.ls, Own K W F H x.2.1 x.2.2 ∧ ∀ (j : Nat) c, E.sl[j]? = some (.o false c) → W.σ[j]? ≠ some (some (.ref x.2.1))
  e0 : Ex W.F0 W.H0
  ln : W.σ.length = E.sl.length

/-- p is none of the frame's own -/
def NO (W : FP) (E : En) (p : Addr) : Prop := (∀ (i : Nat) l c, E.sl[i]? = some (.o l c) → W.σ[i]? ≠ some (some (.ref p))) ∧ (∀ x ∈ W.hs, x.1 ≠ p) ∧ ∀ x ∈ W.ls, x.2.1 ≠ p
/-- what a result is -/
def RR (K : PySem.W.Frag) (W : FP) (E : En) (F H : Hp) (v : V) : R → Prop
  | .v d => Rp K F v d
  | .f d => ∃ p, v = .ref p ∧ Own K W F H p d ∧ Wr H p ∧ NO W E p
def PR (K : PySem.W.Frag) (F : Hp) (σ : L2.St) (v : V) : P → Prop
  | .v d => Rp K F v d
  | .s i => σ[i]? = some (some v)

/-! ### the judgements -/
abbrev EF (α : Type) := En → Option (α × En)
structure DE (X : Cx) (e : Expr) (f : EF R) : Prop where
  ex : ∃ t, PE X e t ∧ ∀ W F H E r E' (Q : VK), FI X.K W E F H → f E = some (r, E') → (∀ v F' H', FI X.K W E' F' H' → Ex F F' → RR X.K W E' F' H' v r → Q v H') → t W.σ H Q
structure DP (X : Cx) (e : Expr) (f : EF P) : Prop where
  ex : ∃ t, PE X e t ∧ ∀ W F H E r E' (Q : VK), FI X.K W E F H → f E = some (r, E') → (∀ v F' H', FI X.K W E' F' H' → Ex F F' → PR X.K F' W.σ v r → Q v H') → t W.σ H Q
/-- a value that is never changed -/
structure DQ (X : Cx) (e : Expr) (f : EF D) : Prop where
  ex : ∃ t, PE X e t ∧ ∀ W F H E r E' (Q : VK), FI X.K W E F H → f E = some (r, E') → (∀ v F' H', FI X.K W E' F' H' → Ex F F' → Rp X.K F' v r → Q v H') → t W.σ H Q
structure DT (X : Cx) (e : Expr) (f : EF Bool) : Prop where
  ex : ∃ t, PT X e t ∧ ∀ W F H E r E' (Q : Bool → Hp → Prop), FI X.K W E F H → f E = some (r, E') → (∀ F' H', FI X.K W E' F' H' → Ex F F' → Q r H') → t W.σ H Q
/-- an and, an or, whatever its whole is -/
structure DW (X : Cx) (e : Expr) (f : EF Bool) : Prop where
  ex : ∃ t, PW X e t ∧ ∀ W F H E r E' (Q : Bool → Hp → Prop), FI X.K W E F H → f E = some (r, E') → (∀ F' H', FI X.K W E' F' H' → Ex F F' → Q r H') → t W.σ H Q
structure DA (X : Cx) (es : List Expr) (f : EF (List P)) : Prop where
  ex : ∃ t, PA X es t ∧ ∀ W F H E r E' (Q : List V → Hp → Prop), FI X.K W E F H → f E = some (r, E') → (∀ vs F' H', FI X.K W E' F' H' → Ex F F' → Paired (PR X.K F' W.σ) vs r → Q vs H') → t W.σ H Q
structure DV (X : Cx) (es : List Expr) (f : EF (List D)) : Prop where
  ex : ∃ t, PA X es t ∧ ∀ W F H E r E' (Q : List V → Hp → Prop), FI X.K W E F H → f E = some (r, E') → (∀ vs F' H', FI X.K W E' F' H' → Ex F F' → RpA X.K F' vs r → Q vs H') → t W.σ H Q

/-- the value behind an operand -/
def P.get (E : En) : P → Option D
  | .v d => some d
  | .s i => match E.sl[i]? with
    | some (.v d) => some d
    | some (.o _ d) => some d
    | some (.b d) => some d
    | _ => none
end PV

namespace PV
open PySem L2

/-! ### a value at hand: known by F, or a container that H has just now -/
def VR (K : PySem.W.Frag) (F H : Hp) (v : V) (d : D) : Prop := Rp K F v d ∨ ∃ p, v = .ref p ∧ Ct K F H p d
section
variable {K : PySem.W.Frag} {F F' H H' : Hp} {W : FP} {E : En} {v : V} {d : D}
theorem VR.lst {ds : List D} (h : VR K F H v (.lst ds)) (e : Ex F H) : ∃ a vs, v = .ref a ∧ H a = some (.lst vs) ∧ RpA K F vs ds ∧ ds.length ≤ sizeLine := by
  rcases h with h | ⟨p, rfl, vs, q, r, l⟩
  · cases h with
    | lst s r l => exact ⟨_, _, rfl, e _ _ s, r, l⟩
  · exact ⟨p, vs, rfl, q, r, l⟩
theorem VR.tup {ds : List D} (h : VR K F H v (.tup ds)) (e : Ex F H) : ∃ a vs, v = .ref a ∧ SqT K H a vs ∧ RpA K F vs ds ∧ ds.length ≤ sizeLine := by
  rcases h with h | ⟨p, rfl, h⟩
  · cases h with
    | tup s r l => exact ⟨_, _, rfl, ex_t e s, r, l⟩
  · exact h.elim
theorem VR.dic {ds : List (D × D)} (h : VR K F H v (.dic ds)) (e : Ex F H) : ∃ a kvs, v = .ref a ∧ Rd H a (.dK kvs) ∧ RpK K F kvs ds := by
  rcases h with h | ⟨p, rfl, vs, q, r⟩
  · cases h with
    | dic s r => exact ⟨_, _, rfl, .inr ⟨_, e _ _ s⟩, r⟩
  · exact ⟨p, vs, rfl, q, r⟩
theorem VR.int {i : Int} (h : VR K F H v (.int i)) : v = .int i := by
  rcases h with h | ⟨p, rfl, h⟩
  · cases h; rfl
  · exact h.elim
theorem VR.str {x : Str} (h : VR K F H v (.str x)) : v = .str x ∧ SOk x := by
  rcases h with h | ⟨p, rfl, h⟩
  · cases h; exact ⟨rfl, by assumption⟩
  · exact h.elim
theorem VR.bl {b : Bool} (h : VR K F H v (.bl b)) : v = .bl b := by
  rcases h with h | ⟨p, rfl, h⟩
  · cases h; rfl
  · exact h.elim
theorem VR.non (h : VR K F H v .non) : v = .non := by
  rcases h with h | ⟨p, rfl, h⟩
  · cases h; rfl
  · exact h.elim
theorem VR.mono (e : Ex F F') (eH : Ex H H') (h : VR K F H v d) : VR K F' H' v d := by
  rcases h with h | ⟨p, rfl, h⟩
  · exact .inl (h.mono e)
  · obtain ⟨o, ho⟩ := h.ex
    exact .inr ⟨p, rfl, h.mono e ((eH p o ho).trans ho.symm)⟩

/-- what an operation leaves: a value that stood, a new object -/
def Ou (K : PySem.W.Frag) (F H : Hp) (v : V) (H' : Hp) : R → Prop
  | .v d => (H' = H ∧ Rp K F v d) ∨ ∃ p o, H p = none ∧ H' = upd H p o ∧ v = .ref p ∧ Rp K (upd F p o) (.ref p) d
  | .f d => ∃ p o, H p = none ∧ H' = upd H p o ∧ v = .ref p ∧ Ct K F H' p d ∧ Wr H' p
theorem Ou.val (h : Rp K F v d) : Ou K F H v H (.v d) := .inl ⟨rfl, h⟩
theorem wr_same {p : Addr} {o : HO} (h : ∀ od u, o ≠ .frz od u) : Wr (upd H p o) p := fun od u e => by
  rw [upd_same] at e; exact h od u (Option.some.inj e)
theorem Ou.newL {p : Addr} {vs : List V} {ds : List D} (n : H p = none) (r : RpA K F vs ds) (l : ds.length ≤ sizeLine) : Ou K F H (.ref p) (upd H p (.lst vs)) (.f (.lst ds)) :=
  ⟨p, _, n, rfl, rfl, ⟨vs, upd_same, r, l⟩, wr_same fun _ _ e => nomatch e⟩
theorem Ou.newD {p : Addr} {vs : List (Key × V)} {ds : List (D × D)} (n : H p = none) (r : RpK K F vs ds) : Ou K F H (.ref p) (upd H p (.dK vs)) (.f (.dic ds)) :=
  ⟨p, _, n, rfl, rfl, ⟨vs, .inl upd_same, r⟩, wr_same fun _ _ e => nomatch e⟩
theorem Ex.none (e : Ex F H) {p : Addr} (n : H p = none) : F p = none := by
  cases q : F p with
  | none => rfl
  | some o => rw [e p o q] at n; cases n
theorem Ou.newT {p : Addr} {vs : List V} {ds : List D} (e : Ex F H) (n : H p = none) (r : RpA K F vs ds) (l : ds.length ≤ sizeLine) : Ou K F H (.ref p) (upd H p (.tup vs)) (.v (.tup ds)) :=
  .inr ⟨p, _, n, rfl, rfl, .tup (.inl (.inl upd_same)) (r.mono (Ex.new (e.none n))) l⟩

theorem FI.nob (I : FI K W E F H) {p : Addr} (n : H p = none) : NB W p := fun q e => by
  obtain ⟨_, _, _, h1, h2⟩ := I.bo q e
  exact ⟨fun z => by (rw [z, h1] at n; cases n), fun z => by (rw [z, h2] at n; cases n)⟩
theorem FI.no0 (I : FI K W E F H) {p : Addr} (n : H p = none) : W.H0 p = none := by
  cases q : W.H0 p with
  | none => rfl
  | some o =>
    rw [I.kp p o q (I.nob n) fun x hx z => by (rw [← z, (I.lo x hx).1] at n; cases n)] at n; cases n
theorem FI.noo (I : FI K W E F H) {p : Addr} (n : H p = none) : NO W E p := by
  refine ⟨fun i l c e z => ?_, fun x hx z => ?_, fun x hx z => ?_⟩
  · obtain ⟨p', e1, ow, _⟩ := I.sl i _ e
    rw [z] at e1; cases e1
    obtain ⟨o, ho⟩ := ow.ct.ex
    rw [ho] at n; cases n
  · obtain ⟨o, ho⟩ := (I.ho x hx).1.ct.ex
    rw [z, n] at ho; cases ho
  · obtain ⟨o, ho⟩ := (I.l2 x hx).1.ct.ex
    rw [z, n] at ho; cases ho

/-- more is known, more stands -/
theorem Own.step (h : Own K W F H p d) (eF : Ex F F') (nF : F' p = F p ∨ H p = none) (eH : Ex H H') : Own K W F' H' p d := by
  obtain ⟨o, ho⟩ := h.ct.ex
  refine ⟨h.ct.mono eF ((eH p o ho).trans ho.symm), ?_, h.n0, h.nb⟩
  rcases nF with z | z
  · exact z.trans h.nf
  · rw [ho] at z; cases z
theorem Wr.step {p : Addr} {o : HO} (h : Wr H p) (e : H p = some o) (eH : Ex H H') : Wr H' p := fun od u z => by
  rw [eH p o e] at z; exact h od u (e.trans z)
theorem FI.step (I : FI K W E F H) (eF : Ex F F') (nF : ∀ a, F' a = F a ∨ H a = none) (eH : Ex H H') (eFH : Ex F' H') : FI K W E F' H' := by
  have keepN : ∀ {p : Addr} {o : HO}, H p = some o → F p = none → F' p = none := fun {p o} ho hf => by
    rcases nF p with z | z
    · exact z.trans hf
    · rw [ho] at z; cases z
  refine ⟨I.fF.trans eF, eFH, fun a o h n k => eH a o (I.kp a o h n k), fun a h => ?_, fun i s e => ?_, I.ds, fun q e => ?_, fun x hx => ⟨eH _ _ (I.lo x hx).1, keepN (I.lo x hx).1 (I.lo x hx).2⟩, fun x hx => ?_, I.l1, fun x hx => ⟨(I.l2 x hx).1.step eF (nF _) eH, (I.l2 x hx).2⟩, I.e0, I.ln⟩
  · rcases nF a with z | z
    · exact z.trans (I.nw a h)
    · exact absurd (I.no0 z) h
  · have h := I.sl i s e
    cases s with
    | no => exact trivial
    | v d =>
      obtain ⟨v, h1, h2⟩ := h
      exact ⟨v, h1, h2.mono eF⟩
    | o l d =>
      obtain ⟨p, h1, h2, h3⟩ := h
      obtain ⟨o, ho⟩ := h2.ct.ex
      exact ⟨p, h1, h2.step eF (nF p) eH, fun z => (h3 z).step ho eH⟩
    | b d =>
      obtain ⟨p, h1, h2, h3, h4⟩ := h
      obtain ⟨o, ho⟩ := h2.ex
      exact ⟨p, h1, h2.mono eF ((eH p o ho).trans ho.symm), keepN ho h3, h4⟩
    | bx => exact h
  · obtain ⟨h1, h2, h3, h4, h5⟩ := I.bo q e
    exact ⟨h1, keepN h4 h2, keepN h5 h3, eH _ _ h4, eH _ _ h5⟩
  · obtain ⟨h1, h2, h3⟩ := I.ho x hx
    obtain ⟨o, ho⟩ := h1.ct.ex
    exact ⟨h1.step eF (nF _) eH, h2.step ho eH, h3⟩
/-- behind an operation -/
theorem FI.ou (I : FI K W E F H) {res : R} (h : Ou K F H v H' res) : ∃ F', FI K W E F' H' ∧ Ex F F' ∧ RR K W E F' H' v res := by
  cases res with
  | v d =>
    rcases h with ⟨rfl, h⟩ | ⟨p, o, n, rfl, rfl, h⟩
    · exact ⟨F, I, Ex.refl F, h⟩
    · have nf := I.FH.none n
      refine ⟨upd F p o, I.step (Ex.new nf) (fun a => ?_) (Ex.new n) (fun a u e => ?_), Ex.new nf, h⟩
      · by_cases z : a = p
        · subst z; exact .inr n
        · exact .inl (upd_ne z)
      · by_cases z : a = p
        · subst z; rw [upd_same] at e ⊢; exact e
        · rw [upd_ne z] at e ⊢; exact I.FH a u e
  | f d =>
    obtain ⟨p, o, n, rfl, rfl, h, wr⟩ := h
    exact ⟨F, I.step (Ex.refl F) (fun _ => .inl rfl) (Ex.new n) (I.FH.trans (Ex.new n)), Ex.refl F, p, rfl, ⟨h, I.FH.none n, I.no0 n, I.nob n⟩, wr, I.noo n⟩
/-- a fresh list is never changed from now on -/
theorem FI.freeze {ds : List D} (I : FI K W E F H) (h : RR K W E F H v (.f (.lst ds))) : ∃ F', FI K W E F' H ∧ Ex F F' ∧ Rp K F' v (.lst ds) := by
  obtain ⟨p, rfl, ow, wr, no⟩ := h
  obtain ⟨o, ho⟩ := ow.ct.ex
  have eF : Ex F (upd F p o) := Ex.new ow.nf
  have un : ∀ {a : Addr}, a ≠ p → upd F p o a = F a := fun z => upd_ne z
  refine ⟨upd F p o, ⟨I.fF.trans eF, fun a u e => ?_, I.kp, fun a h => ?_, fun i s e => ?_, I.ds, fun q e => ?_, fun x hx => ⟨(I.lo x hx).1, ?_⟩, fun x hx => ?_, I.l1, fun x hx => ⟨(I.l2 x hx).1.step eF (.inl (un (no.2.2 x hx))) (Ex.refl H), (I.l2 x hx).2⟩, I.e0, I.ln⟩, eF, ow.ct.freeze ho ow.nf⟩
  · by_cases z : a = p
    · subst z; rw [upd_same] at e; cases e; exact ho
    · rw [un z] at e; exact I.FH a u e
  · have z : a ≠ p := fun z => by rw [z] at h; exact h ow.n0
    rw [un z]; exact I.nw a h
  · have h := I.sl i s e
    cases s with
    | no => exact trivial
    | v d =>
      obtain ⟨v, h1, h2⟩ := h
      exact ⟨v, h1, h2.mono eF⟩
    | o l d' =>
      obtain ⟨p', h1, h2, h3⟩ := h
      have z : p' ≠ p := fun z => no.1 i l d' e (z ▸ h1)
      exact ⟨p', h1, h2.step eF (.inl (un z)) (Ex.refl H), h3⟩
    | b d' =>
      obtain ⟨p', h1, h2, h3, h4, h5⟩ := h
      have z : p' ≠ p := fun z => by rw [z] at h4; exact h4 ow.n0
      exact ⟨p', h1, h2.mono eF rfl, (un z).trans h3, h4, h5⟩
    | bx => exact h
  · obtain ⟨h1, h2, h3, h4, h5⟩ := I.bo q e
    have z := ow.nb q e
    exact ⟨h1, (un (Ne.symm z.1)).trans h2, (un (Ne.symm z.2)).trans h3, h4, h5⟩
  · have z : x.1 ≠ p := fun z => wr x.2.1 x.2.2 (z ▸ (I.lo x hx).1)
    rw [un z]; exact (I.lo x hx).2
  · obtain ⟨h1, h2, h3⟩ := I.ho x hx
    exact ⟨h1.step eF (.inl (un (no.2.1 x hx))) (Ex.refl H), h2, h3⟩

theorem PR.mono {σ : L2.St} (e : Ex F F') {p : P} (h : PR K F σ v p) : PR K F' σ v p := by
  cases p with
  | v d => exact Rp.mono e h
  | s i => exact h
theorem FI.vr (I : FI K W E F H) {p : P} (h : PR K F W.σ v p) (g : p.get E = some d) : VR K F H v d := by
  cases p with
  | v d' => cases g; exact .inl h
  | s i =>
    have h : W.σ[i]? = some (some v) := h
    unfold P.get at g
    cases q : E.sl[i]? with
    | none => simp [q] at g
    | some s =>
      have k := I.sl i s q
      cases s with
      | no => simp [q] at g
      | v d' =>
        simp [q] at g; subst g
        obtain ⟨u, e1, r⟩ := k
        rw [h] at e1; cases e1
        exact .inl r
      | o l d' =>
        simp [q] at g; subst g
        obtain ⟨p, e1, r, _⟩ := k
        rw [h] at e1; cases e1
        exact .inr ⟨p, rfl, r.ct⟩
      | b d' =>
        simp [q] at g; subst g
        obtain ⟨p, e1, r, _⟩ := k
        rw [h] at e1; cases e1
        exact .inr ⟨p, rfl, r⟩
      | bx => simp [q] at g

/-- a slot is forgotten -/
theorem FI.drop (I : FI K W E F H) (i : Nat) : FI K W { E with sl := E.sl.set i .no } F H := by
  have no : ∀ (j : Nat) (s : Sl), (E.sl.set i .no)[j]? = some s → s = .no ∨ (i ≠ j ∧ E.sl[j]? = some s) := fun j s e => by
    by_cases z : i = j
    · subst z
      by_cases hi : i < E.sl.length
      · rw [List.getElem?_set_self hi] at e; cases e; exact .inl rfl
      · rw [List.getElem?_eq_none (by simpa using hi)] at e; cases e
    · rw [List.getElem?_set_ne z] at e; exact .inr ⟨z, e⟩
  refine ⟨I.fF, I.FH, I.kp, I.nw, fun j s e => ?_, fun j k lj cj lk ck p ne ej ek => ?_, I.bo, I.lo, fun x hx => ⟨(I.ho x hx).1, (I.ho x hx).2.1, fun j l c e => ?_⟩, fun j d p e z => ?_, fun x hx => ⟨(I.l2 x hx).1, fun j c e => ?_⟩, I.e0, by simpa using I.ln⟩
  · rcases no j s e with rfl | ⟨_, e⟩
    · exact trivial
    · exact I.sl j s e
  · rcases no j _ ej with z | ⟨_, ej⟩
    · cases z
    · rcases no k _ ek with z | ⟨_, ek⟩
      · cases z
      · exact I.ds j k lj cj lk ck p ne ej ek
  · rcases no j _ e with z | ⟨_, e⟩
    · cases z
    · exact (I.ho x hx).2.2 j l c e
  · rcases no j _ e with q | ⟨_, e⟩
    · cases q
    · exact I.l1 j d p e z
  · rcases no j _ e with z | ⟨_, e⟩
    · cases z
    · exact (I.l2 x hx).2 j c e
/-- a slot that is known to hold something else -/
theorem FI.put (I : FI K W E F H) {i : Nat} {s : Sl} (h : SlOk K W F H W.σ[i]? s) (ho : ∀ l c p, s = .o l c → W.σ[i]? = some (some (.ref p)) → l = false ∧ NO W { E with sl := E.sl.set i .no } p) : FI K W { E with sl := E.sl.set i s } F H := by
  have no : ∀ (j : Nat) (t : Sl), (E.sl.set i s)[j]? = some t → (i = j ∧ t = s) ∨ (i ≠ j ∧ (E.sl.set i .no)[j]? = some t ∧ E.sl[j]? = some t) := fun j t e => by
    by_cases z : i = j
    · subst z
      by_cases hi : i < E.sl.length
      · rw [List.getElem?_set_self hi] at e; cases e; exact .inl ⟨rfl, rfl⟩
      · rw [List.getElem?_eq_none (by simpa using hi)] at e; cases e
    · rw [List.getElem?_set_ne z] at e; exact .inr ⟨z, by rw [List.getElem?_set_ne z]; exact e, e⟩
  refine ⟨I.fF, I.FH, I.kp, I.nw, fun j t e => ?_, fun j k lj cj lk ck p ne ej ek wj wk => ?_, I.bo, I.lo, fun x hx => ⟨(I.ho x hx).1, (I.ho x hx).2.1, fun j l c e z => ?_⟩, fun j d p e z => ?_, fun x hx => ⟨(I.l2 x hx).1, fun j c e z => ?_⟩, I.e0, by simpa using I.ln⟩
  · rcases no j t e with ⟨rfl, rfl⟩ | ⟨_, _, e⟩
    · exact h
    · exact I.sl j t e
  · rcases no j _ ej with ⟨rfl, z⟩ | ⟨_, e1, ej⟩
    · rcases no k _ ek with ⟨rfl, z'⟩ | ⟨_, e2, ek⟩
      · exact ne rfl
      · exact (ho lj cj p z.symm wj).2.1 k lk ck e2 wk
    · rcases no k _ ek with ⟨rfl, z'⟩ | ⟨_, e2, ek⟩
      · exact (ho lk ck p z'.symm wk).2.1 j lj cj e1 wj
      · exact I.ds j k lj cj lk ck p ne ej ek wj wk
  · rcases no j _ e with ⟨rfl, z'⟩ | ⟨_, e1, e⟩
    · exact (ho l c x.1 z'.symm z).2.2.1 x hx rfl
    · exact (I.ho x hx).2.2 j l c e z
  · rcases no j _ e with ⟨rfl, z'⟩ | ⟨_, e1, e⟩
    · cases (ho true d p z'.symm z).1
    · exact I.l1 j d p e z
  · rcases no j _ e with ⟨rfl, z'⟩ | ⟨_, e1, e⟩
    · exact (ho false c x.2.1 z'.symm z).2.2.2 x hx rfl
    · exact (I.l2 x hx).2 j c e z
end

/-! ### the plain rules -/
def R.d : R → Option D
  | .v d => some d
  | .f (.lst ds) => some (.lst ds)
  | .f _ => none
def mQ (f : EF R) : EF D := fun E => (f E).bind fun x => x.1.d.bind fun d => some (d, x.2)
def mP (f : EF D) : EF P := fun E => (f E).bind fun x => some (.v x.1, x.2)
def mE (f : EF D) : EF R := fun E => (f E).bind fun x => some (.v x.1, x.2)
def mC (d : D) : EF D := fun E => some (d, E)
section
variable {X : Cx} {a b c e : Expr} {es : List Expr} {pos : Pos}
theorem dq_of {f : EF R} (h : DE X e f) : DQ X e (mQ f) := by
  obtain ⟨t, hp, h⟩ := h.ex
  refine ⟨t, hp, fun W F H E r E' Q I hf k => ?_⟩
  unfold mQ at hf
  obtain ⟨⟨x, E1⟩, h1, h2⟩ := Option.bind_eq_some_iff.mp hf
  obtain ⟨d, h3, h2⟩ := Option.bind_eq_some_iff.mp h2
  cases h2
  refine h W F H E x _ Q I h1 fun v F' H' I' e' rr => ?_
  cases x with
  | v d => cases h3; exact k v F' H' I' e' rr
  | f d =>
    cases d with
    | lst ds =>
      cases h3
      obtain ⟨F2, I2, e2, q⟩ := I'.freeze rr
      exact k v F2 H' I2 (e'.trans e2) q
    | _ => cases h3
theorem dp_of {f : EF D} (h : DQ X e f) : DP X e (mP f) := by
  obtain ⟨t, hp, h⟩ := h.ex
  refine ⟨t, hp, fun W F H E r E' Q I hf k => ?_⟩
  unfold mP at hf
  obtain ⟨⟨x, E1⟩, h1, h2⟩ := Option.bind_eq_some_iff.mp hf
  cases h2
  exact h W F H E x _ Q I h1 fun v F' H' I' e' rr => k v F' H' I' e' rr
theorem de_of {f : EF D} (h : DQ X e f) : DE X e (mE f) := by
  obtain ⟨t, hp, h⟩ := h.ex
  refine ⟨t, hp, fun W F H E r E' Q I hf k => ?_⟩
  unfold mE at hf
  obtain ⟨⟨x, E1⟩, h1, h2⟩ := Option.bind_eq_some_iff.mp hf
  cases h2
  exact h W F H E x _ Q I h1 fun v F' H' I' e' rr => k v F' H' I' e' rr
theorem dq_c {v : V} {d : D} (h : PE X e (tC v)) (r : ∀ F, Rp X.K F v d) : DQ X e (mC d) :=
  ⟨_, h, fun W F H E x E' Q I hf k => by cases hf; exact k v F H I (Ex.refl F) (r F)⟩
theorem dq_int {i j} : DQ X (.Constant (.int i) j pos) (mC (.int i)) := dq_c pe_int fun _ => .int i
theorem dq_bl {i j} : DQ X (.Constant (.bool i) j pos) (mC (.bl i)) := dq_c pe_bl fun _ => .bl i
theorem dq_non {j} : DQ X (.Constant .none j pos) (mC .non) := dq_c pe_non fun _ => .non
theorem dq_str {i j} (h : SOk i := by exact ⟨by decide +kernel, by decide +kernel⟩) : DQ X (.Constant (.str i) j pos) (mC (.str i)) := dq_c pe_str fun _ => .str i h
theorem dq_glob {x : Str} {v : V} {u : Value} {d : D} (hg : Gl X x) (hm : X.mg x = some u) (r : RelV v u) (h : ∀ F, Rp X.K F v d) (hd : (x == ("__debug__" : Str)) = false := by decide) : DQ X (.Name x pos) (mC d) := dq_c (pe_glob hg hm r hd) h

/-- a name: a value; a list of one's own that is handed on is never changed any more -/
def mVar (i : Nat) : EF D := fun E => match E.sl[i]? with
  | some (.v d) => some (d, E)
  | some (.o false (.lst ds)) => some (.lst ds, { E with sl := E.sl.set i (.v (.lst ds)) })
  | _ => none
theorem dq_var {i : Nat} {x : Str} (hN : X.N[i]? = some x) (hv : Vis X.env.scope x) (hd : (x == ("__debug__" : Str)) = false := by decide) (hcd : (x == ("__classdict__" : Str)) = false := by decide) : DQ X (.Name x pos) (mVar i) := by
  refine ⟨_, pe_var hN hv hd hcd, fun W F H E r E' Q I hf k => ?_⟩
  unfold mVar at hf
  cases q : E.sl[i]? with
  | none => simp [q] at hf
  | some s =>
    have h := I.sl i s q
    cases s with
    | v d =>
      simp [q] at hf; obtain ⟨rfl, rfl⟩ := hf
      obtain ⟨v, e1, r⟩ := h
      exact ⟨v, e1, k v F H I (Ex.refl F) r⟩
    | o l d =>
      cases l with
      | true => simp [q] at hf
      | false =>
        cases d with
        | lst ds =>
          simp [q] at hf; obtain ⟨rfl, rfl⟩ := hf
          obtain ⟨p, e1, ow, wr⟩ := h
          have hi : i < E.sl.length := (List.getElem?_eq_some_iff.mp q).1
          have nop : NO W { E with sl := E.sl.set i .no } p := by
            refine ⟨fun j l c e z => ?_, fun x hx z => ?_, fun x hx z => ?_⟩
            · by_cases w : i = j
              · subst w; simp only [List.getElem?_set_self hi] at e; cases e
              · simp only [List.getElem?_set_ne w] at e
                exact I.ds i j _ _ _ _ p w q e e1 z
            · exact (I.ho x hx).2.2 i _ _ q (z ▸ e1)
            · exact (I.l2 x hx).2 i _ q (z ▸ e1)
          obtain ⟨F2, I2, e2, q2⟩ := (I.drop i).freeze (v := .ref p) (ds := ds) ⟨p, rfl, ow, wr rfl, nop⟩
          have I3 := I2.put (i := i) (s := .v (.lst ds)) ⟨_, e1, q2⟩ fun _ _ _ z => nomatch z
          simp only [List.set_set] at I3
          exact ⟨.ref p, e1, k (.ref p) F2 H I3 e2 q2⟩
        | _ => simp [q] at hf
    | _ => simp [q] at hf
/-- a name as an operand -/
def mSlot (i : Nat) : EF P := fun E => match E.sl[i]? with
  | some (.v d) => some (.v d, E)
  | some .no => none
  | some _ => some (.s i, E)
  | none => none
theorem dp_var {i : Nat} {x : Str} (hN : X.N[i]? = some x) (hv : Vis X.env.scope x) (hd : (x == ("__debug__" : Str)) = false := by decide) (hcd : (x == ("__classdict__" : Str)) = false := by decide) : DP X (.Name x pos) (mSlot i) := by
  refine ⟨_, pe_var hN hv hd hcd, fun W F H E r E' Q I hf k => ?_⟩
  unfold mSlot at hf
  cases q : E.sl[i]? with
  | none => simp [q] at hf
  | some s =>
    have h := I.sl i s q
    cases s with
    | v d =>
      simp [q] at hf; obtain ⟨rfl, rfl⟩ := hf
      obtain ⟨v, e1, r⟩ := h
      exact ⟨v, e1, k v F H I (Ex.refl F) r⟩
    | no => simp [q] at hf
    | o l d =>
      simp [q] at hf; obtain ⟨rfl, rfl⟩ := hf
      obtain ⟨p, e1, r⟩ := h
      exact ⟨.ref p, e1, k _ F H I (Ex.refl F) e1⟩
    | b d =>
      simp [q] at hf; obtain ⟨rfl, rfl⟩ := hf
      obtain ⟨p, e1, r⟩ := h
      exact ⟨.ref p, e1, k _ F H I (Ex.refl F) e1⟩
    | bx =>
      simp [q] at hf; obtain ⟨rfl, rfl⟩ := hf
      obtain ⟨p, _, e1⟩ := h
      exact ⟨.ref p.1, e1, k _ F H I (Ex.refl F) e1⟩

/-! ### operations by data -/
def OpD (X : Cx) (f : Value → Value → Sem Value) (g : D → D → Option R) : Prop := ∃ r, OpR X f r ∧
  ∀ F H x y a b res (Q : VK), Ex F H → VR X.K F H x a → VR X.K F H y b → g a b = some res → (∀ v H', Ou X.K F H v H' res → Q v H') → r x y H Q
theorem OpD.or {f : Value → Value → Sem Value} {g g' : D → D → Option R} (h : OpD X f g) (h' : OpD X f g') : OpD X f (fun a b => (g a b).or (g' a b)) := by
  obtain ⟨r, hr, h⟩ := h
  obtain ⟨r', hr', h'⟩ := h'
  refine ⟨_, hr.or hr', fun F H x y a b res Q e va vb hg k => ?_⟩
  have hg : (g a b).or (g' a b) = some res := hg
  cases q : g a b with
  | some z => rw [q] at hg; cases hg; exact .inl (h F H x y a b _ Q e va vb q k)
  | none => rw [q] at hg; exact .inr (h' F H x y a b res Q e va vb hg k)
def m2 (g : D → D → Option R) (fa fb : EF P) : EF R := fun E => (fa E).bind fun p => (fb p.2).bind fun q => (p.1.get q.2).bind fun x => (q.1.get q.2).bind fun y => (g x y).bind fun r => some (r, q.2)
theorem two {fa fb : EF P} {ta tb : TE} {g : D → D → Option R}
    (ha : ∀ W F H E r E' (Q : VK), FI X.K W E F H → fa E = some (r, E') → (∀ v F' H', FI X.K W E' F' H' → Ex F F' → PR X.K F' W.σ v r → Q v H') → ta W.σ H Q)
    (hb : ∀ W F H E r E' (Q : VK), FI X.K W E F H → fb E = some (r, E') → (∀ v F' H', FI X.K W E' F' H' → Ex F F' → PR X.K F' W.σ v r → Q v H') → tb W.σ H Q)
    {r : R2} (h : ∀ F H x y a b res (Q : VK), Ex F H → VR X.K F H x a → VR X.K F H y b → g a b = some res → (∀ v H', Ou X.K F H v H' res → Q v H') → r x y H Q) :
    ∀ W F H E res E' (Q : VK), FI X.K W E F H → m2 g fa fb E = some (res, E') → (∀ v F' H', FI X.K W E' F' H' → Ex F F' → RR X.K W E' F' H' v res → Q v H') → tOp r ta tb W.σ H Q := by
  intro W F H E res E' Q I hf k
  unfold m2 at hf
  obtain ⟨⟨p, E1⟩, h1, hf⟩ := Option.bind_eq_some_iff.mp hf
  obtain ⟨⟨q, E2⟩, h2, hf⟩ := Option.bind_eq_some_iff.mp hf
  obtain ⟨x, h3, hf⟩ := Option.bind_eq_some_iff.mp hf
  obtain ⟨y, h4, hf⟩ := Option.bind_eq_some_iff.mp hf
  obtain ⟨z, h5, hf⟩ := Option.bind_eq_some_iff.mp hf
  cases hf
  refine ha W F H E p E1 _ I h1 fun v F1 H1 I1 e1 r1 => hb W F1 H1 E1 q E2 _ I1 h2 fun u F2 H2 I2 e2 r2 => ?_
  refine h F2 H2 v u x y _ Q I2.FH (I2.vr (r1.mono e2) h3) (I2.vr r2 h4) h5 fun w H3 o => ?_
  obtain ⟨F3, I3, e3, rr⟩ := I2.ou o
  exact k w F3 H3 I3 ((e1.trans e2).trans e3) rr
theorem de_op {op : Operator} {g : D → D → Option R} {fa fb : EF P} (ho : OpD X (binaryOp op) g) (ha : DP X a fa) (hb : DP X b fb) : DE X (.BinOp a op b pos) (m2 g fa fb) := by
  obtain ⟨r, hr, h⟩ := ho
  obtain ⟨ta, pa, ha⟩ := ha.ex
  obtain ⟨tb, pb, hb⟩ := hb.ex
  exact ⟨_, pe_op hr pa pb, two ha hb h⟩
theorem de_cmp {op : CmpOp} {g : D → D → Option R} {fa fb : EF P} (ho : OpD X (compareOp op) g) (ha : DP X a fa) (hb : DP X b fb) (hm : behindInMarks op b = false := by first | exact nobehind _ (by decide) (by decide) | rfl) : DE X (.Compare a [op] [b] pos) (m2 g fa fb) := by
  obtain ⟨r, hr, h⟩ := ho
  obtain ⟨ta, pa, ha⟩ := ha.ex
  obtain ⟨tb, pb, hb⟩ := hb.ex
  exact ⟨_, pe_cmpR hr pa pb hm, two ha hb h⟩
/-- x[i] -/
def IxD (X : Cx) (g : D → D → Option R) : Prop := ∃ r, IxR X r ∧
  ∀ F H x y a b res (Q : VK), Ex F H → VR X.K F H x a → VR X.K F H y b → g a b = some res → (∀ v H', Ou X.K F H v H' res → Q v H') → r x y H Q
theorem IxD.or {g g' : D → D → Option R} (h : IxD X g) (h' : IxD X g') : IxD X (fun a b => (g a b).or (g' a b)) := by
  obtain ⟨r, hr, h⟩ := h
  obtain ⟨r', hr', h'⟩ := h'
  refine ⟨_, hr.or hr', fun F H x y a b res Q e va vb hg k => ?_⟩
  have hg : (g a b).or (g' a b) = some res := hg
  cases q : g a b with
  | some z => rw [q] at hg; cases hg; exact .inl (h F H x y a b _ Q e va vb q k)
  | none => rw [q] at hg; exact .inr (h' F H x y a b res Q e va vb hg k)
theorem de_ix {g : D → D → Option R} {fa fb : EF P} (ho : IxD X g) (ha : DP X a fa) (hb : DP X b fb) (hs : PlainIx b := by exact fun _ _ => rfl) : DE X (.Subscript a b pos) (m2 g fa fb) := by
  obtain ⟨r, hr, h⟩ := ho
  obtain ⟨ta, pa, ha⟩ := ha.ex
  obtain ⟨tb, pb, hb⟩ := hb.ex
  exact ⟨_, pe_ix hr pa pb hs, two ha hb h⟩
def UnD (X : Cx) (f : Value → Sem Value) (g : D → Option R) : Prop := ∃ r, UnR X f r ∧
  ∀ F H x a res (Q : VK), Ex F H → VR X.K F H x a → g a = some res → (∀ v H', Ou X.K F H v H' res → Q v H') → r x H Q
def m1 (g : D → Option R) (fa : EF P) : EF R := fun E => (fa E).bind fun p => (p.1.get p.2).bind fun x => (g x).bind fun r => some (r, p.2)
theorem de_un {op : UnaryOp} {g : D → Option R} {fa : EF P} (ho : UnD X (unaryOp op) g) (ha : DP X a fa) : DE X (.UnaryOp op a pos) (m1 g fa) := by
  obtain ⟨r, hr, h⟩ := ho
  obtain ⟨ta, pa, ha⟩ := ha.ex
  refine ⟨_, pe_un hr pa, fun W F H E res E' Q I hf k => ?_⟩
  unfold m1 at hf
  obtain ⟨⟨p, E1⟩, h1, hf⟩ := Option.bind_eq_some_iff.mp hf
  obtain ⟨x, h3, hf⟩ := Option.bind_eq_some_iff.mp hf
  obtain ⟨z, h5, hf⟩ := Option.bind_eq_some_iff.mp hf
  cases hf
  refine ha W F H E p E1 _ I h1 fun v F1 H1 I1 e1 r1 => ?_
  refine h F1 H1 v x _ Q I1.FH (I1.vr r1 h3) h5 fun w H3 o => ?_
  obtain ⟨F3, I3, e3, rr⟩ := I1.ou o
  exact k w F3 H3 I3 (e1.trans e3) rr

/-! ### lists of expressions -/
def mNil {α : Type} : EF (List α) := fun E => some ([], E)
def mCons {α : Type} (f : EF α) (g : EF (List α)) : EF (List α) := fun E => (f E).bind fun x => (g x.2).bind fun y => some (x.1 :: y.1, y.2)
theorem da_nil : DA X [] mNil := ⟨_, pa_nil, fun W F H E r E' Q I hf k => by cases hf; exact k [] F H I (Ex.refl F) .nil⟩
theorem da_cons {f : EF P} {g : EF (List P)} (h : DP X e f) (hs : DA X es g) (hst : starEach (e :: es) X.env = (false, eval e X.env) :: starEach es X.env := by rfl) : DA X (e :: es) (mCons f g) := by
  obtain ⟨t, p, h⟩ := h.ex
  obtain ⟨ts, ps, hs⟩ := hs.ex
  refine ⟨_, pa_cons p ps hst, fun W F H E r E' Q I hf k => ?_⟩
  unfold mCons at hf
  obtain ⟨⟨x, E1⟩, h1, hf⟩ := Option.bind_eq_some_iff.mp hf
  obtain ⟨⟨xs, E2⟩, h2, hf⟩ := Option.bind_eq_some_iff.mp hf
  cases hf
  refine h W F H E x E1 _ I h1 fun v F1 H1 I1 e1 r1 => hs W F1 H1 E1 xs E2 _ I1 h2 fun vs F2 H2 I2 e2 r2 => ?_
  exact k (v :: vs) F2 H2 I2 (e1.trans e2) (.cons (r1.mono e2) r2)
theorem dv_nil : DV X [] mNil := ⟨_, pa_nil, fun W F H E r E' Q I hf k => by cases hf; exact k [] F H I (Ex.refl F) .nil⟩
theorem dv_cons {f : EF D} {g : EF (List D)} (h : DQ X e f) (hs : DV X es g) (hst : starEach (e :: es) X.env = (false, eval e X.env) :: starEach es X.env := by rfl) : DV X (e :: es) (mCons f g) := by
  obtain ⟨t, p, h⟩ := h.ex
  obtain ⟨ts, ps, hs⟩ := hs.ex
  refine ⟨_, pa_cons p ps hst, fun W F H E r E' Q I hf k => ?_⟩
  unfold mCons at hf
  obtain ⟨⟨x, E1⟩, h1, hf⟩ := Option.bind_eq_some_iff.mp hf
  obtain ⟨⟨xs, E2⟩, h2, hf⟩ := Option.bind_eq_some_iff.mp hf
  cases hf
  refine h W F H E x E1 _ I h1 fun v F1 H1 I1 e1 r1 => hs W F1 H1 E1 xs E2 _ I1 h2 fun vs F2 H2 I2 e2 r2 => ?_
  exact k (v :: vs) F2 H2 I2 (e1.trans e2) (.cons (r1.mono e2) r2)
theorem le_line {n : Nat} (h : n ≤ 1000) : n ≤ sizeLine := Nat.le_trans h (by decide)
def mTup (f : EF (List D)) : EF D := fun E => (f E).bind fun x => if x.1.length ≤ 1000 then some (.tup x.1, x.2) else none
def mLst (f : EF (List D)) : EF R := fun E => (f E).bind fun x => if x.1.length ≤ 1000 then some (.f (.lst x.1), x.2) else none
theorem dq_tup {j} {f : EF (List D)} (h : DV X es f) : DQ X (.Tuple es j pos) (mTup f) := by
  obtain ⟨t, p, h⟩ := h.ex
  refine ⟨_, pe_tup p, fun W F H E r E' Q I hf k => ?_⟩
  unfold mTup at hf
  obtain ⟨⟨x, E1⟩, h1, hf⟩ := Option.bind_eq_some_iff.mp hf
  obtain ⟨hl, hf⟩ := Option.ite_none_right_eq_some.mp hf
  cases hf
  refine h W F H E x E1 _ I h1 fun vs F1 H1 I1 e1 r1 => ?_
  refine ⟨by rw [r1.length]; exact le_line hl, fun p n => ?_⟩
  obtain ⟨F3, I3, e3, rr⟩ := I1.ou (Ou.newT I1.FH n r1 (le_line hl))
  exact k _ F3 _ I3 (e1.trans e3) rr
theorem de_lst {f : EF (List D)} (h : DV X es f) : DE X (.List es pos) (mLst f) := by
  obtain ⟨t, p, h⟩ := h.ex
  refine ⟨_, pe_lst p, fun W F H E r E' Q I hf k => ?_⟩
  unfold mLst at hf
  obtain ⟨⟨x, E1⟩, h1, hf⟩ := Option.bind_eq_some_iff.mp hf
  obtain ⟨hl, hf⟩ := Option.ite_none_right_eq_some.mp hf
  cases hf
  refine h W F H E x E1 _ I h1 fun vs F1 H1 I1 e1 r1 => ?_
  refine ⟨by rw [r1.length]; exact le_line hl, fun p n => ?_⟩
  obtain ⟨F3, I3, e3, rr⟩ := I1.ou (Ou.newL n r1 (le_line hl))
  exact k _ F3 _ I3 (e1.trans e3) rr
end
end PV

namespace PV
open PySem L2
section
variable {X : Cx} {a b c e : Expr} {es rest : List Expr} {pos : Pos}
theorem bsome {α β : Type} {o : Option α} {f : α → Option β} {b : β} (h : o.bind f = some b) : ∃ a, o = some a ∧ f a = some b := Option.bind_eq_some_iff.mp h

/-! ### truth -/
def truth : D → Option Bool
  | .non => some false
  | .bl b => some b
  | .int i => some (i != 0)
  | .str x => some ((x.length : Int) != 0)
  | .lst xs => some (!xs.isEmpty)
  | .tup xs => some (!xs.isEmpty)
  | _ => none
theorem RpA.emp {K : PySem.W.Frag} {F : Hp} {vs : List V} {ds : List D} (h : RpA K F vs ds) : (!ds.isEmpty) = !vs.isEmpty := by
  cases h <;> rfl
theorem VR.tru {K : PySem.W.Frag} {F H : Hp} {v : V} {d : D} {k : Bool} (h : VR K F H v d) (e : Ex F H) (t : truth d = some k) : TruV K v H k := by
  cases d with
  | non => rw [h.non]; exact (Option.some.inj t).symm
  | bl b => rw [h.bl]; exact (Option.some.inj t).symm
  | int i => rw [h.int]; exact (Option.some.inj t).symm
  | str x => rw [h.str.1]; exact ⟨h.str.2.1, (Option.some.inj t).symm⟩
  | lst ds =>
    obtain ⟨a, vs, rfl, s, r, _⟩ := h.lst e
    exact .inl ⟨vs, .inl (.inl s), by rw [← r.emp]; exact (Option.some.inj t).symm⟩
  | tup ds =>
    obtain ⟨a, vs, rfl, s, r, _⟩ := h.tup e
    exact .inr (.inl ⟨vs, s, by rw [← r.emp]; exact (Option.some.inj t).symm⟩)
  | _ => cases t
def mTru (f : EF P) : EF Bool := fun E => (f E).bind fun p => (p.1.get p.2).bind fun d => (truth d).bind fun k => some (k, p.2)
theorem dt_truth {f : EF P} (h : DP X e f) (he : ∀ whole, isTrue e X.env whole = (do let v ← whole; standAt e.pos; holding [v] (truthy v)) := by intro _; rfl) : DT X e (mTru f) := by
  obtain ⟨t, hp, h⟩ := h.ex
  refine ⟨_, pt_truth hp he, fun W F H E r E' Q I hf k => ?_⟩
  unfold mTru at hf
  obtain ⟨⟨p, E1⟩, h1, hf⟩ := bsome hf
  obtain ⟨d, h2, hf⟩ := bsome hf
  obtain ⟨b, h3, hf⟩ := bsome hf
  cases hf
  exact h W F H E p _ _ I h1 fun v F1 H1 I1 e1 r1 => ⟨_, (I1.vr r1 h2).tru I1.FH h3, k F1 H1 I1 e1⟩
/-- an expression that gives a bool, as a test (a comparison) -/
def mBl (f : EF R) : EF Bool := fun E => (f E).bind fun p => match p.1 with | .v (.bl k) => some (k, p.2) | _ => none
theorem mBl_some {f : EF R} {E E' : En} {k : Bool} (h : mBl f E = some (k, E')) : f E = some (.v (.bl k), E') := by
  unfold mBl at h
  obtain ⟨⟨p, E1⟩, h1, hf⟩ := bsome h
  cases p with
  | v d =>
    cases d with
    | bl b => cases hf; exact h1
    | _ => cases hf
  | f d => cases hf
theorem dt_cmp {op : CmpOp} {g : D → D → Option R} {fa fb : EF P} (ho : OpD X (compareOp op) g) (ha : DP X a fa) (hb : DP X b fb) (hm : behindInMarks op b = false := by first | exact nobehind _ (by decide) (by decide) | rfl) : DT X (.Compare a [op] [b] pos) (mBl (m2 g fa fb)) := by
  obtain ⟨r, hr, h⟩ := ho
  obtain ⟨ta, pa, ha⟩ := ha.ex
  obtain ⟨tb, pb, hb⟩ := hb.ex
  refine ⟨_, pt_cmpR hr pa pb hm, fun W F H E r E' Q I hf k => ?_⟩
  refine two ha hb h W F H E _ _ _ I (mBl_some hf) fun v F1 H1 I1 e1 r1 => ?_
  cases (show Rp X.K F1 v (.bl r) from r1)
  exact ⟨r, rfl, k F1 H1 I1 e1⟩
def mChain (g g' : D → D → Option R) (fa fb fc : EF P) : EF R := fun E => (fa E).bind fun p => (fb p.2).bind fun q => (p.1.get q.2).bind fun x => (q.1.get q.2).bind fun y => (g x y).bind fun r =>
  match r with
  | .v (.bl true) => (fc q.2).bind fun s => (q.1.get s.2).bind fun y' => (s.1.get s.2).bind fun z => (g' y' z).bind fun r' => some (r', s.2)
  | .v (.bl false) => some (.v (.bl false), q.2)
  | _ => none
theorem chain {fa fb fc : EF P} {ta tb tc : TE} {g g' : D → D → Option R} {r r' : R2}
    (ha : ∀ W F H E r E' (Q : VK), FI X.K W E F H → fa E = some (r, E') → (∀ v F' H', FI X.K W E' F' H' → Ex F F' → PR X.K F' W.σ v r → Q v H') → ta W.σ H Q)
    (hb : ∀ W F H E r E' (Q : VK), FI X.K W E F H → fb E = some (r, E') → (∀ v F' H', FI X.K W E' F' H' → Ex F F' → PR X.K F' W.σ v r → Q v H') → tb W.σ H Q)
    (hc : ∀ W F H E r E' (Q : VK), FI X.K W E F H → fc E = some (r, E') → (∀ v F' H', FI X.K W E' F' H' → Ex F F' → PR X.K F' W.σ v r → Q v H') → tc W.σ H Q)
    (h : ∀ F H x y a b res (Q : VK), Ex F H → VR X.K F H x a → VR X.K F H y b → g a b = some res → (∀ v H', Ou X.K F H v H' res → Q v H') → r x y H Q)
    (h' : ∀ F H x y a b res (Q : VK), Ex F H → VR X.K F H x a → VR X.K F H y b → g' a b = some res → (∀ v H', Ou X.K F H v H' res → Q v H') → r' x y H Q) :
    ∀ W F H E res E' (Q : VK), FI X.K W E F H → mChain g g' fa fb fc E = some (res, E') → (∀ v F' H', FI X.K W E' F' H' → Ex F F' → RR X.K W E' F' H' v res → Q v H') → tChain r r' ta tb tc W.σ H Q := by
  intro W F H E res E' Q I hf k
  unfold mChain at hf
  obtain ⟨⟨p, E1⟩, h1, hf⟩ := bsome hf
  obtain ⟨⟨q, E2⟩, h2, hf⟩ := bsome hf
  obtain ⟨x, h3, hf⟩ := bsome hf
  obtain ⟨y, h4, hf⟩ := bsome hf
  obtain ⟨z, h5, hf⟩ := bsome hf
  refine ha W F H E p E1 _ I h1 fun v F1 H1 I1 e1 r1 => hb W F1 H1 E1 q E2 _ I1 h2 fun u F2 H2 I2 e2 r2 => ?_
  refine h F2 H2 v u x y _ _ I2.FH (I2.vr (r1.mono e2) h3) (I2.vr r2 h4) h5 fun w H3 o => ?_
  cases z with
  | f d => cases hf
  | v d =>
    cases d with
    | bl b =>
      rcases o with ⟨rfl, o⟩ | ⟨p', o', _, _, _, o⟩
      · cases o
        refine ⟨b, rfl, ?_⟩
        cases b with
        | true =>
          obtain ⟨⟨s, E3⟩, g1, hf⟩ := bsome hf
          obtain ⟨y', g2, hf⟩ := bsome hf
          obtain ⟨z, g3, hf⟩ := bsome hf
          obtain ⟨rr, g4, hf⟩ := bsome hf
          cases hf
          show tc W.σ H3 _
          refine hc W F2 H3 E2 s E3 _ I2 g1 fun w' F3 H4 I3 e3 r3 => ?_
          refine h' F3 H4 u w' y' z _ _ I3.FH (I3.vr (r2.mono e3) g2) (I3.vr r3 g3) g4 fun w2 H5 o2 => ?_
          obtain ⟨F5, I5, e5, rr5⟩ := I3.ou o2
          exact k w2 F5 H5 I5 (((e1.trans e2).trans e3).trans e5) rr5
        | false =>
          cases hf
          show Q (.bl false) H3
          exact k _ F2 H3 I2 (e1.trans e2) (.bl false)
      · cases o
    | _ => cases hf
theorem de_chain {op op' : CmpOp} {g g' : D → D → Option R} {fa fb fc : EF P} (ho : OpD X (compareOp op) g) (ho' : OpD X (compareOp op') g') (ha : DP X a fa) (hb : DP X b fb) (hc : DP X c fc)
    (hm : lastMarks [op, op'] [b, c] = false := by with_unfolding_all rfl) : DE X (.Compare a [op, op'] [b, c] pos) (mChain g g' fa fb fc) := by
  obtain ⟨r, hr, h⟩ := ho
  obtain ⟨r', hr', h'⟩ := ho'
  obtain ⟨ta, pa, ha⟩ := ha.ex
  obtain ⟨tb, pb, hb⟩ := hb.ex
  obtain ⟨tc, pc, hc⟩ := hc.ex
  exact ⟨_, pe_chain hr hr' pa pb pc hm, chain ha hb hc h h'⟩
theorem dt_chain {op op' : CmpOp} {g g' : D → D → Option R} {fa fb fc : EF P} (ho : OpD X (compareOp op) g) (ho' : OpD X (compareOp op') g') (ha : DP X a fa) (hb : DP X b fb) (hc : DP X c fc)
    (hm : lastMarks [op, op'] [b, c] = false := by with_unfolding_all rfl) : DT X (.Compare a [op, op'] [b, c] pos) (mBl (mChain g g' fa fb fc)) := by
  obtain ⟨r, hr, h⟩ := ho
  obtain ⟨r', hr', h'⟩ := ho'
  obtain ⟨ta, pa, ha⟩ := ha.ex
  obtain ⟨tb, pb, hb⟩ := hb.ex
  obtain ⟨tc, pc, hc⟩ := hc.ex
  refine ⟨_, pt_chain hr hr' pa pb pc hm, fun W F H E r E' Q I hf k => ?_⟩
  refine chain ha hb hc h h' W F H E _ _ _ I (mBl_some hf) fun v F1 H1 I1 e1 r1 => ?_
  cases (show Rp X.K F1 v (.bl r) from r1)
  exact ⟨r, rfl, k F1 H1 I1 e1⟩

/-! ### and, or, not, if -/
theorem dt_of {f : EF Bool} (h : DW X e f) : DT X e f := by
  obtain ⟨t, hp, h⟩ := h.ex
  exact ⟨t, hp.pt, h⟩
def mAnd (f g : EF Bool) : EF Bool := fun E => (f E).bind fun x => if x.1 = true then g x.2 else some (false, x.2)
def mOr (f g : EF Bool) : EF Bool := fun E => (f E).bind fun x => if x.1 = true then some (true, x.2) else g x.2
def mNot (f : EF Bool) : EF Bool := fun E => (f E).bind fun x => some (!x.1, x.2)
theorem dw_and1 {f : EF Bool} (h : DT X a f) : DW X (.BoolOp .And [a] pos) f := by
  obtain ⟨t, hp, h⟩ := h.ex
  exact ⟨t, pw_and1 hp, h⟩
theorem dw_or1 {f : EF Bool} (h : DT X a f) : DW X (.BoolOp .Or [a] pos) f := by
  obtain ⟨t, hp, h⟩ := h.ex
  exact ⟨t, pw_or1 hp, h⟩
theorem dw_and {f g : EF Bool} (h : DT X a f) (h2 : DW X (.BoolOp .And (b :: rest) pos) g) : DW X (.BoolOp .And (a :: b :: rest) pos) (mAnd f g) := by
  obtain ⟨t, hp, h⟩ := h.ex
  obtain ⟨t2, hp2, h2⟩ := h2.ex
  refine ⟨_, pw_and hp hp2, fun W F H E r E' Q I hf k => ?_⟩
  unfold mAnd at hf
  obtain ⟨⟨x, E1⟩, h1, hf⟩ := bsome hf
  refine h W F H E x _ _ I h1 fun F1 H1 I1 e1 => ?_
  cases x with
  | true => exact h2 W F1 H1 E1 r E' Q I1 hf fun F2 H2 I2 e2 => k F2 H2 I2 (e1.trans e2)
  | false => cases hf; exact k F1 H1 I1 e1
theorem dw_or {f g : EF Bool} (h : DT X a f) (h2 : DW X (.BoolOp .Or (b :: rest) pos) g) : DW X (.BoolOp .Or (a :: b :: rest) pos) (mOr f g) := by
  obtain ⟨t, hp, h⟩ := h.ex
  obtain ⟨t2, hp2, h2⟩ := h2.ex
  refine ⟨_, pw_or hp hp2, fun W F H E r E' Q I hf k => ?_⟩
  unfold mOr at hf
  obtain ⟨⟨x, E1⟩, h1, hf⟩ := bsome hf
  refine h W F H E x _ _ I h1 fun F1 H1 I1 e1 => ?_
  cases x with
  | false => exact h2 W F1 H1 E1 r E' Q I1 hf fun F2 H2 I2 e2 => k F2 H2 I2 (e1.trans e2)
  | true => cases hf; exact k F1 H1 I1 e1
theorem dt_not {f : EF Bool} (h : DT X a f) : DT X (.UnaryOp .Not a pos) (mNot f) := by
  obtain ⟨t, hp, h⟩ := h.ex
  refine ⟨_, pt_not hp, fun W F H E r E' Q I hf k => ?_⟩
  unfold mNot at hf
  obtain ⟨⟨x, E1⟩, h1, hf⟩ := bsome hf
  cases hf
  exact h W F H E x _ _ I h1 fun F1 H1 I1 e1 => k F1 H1 I1 e1
/-- .. as values -/
def mAndV (f g : EF D) : EF D := fun E => (f E).bind fun x => match x.1 with | .bl true => g x.2 | .bl false => some (.bl false, x.2) | _ => none
def mOrV (f g : EF D) : EF D := fun E => (f E).bind fun x => match x.1 with | .bl true => some (.bl true, x.2) | .bl false => g x.2 | _ => none
def mNotV (f : EF D) : EF D := fun E => (f E).bind fun x => match x.1 with | .bl k => some (.bl (!k), x.2) | _ => none
theorem dq_one {op} {f : EF D} (h : DQ X a f) : DQ X (.BoolOp op [a] pos) f := by
  obtain ⟨t, hp, h⟩ := h.ex
  exact ⟨t, pe_one hp, h⟩
theorem dq_and {f g : EF D} (h : DQ X a f) (h2 : DQ X (.BoolOp .And (b :: rest) pos) g) : DQ X (.BoolOp .And (a :: b :: rest) pos) (mAndV f g) := by
  obtain ⟨t, hp, h⟩ := h.ex
  obtain ⟨t2, hp2, h2⟩ := h2.ex
  refine ⟨_, pe_and hp hp2, fun W F H E r E' Q I hf k => ?_⟩
  unfold mAndV at hf
  obtain ⟨⟨x, E1⟩, h1, hf⟩ := bsome hf
  refine h W F H E x _ _ I h1 fun v F1 H1 I1 e1 r1 => ?_
  cases x with
  | bl b =>
    cases r1
    refine ⟨b, rfl, ?_⟩
    cases b with
    | true => exact h2 W F1 H1 E1 r E' Q I1 hf fun v F2 H2 I2 e2 r2 => k v F2 H2 I2 (e1.trans e2) r2
    | false => cases hf; exact k _ F1 H1 I1 e1 (.bl false)
  | _ => cases hf
theorem dq_or {f g : EF D} (h : DQ X a f) (h2 : DQ X (.BoolOp .Or (b :: rest) pos) g) : DQ X (.BoolOp .Or (a :: b :: rest) pos) (mOrV f g) := by
  obtain ⟨t, hp, h⟩ := h.ex
  obtain ⟨t2, hp2, h2⟩ := h2.ex
  refine ⟨_, pe_or hp hp2, fun W F H E r E' Q I hf k => ?_⟩
  unfold mOrV at hf
  obtain ⟨⟨x, E1⟩, h1, hf⟩ := bsome hf
  refine h W F H E x _ _ I h1 fun v F1 H1 I1 e1 r1 => ?_
  cases x with
  | bl b =>
    cases r1
    refine ⟨b, rfl, ?_⟩
    cases b with
    | false => exact h2 W F1 H1 E1 r E' Q I1 hf fun v F2 H2 I2 e2 r2 => k v F2 H2 I2 (e1.trans e2) r2
    | true => cases hf; exact k _ F1 H1 I1 e1 (.bl true)
  | _ => cases hf
theorem dq_not {f : EF D} (h : DQ X a f) : DQ X (.UnaryOp .Not a pos) (mNotV f) := by
  obtain ⟨t, hp, h⟩ := h.ex
  refine ⟨_, pe_not hp, fun W F H E r E' Q I hf k => ?_⟩
  unfold mNotV at hf
  obtain ⟨⟨x, E1⟩, h1, hf⟩ := bsome hf
  refine h W F H E x _ _ I h1 fun v F1 H1 I1 e1 r1 => ?_
  cases x with
  | bl b =>
    cases r1
    cases hf
    exact ⟨b, rfl, k _ F1 H1 I1 e1 (.bl _)⟩
  | _ => cases hf
def mIf {α : Type} (t : EF Bool) (f g : EF α) : EF α := fun E => (t E).bind fun x => if x.1 = true then f x.2 else g x.2
theorem de_if {t : EF Bool} {f g : EF R} (hc : DT X c t) (ha : DE X a f) (hb : DE X b g) : DE X (.IfExp c a b pos) (mIf t f g) := by
  obtain ⟨t1, hp, h⟩ := hc.ex
  obtain ⟨t2, hp2, h2⟩ := ha.ex
  obtain ⟨t3, hp3, h3⟩ := hb.ex
  refine ⟨_, pe_ifExp hp hp2 hp3, fun W F H E r E' Q I hf k => ?_⟩
  unfold mIf at hf
  obtain ⟨⟨x, E1⟩, h1, hf⟩ := bsome hf
  refine h W F H E x _ _ I h1 fun F1 H1 I1 e1 => ?_
  cases x with
  | true => exact h2 W F1 H1 E1 r E' Q I1 hf fun v F2 H2 I2 e2 r2 => k v F2 H2 I2 (e1.trans e2) r2
  | false => exact h3 W F1 H1 E1 r E' Q I1 hf fun v F2 H2 I2 e2 r2 => k v F2 H2 I2 (e1.trans e2) r2

/-! ### calls of what is built in -/
def getAll (E : En) : List P → Option (List D)
  | [] => some []
  | p :: ps => (p.get E).bind fun d => (getAll E ps).bind fun ds => some (d :: ds)
theorem FI.vrs {W : FP} {E : En} {F H : Hp} (I : FI X.K W E F H) : ∀ {vs : List V} {ps : List P} {ds : List D}, Paired (PR X.K F W.σ) vs ps → getAll E ps = some ds → Paired (VR X.K F H) vs ds
  | _, _, _, .nil, h => by cases h; exact .nil
  | _, _, _, .cons r t, h => by
    unfold getAll at h
    obtain ⟨d, h1, h⟩ := bsome h
    obtain ⟨ds, h2, h⟩ := bsome h
    cases h
    exact .cons (I.vr r h1) (FI.vrs I t h2)
def CallD (X : Cx) (f : Value) (g : List D → Option R) : Prop := ∃ r, CallR X f r ∧
  ∀ F H xs ds res (Q : VK), Ex F H → Paired (VR X.K F H) xs ds → g ds = some res → (∀ v H', Ou X.K F H v H' res → Q v H') → r xs H Q
theorem CallD.or {f : Value} {g g' : List D → Option R} (h : CallD X f g) (h' : CallD X f g') : CallD X f (fun ds => (g ds).or (g' ds)) := by
  obtain ⟨r, hr, h⟩ := h
  obtain ⟨r', hr', h'⟩ := h'
  refine ⟨_, hr.or hr', fun F H xs ds res Q e va hg k => ?_⟩
  have hg : (g ds).or (g' ds) = some res := hg
  cases q : g ds with
  | some z => rw [q] at hg; cases hg; exact .inl (h F H xs ds _ Q e va q k)
  | none => rw [q] at hg; exact .inr (h' F H xs ds res Q e va hg k)
def mCall (g : List D → Option R) (fa : EF (List P)) : EF R := fun E => (fa E).bind fun ps => (getAll ps.2 ps.1).bind fun ds => (g ds).bind fun r => some (r, ps.2)
theorem calls {fa : EF (List P)} {ta : TA} {g : List D → Option R} {r : List V → Hp → VK → Prop}
    (ha : ∀ W F H E r E' (Q : List V → Hp → Prop), FI X.K W E F H → fa E = some (r, E') → (∀ vs F' H', FI X.K W E' F' H' → Ex F F' → Paired (PR X.K F' W.σ) vs r → Q vs H') → ta W.σ H Q)
    (h : ∀ F H xs ds res (Q : VK), Ex F H → Paired (VR X.K F H) xs ds → g ds = some res → (∀ v H', Ou X.K F H v H' res → Q v H') → r xs H Q) :
    ∀ W F H E res E' (Q : VK), FI X.K W E F H → mCall g fa E = some (res, E') → (∀ v F' H', FI X.K W E' F' H' → Ex F F' → RR X.K W E' F' H' v res → Q v H') → tCB r ta W.σ H Q := by
  intro W F H E res E' Q I hf k
  unfold mCall at hf
  obtain ⟨⟨ps, E1⟩, h1, hf⟩ := bsome hf
  obtain ⟨ds, h2, hf⟩ := bsome hf
  obtain ⟨z, h3, hf⟩ := bsome hf
  cases hf
  refine ha W F H E ps _ _ I h1 fun vs F1 H1 I1 e1 r1 => ?_
  refine h F1 H1 vs ds _ _ I1.FH (I1.vrs r1 h2) h3 fun w H3 o => ?_
  obtain ⟨F3, I3, e3, rr⟩ := I1.ou o
  exact k w F3 H3 I3 (e1.trans e3) rr
variable {x : Str} {p : Pos} {id T : String}
theorem de_callB {g : List D → Option R} {fa : EF (List P)} (hc : CallD X (.builtin id) g) (hg : Gl X x) (hm : X.mg x = none) (hv : bootBuiltins x = some (.builtin id)) (ha : DA X (e :: es) fa) (hn : x ≠ "__name__" := by decide) (hdb : (x == ("__debug__" : Str)) = false := by decide)
    (he : starEach (e :: es) X.env = (false, eval e X.env) :: starEach es X.env := by rfl) (hpl : (backTo pos (starEach es X.env)).any (·.1) = false := by rfl) : DE X (.Call (.Name x p) (e :: es) [] pos) (mCall g fa) := by
  obtain ⟨r, hr, h⟩ := hc
  obtain ⟨t, pa, ha⟩ := ha.ex
  exact ⟨_, pe_callB hr hg hm hv pa hn hdb he hpl, calls ha h⟩
theorem de_callTy {g : List D → Option R} {fa : EF (List P)} (hc : CallD X (.type T) g) (hg : Gl X x) (hm : X.mg x = none) (hv : bootBuiltins x = some (.type T)) (ha : DA X (e :: es) fa) (hn : x ≠ "__name__" := by decide) (hdb : (x == ("__debug__" : Str)) = false := by decide)
    (he : starEach (e :: es) X.env = (false, eval e X.env) :: starEach es X.env := by rfl) (hpl : (backTo pos (starEach es X.env)).any (·.1) = false := by rfl) : DE X (.Call (.Name x p) (e :: es) [] pos) (mCall g fa) := by
  obtain ⟨r, hr, h⟩ := hc
  obtain ⟨t, pa, ha⟩ := ha.ex
  exact ⟨_, pe_callTy hr hg hm hv pa hn hdb he hpl, calls ha h⟩

/-! ### slices -/
structure DO (X : Cx) (e : Option Expr) (f : EF (Option Int)) : Prop where
  ex : ∃ t, PO X e t ∧ ∀ W F H E r E' (Q : Option Int → Hp → Prop), FI X.K W E F H → f E = some (r, E') → (∀ F' H', FI X.K W E' F' H' → Ex F F' → Q r H') → t W.σ H Q
def oNo : EF (Option Int) := fun E => some (none, E)
def oSo (f : EF P) : EF (Option Int) := fun E => (f E).bind fun p => (p.1.get p.2).bind fun d => match d with | .int i => some (some i, p.2) | _ => none
theorem do_no : DO X none oNo := ⟨_, po_none, fun W F H E r E' Q I hf k => by cases hf; exact k F H I (Ex.refl F)⟩
theorem do_so {f : EF P} (h : DP X e f) : DO X (some e) (oSo f) := by
  obtain ⟨t, hp, h⟩ := h.ex
  refine ⟨_, po_some hp, fun W F H E r E' Q I hf k => ?_⟩
  unfold oSo at hf
  obtain ⟨⟨p, E1⟩, h1, hf⟩ := bsome hf
  obtain ⟨d, h2, hf⟩ := bsome hf
  refine h W F H E p _ _ I h1 fun v F1 H1 I1 e1 r1 => ?_
  cases d with
  | int i => cases hf; exact ⟨i, (I1.vr r1 h2).int, k F1 H1 I1 e1⟩
  | _ => cases hf
def SlD (X : Cx) (g : D → Option Int → Option Int → Option R) : Prop := ∃ r, SlR X r ∧
  ∀ F H x a lo hi res (Q : VK), Ex F H → VR X.K F H x a → g a lo hi = some res → (∀ v H', Ou X.K F H v H' res → Q v H') → r x lo hi H Q
theorem SlD.or {g g' : D → Option Int → Option Int → Option R} (h : SlD X g) (h' : SlD X g') : SlD X (fun a lo hi => (g a lo hi).or (g' a lo hi)) := by
  obtain ⟨r, hr, h⟩ := h
  obtain ⟨r', hr', h'⟩ := h'
  refine ⟨_, hr.or hr', fun F H x a lo hi res Q e va hg k => ?_⟩
  have hg : (g a lo hi).or (g' a lo hi) = some res := hg
  cases q : g a lo hi with
  | some z => rw [q] at hg; cases hg; exact .inl (h F H x a lo hi _ Q e va q k)
  | none => rw [q] at hg; exact .inr (h' F H x a lo hi res Q e va hg k)
def mSl (g : D → Option Int → Option Int → Option R) (fa : EF P) (fl fh : EF (Option Int)) : EF R := fun E => (fa E).bind fun p => (fl p.2).bind fun l => (fh l.2).bind fun h => (p.1.get h.2).bind fun d => (g d l.1 h.1).bind fun r => some (r, h.2)
variable {lo hi : Option Expr} {p2 : Pos}
theorem de_sl {g : D → Option Int → Option Int → Option R} {fa : EF P} {fl fh : EF (Option Int)} (hs : SlD X g) (ha : DP X a fa) (hl : DO X lo fl) (hh : DO X hi fh) : DE X (.Subscript a (.Slice lo hi none p2) pos) (mSl g fa fl fh) := by
  obtain ⟨r, hr, h⟩ := hs
  obtain ⟨t, pa, ha⟩ := ha.ex
  obtain ⟨tl, pl, hl⟩ := hl.ex
  obtain ⟨th, ph, hh⟩ := hh.ex
  refine ⟨_, pe_slice hr pa pl ph, fun W F H E res E' Q I hf k => ?_⟩
  unfold mSl at hf
  obtain ⟨⟨p, E1⟩, h1, hf⟩ := bsome hf
  obtain ⟨⟨l, E2⟩, h2, hf⟩ := bsome hf
  obtain ⟨⟨u, E3⟩, h3, hf⟩ := bsome hf
  obtain ⟨d, h4, hf⟩ := bsome hf
  obtain ⟨z, h5, hf⟩ := bsome hf
  cases hf
  refine ha W F H E p _ _ I h1 fun v F1 H1 I1 e1 r1 => hl W F1 H1 E1 l _ _ I1 h2 fun F2 H2 I2 e2 => hh W F2 H2 E2 u _ _ I2 h3 fun F3 H3 I3 e3 => ?_
  refine h F3 H3 v d l u _ _ I3.FH (I3.vr ((r1.mono e2).mono e3) h4) h5 fun w H4 o => ?_
  obtain ⟨F4, I4, e4, rr⟩ := I3.ou o
  exact k w F4 H4 I4 (((e1.trans e2).trans e3).trans e4) rr

/-! ### methods that change nothing -/
def tyD (T : String) : D → Bool
  | .str _ => T == "str"
  | .lst _ => T == "list"
  | _ => false
theorem VR.ty {K : PySem.W.Frag} {F H : Hp} {v : V} {d : D} (h : VR K F H v d) (e : Ex F H) (t : tyD T d = true) : tyV K T v H := by
  cases d with
  | str x => rw [h.str.1]; exact (by simpa [tyD] using t : T = "str")
  | lst ds =>
    obtain ⟨a, vs, rfl, s, r, _⟩ := h.lst e
    exact .inl ⟨by simpa [tyD] using t, vs, .inl (.inl s)⟩
  | _ => cases t
def MtD (X : Cx) (T id : String) (g : D → List D → Option R) : Prop := ∃ r, MtR X id r ∧
  ∀ F H x a xs ds res (Q : VK), Ex F H → VR X.K F H x a → Paired (VR X.K F H) xs ds → g a ds = some res → (∀ v H', Ou X.K F H v H' res → Q v H') → r x xs H Q
theorem MtD.or {g g' : D → List D → Option R} (h : MtD X T id g) (h' : MtD X T id g') : MtD X T id (fun a ds => (g a ds).or (g' a ds)) := by
  obtain ⟨r, hr, h⟩ := h
  obtain ⟨r', hr', h'⟩ := h'
  refine ⟨_, hr.or hr', fun F H x a xs ds res Q e va vs hg k => ?_⟩
  have hg : (g a ds).or (g' a ds) = some res := hg
  cases q : g a ds with
  | some z => rw [q] at hg; cases hg; exact .inl (h F H x a xs ds _ Q e va vs q k)
  | none => rw [q] at hg; exact .inr (h' F H x a xs ds res Q e va vs hg k)
def mMt (T : String) (g : D → List D → Option R) (fo : EF P) (fa : EF (List P)) : EF R := fun E => (fo E).bind fun p => (p.1.get p.2).bind fun d => if tyD T d = true then (fa p.2).bind fun ps => (p.1.get ps.2).bind fun d => (getAll ps.2 ps.1).bind fun ds => (g d ds).bind fun r => some (r, ps.2) else none
variable {o : Expr} {name : Str} {apos cpos : Pos}
theorem de_mt {g : D → List D → Option R} {fo : EF P} {fa : EF (List P)} (pa : PlainAttrs T) (slot : Slot T name id) (hty : typeOf (.builtin id) = pure (.type "method_descriptor")) (hm : MtD X T id g) (ho : DP X o fo) (ha : DA X (e :: es) fa)
    (hbase : attributeBase o name X.env (eval o X.env) = eval o X.env := by rfl)
    (hfew : ((backTo cpos (starEach (e :: es) X.env)).all (fun x => !x.1) && (backToKw cpos (keywordEach [] X.env)).all (fun x => x.1.isSome)
      && decide ((e :: es).length + ([] : List Keyword).length + (if ([] : List Keyword).isEmpty then 0 else 1) < 30)) = true := by rfl)
    (hline : (apos.endLine == cpos.line) = true := by rfl) (hs : starEach (e :: es) X.env = (false, eval e X.env) :: starEach es X.env := by rfl) (hplain : (backTo cpos (starEach es X.env)).any (·.1) = false := by rfl) :
    DE X (.Call (.Attribute o name apos) (e :: es) [] cpos) (mMt T g fo fa) := by
  obtain ⟨r, hr, h⟩ := hm
  obtain ⟨to, po, ho⟩ := ho.ex
  obtain ⟨ta, qa, ha⟩ := ha.ex
  refine ⟨_, pe_bm pa slot hty hr po qa hbase hfew hline hs hplain, fun W F H E res E' Q I hf k => ?_⟩
  unfold mMt at hf
  obtain ⟨⟨p, E1⟩, h1, hf⟩ := bsome hf
  obtain ⟨d, h2, hf⟩ := bsome hf
  obtain ⟨ht, hf⟩ := Option.ite_none_right_eq_some.mp hf
  obtain ⟨⟨ps, E2⟩, h3, hf⟩ := bsome hf
  obtain ⟨d2, h4, hf⟩ := bsome hf
  obtain ⟨ds, h5, hf⟩ := bsome hf
  obtain ⟨z, h6, hf⟩ := bsome hf
  cases hf
  refine ho W F H E p _ _ I h1 fun v F1 H1 I1 e1 r1 => ⟨(I1.vr r1 h2).ty I1.FH ht, ha W F1 H1 E1 ps _ _ I1 h3 fun vs F2 H2 I2 e2 r2 => ?_⟩
  refine h F2 H2 v d2 vs ds _ _ I2.FH (I2.vr (r1.mono e2) h4) (I2.vrs r2 h5) h6 fun w H3 o => ?_
  obtain ⟨F3, I3, e3, rr⟩ := I2.ou o
  exact k w F3 H3 I3 ((e1.trans e2).trans e3) rr
theorem de_mt0 {g : D → List D → Option R} {fo : EF P} (pa : PlainAttrs T) (slot : Slot T name id) (hty : typeOf (.builtin id) = pure (.type "method_descriptor")) (hm : MtD X T id g) (ho : DP X o fo)
    (hbase : attributeBase o name X.env (eval o X.env) = eval o X.env := by rfl) (hline : (apos.endLine == cpos.line) = true := by rfl) :
    DE X (.Call (.Attribute o name apos) [] [] cpos) (mMt T g fo mNil) := by
  obtain ⟨r, hr, h⟩ := hm
  obtain ⟨to, po, ho⟩ := ho.ex
  refine ⟨_, pe_bm0 pa slot hty hr po hbase hline, fun W F H E res E' Q I hf k => ?_⟩
  unfold mMt mNil at hf
  obtain ⟨⟨p, E1⟩, h1, hf⟩ := bsome hf
  obtain ⟨d, h2, hf⟩ := bsome hf
  obtain ⟨ht, hf⟩ := Option.ite_none_right_eq_some.mp hf
  obtain ⟨⟨ps, E2⟩, h3, hf⟩ := bsome hf
  cases h3
  have hf : (p.get E1).bind (fun d2 => (g d2 []).bind fun r => some (r, E1)) = some (res, E') := hf
  obtain ⟨d2, h4, hf⟩ := bsome hf
  obtain ⟨z, h6, hf⟩ := bsome hf
  cases hf
  refine ho W F H E p _ _ I h1 fun v F1 H1 I1 e1 r1 => ⟨(I1.vr r1 h2).ty I1.FH ht, ?_⟩
  refine h F1 H1 v d2 [] [] _ _ I1.FH (I1.vr r1 h4) .nil h6 fun w H3 o => ?_
  obtain ⟨F3, I3, e3, rr⟩ := I1.ou o
  exact k w F3 H3 I3 (e1.trans e3) rr
end
end PV

namespace PV
open PySem L2

/-- how a statement ends -/
inductive Fl where
  | nx | rt (r : R) | bk | ct
abbrev FP.at (W : FP) (σ : L2.St) : FP := { W with σ := σ }
def Post (K : PySem.W.Frag) (W : FP) (F : Hp) (D : Ends) (E' : En) : Fl → Prop
  | .nx => ∀ σ' F' H', FI K (W.at σ') E' F' H' → Ex F F' → D.nx σ' H'
  | .rt r => ∀ v σ' F' H', FI K (W.at σ') E' F' H' → Ex F F' → RR K (W.at σ') E' F' H' v r → D.rt v H'
  | .bk => ∀ σ' F' H', FI K (W.at σ') E' F' H' → Ex F F' → D.bk σ' H'
  | .ct => ∀ σ' F' H', FI K (W.at σ') E' F' H' → Ex F F' → D.ct σ' H'
theorem Post.mono {K : PySem.W.Frag} {W : FP} {F F1 : Hp} {D : Ends} {E' : En} {fl : Fl} {σ1 : L2.St} (h : Post K W F D E' fl) (e : Ex F F1) : Post K (W.at σ1) F1 D E' fl := by
  cases fl with
  | nx => exact fun σ' F' H' I x => h σ' F' H' I (e.trans x)
  | rt r => exact fun v σ' F' H' I x => h v σ' F' H' I (e.trans x)
  | bk => exact fun σ' F' H' I x => h σ' F' H' I (e.trans x)
  | ct => exact fun σ' F' H' I x => h σ' F' H' I (e.trans x)
structure DS (X : Cx) (st : Stmt) (f : EF Fl) : Prop where
  ex : ∃ t, PS X st t ∧ ∀ W F H E r E' D, FI X.K W E F H → f E = some (r, E') → Post X.K W F D E' r → t D W.σ H
structure DB (X : Cx) (st : List Stmt) (f : EF Fl) : Prop where
  ex : ∃ t, PSs X st t ∧ ∀ W F H E r E' D, FI X.K W E F H → f E = some (r, E') → Post X.K W F D E' r → t D W.σ H

section
variable {K : PySem.W.Frag} {F F' H H' : Hp} {W : FP} {E : En} {v : V}
def R.sl : R → Sl
  | .v d => .v d
  | .f d => .o false d
theorem Own.at {σ : L2.St} {p : Addr} {d : D} (h : Own K W F H p d) : Own K (W.at σ) F H p d := ⟨h.ct, h.nf, h.n0, h.nb⟩
theorem SlOk.at {σ : L2.St} {x : Option (Option V)} {s : Sl} (h : SlOk K W F H x s) : SlOk K (W.at σ) F H x s := by
  cases s with
  | no => exact trivial
  | v d => exact h
  | o l d =>
    obtain ⟨p, h1, h2, h3⟩ := h
    exact ⟨p, h1, h2.at, h3⟩
  | b d => exact h
  | bx => exact h
/-- a name is given a value -/
theorem FI.asg (I : FI K W E F H) {i : Nat} {r : R} (hi : i < E.sl.length) (h : RR K W E F H v r) : FI K (W.at (W.σ.set i (some v))) { E with sl := E.sl.set i r.sl } F H := by
  have hiσ : i < W.σ.length := by rw [I.ln]; exact hi
  have at_ : ∀ (j : Nat) (t : Sl), (E.sl.set i r.sl)[j]? = some t → (i = j ∧ t = r.sl) ∨ (i ≠ j ∧ E.sl[j]? = some t) := fun j t e => by
    by_cases z : i = j
    · subst z
      rw [List.getElem?_set_self hi] at e; cases e; exact .inl ⟨rfl, rfl⟩
    · rw [List.getElem?_set_ne z] at e; exact .inr ⟨z, e⟩
  have σs : (W.σ.set i (some v))[i]? = some (some v) := List.getElem?_set_self hiσ
  have σn : ∀ {j}, i ≠ j → (W.σ.set i (some v))[j]? = W.σ[j]? := fun z => List.getElem?_set_ne z
  -- the new one is none of the others
  have new : ∀ {l c p}, r.sl = .o l c → v = .ref p → NO W E p := fun {l c p} e q => by
    cases r with
    | v d => cases e
    | f d =>
      obtain ⟨p', q', _, _, no⟩ := h
      rw [q] at q'; cases q'
      exact no
  refine ⟨I.fF, I.FH, I.kp, I.nw, fun j t e => ?_, fun j k lj cj lk ck p ne ej ek wj wk => ?_, I.bo, I.lo, fun x hx => ⟨(I.ho x hx).1.at, (I.ho x hx).2.1, fun j l c e z => ?_⟩, fun j d p e z => ?_, fun x hx => ⟨(I.l2 x hx).1.at, fun j c e z => ?_⟩, I.e0, by simpa using I.ln⟩
  · rcases at_ j t e with ⟨rfl, rfl⟩ | ⟨z, e⟩
    · show SlOk K _ F H (W.σ.set i (some v))[i]? r.sl
      rw [σs]
      cases r with
      | v d => exact ⟨v, rfl, h⟩
      | f d =>
        obtain ⟨p, rfl, ow, wr, _⟩ := h
        exact ⟨p, rfl, ow.at, fun _ => wr⟩
    · show SlOk K _ F H (W.σ.set i (some v))[j]? t
      rw [σn z]
      exact (I.sl j t e).at
  · have wj : (W.σ.set i (some v))[j]? = some (some (.ref p)) := wj
    have wk : (W.σ.set i (some v))[k]? = some (some (.ref p)) := wk
    rcases at_ j _ ej with ⟨rfl, z⟩ | ⟨z, ej⟩
    · rcases at_ k _ ek with ⟨rfl, z'⟩ | ⟨z', ek⟩
      · exact ne rfl
      · rw [σs] at wj; rw [σn z'] at wk
        exact (new z.symm (Option.some.inj (Option.some.inj wj))).1 k lk ck ek wk
    · rw [σn z] at wj
      rcases at_ k _ ek with ⟨rfl, z'⟩ | ⟨z', ek⟩
      · rw [σs] at wk
        exact (new z'.symm (Option.some.inj (Option.some.inj wk))).1 j lj cj ej wj
      · rw [σn z'] at wk
        exact I.ds j k lj cj lk ck p ne ej ek wj wk
  · have z : (W.σ.set i (some v))[j]? = some (some (.ref x.1)) := z
    rcases at_ j _ e with ⟨rfl, z'⟩ | ⟨z', e⟩
    · rw [σs] at z
      exact (new z'.symm (Option.some.inj (Option.some.inj z))).2.1 x hx rfl
    · rw [σn z'] at z
      exact (I.ho x hx).2.2 j l c e z
  · have z : (W.σ.set i (some v))[j]? = some (some (.ref p)) := z
    rcases at_ j _ e with ⟨rfl, z'⟩ | ⟨z', e⟩
    · cases r <;> cases z'
    · rw [σn z'] at z
      exact I.l1 j d p e z
  · have z : (W.σ.set i (some v))[j]? = some (some (.ref x.2.1)) := z
    rcases at_ j _ e with ⟨rfl, z'⟩ | ⟨z', e⟩
    · rw [σs] at z
      exact (new z'.symm (Option.some.inj (Option.some.inj z))).2.2 x hx rfl
    · rw [σn z'] at z
      exact (I.l2 x hx).2 j c e z
theorem RR.same {r : R} (h : RR K W E F H v r) : RR K (W.at W.σ) E F H v r := h
end

section
variable {X : Cx} {a b c e : Expr} {es : List Expr} {st : Stmt} {rest : List Stmt} {pos : Pos}
/-! ### blocks and plain statements -/
def bNil : EF Fl := fun E => some (.nx, E)
def bSeq (f g : EF Fl) : EF Fl := fun E => (f E).bind fun x => match x.1 with | .nx => g x.2 | y => some (y, x.2)
theorem db_nil : DB X [] bNil := ⟨_, pss_nil, fun W F H E r E' D I hf k => by cases hf; exact k W.σ F H I (Ex.refl F)⟩
theorem db_cons {f g : EF Fl} (h : DS X st f) (h2 : DB X rest g) : DB X (st :: rest) (bSeq f g) := by
  obtain ⟨t, p, h⟩ := h.ex
  obtain ⟨t2, p2, h2⟩ := h2.ex
  refine ⟨_, pss_cons p p2, fun W F H E r E' D I hf k => ?_⟩
  unfold bSeq at hf
  obtain ⟨⟨x, E1⟩, h1, hf⟩ := bsome hf
  refine h W F H E x E1 { D with nx := t2 D } I h1 ?_
  cases x with
  | nx => exact fun σ1 F1 H1 I1 e1 => h2 (W.at σ1) F1 H1 E1 r E' D I1 hf (k.mono e1)
  | rt v => cases hf; exact k
  | bk => cases hf; exact k
  | ct => cases hf; exact k
theorem db_one {f : EF Fl} (h : DS X st f) : DB X [st] f := by
  obtain ⟨t, p, h⟩ := h.ex
  exact ⟨t, pss_one p, h⟩
theorem ds_pass : DS X (.Pass pos) bNil := ⟨_, ps_pass, fun W F H E r E' D I hf k => by cases hf; exact k W.σ F H I (Ex.refl F)⟩
def bBk : EF Fl := fun E => some (.bk, E)
def bCt : EF Fl := fun E => some (.ct, E)
theorem ds_break : DS X (.Break pos) bBk := ⟨_, ps_break, fun W F H E r E' D I hf k => by cases hf; exact k W.σ F H I (Ex.refl F)⟩
theorem ds_continue : DS X (.Continue pos) bCt := ⟨_, ps_continue, fun W F H E r E' D I hf k => by cases hf; exact k W.σ F H I (Ex.refl F)⟩
def bRet (f : EF R) : EF Fl := fun E => (f E).bind fun x => some (.rt x.1, x.2)
theorem ds_ret {f : EF R} (h : DE X e f) : DS X (.Return (some e) pos) (bRet f) := by
  obtain ⟨t, p, h⟩ := h.ex
  refine ⟨_, ps_ret p, fun W F H E r E' D I hf k => ?_⟩
  unfold bRet at hf
  obtain ⟨⟨x, E1⟩, h1, hf⟩ := bsome hf
  cases hf
  exact h W F H E x _ _ I h1 fun v F1 H1 I1 e1 r1 => k v W.σ F1 H1 I1 e1 r1
theorem ds_retN : DS X (.Return none pos) (fun E => some (.rt (.v .non), E)) := ⟨_, ps_retN, fun W F H E r E' D I hf k => by cases hf; exact k .non W.σ F H I (Ex.refl F) (show Rp X.K F .non .non from .non)⟩
/-- a name of one's own that is handed back: it may be changed by who gets it -/
def mOwn (i : Nat) : EF R := fun E => match E.sl[i]? with
  | some (.v d) => some (.v d, E)
  | some (.o false d) => some (.f d, { E with sl := E.sl.set i .no })
  | _ => none
theorem de_own {i : Nat} {x : Str} (hN : X.N[i]? = some x) (hv : Vis X.env.scope x) (hd : (x == ("__debug__" : Str)) = false := by decide) (hcd : (x == ("__classdict__" : Str)) = false := by decide) : DE X (.Name x pos) (mOwn i) := by
  refine ⟨_, pe_var hN hv hd hcd, fun W F H E r E' Q I hf k => ?_⟩
  unfold mOwn at hf
  cases q : E.sl[i]? with
  | none => simp [q] at hf
  | some s =>
    have h := I.sl i s q
    cases s with
    | v d =>
      simp [q] at hf; obtain ⟨rfl, rfl⟩ := hf
      obtain ⟨v, e1, r⟩ := h
      exact ⟨v, e1, k v F H I (Ex.refl F) r⟩
    | o l d =>
      cases l with
      | true => simp [q] at hf
      | false =>
        simp [q] at hf; obtain ⟨rfl, rfl⟩ := hf
        obtain ⟨p, e1, ow, wr⟩ := h
        have hi : i < E.sl.length := (List.getElem?_eq_some_iff.mp q).1
        refine ⟨.ref p, e1, k (.ref p) F H (I.drop i) (Ex.refl F) ⟨p, rfl, ow, wr rfl, fun j l c e z => ?_, fun x hx z => ?_, fun x hx z => ?_⟩⟩
        · by_cases w : i = j
          · subst w; simp only [List.getElem?_set_self hi] at e; cases e
          · simp only [List.getElem?_set_ne w] at e
            exact I.ds i j _ _ _ _ p w q e e1 z
        · exact (I.ho x hx).2.2 i _ _ q (z ▸ e1)
        · exact (I.l2 x hx).2 i _ q (z ▸ e1)
    | _ => simp [q] at hf
def bDrop (f : EF R) : EF Fl := fun E => (f E).bind fun x => some (.nx, x.2)
theorem ds_expr {f : EF R} (h : DE X e f) (hs : swapsWith e none pos.line X.env = pure false := by rfl) : DS X (.Expr e pos) (bDrop f) := by
  obtain ⟨t, p, h⟩ := h.ex
  refine ⟨_, ps_expr p hs, fun W F H E r E' D I hf k => ?_⟩
  unfold bDrop at hf
  obtain ⟨⟨x, E1⟩, h1, hf⟩ := bsome hf
  cases hf
  exact h W F H E x _ _ I h1 fun v F1 H1 I1 e1 r1 => k W.σ F1 H1 I1 e1
def bIf (t : EF Bool) (f g : EF Fl) : EF Fl := fun E => (t E).bind fun x => if x.1 = true then f x.2 else g x.2
theorem ds_if {as bs : List Stmt} {t : EF Bool} {f g : EF Fl} (hc : DT X c t) (ha : DB X as f) (hb : DB X bs g) : DS X (.If c as bs pos) (bIf t f g) := by
  obtain ⟨t1, p1, h1⟩ := hc.ex
  obtain ⟨t2, p2, h2⟩ := ha.ex
  obtain ⟨t3, p3, h3⟩ := hb.ex
  refine ⟨_, ps_if p1 p2 p3, fun W F H E r E' D I hf k => ?_⟩
  unfold bIf at hf
  obtain ⟨⟨x, E1⟩, g1, hf⟩ := bsome hf
  refine h1 W F H E x _ _ I g1 fun F1 H1 I1 e1 => ?_
  cases x with
  | true => exact h2 W F1 H1 E1 r E' D I1 hf (k.mono (σ1 := W.σ) e1)
  | false => exact h3 W F1 H1 E1 r E' D I1 hf (k.mono (σ1 := W.σ) e1)

/-! ### name = value -/
def bSet (i : Nat) (f : EF R) : EF Fl := fun E => (f E).bind fun x => if i < x.2.sl.length then some (.nx, { x.2 with sl := x.2.sl.set i x.1.sl }) else none
theorem setD {i : Nat} {f : EF R} {t : TE} (h : ∀ W F H E r E' (Q : VK), FI X.K W E F H → f E = some (r, E') → (∀ v F' H', FI X.K W E' F' H' → Ex F F' → RR X.K W E' F' H' v r → Q v H') → t W.σ H Q) :
    ∀ W F H E r E' D, FI X.K W E F H → bSet i f E = some (r, E') → Post X.K W F D E' r → tAsg t (gName i) D W.σ H := by
  intro W F H E r E' D I hf k
  unfold bSet at hf
  obtain ⟨⟨x, E1⟩, h1, hf⟩ := bsome hf
  obtain ⟨hi, hf⟩ := Option.ite_none_right_eq_some.mp hf
  cases hf
  exact h W F H E x _ _ I h1 fun v F1 H1 I1 e1 r1 => k _ F1 H1 (I1.asg hi r1) e1
theorem ds_set {i : Nat} {x : Str} {pos' : Pos} {f : EF R} (h : DE X e f) (hN : X.N.Nodup) (hi : X.N[i]? = some x) (hx : Loc X.env.scope x) (hs : swapsWith e (some (.Name x pos')) pos.line X.env = pure false := by rfl) (hf : X.fn x = true ∨ X.env.scope.names.lookup x = some .local := by first | exact .inl rfl | exact .inr rfl | assumption) :
    DS X (.Assign [.Name x pos'] e pos) (bSet i f) := by
  obtain ⟨t, p, h⟩ := h.ex
  exact ⟨_, ps_set hN hi hx p hs hf, setD h⟩
/-- an expression that may be given to a name on its way (a list comprehension) -/
structure DC (X : Cx) (e : Expr) (f : EF R) : Prop where
  ex : ∃ t, PE X e t ∧ (∀ (i : Nat) (y : Str) (py spos : Pos), X.N[i]? = some y → X.env.scope.names.lookup y = some .local → swapsWith e (some (.Name y py)) spos.line X.env = pure true → PS X (.Assign [.Name y py] e spos) (tAsg t (gName i))) ∧
    ∀ W F H E r E' (Q : VK), FI X.K W E F H → f E = some (r, E') → (∀ v F' H', FI X.K W E' F' H' → Ex F F' → RR X.K W E' F' H' v r → Q v H') → t W.σ H Q
theorem de_ofC {f : EF R} (h : DC X e f) : DE X e f := by
  obtain ⟨t, p, _, h⟩ := h.ex
  exact ⟨t, p, h⟩
theorem ds_setC {i : Nat} {x : Str} {pos' : Pos} {f : EF R} (h : DC X e f) (hi : X.N[i]? = some x) (hx : X.env.scope.names.lookup x = some .local) (hs : swapsWith e (some (.Name x pos')) pos.line X.env = pure true) :
    DS X (.Assign [.Name x pos'] e pos) (bSet i f) := by
  obtain ⟨t, _, p, h⟩ := h.ex
  exact ⟨_, p i x pos' pos hi hx hs, setD h⟩

/-! ### several at once -/
section
variable {K : PySem.W.Frag} {F F' H H' : Hp} {W : FP} {E : En} {v : V}
theorem FI.hold (I : FI K W E F H) {p : Addr} {d : D} (h : RR K W E F H (.ref p) (.f d)) : FI K { W with hs := (p, d) :: W.hs } E F H := by
  obtain ⟨p', e, ow, wr, no⟩ := h
  cases e
  refine ⟨I.fF, I.FH, I.kp, I.nw, fun j s e => ?_, I.ds, I.bo, I.lo, fun x hx => ?_, I.l1, fun x hx => ⟨⟨(I.l2 x hx).1.ct, (I.l2 x hx).1.nf, (I.l2 x hx).1.n0, (I.l2 x hx).1.nb⟩, (I.l2 x hx).2⟩, I.e0, I.ln⟩
  · have h := I.sl j s e
    cases s with
    | no => exact trivial
    | v d => exact h
    | o l d =>
      obtain ⟨p, h1, h2, h3⟩ := h
      exact ⟨p, h1, ⟨h2.ct, h2.nf, h2.n0, h2.nb⟩, h3⟩
    | b d => exact h
    | bx => exact h
  · rcases List.mem_cons.mp hx with rfl | hx
    · exact ⟨⟨ow.ct, ow.nf, ow.n0, ow.nb⟩, wr, no.1⟩
    · obtain ⟨h1, h2, h3⟩ := I.ho x hx
      exact ⟨⟨h1.ct, h1.nf, h1.n0, h1.nb⟩, h2, h3⟩
theorem FI.unhold {x : Addr × D} (I : FI K { W with hs := x :: W.hs } E F H) (hd : (∀ y ∈ W.hs, y.1 ≠ x.1) ∧ ∀ y ∈ W.ls, y.2.1 ≠ x.1) : FI K W E F H ∧ RR K W E F H (.ref x.1) (.f x.2) := by
  refine ⟨⟨I.fF, I.FH, I.kp, I.nw, fun j s e => ?_, I.ds, I.bo, I.lo, fun y hy => ?_, I.l1, fun x hx => ⟨⟨(I.l2 x hx).1.ct, (I.l2 x hx).1.nf, (I.l2 x hx).1.n0, (I.l2 x hx).1.nb⟩, (I.l2 x hx).2⟩, I.e0, I.ln⟩, ?_⟩
  · have h := I.sl j s e
    cases s with
    | no => exact trivial
    | v d => exact h
    | o l d =>
      obtain ⟨p, h1, h2, h3⟩ := h
      exact ⟨p, h1, ⟨h2.ct, h2.nf, h2.n0, h2.nb⟩, h3⟩
    | b d => exact h
    | bx => exact h
  · obtain ⟨h1, h2, h3⟩ := I.ho y (List.mem_cons_of_mem _ hy)
    exact ⟨⟨h1.ct, h1.nf, h1.n0, h1.nb⟩, h2, h3⟩
  · obtain ⟨h1, h2, h3⟩ := I.ho x List.mem_cons_self
    exact ⟨x.1, rfl, ⟨h1.ct, h1.nf, h1.n0, h1.nb⟩, h2, h3, hd⟩
/-- results at hand, all of different containers -/
def RRs (K : PySem.W.Frag) (W : FP) (E : En) (F H : Hp) : List V → List R → Prop
  | [], [] => True
  | v :: vs, r :: rs => RR K W E F H v r ∧ RRs K W E F H vs rs ∧ ∀ p d, v = .ref p → r = .f d → ∀ (u : V) (e : D), (u, R.f e) ∈ vs.zip rs → u ≠ .ref p
  | _, _ => False
end
/-- expressions whose values may be containers of one's own -/
structure DR (X : Cx) (es : List Expr) (f : EF (List R)) : Prop where
  ex : ∃ t, PA X es t ∧ ∀ W F H E r E' (Q : List V → Hp → Prop), FI X.K W E F H → f E = some (r, E') → (∀ vs F' H', FI X.K W E' F' H' → Ex F F' → RRs X.K W E' F' H' vs r → Q vs H') → t W.σ H Q
theorem dr_nil : DR X [] mNil := ⟨_, pa_nil, fun W F H E r E' Q I hf k => by cases hf; exact k [] F H I (Ex.refl F) trivial⟩
theorem RRs.un {K : PySem.W.Frag} {F H : Hp} {W : FP} {E : En} {x : Addr × D} : ∀ {vs : List V} {rs : List R}, RRs K { W with hs := x :: W.hs } E F H vs rs → RRs K W E F H vs rs ∧ ∀ (u : V) (e : D), (u, R.f e) ∈ vs.zip rs → u ≠ .ref x.1
  | [], [], _ => ⟨trivial, fun _ _ h => by cases h⟩
  | v :: vs, r :: rs, h => by
    obtain ⟨h1, h2, h3⟩ := h
    obtain ⟨g1, g2⟩ := RRs.un h2
    refine ⟨⟨?_, g1, h3⟩, fun u e hm => ?_⟩
    · cases r with
      | v d => exact h1
      | f d =>
        obtain ⟨p, e, ow, wr, no⟩ := h1
        exact ⟨p, e, ⟨ow.ct, ow.nf, ow.n0, ow.nb⟩, wr, no.1, fun y hy => no.2.1 y (List.mem_cons_of_mem _ hy), no.2.2⟩
    · rcases List.mem_cons.mp hm with z | hm
      · cases z
        obtain ⟨p, rfl, _, _, no⟩ := h1
        intro q; cases q
        exact no.2.1 x List.mem_cons_self rfl
      · exact g2 u e hm
  | [], _ :: _, h => h.elim
  | _ :: _, [], h => h.elim
theorem dr_cons {f : EF R} {g : EF (List R)} (h : DE X e f) (hs : DR X es g) (hst : starEach (e :: es) X.env = (false, eval e X.env) :: starEach es X.env := by rfl) : DR X (e :: es) (mCons f g) := by
  obtain ⟨t, p, h⟩ := h.ex
  obtain ⟨ts, ps, hs⟩ := hs.ex
  refine ⟨_, pa_cons p ps hst, fun W F H E r E' Q I hf k => ?_⟩
  unfold mCons at hf
  obtain ⟨⟨x, E1⟩, h1, hf⟩ := bsome hf
  obtain ⟨⟨xs, E2⟩, h2, hf⟩ := bsome hf
  cases hf
  refine h W F H E x E1 _ I h1 fun v F1 H1 I1 e1 r1 => ?_
  cases x with
  | v d => exact hs W F1 H1 E1 xs _ _ I1 h2 fun vs F2 H2 I2 e2 r2 => k (v :: vs) F2 H2 I2 (e1.trans e2) ⟨Rp.mono e2 r1, r2, fun _ _ _ z => nomatch z⟩
  | f d =>
    obtain ⟨p, rfl, ow, wr, no⟩ := id r1
    refine hs { W with hs := (p, d) :: W.hs } F1 H1 E1 xs _ _ (I1.hold r1) h2 fun vs F2 H2 I2 e2 r2 => ?_
    obtain ⟨I3, r3⟩ := I2.unhold (x := (p, d)) no.2
    obtain ⟨g1, g2⟩ := RRs.un r2
    refine k (.ref p :: vs) F2 H2 I3 (e1.trans e2) ⟨r3, g1, fun p' d' z1 z2 => ?_⟩
    cases z1
    exact g2
def bPar2 (i j : Nat) (f : EF (List R)) : EF Fl := fun E => (f E).bind fun x => match x.1 with
  | [r, s] => if i < x.2.sl.length ∧ j < x.2.sl.length then some (.nx, { x.2 with sl := (x.2.sl.set i r.sl).set j s.sl }) else none
  | _ => none
theorem RR.put {K : PySem.W.Frag} {F H : Hp} {W : FP} {E : En} {v u : V} {i : Nat} {r s : R} (hi : i < W.σ.length) (hie : i < E.sl.length) (h : RR K W E F H u s) (hd : ∀ p d, v = .ref p → r = .f d → ∀ e, s = .f e → u ≠ .ref p) : RR K (W.at (W.σ.set i (some v))) { E with sl := E.sl.set i r.sl } F H u s := by
  cases s with
  | v d => exact h
  | f d =>
    obtain ⟨p, rfl, ow, wr, no⟩ := h
    refine ⟨p, rfl, ow.at, wr, fun j l c e z => ?_, no.2⟩
    have z : (W.σ.set i (some v))[j]? = some (some (.ref p)) := z
    have e : (E.sl.set i r.sl)[j]? = some (.o l c) := e
    by_cases w : i = j
    · subst w
      rw [List.getElem?_set_self hie] at e
      rw [List.getElem?_set_self hi] at z
      cases r with
      | v d' => cases e
      | f d' => exact hd p d' (Option.some.inj (Option.some.inj z)) rfl d rfl rfl
    · rw [List.getElem?_set_ne w] at e z
      exact no.1 j l c e z
theorem ds_par {i j : Nat} {x y : Str} {f : EF (List R)} {px py pt : Pos} {kt k2 pt2} (h : DR X [a, b] f) (hc : X.calm = true) (hN : X.N.Nodup) (hi : X.N[i]? = some x) (hj : X.N[j]? = some y) (hij : i ≠ j)
    (hx : X.env.scope.names.lookup x = some .local) (hy : X.env.scope.names.lookup y = some .local)
    (hw : swappedStores [.Tuple [.Name x px, .Name y py] kt pt] (.Tuple [a, b] k2 pt2) X.env = pure (some [x, y]))
    (hs : swapsWithSole [.Tuple [.Name x px, .Name y py] kt pt] (.Tuple [a, b] k2 pt2) pos.line X.env = pure false := by rfl) :
    DS X (.Assign [.Tuple [.Name x px, .Name y py] kt pt] (.Tuple [a, b] k2 pt2) pos) (bPar2 i j f) := by
  obtain ⟨t, p, h⟩ := h.ex
  refine ⟨_, ps_par hc hN hi hj hij hx hy p hw hs, fun W F H E r E' D I hf k => ?_⟩
  unfold bPar2 at hf
  obtain ⟨⟨xs, E1⟩, h1, hf⟩ := bsome hf
  refine h W F H E xs E1 _ I h1 fun vs F1 H1 I1 e1 r1 => ?_
  match xs, vs, r1 with
  | [r, s], [v, u], ⟨g1, ⟨g2, _, _⟩, g3⟩ =>
    obtain ⟨⟨l1, l2⟩, hf⟩ := Option.ite_none_right_eq_some.mp hf
    cases hf
    have I2 := I1.asg l1 g1
    have I3 := I2.asg (i := j) (r := s) (v := u) (by simpa using l2) (g2.put (by rw [I1.ln]; exact l1) l1 fun p d e1 e2 e e3 => g3 p d e1 e2 u e (by rw [e3]; exact List.mem_cons_self))
    exact ⟨v, u, rfl, k _ F1 H1 I3 e1⟩
def bPar3 (i j l : Nat) (f : EF (List R)) : EF Fl := fun E => (f E).bind fun x => match x.1 with
  | [r, s, t] => if i < x.2.sl.length ∧ j < x.2.sl.length ∧ l < x.2.sl.length then some (.nx, { x.2 with sl := ((x.2.sl.set i r.sl).set j s.sl).set l t.sl }) else none
  | _ => none
end
end PV

namespace PV
open PySem L2

/-! ### targets -/
/-- σ' is σ but at wr -/
def Only (wr : List Nat) (σ σ' : L2.St) : Prop := σ'.length = σ.length ∧ ∀ j : Nat, j ∉ wr → σ'[j]? = σ[j]?
structure DG (X : Cx) (tg : Expr) (f : D → EF Unit) (wr : List Nat) : Prop where
  ex : ∃ t, PG X tg t ∧ ∀ W F H E v d r E' (Q : L2.St → Hp → Prop), FI X.K W E F H → Rp X.K F v d → f d E = some (r, E') → (∀ σ', Only wr W.σ σ' → FI X.K (W.at σ') E' F H → Q σ' H) → t v W.σ H Q
structure DGs (X : Cx) (ts : List Expr) (f : List D → EF Unit) (wr : List Nat) : Prop where
  ex : ∃ t, PGs X ts t ∧ ∀ W F H E vs ds r E' (Q : L2.St → Hp → Prop), FI X.K W E F H → RpA X.K F vs ds → f ds E = some (r, E') → (∀ σ', Only wr W.σ σ' → FI X.K (W.at σ') E' F H → Q σ' H) → t vs W.σ H Q
def gSet (i : Nat) (d : D) : EF Unit := fun E => if i < E.sl.length then some ((), { E with sl := E.sl.set i (.v d) }) else none
def gsNil (ds : List D) : EF Unit := fun E => match ds with | [] => some ((), E) | _ => none
def gsCons (f : D → EF Unit) (g : List D → EF Unit) (ds : List D) : EF Unit := fun E => match ds with | d :: ds => (f d E).bind fun x => g ds x.2 | [] => none
def gTupD (n : Nat) (g : List D → EF Unit) (d : D) : EF Unit := fun E => match d with | .tup ds => if ds.length = n then g ds E else none | _ => none
section
variable {X : Cx} {e : Expr} {es : List Expr} {pos : Pos} {wr wr2 : List Nat}
theorem dg_name {i : Nat} {x : Str} (hN : X.N.Nodup) (hi : X.N[i]? = some x) (hx : Loc X.env.scope x) (hf : X.fn x = true ∨ X.env.scope.names.lookup x = some .local := by first | exact .inl rfl | exact .inr rfl | assumption) : DG X (.Name x pos) (gSet i) [i] := by
  refine ⟨_, pg_name hN hi hx hf, fun W F H E v d r E' Q I hv hf k => ?_⟩
  unfold gSet at hf
  obtain ⟨hi, hf⟩ := Option.ite_none_right_eq_some.mp hf
  cases hf
  exact k _ ⟨by simp, fun j hj => List.getElem?_set_ne (fun z => hj (by simp [z]))⟩ (I.asg (r := .v d) hi hv)
theorem dgs_nil : DGs X [] gsNil [] := by
  refine ⟨_, pgs_nil, fun W F H E vs ds r E' Q I hv hf k => ?_⟩
  cases ds with
  | nil => cases hv; cases hf; exact ⟨rfl, k W.σ ⟨rfl, fun _ _ => rfl⟩ I⟩
  | cons d ds => cases hf
theorem dgs_cons {f : D → EF Unit} {g : List D → EF Unit} (h : DG X e f wr) (h2 : DGs X es g wr2) (hs : (assignEach (e :: es) X.env).map (·.2) = assign e X.env :: (assignEach es X.env).map (·.2) := by rfl) : DGs X (e :: es) (gsCons f g) (wr ++ wr2) := by
  obtain ⟨t, p, h⟩ := h.ex
  obtain ⟨t2, p2, h2⟩ := h2.ex
  refine ⟨_, pgs_cons p p2 hs, fun W F H E vs ds r E' Q I hv hf k => ?_⟩
  cases ds with
  | nil => cases hf
  | cons d ds =>
    cases hv with
    | cons r1 r2 =>
      obtain ⟨⟨x, E1⟩, h1, hf⟩ := bsome hf
      exact ⟨_, _, rfl, h W F H E _ d _ _ _ I r1 h1 fun σ1 o1 I1 => h2 (W.at σ1) F H E1 _ ds _ _ _ I1 r2 hf fun σ2 o2 I2 => k σ2 ⟨o2.1.trans o1.1, fun j hj => by
        simp only [List.mem_append, not_or] at hj
        exact (o2.2 j hj.2).trans (o1.2 j hj.1)⟩ I2⟩
theorem dg_tup {k : Nat} {n : Nat} {g : List D → EF Unit} (hc : X.calm = true) (h : DGs X es g wr) (hn : (assignEach es X.env).length = n := by rfl) (hst : (assignEach es X.env).findIdx? (·.1) = none := by rfl) : DG X (.Tuple es k pos) (gTupD n g) wr := by
  obtain ⟨t, p, h⟩ := h.ex
  refine ⟨_, pg_tup hc p hn hst, fun W F H E v d r E' Q I hv hf k => ?_⟩
  cases d with
  | tup ds =>
    obtain ⟨hl, hf⟩ := Option.ite_none_right_eq_some.mp hf
    cases hv with
    | tup s r1 _ => exact ⟨_, _, rfl, ex_t I.FH s, by rw [r1.length]; exact hl, h W F H E _ ds _ _ _ I r1 hf k⟩
  | _ => cases hf
end

/-! ### what is walked -/
/-- the same frame, with more at hand -/
structure SameW (W2 W : FP) : Prop where
  ls : W2.ls = W.ls
  lk : W2.lk = W.lk
  H0 : W2.H0 = W.H0
  ob : W2.ob = W.ob
/-- the walk of its, wherever the frame stands -/
def Wk (K : PySem.W.Frag) (W : FP) (F : Hp) (its : List D) (J : It) : Prop :=
  ∀ W2 E2 F2 H2, SameW W2 W → FI K W2 E2 F2 H2 → Ex F F2 → J.stop its.length H2 ∧ ∀ (i : Nat) d, its[i]? = some d → J.go i H2 ∧ ∀ x H3, J.yld i H2 x H3 → ∃ F3, FI K W2 E2 F3 H3 ∧ Ex F2 F3 ∧ Rp K F3 x d
/-- a list of one's own is locked: the slot i -/
def LkR (W W' : FP) : Option Nat → Prop
  | none => W' = W
  | some i => ∃ p d, W' = { W with ls := (i, p, .lst d) :: W.ls } ∧ (∀ y ∈ W.ls, y.2.1 ≠ p) ∧ ∀ y ∈ W.hs, y.1 ≠ p
structure DI (X : Cx) (tg iter : Expr) (f : EF (List D × Option Nat)) : Prop where
  ex : ∃ t, PI X tg iter t ∧ ∀ W F H E its o E' (R : It → Hp → Prop), FI X.K W E F H → f E = some ((its, o), E') → (∀ J W' F' H', LkR W W' o → FI X.K W' E' F' H' → Ex F F' → Wk X.K W' F' its J → R J H') → t W.σ H R
def unl (i : Nat) (E : En) : En := match E.sl[i]? with
  | some (.o true d) => { E with sl := E.sl.set i (.o false d) }
  | _ => E
def unlk (o : Option Nat) (E : En) : En := match o with
  | none => E
  | some i => unl i E
theorem unl_cases (i : Nat) (E : En) : (∃ d, E.sl[i]? = some (.o true d) ∧ unl i E = { E with sl := E.sl.set i (.o false d) }) ∨ ((∀ d, E.sl[i]? ≠ some (.o true d)) ∧ unl i E = E) := by
  unfold unl
  cases q : E.sl[i]? with
  | none => exact .inr ⟨fun _ h => (nomatch h), rfl⟩
  | some s =>
    cases s with
    | o l d =>
      cases l with
      | true => exact .inl ⟨d, rfl, rfl⟩
      | false => exact .inr ⟨fun _ h => (nomatch h), rfl⟩
    | _ => exact .inr ⟨fun _ h => (nomatch h), rfl⟩
section
variable {K : PySem.W.Frag} {F F' H H' : Hp} {W W' : FP} {E : En} {v : V}
theorem FI.lock (I : FI K W E F H) {i : Nat} {ds : List D} {p : Addr} (e : E.sl[i]? = some (.o false (.lst ds))) (z : W.σ[i]? = some (some (.ref p))) :
    FI K { W with ls := (i, p, .lst ds) :: W.ls } { E with sl := E.sl.set i (.o true (.lst ds)) } F H ∧ (∀ y ∈ W.ls, y.2.1 ≠ p) ∧ ∀ y ∈ W.hs, y.1 ≠ p := by
  have hi : i < E.sl.length := (List.getElem?_eq_some_iff.mp e).1
  have at_ : ∀ (j : Nat) (t : Sl), (E.sl.set i (.o true (.lst ds)))[j]? = some t → (i = j ∧ t = .o true (.lst ds)) ∨ (i ≠ j ∧ E.sl[j]? = some t) := fun j t e => by
    by_cases z : i = j
    · subst z
      rw [List.getElem?_set_self hi] at e; cases e; exact .inl ⟨rfl, rfl⟩
    · rw [List.getElem?_set_ne z] at e; exact .inr ⟨z, e⟩
  obtain ⟨p', z', ow, wr⟩ := I.sl i _ e
  rw [z] at z'; cases z'
  have nop : ∀ y ∈ W.ls, y.2.1 ≠ p := fun y hy q => (I.l2 y hy).2 i _ e (q ▸ z)
  have noh : ∀ y ∈ W.hs, y.1 ≠ p := fun y hy q => (I.ho y hy).2.2 i _ _ e (q ▸ z)
  refine ⟨⟨I.fF, I.FH, I.kp, I.nw, fun j t et => ?_, fun j k lj cj lk ck p ne ej ek => ?_, I.bo, I.lo, fun x hx => ⟨⟨(I.ho x hx).1.ct, (I.ho x hx).1.nf, (I.ho x hx).1.n0, (I.ho x hx).1.nb⟩, (I.ho x hx).2.1, fun j l c ej => ?_⟩, fun j d q ej zj => ?_, fun x hx => ?_, I.e0, by simpa using I.ln⟩, nop, noh⟩
  · rcases at_ j t et with ⟨rfl, rfl⟩ | ⟨_, et⟩
    · exact ⟨p, z, ⟨ow.ct, ow.nf, ow.n0, ow.nb⟩, fun h => nomatch h⟩
    · have h := I.sl j t et
      cases t with
      | no => exact trivial
      | v d => exact h
      | o l d =>
        obtain ⟨p, h1, h2, h3⟩ := h
        exact ⟨p, h1, ⟨h2.ct, h2.nf, h2.n0, h2.nb⟩, h3⟩
      | b d => exact h
      | bx => exact h
  · rcases at_ j _ ej with ⟨rfl, q⟩ | ⟨_, ej⟩
    · rcases at_ k _ ek with ⟨rfl, q'⟩ | ⟨_, ek⟩
      · exact absurd rfl ne
      · exact I.ds i k _ _ _ _ p ne e ek
    · rcases at_ k _ ek with ⟨rfl, q'⟩ | ⟨_, ek⟩
      · exact I.ds j i _ _ _ _ p ne ej e
      · exact I.ds j k _ _ _ _ p ne ej ek
  · rcases at_ j _ ej with ⟨rfl, q⟩ | ⟨_, ej⟩
    · exact (I.ho x hx).2.2 i _ _ e
    · exact (I.ho x hx).2.2 j _ _ ej
  · show List.lookup j ((i, p, D.lst ds) :: W.ls) = some (q, d)
    rcases at_ j _ ej with ⟨rfl, q'⟩ | ⟨ne, ej⟩
    · cases q'
      have zj : W.σ[i]? = some (some (.ref q)) := zj
      rw [z] at zj; cases zj
      simp
    · have ne' : (j == i) = false := by simpa using Ne.symm ne
      rw [List.lookup_cons, ne']
      exact I.l1 j d q ej zj
  · rcases List.mem_cons.mp hx with rfl | hx
    · refine ⟨⟨ow.ct, ow.nf, ow.n0, ow.nb⟩, fun j c ej zj => ?_⟩
      rcases at_ j _ ej with ⟨rfl, q'⟩ | ⟨ne, ej⟩
      · cases q'
      · exact I.ds i j _ _ _ _ p ne e ej z zj
    · refine ⟨⟨(I.l2 x hx).1.ct, (I.l2 x hx).1.nf, (I.l2 x hx).1.n0, (I.l2 x hx).1.nb⟩, fun j c ej => ?_⟩
      rcases at_ j _ ej with ⟨rfl, q'⟩ | ⟨ne, ej⟩
      · cases q'
      · exact (I.l2 x hx).2 j c ej
theorem FI.unlock {σ : L2.St} {o : Option Nat} (h : LkR W W' o) (I : FI K (W'.at σ) E F H) : FI K (W.at σ) (unlk o E) F H := by
  cases o with
  | none => cases h; exact I
  | some i =>
    obtain ⟨p, ds, rfl, nop, _⟩ := h
    have back : ∀ {E' : En}, (∀ (j : Nat) (t : Sl), E'.sl[j]? = some t → (i = j ∧ ∃ d, t = .o false d ∧ E.sl[j]? = some (.o true d)) ∨ (E.sl[j]? = some t ∧ (i = j → ∀ d, t ≠ .o true d))) → E'.bx = E.bx → E'.sl.length = E.sl.length → FI K (W.at σ) E' F H := by
      intro E' at_ eb el
      have get : ∀ (j : Nat) (l : Bool) (c : D), E'.sl[j]? = some (.o l c) → ∃ l', E.sl[j]? = some (.o l' c) := fun j l c e => by
        rcases at_ j _ e with ⟨_, d, q, e⟩ | ⟨e, _⟩
        · cases q; exact ⟨_, e⟩
        · exact ⟨_, e⟩
      refine ⟨I.fF, I.FH, I.kp, I.nw, fun j t et => ?_, fun j k lj cj lk ck p ne ej ek => ?_, fun q e => by rw [eb]; exact I.bo q e, I.lo, fun x hx => ⟨⟨(I.ho x hx).1.ct, (I.ho x hx).1.nf, (I.ho x hx).1.n0, (I.ho x hx).1.nb⟩, (I.ho x hx).2.1, fun j l c ej => ?_⟩, fun j d q ej zj => ?_, fun x hx => ⟨⟨(I.l2 x (List.mem_cons_of_mem _ hx)).1.ct, (I.l2 x (List.mem_cons_of_mem _ hx)).1.nf, (I.l2 x (List.mem_cons_of_mem _ hx)).1.n0, (I.l2 x (List.mem_cons_of_mem _ hx)).1.nb⟩, fun j c ej zj => ?_⟩, I.e0, I.ln.trans el.symm⟩
      · rcases at_ j t et with ⟨hij, d, rfl, e⟩ | ⟨e, _⟩
        · subst hij
          obtain ⟨p', z', ow, _⟩ := I.sl i _ e
          have lk := I.l1 i d p' e z'
          have lk : List.lookup i ((i, p, D.lst ds) :: W.ls) = some (p', d) := lk
          simp at lk
          obtain ⟨rfl, rfl⟩ := lk
          refine ⟨p, z', ⟨ow.ct, ow.nf, ow.n0, ow.nb⟩, fun _ od u q => ?_⟩
          obtain ⟨vs, q', _⟩ := ow.ct
          rw [q] at q'; cases q'
        · have h := I.sl j t e
          cases t with
          | no => exact trivial
          | v d => exact h
          | o l d =>
            obtain ⟨p, h1, h2, h3⟩ := h
            exact ⟨p, h1, ⟨h2.ct, h2.nf, h2.n0, h2.nb⟩, h3⟩
          | b d => exact h
          | bx => exact h
      · obtain ⟨_, e1⟩ := get j lj cj ej
        obtain ⟨_, e2⟩ := get k lk ck ek
        exact I.ds j k _ _ _ _ p ne e1 e2
      · obtain ⟨_, e1⟩ := get j l c ej
        exact (I.ho x hx).2.2 j _ _ e1
      · rcases at_ j _ ej with ⟨_, d', q', _⟩ | ⟨e, ne⟩
        · cases q'
        · have lk := I.l1 j d q e zj
          have lk : List.lookup j ((i, p, D.lst ds) :: W.ls) = some (q, d) := lk
          have ne' : (j == i) = false := by
            simp only [beq_eq_false_iff_ne]
            intro z; exact ne z.symm d rfl
          rw [List.lookup_cons, ne'] at lk
          exact lk
      · rcases at_ j _ ej with ⟨hij, d', q', e⟩ | ⟨e, ne⟩
        · subst hij
          have lk := I.l1 i d' x.2.1 e zj
          have lk : List.lookup i ((i, p, D.lst ds) :: W.ls) = some (x.2.1, d') := lk
          simp at lk
          exact nop x hx lk.1.symm
        · exact (I.l2 x (List.mem_cons_of_mem _ hx)).2 j c e zj
    rcases unl_cases i E with ⟨d, q, e⟩ | ⟨hs, e⟩
    · show FI K (W.at σ) (unl i E) F H
      rw [e]
      have hi : i < E.sl.length := (List.getElem?_eq_some_iff.mp q).1
      refine back (E' := { E with sl := E.sl.set i (.o false d) }) (fun j t e => ?_) rfl (by simp)
      by_cases z : i = j
      · subst z
        simp only [List.getElem?_set_self hi] at e
        cases e
        exact .inl ⟨rfl, d, rfl, q⟩
      · simp only [List.getElem?_set_ne z] at e
        exact .inr ⟨e, fun y => absurd y z⟩
    · show FI K (W.at σ) (unl i E) F H
      rw [e]
      exact back (fun j t e => .inr ⟨e, fun z d y => by subst z y; exact hs d e⟩) rfl rfl
theorem LkR.rr {σ : L2.St} {o : Option Nat} {r : R} (h : LkR W W' o) (I : FI K (W'.at σ) E F H) (q : RR K (W'.at σ) E F H v r) : RR K (W.at σ) (unlk o E) F H v r := by
  cases r with
  | v d => exact q
  | f d =>
    obtain ⟨p, e, ow, wr, no⟩ := q
    cases o with
    | none => cases h; exact ⟨p, e, ow, wr, no⟩
    | some i =>
      obtain ⟨p', ds, rfl, nop⟩ := h
      refine ⟨p, e, ⟨ow.ct, ow.nf, ow.n0, ow.nb⟩, wr, fun j l c ej => ?_, no.2.1, fun y hy => no.2.2 y (List.mem_cons_of_mem _ hy)⟩
      have : ∃ l', E.sl[j]? = some (.o l' c) := by
        have ej : (unl i E).sl[j]? = some (.o l c) := ej
        rcases unl_cases i E with ⟨d, q, e⟩ | ⟨hs, e⟩
        · rw [e] at ej
          have hi : i < E.sl.length := (List.getElem?_eq_some_iff.mp q).1
          by_cases z : i = j
          · subst z
            simp only [List.getElem?_set_self hi] at ej
            cases ej; exact ⟨_, q⟩
          · simp only [List.getElem?_set_ne z] at ej
            exact ⟨_, ej⟩
        · rw [e] at ej
          exact ⟨_, ej⟩
      obtain ⟨_, e1⟩ := this
      exact no.1 j _ c e1
theorem LkR.at {σ : L2.St} {o : Option Nat} (h : LkR W W' o) : LkR (W.at σ) (W'.at σ) o := by
  cases o with
  | none => cases h; rfl
  | some i =>
    obtain ⟨p, d, rfl, no⟩ := h
    exact ⟨p, d, rfl, no⟩
end

/-! ### for -/
def bLoop (tg : D → EF Unit) (fb : EF Fl) : List D → En → Option (Fl × En)
  | [], E => some (.nx, E)
  | d :: ds, E => (tg d E).bind fun e => (fb e.2).bind fun y => match y.1 with
    | .nx => bLoop tg fb ds y.2
    | .ct => bLoop tg fb ds y.2
    | .bk => some (.nx, y.2)
    | .rt r => some (.rt r, y.2)
def bFor (fi : EF (List D × Option Nat)) (tg : D → EF Unit) (fb : EF Fl) : EF Fl := fun E => (fi E).bind fun x => (bLoop tg fb x.1.1 x.2).bind fun y => some (y.1, unlk x.1.2 y.2)
section
variable {X : Cx} {tg iter : Expr} {body : List Stmt} {pos : Pos}
theorem drop_cons {α : Type} {l : List α} {i : Nat} (h : i < l.length) : ∃ d, l[i]? = some d ∧ l.drop i = d :: l.drop (i + 1) :=
  ⟨l[i], List.getElem?_eq_getElem h, List.drop_eq_getElem_cons h⟩
theorem ds_for {fi : EF (List D × Option Nat)} {ft : D → EF Unit} {fb : EF Fl} (hp : PassesOwn (model X.prog X.w) X.A X.env X.xe) (hc : X.calm = true) {wr : List Nat} (hi : DI X tg iter fi) (hg : DG X tg ft wr) (hb : DB X body fb)
    (hs : ∀ x, foldedSetIterable iter X.env x = pure x := by intro _; rfl) : DS X (.For tg iter body [] pos) (bFor fi ft fb) := by
  obtain ⟨ti, qi, hi⟩ := hi.ex
  obtain ⟨tt, qt, hg⟩ := hg.ex
  obtain ⟨tb, qb, hb⟩ := hb.ex
  refine ⟨_, ps_for hp hc qi qt qb hs, fun W F H E r E' D I hf k => ?_⟩
  unfold bFor at hf
  obtain ⟨⟨⟨its, o⟩, E1⟩, h1, hf⟩ := bsome hf
  obtain ⟨⟨fl, E2⟩, h2, hf⟩ := bsome hf
  cases hf
  refine hi W F H E its o E1 _ I h1 fun J W' F1 H1 lk I1 e1 wk => ?_
  have hσ : W'.σ = W.σ := by
    cases o with
    | none => cases lk; rfl
    | some i => obtain ⟨p, d, rfl, _⟩ := lk; rfl
  -- what follows
  have fin : Post X.K W' F1 D E2 fl := by
    cases fl with
    | nx => exact fun σ' F' H' I' x => k σ' F' H' (FI.unlock lk I') (e1.trans x)
    | rt r => exact fun v σ' F' H' I' x rr => k v σ' F' H' (FI.unlock lk I') (e1.trans x) (LkR.rr lk I' rr)
    | bk => exact fun σ' F' H' I' x => k σ' F' H' (FI.unlock lk I') (e1.trans x)
    | ct => exact fun σ' F' H' I' x => k σ' F' H' (FI.unlock lk I') (e1.trans x)
  refine ⟨fun i m σ H => m = its.length - i ∧ i ≤ its.length ∧ ∃ E F, FI X.K (W'.at σ) E F H ∧ Ex F1 F ∧ bLoop ft fb (its.drop i) E = some (fl, E2), ⟨its.length, by simp, Nat.zero_le _, E1, F1, by rw [← hσ]; exact I1, Ex.refl F1, by simpa using h2⟩, ?_⟩
  rintro i m σ H2 ⟨rfl, hil, E3, F3, I3, e3, hl⟩
  obtain ⟨stop, go⟩ := wk (W'.at σ) E3 F3 H2 ⟨rfl, rfl, rfl, rfl⟩ I3 e3
  by_cases hlt : i < its.length
  · obtain ⟨d, hd, hdr⟩ := drop_cons hlt
    rw [hdr] at hl
    unfold bLoop at hl
    obtain ⟨⟨x, E4⟩, g1, hl⟩ := bsome hl
    obtain ⟨⟨y, E5⟩, g2, hl⟩ := bsome hl
    obtain ⟨gi, gy⟩ := go i d hd
    refine .inr ⟨gi, fun σ' H' => ∃ E F, FI X.K (W'.at σ') E F H' ∧ Ex F1 F ∧ bLoop ft fb (its.drop (i + 1)) E = some (fl, E2), fun σ' H' ⟨E, F, a, b, c⟩ => ⟨its.length - (i + 1), by omega, rfl, hlt, E, F, a, b, c⟩, fun x H3 hy => ?_⟩
    obtain ⟨F4, I4, e4, rx⟩ := gy x H3 hy
    refine hg (W'.at σ) F4 H3 E3 x d _ _ _ I4 rx g1 fun σ2 _ I5 => ?_
    refine hb (W'.at σ2) F4 H3 E4 y E5 _ I5 g2 ?_
    have e5 : Ex F1 F4 := e3.trans e4
    cases y with
    | nx => exact fun σ' F' H' I' x => ⟨_, _, I', e5.trans x, hl⟩
    | ct => exact fun σ' F' H' I' x => ⟨_, _, I', e5.trans x, hl⟩
    | bk => cases hl; exact fun σ' F' H' I' x => fin σ' F' H' I' (e5.trans x)
    | rt r => cases hl; exact fun v σ' F' H' I' x rr => fin v σ' F' H' I' (e5.trans x) rr
  · have e : i = its.length := by omega
    subst e
    rw [List.drop_length] at hl
    cases hl
    exact .inl ⟨stop, fin σ F3 H2 I3 e3⟩

/-! ### while -/
def bWh (t : EF Bool) (fb : EF Fl) : Nat → En → Option (Fl × En)
  | 0, _ => none
  | n + 1, E => (t E).bind fun x => if x.1 = true then (fb x.2).bind fun y => match y.1 with
    | .nx => bWh t fb n y.2
    | .ct => bWh t fb n y.2
    | .bk => some (.nx, y.2)
    | .rt r => some (.rt r, y.2) else some (.nx, x.2)
theorem bWh_mono {t : EF Bool} {fb : EF Fl} : ∀ {n m : Nat} {E : En} {r : Fl × En}, bWh t fb n E = some r → n ≤ m → bWh t fb m E = some r
  | 0, _, _, _, h, _ => by cases h
  | n + 1, 0, _, _, _, h => by cases h
  | n + 1, m + 1, E, r, h, hm => by
    unfold bWh at h ⊢
    obtain ⟨x, h1, h⟩ := bsome h
    rw [h1]
    show (if x.1 = true then _ else _) = _
    by_cases hx : x.1 = true
    · rw [if_pos hx] at h ⊢
      obtain ⟨y, h2, h⟩ := bsome h
      rw [h2]
      show (match y.1 with | .nx => bWh t fb m y.2 | .ct => bWh t fb m y.2 | .bk => some (.nx, y.2) | .rt r => some (.rt r, y.2)) = some r
      obtain ⟨y1, y2⟩ := y
      cases y1 with
      | nx => exact bWh_mono h (Nat.le_of_succ_le_succ hm)
      | ct => exact bWh_mono h (Nat.le_of_succ_le_succ hm)
      | bk => exact h
      | rt v => exact h
    · rw [if_neg hx] at h ⊢
      exact h
open Classical in
/-- as many turns as it takes -/
noncomputable def bWhile (t : EF Bool) (fb : EF Fl) : EF Fl := fun E => if h : ∃ n, (bWh t fb n E).isSome = true then bWh t fb h.choose E else none
theorem bWhile_of {t : EF Bool} {fb : EF Fl} {n : Nat} {E : En} {r : Fl × En} (h : bWh t fb n E = some r) : bWhile t fb E = some r := by
  unfold bWhile
  have hx : ∃ n, (bWh t fb n E).isSome = true := ⟨n, by rw [h]; rfl⟩
  rw [dif_pos hx]
  have hs := hx.choose_spec
  obtain ⟨q, hq⟩ := Option.isSome_iff_exists.mp hs
  rw [hq]
  rcases Nat.le_total n hx.choose with l | l
  · rw [← hq]; exact bWh_mono h l
  · rw [← h, bWh_mono hq l]
theorem bWhile_ex {t : EF Bool} {fb : EF Fl} {E : En} {r : Fl × En} (h : bWhile t fb E = some r) : ∃ n, bWh t fb n E = some r := by
  unfold bWhile at h
  by_cases hx : ∃ n, (bWh t fb n E).isSome = true
  · rw [dif_pos hx] at h; exact ⟨_, h⟩
  · rw [dif_neg hx] at h; cases h
theorem ds_while {c : Expr} {t : EF Bool} {fb : EF Fl} (hp : PassesOwn (model X.prog X.w) X.A X.env X.xe) (hc : DT X c t) (hb : DB X body fb) : DS X (.While c body [] pos) (bWhile t fb) := by
  obtain ⟨tc, qc, hc⟩ := hc.ex
  obtain ⟨tb, qb, hb⟩ := hb.ex
  refine ⟨_, ps_while hp qc qb, fun W F H E r E' D I hf k => ?_⟩
  obtain ⟨n, hf⟩ := bWhile_ex hf
  refine ⟨fun m σ H => ∃ E1 F1, FI X.K (W.at σ) E1 F1 H ∧ Ex F F1 ∧ bWh t fb m E1 = some (r, E'), ⟨n, E, F, I, Ex.refl F, hf⟩, ?_⟩
  rintro m σ H1 ⟨E1, F1, I1, e1, hm⟩
  cases m with
  | zero => cases hm
  | succ m =>
    unfold bWh at hm
    obtain ⟨⟨x, E2⟩, h1, hm⟩ := bsome hm
    refine hc (W.at σ) F1 H1 E1 x E2 _ I1 h1 fun F2 H2 I2 e2 => ?_
    cases x with
    | true =>
      obtain ⟨⟨y, E3⟩, h2, hm⟩ := bsome hm
      show ∃ N : L2.St → Hp → Prop, _
      refine ⟨fun σ' H' => ∃ E1 F1, FI X.K (W.at σ') E1 F1 H' ∧ Ex F F1 ∧ bWh t fb m E1 = some (r, E'), fun σ' H' h => ⟨m, Nat.lt_succ_self _, h⟩, ?_⟩
      refine hb (W.at σ) F2 H2 E2 y E3 _ I2 h2 ?_
      have e3 : Ex F F2 := e1.trans e2
      cases y with
      | nx => exact fun σ' F' H' I' x => ⟨_, _, I', e3.trans x, hm⟩
      | ct => exact fun σ' F' H' I' x => ⟨_, _, I', e3.trans x, hm⟩
      | bk => cases hm; exact fun σ' F' H' I' x => k σ' F' H' I' (e3.trans x)
      | rt r => cases hm; exact fun v σ' F' H' I' x rr => k v σ' F' H' I' (e3.trans x) rr
    | false =>
      cases hm
      exact k σ F2 H2 I2 (e1.trans e2)
end
end PV

namespace PV
open PySem L2

/-! ### what is walked: a value, a list of a slot -/
def signs (x : Str) : List D := x.cps.toList.map fun c => D.str ⟨#[c]⟩
theorem SOk.sign {x : Str} (h : SOk x) {i c : Nat} (e : x.cps[i]? = some c) : SOk ⟨#[c]⟩ := by
  refine ⟨by show (1 : Nat) ≤ sizeLine; decide, ?_⟩
  have hc := h.2
  rw [Array.all_eq_true] at hc
  obtain ⟨hi, rfl⟩ := Array.getElem?_eq_some_iff.mp e
  have := hc i hi
  simpa using this
def iAny (K : PySem.W.Frag) (tl : TE) : TI := fun σ H R => tl σ H fun x H1 => (∃ a, x = .ref a ∧ (∃ xs, SqL K H1 a xs) ∧ R (Itl K a) H1) ∨ (∃ a, x = .ref a ∧ (∃ xs, SqT K H1 a xs) ∧ R (Itt K a) H1) ∨ ∃ z, x = .str z ∧ R (Its z) H1
section
variable {X : Cx} {tg l : Expr} {tl : TE}
theorem pi_any (hl : PE X l tl) : PI X tg l (iAny X.K tl) := by
  refine ⟨fun pins s σ H R I h => ?_⟩
  refine thn (hl.run pins s σ H _ I h) fun v s1 ⟨x, H1, I1, r1, q1⟩ => ?_
  rcases q1 with ⟨a, e, ⟨xs, hq⟩, q⟩ | ⟨a, e, ⟨xs, hq⟩, q⟩ | ⟨z, e, q⟩
  · subst e
    cases r1
    obtain ⟨its, rv, p, hz⟩ := I1.list hq
    refine wpAny_pyIter_list p.isList ?_
    refine ⟨s1.heap.objs.size, [s1.heap.objs.size], _, _, H1, rfl, I1.kept (t' := s1.toks) fun b o e => Heap.get?_push_of_some _ e, turn_list a _, ⟨_, Heap.get?_push_size _ rfl, rfl, rfl⟩, fun b hb => ?_, q⟩
    have e : b = s1.heap.objs.size := by simpa using hb
    subst e
    exact I1.fpOk (Nat.le_refl _) (I1.hok.fresh (Nat.le_refl _))
  · subst e
    cases r1
    obtain ⟨its, rv, p, hz⟩ := I1.tuple hq
    refine wpAny_pyIter_tuple (show s1.heap.IsTuple a its.toArray from p) ?_
    refine ⟨s1.heap.objs.size, [s1.heap.objs.size], _, _, H1, rfl, I1.kept (t' := s1.toks) fun b o e => Heap.get?_push_of_some _ e, turn_tuple a _, ⟨_, Heap.get?_push_size _ rfl, rfl, rfl⟩, fun b hb => ?_, q⟩
    have e : b = s1.heap.objs.size := by simpa using hb
    subst e
    exact I1.fpOk (Nat.le_refl _) (I1.hok.fresh (Nat.le_refl _))
  · subst e
    obtain ⟨t, rfl⟩ := r1
    cases ha : z.cps.all (· < 128)
    · exact wpAny_pyIter_wide ha (pi_one (tk := s1.toks) I1 _ (turn_str _ z t "str_iterator" (.inr rfl)) ⟨_, Heap.get?_push_size _ rfl, rfl, rfl⟩ q)
    · exact wpAny_pyIter_ascii ha (pi_one (tk := s1.toks) I1 _ (turn_str _ z t "str_ascii_iterator" (.inl rfl)) ⟨_, Heap.get?_push_size _ rfl, rfl, rfl⟩ q)
end
section
variable {K : PySem.W.Frag} {F F' H H' : Hp} {W : FP} {E : En} {v : V}
/-- a list that stands as it is -/
theorem wk_list {a : Addr} {ds : List D} (h : ∀ W2 E2 F2 H2, SameW W2 W → FI K W2 E2 F2 H2 → Ex F F2 → ∃ vs, SqL K H2 a vs ∧ RpA K F2 vs ds) : Wk K W F ds (Itl K a) := by
  intro W2 E2 F2 H2 q1 I e
  obtain ⟨vs, s, r⟩ := h W2 E2 F2 H2 q1 I e
  refine ⟨⟨vs, s, by rw [r.length]; exact Nat.le_refl _⟩, fun i d hd => ?_⟩
  obtain ⟨u, h1, h2⟩ := r.get hd
  exact ⟨⟨vs, u, s, h1⟩, fun x H3 ⟨e3, hy⟩ => ⟨F2, e3 ▸ I, Ex.refl F2, by
    have := hy vs s
    rw [h1] at this; cases this; exact h2⟩⟩
theorem wk_lent {p : Addr} {vs : List V} {ds : List D} (hv : H p = some (.lst vs)) (r : RpA K F vs ds) (n0 : W.H0 p ≠ none) (nb : NB W p) (I : FI K W E F H) : Wk K W F ds (Itl K p) := by
  refine wk_list fun W2 E2 F2 H2 q I2 e2 => ⟨vs, .inl (.inl ?_), r.mono e2⟩
  cases h0 : W.H0 p with
  | none => exact absurd h0 n0
  | some o =>
    have nl : ∀ x ∈ W.lk, x.1 ≠ p := fun x hx z => by
      have := (I.lo x hx).1
      rw [z, hv] at this; cases this
    have e1 := I.kp p o h0 nb nl
    rw [hv] at e1; cases e1
    exact I2.kp p _ (by rw [q.H0]; exact h0) (fun y hy => nb y (by rw [← q.ob]; exact hy)) (by rw [q.lk]; exact nl)
theorem wk_tup {a : Addr} {ds : List D} {vs : List V} (s : SqT K F a vs) (r : RpA K F vs ds) : Wk K W F ds (Itt K a) := by
  intro W2 E2 F2 H2 q1 I e
  have s2 : SqT K H2 a vs := ex_t I.FH (ex_t e s)
  have r2 := r.mono e
  refine ⟨⟨vs, s2, by rw [r.length]; exact Nat.le_refl _⟩, fun i d hd => ?_⟩
  obtain ⟨u, h1, h2⟩ := r2.get hd
  exact ⟨⟨vs, u, s2, h1⟩, fun x H3 ⟨e3, hy⟩ => ⟨F2, e3 ▸ I, Ex.refl F2, by
    have := hy vs s2
    rw [h1] at this; cases this; exact h2⟩⟩
theorem wk_str {x : Str} (hx : SOk x) : Wk K W F (signs x) (Its x) := by
  intro W2 E2 F2 H2 q1 I e
  refine ⟨by show x.cps.size ≤ _; unfold signs; simp, fun i d hd => ?_⟩
  unfold signs at hd
  rw [List.getElem?_map] at hd
  obtain ⟨c, hc, rfl⟩ := Option.map_eq_some_iff.mp hd
  have hc : x.cps[i]? = some c := by simpa using hc
  have hi := (Array.getElem?_eq_some_iff.mp hc).1
  refine ⟨hi, fun y H3 ⟨e3, c', hc', hy⟩ => ⟨F2, e3 ▸ I, Ex.refl F2, ?_⟩⟩
  rw [hc] at hc'; cases hc'
  rw [hy]
  exact .str _ (hx.sign hc)
theorem wk_rng {lo : Int} {n : Nat} : Wk K W F ((List.range n).map fun i => D.int (lo + (i : Nat))) (Itr lo n) := by
  intro W2 E2 F2 H2 q1 I e
  refine ⟨by show n ≤ _; simp, fun i d hd => ?_⟩
  rw [List.getElem?_map] at hd
  obtain ⟨j, hj, rfl⟩ := Option.map_eq_some_iff.mp hd
  obtain ⟨hi, rfl⟩ := List.getElem?_eq_some_iff.mp hj
  simp only [List.getElem_range] at *
  exact ⟨show i < n by simpa using hi, fun y H3 ⟨e3, hy⟩ => ⟨F2, e3 ▸ I, Ex.refl F2, by rw [hy]; exact .int _⟩⟩
theorem lookup_mem {α : Type} {i : Nat} {x : α} : ∀ {l : List (Nat × α)}, l.lookup i = some x → (i, x) ∈ l
  | [], h => by cases h
  | (j, y) :: l, h => by
    rw [List.lookup_cons] at h
    cases hb : i == j with
    | true =>
      rw [hb] at h
      have : i = j := by simpa using hb
      subst this
      cases h; exact List.mem_cons_self
    | false =>
      rw [hb] at h
      exact List.mem_cons_of_mem _ (lookup_mem h)
end
/-- the items of a value -/
def items : D → Option (List D)
  | .lst ds => some ds
  | .tup ds => some ds
  | .str x => some (signs x)
  | _ => none
def iVal (f : EF P) : EF (List D × Option Nat) := fun E => (f E).bind fun p => match p.1 with
  | .v d => (items d).bind fun ds => some ((ds, none), p.2)
  | .s i => match p.2.sl[i]? with
    | some (.o false (.lst ds)) => some ((ds, some i), { p.2 with sl := p.2.sl.set i (.o true (.lst ds)) })
    | some (.o true (.lst ds)) => some ((ds, none), p.2)
    | some (.b (.lst ds)) => some ((ds, none), p.2)
    | some (.v d) => (items d).bind fun ds => some ((ds, none), p.2)
    | _ => none
section
variable {X : Cx} {tg iter : Expr} {pos p : Pos} {a b : Expr}
theorem di_val {f : EF P} (h : DP X iter f) : DI X tg iter (iVal f) := by
  obtain ⟨t, hp, h⟩ := h.ex
  refine ⟨_, pi_any hp, fun W F H E its o E' R I hf k => ?_⟩
  unfold iVal at hf
  obtain ⟨⟨q, E1⟩, h1, hf⟩ := bsome hf
  refine h W F H E q E1 _ I h1 fun v F1 H1 I1 e1 r1 => ?_
  -- a value
  have val : ∀ {d : D}, Rp X.K F1 v d → ((items d).bind fun ds => some ((ds, (none : Option Nat)), E1)) = some ((its, o), E') → (∃ a, v = .ref a ∧ (∃ xs, SqL X.K H1 a xs) ∧ R (Itl X.K a) H1) ∨ (∃ a, v = .ref a ∧ (∃ xs, SqT X.K H1 a xs) ∧ R (Itt X.K a) H1) ∨ ∃ z, v = .str z ∧ R (Its z) H1 := by
    intro d r hf
    obtain ⟨ds, h2, hf⟩ := bsome hf
    cases hf
    cases r with
    | lst s r =>
      cases h2
      exact .inl ⟨_, rfl, ⟨_, .inl (.inl (I1.FH _ _ s))⟩, k _ W F1 H1 rfl I1 e1 (wk_list fun W2 E2 F2 H2 _ I2 e2 => ⟨_, .inl (.inl (I2.FH _ _ (e2 _ _ s))), r.mono e2⟩)⟩
    | tup s r =>
      cases h2
      exact .inr (.inl ⟨_, rfl, ⟨_, ex_t I1.FH s⟩, k _ W F1 H1 rfl I1 e1 (wk_tup s r)⟩)
    | str x hx =>
      cases h2
      exact .inr (.inr ⟨_, rfl, k _ W F1 H1 rfl I1 e1 (wk_str hx)⟩)
    | _ => cases h2
  cases q with
  | v d => exact val r1 hf
  | s i =>
    have r1 : W.σ[i]? = some (some v) := r1
    simp only at hf
    cases q : E1.sl[i]? with
    | none => simp [q] at hf
    | some s =>
      have sk := I1.sl i s q
      simp only [q] at hf
      cases s with
      | v d =>
        obtain ⟨u, e2, r⟩ := sk
        rw [r1] at e2; cases e2
        exact val r hf
      | o l d =>
        cases d with
        | lst ds =>
          obtain ⟨p, e2, ow, wr⟩ := sk
          rw [r1] at e2; cases e2
          obtain ⟨vs, hv, _⟩ := id ow.ct
          cases l with
          | false =>
            cases hf
            obtain ⟨I2, no⟩ := I1.lock q r1
            exact .inl ⟨p, rfl, ⟨_, .inl (.inl hv)⟩, k _ _ F1 H1 ⟨p, its, rfl, no⟩ I2 e1 (wk_list fun W2 E2 F2 H2 q1 I2 e2 => by
              obtain ⟨ow2, _⟩ := I2.l2 (i, p, .lst its) (by rw [q1.ls]; exact List.mem_cons_self)
              obtain ⟨vs2, hv2, r2, _⟩ := ow2.ct
              exact ⟨vs2, .inl (.inl hv2), r2⟩)⟩
          | true =>
            cases hf
            have lm := lookup_mem (I1.l1 i _ p q r1)
            exact .inl ⟨p, rfl, ⟨_, .inl (.inl hv)⟩, k _ W F1 H1 rfl I1 e1 (wk_list fun W2 E2 F2 H2 q1 I2 e2 => by
              obtain ⟨ow2, _⟩ := I2.l2 (i, p, .lst its) (by rw [q1.ls]; exact lm)
              obtain ⟨vs2, hv2, r2, _⟩ := ow2.ct
              exact ⟨vs2, .inl (.inl hv2), r2⟩)⟩
        | _ => cases l <;> simp at hf
      | b d =>
        cases d with
        | lst ds =>
          cases hf
          obtain ⟨p, e2, ct, nf, n0, nb⟩ := sk
          rw [r1] at e2; cases e2
          obtain ⟨vs, hv, r, _⟩ := id ct
          exact .inl ⟨p, rfl, ⟨_, .inl (.inl hv)⟩, k _ W F1 H1 rfl I1 e1 (wk_lent hv r n0 nb I1)⟩
        | _ => simp at hf
      | _ => simp at hf
end
end PV

namespace PV
open PySem L2
section
variable {X : Cx} {tg iter : Expr} {pos p : Pos} {a b : Expr}
/-! ### ranges -/
def rangeD (lo : Int) (n : Nat) : List D := (List.range n).map fun i => D.int (lo + (i : Nat))
def iRg1 (f : EF (List P)) : EF (List D × Option Nat) := fun E => (f E).bind fun ps => (getAll ps.2 ps.1).bind fun ds => match ds with
  | [.int j] => if -(2 ^ 62) ≤ j ∧ j ≤ sizeLine then some ((rangeD 0 j.toNat, none), ps.2) else none
  | _ => none
def iRg2 (f : EF (List P)) : EF (List D × Option Nat) := fun E => (f E).bind fun ps => (getAll ps.2 ps.1).bind fun ds => match ds with
  | [.int i, .int j] => if (-(2 ^ 62) ≤ i ∧ i < 2 ^ 62 ∧ -(2 ^ 62) ≤ j ∧ j < 2 ^ 62) ∧ j - i ≤ sizeLine then some ((rangeD i (j - i).toNat, none), ps.2) else none
  | _ => none
theorem vals1 {K : PySem.W.Frag} {F H : Hp} {vs : List V} {d : D} (h : Paired (VR K F H) vs [d]) : ∃ v, vs = [v] ∧ VR K F H v d := by
  cases h with
  | cons r t => cases t; exact ⟨_, rfl, r⟩
theorem vals2 {K : PySem.W.Frag} {F H : Hp} {vs : List V} {d e : D} (h : Paired (VR K F H) vs [d, e]) : ∃ v u, vs = [v, u] ∧ VR K F H v d ∧ VR K F H u e := by
  cases h with
  | cons r t => obtain ⟨u, rfl, q⟩ := vals1 t; exact ⟨_, u, rfl, r, q⟩
theorem vals3 {K : PySem.W.Frag} {F H : Hp} {vs : List V} {d e f : D} (h : Paired (VR K F H) vs [d, e, f]) : ∃ v u w, vs = [v, u, w] ∧ VR K F H v d ∧ VR K F H u e ∧ VR K F H w f := by
  cases h with
  | cons r t => obtain ⟨u, w, rfl, q⟩ := vals2 t; exact ⟨_, u, w, rfl, r, q⟩
theorem di_rg1 {f : EF (List P)} (hg : Gl X "range") (hm : X.mg "range" = none) (ha : DA X [a] f) (hs : starEach [a] X.env = [(false, eval a X.env)] := by rfl) : DI X tg (.Call (.Name "range" p) [a] [] pos) (iRg1 f) := by
  obtain ⟨t, q, h⟩ := ha.ex
  refine ⟨_, pi_range1 hg hm q hs, fun W F H E its o E' R I hf k => ?_⟩
  unfold iRg1 at hf
  obtain ⟨⟨ps, E1⟩, h1, hf⟩ := bsome hf
  obtain ⟨ds, h2, hf⟩ := bsome hf
  refine h W F H E ps E1 _ I h1 fun vs F1 H1 I1 e1 r1 => ?_
  match ds, hf with
  | [.int j], hf =>
    obtain ⟨hj, hf⟩ := Option.ite_none_right_eq_some.mp hf
    cases hf
    obtain ⟨v, rfl, r⟩ := vals1 (I1.vrs r1 h2)
    rw [r.int]
    have hs : (sizeLine : Nat) = 16777216 := sizeLine_eq
    exact ⟨j, rfl, hj.1, by omega, k _ W F1 H1 rfl I1 e1 (wk_rng (lo := 0) (n := j.toNat))⟩
theorem di_rg2 {f : EF (List P)} (hg : Gl X "range") (hm : X.mg "range" = none) (ha : DA X [a, b] f) (hs : starEach [a, b] X.env = [(false, eval a X.env), (false, eval b X.env)] := by rfl) (hs2 : starEach [b] X.env = [(false, eval b X.env)] := by rfl) : DI X tg (.Call (.Name "range" p) [a, b] [] pos) (iRg2 f) := by
  obtain ⟨t, q, h⟩ := ha.ex
  refine ⟨_, pi_range2 hg hm q hs hs2, fun W F H E its o E' R I hf k => ?_⟩
  unfold iRg2 at hf
  obtain ⟨⟨ps, E1⟩, h1, hf⟩ := bsome hf
  obtain ⟨ds, h2, hf⟩ := bsome hf
  refine h W F H E ps E1 _ I h1 fun vs F1 H1 I1 e1 r1 => ?_
  match ds, hf with
  | [.int i, .int j], hf =>
    obtain ⟨hj, hf⟩ := Option.ite_none_right_eq_some.mp hf
    cases hf
    obtain ⟨v, u, rfl, r, r'⟩ := vals2 (I1.vrs r1 h2)
    rw [r.int, r'.int]
    exact ⟨i, j, rfl, hj.1, k _ W F1 H1 rfl I1 e1 (wk_rng (lo := i) (n := (j - i).toNat))⟩

/-! ### list comprehensions -/
/-- the readings as they follow from the data alone -/
def tD (K : PySem.W.Frag) (f : EF D) : TE := fun σ H Q => ∃ W F E r E', W.σ = σ ∧ FI K W E F H ∧ f E = some (r, E') ∧ ∀ v F' H', FI K W E' F' H' → Ex F F' → Rp K F' v r → Q v H'
theorem DQ.pe {e : Expr} {f : EF D} (h : DQ X e f) : PE X e (tD X.K f) := by
  obtain ⟨t, p, h⟩ := h.ex
  refine ⟨fun pins s σ H Q I hq => ?_⟩
  obtain ⟨W, F, E, r, E', rfl, I', hf, k⟩ := hq
  exact p.run pins s _ H Q I (h W F H E r E' Q I' hf k)
structure DTs (X : Cx) (es : List Expr) (f : EF Bool) : Prop where
  ex : ∃ t, PTs X es t ∧ ∀ W F H E r E' (Q : Bool → Hp → Prop), FI X.K W E F H → f E = some (r, E') → (∀ F' H', FI X.K W E' F' H' → Ex F F' → Q r H') → t W.σ H Q
def mYes : EF Bool := fun E => some (true, E)
theorem dts_nil : DTs X [] mYes := ⟨_, pts_nil, fun W F H E r E' Q I hf k => by cases hf; exact k F H I (Ex.refl F)⟩
theorem dts_one {c : Expr} {f : EF Bool} (h : DT X c f) : DTs X [c] f := by
  obtain ⟨t, p, h⟩ := h.ex
  exact ⟨t, pts_one p, h⟩
def tTs (K : PySem.W.Frag) (f : EF Bool) : TT := fun σ H Q => ∃ W F E r E', W.σ = σ ∧ FI K W E F H ∧ f E = some (r, E') ∧ ∀ F' H', FI K W E' F' H' → Ex F F' → Q r H'
theorem DTs.pts {es : List Expr} {f : EF Bool} (h : DTs X es f) : PTs X es (tTs X.K f) := by
  obtain ⟨t, p, h⟩ := h.ex
  refine ⟨fun pins s σ H Q I hq => ?_⟩
  obtain ⟨W, F, E, r, E', rfl, I', hf, k⟩ := hq
  exact p.run pins s _ H Q I (h W F H E r E' Q I' hf k)
def tGd (K : PySem.W.Frag) (f : D → EF Unit) (wr : List Nat) : TG := fun v σ H Q => ∃ W F E d r E', W.σ = σ ∧ FI K W E F H ∧ Rp K F v d ∧ f d E = some (r, E') ∧ ∀ σ', Only wr W.σ σ' → FI K (W.at σ') E' F H → Q σ' H
theorem DG.pg {f : D → EF Unit} {wr : List Nat} (h : DG X tg f wr) : PG X tg (tGd X.K f wr) := by
  obtain ⟨t, p, h⟩ := h.ex
  refine ⟨fun pins s σ H v u Q I r hq => ?_⟩
  obtain ⟨W, F, E, d, x, E', rfl, I', hv, hf, k⟩ := hq
  exact p.run pins s _ H v u Q I r (h W F H E v d x E' Q I' hv hf k)
def tId (K : PySem.W.Frag) (f : EF (List D × Option Nat)) : TI := fun σ H R => ∃ W F E its o E', W.σ = σ ∧ FI K W E F H ∧ f E = some ((its, o), E') ∧ ∀ J W' F' H', LkR W W' o → FI K W' E' F' H' → Ex F F' → Wk K W' F' its J → R J H'
theorem DI.pi {f : EF (List D × Option Nat)} (h : DI X tg iter f) : PI X tg iter (tId X.K f) := by
  obtain ⟨t, p, h⟩ := h.ex
  refine ⟨fun pins s σ H R I hq => ?_⟩
  obtain ⟨W, F, E, its, o, E', rfl, I', hf, k⟩ := hq
  exact p.run pins s _ H R I (h W F H E its o E' R I' hf k)

/-- the block's own names are not known -/
def wE (vs : List Nat) (E : En) : En := { E with sl := vs.foldr (fun i l => l.set i .no) E.sl }
/-- .. and stand behind it as they stood ahead -/
def backS (E0 : En) : List Nat → List Sl → List Sl
  | [], l => l
  | i :: vs, l => match E0.sl[i]? with
    | some (.v d) => (backS E0 vs l).set i (.v d)
    | _ => backS E0 vs l
def back (vs : List Nat) (E0 E : En) : En := { E with sl := backS E0 vs E.sl }
section
variable {K : PySem.W.Frag} {F F' H H' : Hp} {W W' : FP} {E : En} {v : V}
theorem FI.write {p : Addr} {o : HO} (I : FI K W E F H) (nf : F p = none) (n0 : W.H0 p = none) (nb : NB W p) (no : NO W E p) (nl : ∀ x ∈ W.lk, x.1 ≠ p) : FI K W E F (upd H p o) := by
  have un : ∀ {a : Addr}, a ≠ p → upd H p o a = H a := fun z => upd_ne z
  have ow : ∀ {a : Addr} {d : D}, a ≠ p → Own K W F H a d → Own K W F (upd H p o) a d := fun z h => ⟨h.ct.mono (Ex.refl F) (un z), h.nf, h.n0, h.nb⟩
  have wr : ∀ {a : Addr}, a ≠ p → Wr H a → Wr (upd H p o) a := fun z h od u e => h od u ((un z).symm.trans e)
  refine ⟨I.fF, fun a u e => ?_, fun a u e n k => ?_, I.nw, fun j s e => ?_, I.ds, fun q e => ?_, fun x hx => ⟨(un (nl x hx)).trans (I.lo x hx).1, (I.lo x hx).2⟩, fun x hx => ?_, I.l1, fun x hx => ⟨ow (no.2.2 x hx) (I.l2 x hx).1, (I.l2 x hx).2⟩, I.e0, I.ln⟩
  · have z : a ≠ p := fun z => by rw [z, nf] at e; cases e
    rw [un z]; exact I.FH a u e
  · have z : a ≠ p := fun z => by rw [z, n0] at e; cases e
    rw [un z]; exact I.kp a u e n k
  · have h := I.sl j s e
    cases s with
    | no => exact trivial
    | v d => exact h
    | o l d =>
      obtain ⟨p', h1, h2, h3⟩ := h
      have z : p' ≠ p := fun z => no.1 j l d e (z ▸ h1)
      exact ⟨p', h1, ow z h2, fun q => wr z (h3 q)⟩
    | b d =>
      obtain ⟨p', h1, h2, h3, h4, h5⟩ := h
      have z : p' ≠ p := fun z => by rw [z] at h4; exact h4 n0
      exact ⟨p', h1, h2.mono (Ex.refl F) (un z), h3, h4, h5⟩
    | bx => exact h
  · obtain ⟨h1, h2, h3, h4, h5⟩ := I.bo q e
    have z := nb q e
    exact ⟨h1, h2, h3, (un (Ne.symm z.1)).trans h4, (un (Ne.symm z.2)).trans h5⟩
  · obtain ⟨h1, h2, h3⟩ := I.ho x hx
    exact ⟨ow (no.2.1 x hx) h1, wr (no.2.1 x hx) h2, h3⟩
theorem backS_o {E0 : En} {l : Bool} {c : D} : ∀ (vs : List Nat) {sl : List Sl} {j : Nat}, (backS E0 vs sl)[j]? = some (.o l c) → sl[j]? = some (.o l c)
  | [], _, _, h => h
  | i :: vs, sl, j, h => by
    unfold backS at h
    cases q : E0.sl[i]? with
    | none => simp only [q] at h; exact backS_o vs h
    | some s =>
      simp only [q] at h
      cases s with
      | v d =>
        simp only at h
        by_cases z : i = j
        · subst z
          by_cases hi : i < (backS E0 vs sl).length
          · rw [List.getElem?_set_self hi] at h; cases h
          · rw [List.getElem?_eq_none (by simpa using hi)] at h; cases h
        · rw [List.getElem?_set_ne z] at h
          exact backS_o vs h
      | _ => exact backS_o vs h
theorem FI.non1 (I : FI K W E F H) (i : Nat) : FI K (W.at (W.σ.set i none)) { E with sl := E.sl.set i .no } F H := by
  have no : ∀ (j : Nat) (s : Sl), (E.sl.set i .no)[j]? = some s → s = .no ∨ (i ≠ j ∧ E.sl[j]? = some s) := fun j s e => by
    by_cases z : i = j
    · subst z
      by_cases hi : i < E.sl.length
      · rw [List.getElem?_set_self hi] at e; cases e; exact .inl rfl
      · rw [List.getElem?_eq_none (by simpa using hi)] at e; cases e
    · rw [List.getElem?_set_ne z] at e; exact .inr ⟨z, e⟩
  have σn : ∀ {j : Nat}, i ≠ j → (W.σ.set i (none : Option V))[j]? = W.σ[j]? := fun z => List.getElem?_set_ne z
  refine ⟨I.fF, I.FH, I.kp, I.nw, fun j s e => ?_, fun j k lj cj lk ck p ne ej ek wj wk => ?_, I.bo, I.lo, fun x hx => ⟨(I.ho x hx).1.at, (I.ho x hx).2.1, fun j l c e z => ?_⟩, fun j d p e z => ?_, fun x hx => ⟨(I.l2 x hx).1.at, fun j c e z => ?_⟩, I.e0, by simpa using I.ln⟩
  · rcases no j s e with rfl | ⟨ne, e⟩
    · exact trivial
    · show SlOk K _ F H (W.σ.set i (none : Option V))[j]? s
      rw [σn ne]
      exact (I.sl j s e).at
  · rcases no j _ ej with z | ⟨n1, ej⟩
    · cases z
    · rcases no k _ ek with z | ⟨n2, ek⟩
      · cases z
      · have wj : (W.σ.set i (none : Option V))[j]? = _ := wj
        have wk : (W.σ.set i (none : Option V))[k]? = _ := wk
        rw [σn n1] at wj
        rw [σn n2] at wk
        exact I.ds j k lj cj lk ck p ne ej ek wj wk
  · rcases no j _ e with q | ⟨n1, e⟩
    · cases q
    · have z : (W.σ.set i (none : Option V))[j]? = _ := z
      rw [σn n1] at z
      exact (I.ho x hx).2.2 j l c e z
  · rcases no j _ e with q | ⟨n1, e⟩
    · cases q
    · have z : (W.σ.set i (none : Option V))[j]? = _ := z
      rw [σn n1] at z
      exact I.l1 j d p e z
  · rcases no j _ e with q | ⟨n1, e⟩
    · cases q
    · have z : (W.σ.set i (none : Option V))[j]? = _ := z
      rw [σn n1] at z
      exact (I.l2 x hx).2 j c e z
theorem FI.wipes : ∀ (vs : List Nat) {W : FP} {E : En}, FI K W E F H → FI K (W.at (wipe W.σ vs)) (wE vs E) F H
  | [], _, _, I => I
  | i :: vs, W, E, I => (FI.wipes vs I).non1 i
/-- places of slots that are not known do not matter -/
theorem FI.places {σ : L2.St} (I : FI K W E F H) (hl : σ.length = W.σ.length) (h : ∀ (j : Nat) s, E.sl[j]? = some s → s = .no ∨ σ[j]? = W.σ[j]?) : FI K (W.at σ) E F H := by
  refine ⟨I.fF, I.FH, I.kp, I.nw, fun j s e => ?_, fun j k lj cj lk ck p ne ej ek wj wk => ?_, I.bo, I.lo, fun x hx => ⟨(I.ho x hx).1.at, (I.ho x hx).2.1, fun j l c e z => ?_⟩, fun j d p e z => ?_, fun x hx => ⟨(I.l2 x hx).1.at, fun j c e z => ?_⟩, I.e0, hl.trans I.ln⟩
  · rcases h j s e with rfl | q
    · exact trivial
    · show SlOk K _ F H σ[j]? s
      rw [q]
      exact (I.sl j s e).at
  · have wj : σ[j]? = _ := wj
    have wk : σ[k]? = _ := wk
    rcases h j _ ej with z | q
    · cases z
    · rcases h k _ ek with z | q'
      · cases z
      · exact I.ds j k lj cj lk ck p ne ej ek (q ▸ wj) (q' ▸ wk)
  · have z : σ[j]? = _ := z
    rcases h j _ e with w | q
    · cases w
    · exact (I.ho x hx).2.2 j l c e (q ▸ z)
  · have z : σ[j]? = _ := z
    rcases h j _ e with w | q
    · cases w
    · exact I.l1 j d p e (q ▸ z)
  · have z : σ[j]? = _ := z
    rcases h j _ e with w | q
    · cases w
    · exact (I.l2 x hx).2 j c e (q ▸ z)
theorem wE_at : ∀ (vs : List Nat) (E : En) (j : Nat) (s : Sl), (wE vs E).sl[j]? = some s → s = .no ∨ (j ∉ vs ∧ E.sl[j]? = some s)
  | [], E, j, s, e => .inr ⟨by simp, e⟩
  | i :: vs, E, j, s, e => by
    have e : ((wE vs E).sl.set i .no)[j]? = some s := e
    by_cases z : i = j
    · subst z
      by_cases hi : i < (wE vs E).sl.length
      · rw [List.getElem?_set_self hi] at e; cases e; exact .inl rfl
      · rw [List.getElem?_eq_none (by simpa using hi)] at e; cases e
    · rw [List.getElem?_set_ne z] at e
      rcases wE_at vs E j s e with h | ⟨h1, h2⟩
      · exact .inl h
      · exact .inr ⟨by simp only [List.mem_cons, not_or]; exact ⟨fun q => z q.symm, h1⟩, h2⟩
theorem FI.unwipe {σ : L2.St} {vs : List Nat} (I : FI K (W.at (wipe σ vs)) (wE vs E) F H) : FI K (W.at σ) (wE vs E) F H :=
  I.places (σ := σ) (by show σ.length = (L2.wipe σ vs).length; rw [wipe_length]) fun j s e => by
    rcases wE_at vs E j s e with h | ⟨h, _⟩
    · exact .inl h
    · exact .inr (wipe_out h).symm
theorem FI.backs {E0 : En} {F0 : Hp} (h0 : ∀ (i : Nat) d, E0.sl[i]? = some (.v d) → ∃ v, W.σ[i]? = some (some v) ∧ Rp K F v d) : ∀ (vs : List Nat) {E : En}, FI K W E F H → FI K W (back vs E0 E) F H
  | [], _, I => I
  | i :: vs, E, I => by
    have I1 := FI.backs (F0 := F0) h0 vs I
    unfold back backS
    cases q : E0.sl[i]? with
    | none => exact I1
    | some s =>
      cases s with
      | v d =>
        obtain ⟨v, e, r⟩ := h0 i d q
        exact I1.put (i := i) (s := .v d) ⟨v, e, r⟩ fun _ _ _ z => nomatch z
      | _ => exact I1
end
def cLoop (tg : D → EF Unit) (ft : EF Bool) (fe : EF D) (vs : List Nat) : List D → List D → En → Option (List D × En)
  | [], acc, E => some (acc, wE vs E)
  | d :: ds, acc, E => (tg d (wE vs E)).bind fun e => (ft e.2).bind fun b => if b.1 = true then (fe b.2).bind fun y => cLoop tg ft fe vs ds (acc ++ [y.1]) y.2 else cLoop tg ft fe vs ds acc b.2
def mLc (fi : EF (List D × Option Nat)) (tg : D → EF Unit) (ft : EF Bool) (fe : EF D) (vs : List Nat) : EF R := fun E => (fi E).bind fun x => if x.1.1.length ≤ sizeLine then (cLoop tg ft fe vs x.1.1 [] x.2).bind fun y => some (.f (.lst y.1), unlk x.1.2 (back vs x.2 y.2)) else none
theorem cLoop_len {tg : D → EF Unit} {ft : EF Bool} {fe : EF D} {vs : List Nat} : ∀ {ds acc : List D} {E : En} {r : List D × En}, cLoop tg ft fe vs ds acc E = some r → r.1.length ≤ acc.length + ds.length
  | [], acc, E, r, h => by cases h; simp
  | d :: ds, acc, E, r, h => by
    unfold cLoop at h
    obtain ⟨e, _, h⟩ := bsome h
    obtain ⟨b, _, h⟩ := bsome h
    by_cases hb : b.1 = true
    · rw [if_pos hb] at h
      obtain ⟨y, _, h⟩ := bsome h
      have := cLoop_len h
      simp only [List.length_append, List.length_cons, List.length_nil] at this ⊢
      omega
    · rw [if_neg hb] at h
      have := cLoop_len h
      simp only [List.length_cons] at this ⊢
      omega
theorem wipe_at {σ : L2.St} : ∀ (vs : List Nat) (j : Nat), (L2.wipe σ vs)[j]? = if j ∈ vs then (if j < σ.length then some none else none) else σ[j]?
  | [], j => by simp [L2.wipe]
  | i :: vs, j => by
    unfold L2.wipe
    have ih := wipe_at (σ := σ) vs j
    by_cases z : i = j
    · subst z
      by_cases hi : i < (L2.wipe σ vs).length
      · rw [List.getElem?_set_self hi]
        rw [wipe_length] at hi
        simp [hi]
      · rw [List.getElem?_eq_none (by simpa using hi)]
        rw [wipe_length] at hi
        simp [hi]
    · rw [List.getElem?_set_ne z, ih]
      have : (j ∈ i :: vs) ↔ j ∈ vs := by simp [Ne.symm z]
      simp [this]
theorem wipe_only {σ σ2 : L2.St} {vs wr : List Nat} (h : Only wr (L2.wipe σ vs) σ2) (hw : ∀ j ∈ wr, j ∈ vs) : L2.wipe σ2 vs = L2.wipe σ vs := by
  refine List.ext_getElem? fun j => ?_
  rw [wipe_at, wipe_at]
  have hl : σ2.length = σ.length := h.1.trans (wipe_length σ vs)
  by_cases hj : j ∈ vs
  · simp [hj, hl]
  · rw [if_neg hj, if_neg hj, h.2 j (fun z => hj (hw j z)), wipe_at, if_neg hj]
variable {elt : Expr} {ifs : List Expr} {scope : Scope} {own : List (Str × Nat)} {wr : List Nat}
theorem dc_lc {fi : EF (List D × Option Nat)} {ft : D → EF Unit} {fc : EF Bool} {fe : EF D} (hc : X.calm = true) (hN : X.N.Nodup) (hi : DI X tg iter fi) (ok : BlkOk X.N X.env.scope scope own)
    (hg : ∀ (s : Shared) (H : Hp) (C : Addr) (cl : List (Str × Addr)) (fp : List Addr), DG (X.blk s H scope (compEnvC scope cl C X.env) fp) tg ft wr)
    (ht : ∀ (s : Shared) (H : Hp) (C : Addr) (cl : List (Str × Addr)) (fp : List Addr), DTs (X.blk s H scope (compEnvC scope cl C X.env) fp) ifs fc)
    (he : ∀ (s : Shared) (H : Hp) (C : Addr) (cl : List (Str × Addr)) (fp : List Addr), DQ (X.blk s H scope (compEnvC scope cl C X.env) fp) elt fe)
    (hw : ∀ j ∈ wr, j ∈ own.map (·.2) := by decide) (hs : ∀ x, foldedSetIterable iter X.env x = pure x := by intro _; rfl) :
    DC X (.ListComp elt [⟨tg, iter, ifs, 0⟩] scope pos) (mLc fi ft fc fe (own.map (·.2))) := by
  refine ⟨tLc (tId X.K fi) (tGd X.K ft wr) (tTs X.K fc) (tD X.K fe) (own.map (·.2)),
    pe_lc hc hN hi.pi ok (fun s H C cl fp => (hg s H C cl fp).pg) (fun s H C cl fp => (ht s H C cl fp).pts) (fun s H C cl fp => (he s H C cl fp).pe) hs,
    fun i y py spos hy hyl hsw => ps_setLc hc hN hy hyl hsw hi.pi ok (fun s H C cl fp => (hg s H C cl fp).pg) (fun s H C cl fp => (ht s H C cl fp).pts) (fun s H C cl fp => (he s H C cl fp).pe) hs,
    fun W F H E r E' Q I hf k => ?_⟩
  generalize own.map (·.2) = vs at *
  unfold mLc at hf
  obtain ⟨⟨⟨its, o⟩, E1⟩, h1, hf⟩ := bsome hf
  obtain ⟨hlen, hf⟩ := Option.ite_none_right_eq_some.mp hf
  have hlen : its.length ≤ sizeLine := hlen
  obtain ⟨⟨out, E2⟩, h2, hf⟩ := bsome hf
  cases hf
  refine ⟨W, F, E, its, o, E1, rfl, I, h1, fun J W' F1 H1 lk I1 e1 wk => ?_⟩
  intro Dp hD
  have hσ : W'.σ = W.σ := by
    cases o with
    | none => cases lk; rfl
    | some i => obtain ⟨p, d, rfl, _⟩ := lk; rfl
  -- the new list is held
  have held0 : FI X.K { W' with hs := (Dp, .lst []) :: W'.hs } E1 F1 (upd H1 Dp (.lst [])) := by
    have ou : Ou X.K F1 H1 (.ref Dp) (upd H1 Dp (.lst [])) (.f (.lst [])) := Ou.newL hD .nil (Nat.zero_le _)
    obtain ⟨p, o', n, hh, hv, ct, wrh⟩ := ou
    cases hv
    refine (I1.step (Ex.refl F1) (fun _ => .inl rfl) (Ex.new hD) (I1.FH.trans (Ex.new hD))).hold ⟨Dp, rfl, ⟨ct, I1.FH.none hD, I1.no0 hD, I1.nob hD⟩, wrh, I1.noo hD⟩
  have nd : (∀ y ∈ W'.hs, y.1 ≠ Dp) ∧ ∀ y ∈ W'.ls, y.2.1 ≠ Dp := (I1.noo hD).2
  -- a turn
  refine ⟨fun i m H => m = its.length - i ∧ i ≤ its.length ∧ ∃ E F acc, FI X.K ({ W' with hs := (Dp, .lst acc) :: W'.hs }.at (L2.wipe W.σ vs)) (wE vs E) F H ∧ Ex F1 F ∧ acc.length ≤ i ∧ cLoop ft fc fe vs (its.drop i) acc E = some (out, E2), ⟨its.length, by simp, Nat.zero_le _, E1, F1, [], ?_, Ex.refl F1, Nat.le_refl _, by simpa using h2⟩, ?_⟩
  · have := held0.wipes vs
    rw [show ({ W' with hs := (Dp, D.lst []) :: W'.hs } : FP).σ = W.σ from hσ] at this
    exact this
  rintro i m H2 ⟨rfl, hil, E3, F3, acc, I3, e3, hacc, hl⟩
  obtain ⟨stop, go⟩ := wk ({ W' with hs := (Dp, .lst acc) :: W'.hs }.at (L2.wipe W.σ vs)) _ F3 H2 ⟨rfl, rfl, rfl, rfl⟩ I3 e3
  by_cases hlt : i < its.length
  · obtain ⟨d, hd, hdr⟩ := drop_cons hlt
    rw [hdr] at hl
    unfold cLoop at hl
    obtain ⟨⟨x, E4⟩, g1, hl⟩ := bsome hl
    obtain ⟨⟨b, E5⟩, g2, hl⟩ := bsome hl
    obtain ⟨gi, gy⟩ := go i d hd
    refine .inr ⟨gi, fun H' => ∃ E F acc, FI X.K ({ W' with hs := (Dp, .lst acc) :: W'.hs }.at (L2.wipe W.σ vs)) (wE vs E) F H' ∧ Ex F1 F ∧ acc.length ≤ i + 1 ∧ cLoop ft fc fe vs (its.drop (i + 1)) acc E = some (out, E2), fun H' ⟨E, F, acc, a, b, c, d⟩ => ⟨its.length - (i + 1), by omega, rfl, hlt, E, F, acc, a, b, c, d⟩, fun x H3 hy => ?_⟩
    obtain ⟨F4, I4, e4, rx⟩ := gy x H3 hy
    refine ⟨{ W' with hs := (Dp, .lst acc) :: W'.hs }.at (L2.wipe W.σ vs), F4, _, d, _, E4, rfl, I4, rx, g1, fun σ2 o2 I5 => ⟨wipe_only o2 hw, ?_⟩⟩
    refine ⟨_, F4, E4, b, E5, rfl, I5, g2, fun F6 H6 I6 e6 => ?_⟩
    have e7 : Ex F1 F6 := (e3.trans e4).trans e6
    have wp : L2.wipe σ2 vs = L2.wipe W.σ vs := by
      have := wipe_only o2 hw
      exact this
    cases b with
    | true =>
      obtain ⟨⟨y, E8⟩, g3, hl⟩ := bsome hl
      show tD X.K fe σ2 H6 _
      refine ⟨_, F6, E5, y, E8, rfl, I6, g3, fun v F8 H8 I8 e8 rv => ?_⟩
      obtain ⟨ow, wrh, _⟩ := I8.ho (Dp, .lst acc) List.mem_cons_self
      obtain ⟨vs', hvs, ra, hle⟩ := ow.ct
      have hla : acc.length < sizeLine := by omega
      refine ⟨vs', hvs, by rw [ra.length]; exact hla, E8, F8, acc ++ [y], ?_, e7.trans e8, by simp; omega, hl⟩
      -- the list has grown
      obtain ⟨I9, r9⟩ := FI.unhold (W := W'.at σ2) (x := (Dp, .lst acc)) I8 nd
      obtain ⟨p, hp, ow9, _, no9⟩ := r9
      cases hp
      have grown : FI X.K ({ W' with hs := (Dp, .lst (acc ++ [y])) :: W'.hs }.at σ2) E8 F8 (upd H8 Dp (.lst (vs' ++ [v]))) :=
        (I9.write ow9.nf ow9.n0 ow9.nb no9 (fun x hx z => by
          have := (I9.lo x hx).1
          rw [z, hvs] at this; cases this)).hold ⟨Dp, rfl, ⟨⟨_, upd_same, ra.append (.cons rv .nil), by simp; omega⟩, ow9.nf, ow9.n0, ow9.nb⟩, wr_same (fun _ _ e => (nomatch e)), no9⟩
      have := grown.wipes vs
      rw [show (({ W' with hs := (Dp, D.lst (acc ++ [y])) :: W'.hs } : FP).at σ2).σ = σ2 from rfl, wp] at this
      exact this
    | false =>
      show ∃ E F acc, _
      refine ⟨E5, F6, acc, ?_, e7, Nat.le_succ_of_le hacc, hl⟩
      have := I6.wipes vs
      rw [show (({ W' with hs := (Dp, D.lst acc) :: W'.hs } : FP).at σ2).σ = σ2 from rfl, wp] at this
      exact this
  · have e : i = its.length := by omega
    subst e
    rw [List.drop_length] at hl
    cases hl
    refine .inl ⟨stop, ?_⟩
    have I4 := I3.unwipe (σ := W.σ)
    obtain ⟨I5, r5⟩ := FI.unhold (W := W'.at W.σ) (x := (Dp, .lst out)) I4 nd
    have h0 : ∀ (i : Nat) d, E1.sl[i]? = some (.v d) → ∃ v, (W'.at W.σ).σ[i]? = some (some v) ∧ Rp X.K F3 v d := fun i d q => by
      obtain ⟨v, e, r⟩ := I1.sl i _ q
      rw [hσ] at e
      exact ⟨v, e, r.mono e3⟩
    have I6 := FI.backs (F0 := F3) h0 vs I5
    refine k (.ref Dp) F3 H2 (FI.unlock (σ := W.σ) lk I6) (e1.trans e3) (LkR.rr (σ := W.σ) lk I6 ?_)
    obtain ⟨p, hp, ow, wrh, no⟩ := r5
    cases hp
    exact ⟨Dp, rfl, ow, wrh, fun j l c e => no.1 j l c (backS_o vs e), no.2⟩
end
end PV

namespace PV
open PySem L2 PyProof.Rows

/-! ### functions -/
/-- what a function gives: its arguments as slots, the box -/
abbrev FN := List Sl → Bx → Option (R × Bx)
def ArgOk (K : PySem.W.Frag) (F H : Hp) (ob : Ob) (v : V) : Sl → Prop
  | .v d => Rp K F v d
  | .b d => ∃ p, v = .ref p ∧ Ct K F H p d ∧ F p = none ∧ ∀ q, ob = some q → p ≠ q.1 ∧ p ≠ q.2
  | .bx => ∃ q, ob = some q ∧ v = .ref q.1
  | _ => False
/-- what a call leaves -/
structure Aft (K : PySem.W.Frag) (F H : Hp) (ob : Ob) (bx' : Bx) (F' H' : Hp) (v : V) (r : R) : Prop where
  fF : Ex F F'
  FH : Ex F' H'
  kp : ∀ a o, H a = some o → (∀ q, ob = some q → a ≠ q.1 ∧ a ≠ q.2) → H' a = some o
  nw : ∀ a, H a ≠ none → F' a = F a
  bo : ∀ q, ob = some q → BxOk F' H' q bx'
  rr : match r with
    | .v d => Rp K F' v d
    | .f d => ∃ p, v = .ref p ∧ Ct K F' H' p d ∧ F' p = none ∧ H p = none ∧ (∀ q, ob = some q → p ≠ q.1 ∧ p ≠ q.2) ∧ Wr H' p
def spF (K : PySem.W.Frag) (n : Nat) (g : FN) : Sp := fun vs H Q _ => vs.length = n ∧ ∃ F ob as bx r bx', Ex F H ∧ Paired (ArgOk K F H ob) vs as ∧ (∀ q, ob = some q → BxOk F H q bx) ∧ g as bx = some (r, bx') ∧ ∀ v F' H', Aft K F H ob bx' F' H' v r → Q v H'
/-- a def's own function -/
def run (n : Nat) (f : EF Fl) : FN := fun as bx => match f ⟨as ++ List.replicate (n - as.length) .no, bx⟩ with
  | some (.rt r, E) => some (r, E.bx)
  | some (.nx, E) => some (.v .non, E.bx)
  | _ => none
theorem paired_len {α β : Type} {R : α → β → Prop} : ∀ {xs : List α} {ys : List β}, Paired R xs ys → xs.length = ys.length := Paired.length
theorem paired_get {α β : Type} {R : α → β → Prop} : ∀ {xs : List α} {ys : List β} {i : Nat} {y : β}, Paired R xs ys → ys[i]? = some y → ∃ x, xs[i]? = some x ∧ R x y
  | _, _, _, _, .nil, e => by simp at e
  | _, _, 0, _, .cons h r, e => by simp at e; subst e; exact ⟨_, rfl, h⟩
  | _, _, i + 1, y, .cons h r, e => by
    obtain ⟨u, h1, h2⟩ := paired_get (i := i) (y := y) r (by simpa using e)
    exact ⟨u, by simpa using h1, h2⟩
/-- a function of the module, by its name -/
structure FnD (P : Program) (w : World) (K : PySem.W.Frag) (mg : Str → Option Value) (base : Heap) (x : Str) (k n : Nat) (g : FN) : Prop where
  ex : ∃ f fd ps, mg x = some (.ref f) ∧ PySem.W.keepIn K (.ref f) = true ∧ Binds K fd ps [] ∧ ps.length = n ∧ FnOk P w K mg base CX0 k f fd ps (spF K n g)
section
variable {P : Program} {w : World} {K : PySem.W.Frag} {mg : Str → Option Value} {base : Heap}
theorem FnD.mono {x : Str} {j k n : Nat} {g : FN} (h : FnD P w K mg base x j n g) (l : j ≤ k) : FnD P w K mg base x k n g := by
  obtain ⟨f, fd, ps, h1, h2, h3, h4, h5⟩ := h.ex
  exact ⟨f, fd, ps, h1, h2, h3, h4, h5.mono l⟩
theorem start_at {N : List Str} {vs : List V} (j : Nat) : (L2.start N vs)[j]? = if j < vs.length then (vs[j]?).map some else if j < vs.length + (N.length - vs.length) then some none else none := by
  unfold L2.start
  by_cases h : j < vs.length
  · rw [if_pos h, List.getElem?_append_left (by simpa using h), List.getElem?_map]
  · rw [if_neg h, List.getElem?_append_right (by simpa using h)]
    simp only [List.length_map, List.getElem?_replicate]
    by_cases h2 : j < vs.length + (N.length - vs.length)
    · rw [if_pos h2, if_pos (by omega)]
    · rw [if_neg h2, if_neg (by omega)]
/-- THE RULE for a def -/
theorem fn_def {x qual : Str} {st : Stmt} {f : Addr} {fd : FuncData} {N ps : List Str} {k : Nat} {fb : EF Fl} (F : Fun K x qual st f fd) (S : FnScope N ps (defScope st))
    (hb : ∀ (cdv : Value) (A : Around) (outer : List Env) (s : Shared) (H : Hp) (E : XK), Room k (A.deeper (envOfC qual (defScope st) s.heap.objs.size f cdv)) →
      DB (cxOf CX0 P w K mg base N qual (defScope st) f cdv A outer s H E).nox (defBody st) fb) : FnOk P w K mg base CX0 (k + 1) f fd ps (spF K ps.length (run N.length fb)) := by
  refine F.ok S (fun vs H Q E h => h.1) fun cdv A outer s H vs Q E hr hsp => ?_
  obtain ⟨hl, F0, ob, as, bx, r, bx', e0, ha, hbx, hg, k⟩ := hsp
  obtain ⟨t, hp, h⟩ := (hb cdv A outer s H E hr).ex
  refine ⟨t, hp, ?_⟩
  unfold run at hg
  have hla := ha.length
  -- the frame at its entry
  have I : FI K ⟨F0, H, ob, [], [], [], L2.start N vs⟩ ⟨as ++ List.replicate (N.length - as.length) .no, bx⟩ F0 H := by
    have at_ : ∀ (j : Nat) (sl : Sl), (as ++ List.replicate (N.length - as.length) Sl.no)[j]? = some sl → sl = .no ∨ ∃ v, as[j]? = some sl ∧ vs[j]? = some v ∧ ArgOk K F0 H ob v sl := fun j sl e => by
      by_cases hj : j < as.length
      · rw [List.getElem?_append_left hj] at e
        obtain ⟨v, h1, h2⟩ := paired_get ha e
        exact .inr ⟨v, e, h1, h2⟩
      · rw [List.getElem?_append_right (by omega), List.getElem?_replicate] at e
        by_cases hj2 : j - as.length < N.length - as.length
        · rw [if_pos hj2] at e; cases e; exact .inl rfl
        · rw [if_neg hj2] at e; cases e
    have σat : ∀ {j : Nat} {v : V}, vs[j]? = some v → (L2.start N vs)[j]? = some (some v) := fun {j v} e => by
      rw [start_at, if_pos (List.getElem?_eq_some_iff.mp e).1, e]; rfl
    refine ⟨Ex.refl F0, e0, fun _ _ h _ _ => h, fun _ _ => rfl, fun j sl e => ?_, fun i j li ci lj cj p ne ei _ _ _ => ?_, hbx, fun _ h => (by cases h), fun _ h => (by cases h), fun i d p e _ => ?_, fun _ h => (by cases h), e0, ?_⟩
    · rcases at_ j sl e with rfl | ⟨v, _, h1, h2⟩
      · exact trivial
      · show SlOk K _ F0 H (L2.start N vs)[j]? sl
        rw [σat h1]
        cases sl with
        | no => exact trivial
        | v d => exact ⟨v, rfl, h2⟩
        | o l d => exact False.elim h2
        | b d =>
          obtain ⟨p, rfl, ct, nf, nb⟩ := h2
          obtain ⟨o, ho⟩ := ct.ex
          exact ⟨p, rfl, ct, nf, (by show H p ≠ none; rw [ho]; exact fun z => (nomatch z)), nb⟩
        | bx =>
          obtain ⟨q, h3, h4⟩ := h2
          exact ⟨q, h3, by rw [h4]⟩
    · rcases at_ i _ ei with z | ⟨v, _, _, h2⟩
      · cases z
      · exact h2
    · rcases at_ i _ e with z | ⟨v, _, _, h2⟩
      · cases z
      · exact False.elim h2
    · show (L2.start N vs).length = (as ++ List.replicate (N.length - as.length) Sl.no).length
      unfold L2.start
      simp [hla]
  -- its end
  have fin : ∀ {v : V} {σ' : L2.St} {E' : En} {F' H' : Hp} {r' : R}, FI K ⟨F0, H, ob, [], [], [], σ'⟩ E' F' H' → RR K ⟨F0, H, ob, [], [], [], σ'⟩ E' F' H' v r' → (r', E'.bx) = (r, bx') → Q v H' := by
    intro v σ' E' F' H' r' I' rr e
    cases e
    refine k v F' H' ⟨I'.fF, I'.FH, fun a o h n => I'.kp a o h n fun _ hx => (by cases hx), I'.nw, I'.bo, ?_⟩
    cases r with
    | v d => exact rr
    | f d =>
      obtain ⟨p, e, ow, wr, _⟩ := rr
      exact ⟨p, e, ow.ct, ow.nf, ow.n0, ow.nb, wr⟩
  cases q : fb ⟨as ++ List.replicate (N.length - as.length) Sl.no, bx⟩ with
  | none => rw [q] at hg; cases hg
  | some z =>
    obtain ⟨fl, E'⟩ := z
    rw [q] at hg
    refine h _ F0 H _ fl E' _ I q ?_
    cases fl with
    | nx => exact fun σ' F' H' I' _ => fin I' (r' := .v .non) .non (Option.some.inj hg)
    | rt r' => exact fun v σ' F' H' I' _ rr => fin I' rr (Option.some.inj hg)
    | bk => cases hg
    | ct => cases hg
end

/-! ### calls -/
/-- how an operand is handed in -/
def P.arg (E : En) : P → Option Sl
  | .v d => some (.v d)
  | .s i => match E.sl[i]? with
    | some (.v d) => some (.v d)
    | some (.o _ d) => some (.b d)
    | some (.b d) => some (.b d)
    | some .bx => some .bx
    | _ => none
def argAll (E : En) : List P → Option (List Sl)
  | [] => some []
  | p :: ps => (p.arg E).bind fun s => (argAll E ps).bind fun r => some (s :: r)
def mFn (g : FN) (fa : EF (List P)) : EF R := fun E => (fa E).bind fun ps => (argAll ps.2 ps.1).bind fun as => (g as ps.2.bx).bind fun r => some (r.1, { ps.2 with bx := r.2 })
section
variable {K : PySem.W.Frag} {F F' H H' : Hp} {W : FP} {E : En} {v : V}
theorem FI.arg (I : FI K W E F H) {p : P} {s : Sl} (h : PR K F W.σ v p) (g : p.arg E = some s) : ArgOk K F H W.ob v s := by
  cases p with
  | v d => cases g; exact h
  | s i =>
    have h : W.σ[i]? = some (some v) := h
    unfold P.arg at g
    cases q : E.sl[i]? with
    | none => simp [q] at g
    | some t =>
      have k := I.sl i t q
      cases t with
      | no => simp [q] at g
      | v d =>
        simp [q] at g; subst g
        obtain ⟨u, e, r⟩ := k
        rw [h] at e; cases e
        exact r
      | o l d =>
        simp [q] at g; subst g
        obtain ⟨p, e, ow, _⟩ := k
        rw [h] at e; cases e
        exact ⟨p, rfl, ow.ct, ow.nf, ow.nb⟩
      | b d =>
        simp [q] at g; subst g
        obtain ⟨p, e, ct, nf, _, nb⟩ := k
        rw [h] at e; cases e
        exact ⟨p, rfl, ct, nf, nb⟩
      | bx =>
        simp [q] at g; subst g
        obtain ⟨p, e1, e⟩ := k
        rw [h] at e; cases e
        exact ⟨p, e1, rfl⟩
theorem FI.args (I : FI K W E F H) : ∀ {vs : List V} {ps : List P} {ss : List Sl}, Paired (PR K F W.σ) vs ps → argAll E ps = some ss → Paired (ArgOk K F H W.ob) vs ss
  | _, _, _, .nil, h => by cases h; exact .nil
  | _, _, _, .cons r t, h => by
    unfold argAll at h
    obtain ⟨d, h1, h⟩ := bsome h
    obtain ⟨ds, h2, h⟩ := bsome h
    cases h
    exact .cons (I.arg r h1) (FI.args I t h2)
/-- behind a call -/
theorem FI.aft (I : FI K W E F H) {bx' : Bx} {r : R} (A : Aft K F H W.ob bx' F' H' v r) : FI K W { E with bx := bx' } F' H' ∧ RR K W { E with bx := bx' } F' H' v r := by
  have hk : ∀ {p : Addr} {o : HO}, H p = some o → NB W p → H' p = H p := fun ho nb => (A.kp _ _ ho nb).trans ho.symm
  have hf : ∀ {p : Addr} {o : HO}, H p = some o → F p = none → F' p = none := fun {p o} ho nf => (A.nw p (by rw [ho]; exact fun z => nomatch z)).trans nf
  have ct : ∀ {p : Addr} {d : D}, Ct K F H p d → NB W p → Ct K F' H' p d := fun h nb => by
    obtain ⟨o, ho⟩ := h.ex
    exact h.mono A.fF (hk ho nb)
  have ow : ∀ {p : Addr} {d : D}, Own K W F H p d → Own K W F' H' p d := fun h => by
    obtain ⟨o, ho⟩ := h.ct.ex
    exact ⟨ct h.ct h.nb, hf ho h.nf, h.n0, h.nb⟩
  have wr : ∀ {p : Addr} {d : D}, Own K W F H p d → Wr H p → Wr H' p := fun h w od u e => by
    obtain ⟨o, ho⟩ := h.ct.ex
    exact w od u ((hk ho h.nb).symm.trans e)
  have lkb : ∀ x ∈ W.lk, NB W x.1 := fun x hx q e => by
    obtain ⟨_, _, _, h1, h2⟩ := I.bo q e
    have h3 := (I.lo x hx).1
    exact ⟨fun z => by (rw [z, h1] at h3; cases h3), fun z => by (rw [z, h2] at h3; cases h3)⟩
  have I' : FI K W { E with bx := bx' } F' H' := by
    refine ⟨I.fF.trans A.fF, A.FH, fun a o h n k => A.kp a o (I.kp a o h n k) n, fun a h => ?_, fun j s e => ?_, I.ds, A.bo, fun x hx => ?_, fun x hx => ⟨ow (I.ho x hx).1, wr (I.ho x hx).1 (I.ho x hx).2.1, (I.ho x hx).2.2⟩, I.l1, fun x hx => ⟨ow (I.l2 x hx).1, (I.l2 x hx).2⟩, I.e0, I.ln⟩
    · rw [A.nw a (fun z => h (I.no0 z))]
      exact I.nw a h
    · have h := I.sl j s e
      cases s with
      | no => exact trivial
      | v d =>
        obtain ⟨v, h1, h2⟩ := h
        exact ⟨v, h1, h2.mono A.fF⟩
      | o l d =>
        obtain ⟨p, h1, h2, h3⟩ := h
        exact ⟨p, h1, ow h2, fun q => wr h2 (h3 q)⟩
      | b d =>
        obtain ⟨p, h1, h2, h3, h4, h5⟩ := h
        obtain ⟨o, ho⟩ := h2.ex
        exact ⟨p, h1, ct h2 h5, hf ho h3, h4, h5⟩
      | bx => exact h
    · obtain ⟨h1, h2⟩ := I.lo x hx
      exact ⟨A.kp _ _ h1 (lkb x hx), hf h1 h2⟩
  refine ⟨I', ?_⟩
  have rr := A.rr
  cases r with
  | v d => exact rr
  | f d =>
    obtain ⟨p, e, c, nf, n, nb, w⟩ := rr
    exact ⟨p, e, ⟨c, nf, I.no0 n, nb⟩, w, I.noo n⟩
end
section
variable {X : Cx} {a e : Expr} {es : List Expr} {pos p : Pos} {x : Str} {k n : Nat} {g : FN}
theorem spF_of {f : EF (List P)} {t : TA} (h : ∀ W F H E r E' (Q : List V → Hp → Prop), FI X.K W E F H → f E = some (r, E') → (∀ vs F' H', FI X.K W E' F' H' → Ex F F' → Paired (PR X.K F' W.σ) vs r → Q vs H') → t W.σ H Q) (hl : ∀ E r E', f E = some (r, E') → r.length = n) :
    ∀ W F H E r E' (Q : VK), FI X.K W E F H → mFn g f E = some (r, E') → (∀ v F' H', FI X.K W E' F' H' → Ex F F' → RR X.K W E' F' H' v r → Q v H') → tCall (spF X.K n g) [] E0 t W.σ H Q := by
  intro W F H E r E' Q I hf k
  unfold mFn at hf
  obtain ⟨⟨ps, E1⟩, h1, hf⟩ := bsome hf
  obtain ⟨ss, h2, hf⟩ := bsome hf
  obtain ⟨⟨r', bx'⟩, h3, hf⟩ := bsome hf
  cases hf
  refine h W F H E ps E1 _ I h1 fun vs F1 H1 I1 e1 r1 => ?_
  have ha := I1.args r1 h2
  refine ⟨by rw [List.append_nil, r1.length]; exact hl _ _ _ h1, F1, W.ob, ss, E1.bx, _, bx', I1.FH, by rw [List.append_nil]; exact ha, I1.bo, h3, fun v F' H' A => ?_⟩
  obtain ⟨I2, rr⟩ := I1.aft A
  exact k v F' H' I2 (e1.trans A.fF) rr
theorem mCons_len {f : EF P} {g : EF (List P)} {n : Nat} (h : ∀ E r E', g E = some (r, E') → r.length = n) : ∀ E r E', mCons f g E = some (r, E') → r.length = n + 1 := by
  intro E r E' hf
  unfold mCons at hf
  obtain ⟨x, _, hf⟩ := bsome hf
  obtain ⟨y, h2, hf⟩ := bsome hf
  cases hf
  rw [List.length_cons, h _ _ _ h2]
theorem mNil_len : ∀ (E : En) (r : List P) E', (mNil : EF (List P)) E = some (r, E') → r.length = 0 := fun E r E' h => by cases h; rfl
theorem de_call {f : EF (List P)} (F : FnD X.prog X.w X.K X.mg X.base x k n g) (hr : Room k X.A) (hg : Gl X x) (ha : DA X (e :: es) f) (hl : ∀ E r E', f E = some (r, E') → r.length = n)
    (hd : (x == ("__debug__" : Str)) = false := by decide) (he : starEach (e :: es) X.env = (false, eval e X.env) :: starEach es X.env := by rfl) (hpl : (backTo pos (starEach es X.env)).any (·.1) = false := by rfl) : DE X (.Call (.Name x p) (e :: es) [] pos) (mFn g f) := by
  obtain ⟨fa, fd, ps, h1, h2, h3, h4, h5⟩ := F.ex
  obtain ⟨t, q, h⟩ := ha.ex
  exact ⟨_, pe_call h5 hr hg h1 h2 h3 .nil pass0 q hd he hpl, spF_of h hl⟩
end
end PV

namespace PV
open PySem L2 PyProof.Rows

/-! ### data as the library has it -/
mutual
def D.py : D → PyData
  | .non => .none
  | .bl b => .bool b
  | .int i => .int i
  | .str x => .str x
  | .tup xs => .tuple (pys xs)
  | .lst xs => .list (pys xs)
  | .dic _ => .none
  | .st _ => .none
def pys : List D → List PyData
  | [] => []
  | x :: xs => x.py :: pys xs
end
theorem pys_eq : ∀ xs : List D, pys xs = xs.map D.py
  | [] => rfl
  | x :: xs => by rw [pys, pys_eq xs, List.map_cons]
mutual
/-- it is no dict, no set, nor has it any -/
def D.nd : D → Bool
  | .non => true
  | .bl _ => true
  | .int _ => true
  | .str _ => true
  | .tup xs => nds xs
  | .lst xs => nds xs
  | .dic _ => false
  | .st _ => false
def nds : List D → Bool
  | [] => true
  | x :: xs => x.nd && nds xs
end
@[simp] theorem nds_nil : nds [] = true := by simp [nds]
@[simp] theorem nds_cons (x : D) (xs : List D) : nds (x :: xs) = (x.nd && nds xs) := by simp [nds]
@[simp] theorem nd_tup (xs : List D) : (D.tup xs).nd = nds xs := by simp [D.nd]
@[simp] theorem nd_lst (xs : List D) : (D.lst xs).nd = nds xs := by simp [D.nd]
@[simp] theorem nd_int (i : Int) : (D.int i).nd = true := by simp [D.nd]
@[simp] theorem nd_bl (i : Bool) : (D.bl i).nd = true := by simp [D.nd]
@[simp] theorem nd_str (i : Str) : (D.str i).nd = true := by simp [D.nd]
@[simp] theorem nd_non : D.non.nd = true := by simp [D.nd]
theorem nds_all : ∀ xs : List D, nds xs = xs.all D.nd
  | [] => rfl
  | x :: xs => by rw [nds_cons, nds_all xs, List.all_cons]
@[simp] theorem nds_append (xs ys : List D) : nds (xs ++ ys) = (nds xs && nds ys) := by rw [nds_all, nds_all, nds_all, List.all_append]
theorem nds_map {α : Type} (f : α → D) (h : ∀ x, (f x).nd = true) (xs : List α) : nds (xs.map f) = true := by
  rw [nds_all, List.all_map, List.all_eq_true]
  exact fun x _ => h x
@[simp] theorem nds_ints (xs : List Int) : nds (xs.map D.int) = true := nds_map _ nd_int xs
@[simp] theorem nds_bls (xs : List Bool) : nds (xs.map D.bl) = true := nds_map _ nd_bl xs
section
variable {K : PySem.W.Frag} {F H : Hp}
theorem RpA.all {F' : Hp} : ∀ {vs : List V} {ds : List D}, RpA K F vs ds → nds ds = true → (∀ v d, d ∈ ds → d.nd = true → Rp K F v d → Dp K F' v d.py ∧ d.py.canLay0 = true) → DpAll K F' vs (pys ds) ∧ PyData.canLayAll0 (pys ds) = true
  | _, _, .nil, _, _ => ⟨.nil, by simp [pys, PyData.canLayAll0]⟩
  | _, _, .cons r t, n, h => by
    rw [nds_cons, Bool.and_eq_true] at n
    obtain ⟨h1, h2⟩ := h _ _ List.mem_cons_self n.1 r
    obtain ⟨g1, g2⟩ := RpA.all t n.2 fun v d hd => h v d (List.mem_cons_of_mem _ hd)
    exact ⟨.cons h1 g1, by simp [pys, PyData.canLayAll0, h2, g2]⟩
theorem Rp.dp (e : Ex F H) : ∀ {v : V} {d : D}, Rp K F v d → d.nd = true → Dp K H v d.py ∧ d.py.canLay0 = true
  | _, .non, .non, _ => ⟨.non, by simp [D.py, PyData.canLay0]⟩
  | _, .bl _, .bl b, _ => ⟨.bl b, by simp [D.py, PyData.canLay0]⟩
  | _, .int _, .int i, _ => ⟨.int i, by simp [D.py, PyData.canLay0]⟩
  | _, .str _, .str x h, _ => ⟨.str x, by simpa [D.py, PyData.canLay0, PyData.strOk] using h.2⟩
  | _, .lst ds, .lst s r _, n => by
    obtain ⟨h1, h2⟩ := r.all (F' := H) (by simpa using n) fun v d _ nd q => Rp.dp e q nd
    exact ⟨.lst (.inl (.inl (e _ _ s))) h1, by simpa [D.py, PyData.canLay0] using h2⟩
  | _, .tup ds, .tup s r _, n => by
    obtain ⟨h1, h2⟩ := r.all (F' := H) (by simpa using n) fun v d _ nd q => Rp.dp e q nd
    exact ⟨.tup (ex_t e s) h1, by simpa [D.py, PyData.canLay0] using h2⟩
  | _, .dic ds, .dic _ _, n => by simp [D.nd] at n
theorem VR.dp {v : V} {d : D} (h : VR K F H v d) (e : Ex F H) (n : d.nd = true) : Dp K H v d.py ∧ d.py.canLay0 = true := by
  rcases h with h | ⟨p, rfl, h⟩
  · exact h.dp e n
  · cases d with
    | lst ds =>
      obtain ⟨vs, q, r, _⟩ := h
      obtain ⟨h1, h2⟩ := r.all (F' := H) (by simpa using n) fun v d _ nd q => Rp.dp e q nd
      exact ⟨.lst (.inl (.inl q)) h1, by simpa [D.py, PyData.canLay0] using h2⟩
    | dic ds => simp [D.nd] at n
    | _ => exact h.elim
end

section
variable {X : Cx}
/-! ### ==, in -/
def deqv (a b : D) : Bool := PyData.eqv a.py b.py
def eqOk (a b : D) : Bool := a.nd && b.nd && decide (min a.py.depth b.py.depth ≤ 60)
def dEq (a b : D) : Option R := if eqOk a b = true then some (.v (.bl (deqv a b))) else none
def dNe (a b : D) : Option R := if eqOk a b = true then some (.v (.bl (!deqv a b))) else none
theorem eqOk_of {a b : D} (h : eqOk a b = true) : a.nd = true ∧ b.nd = true ∧ min a.py.depth b.py.depth ≤ 60 := by
  unfold eqOk at h
  simp only [Bool.and_eq_true, decide_eq_true_eq] at h
  exact ⟨h.1.1, h.1.2, h.2⟩
theorem od_eq (hu : X.A.units + 65 < cLine) : OpD X (compareOp .Eq) dEq := by
  refine ⟨fun x y H Q => ∃ d e, Dp X.K H x d ∧ Dp X.K H y e ∧ d.canLay0 = true ∧ e.canLay0 = true ∧ min d.depth e.depth ≤ 60 ∧ Q (.bl (PyData.eqv d e)) H, ?_, fun F H x y a b res Q e va vb hg k => ?_⟩
  · intro pins s σ H x y v u Q I rx ry h
    obtain ⟨d, e, hd, he, sd, se, hm, q⟩ := h
    obtain ⟨as, r1⟩ := Dp.reads I d x v hd rx
    obtain ⟨bs, r2⟩ := Dp.reads I e y u he ry
    exact SeqAt.compareEq_reads r1 r2 sd se (by omega) ⟨.bl _, H, I, rfl, q⟩
  · obtain ⟨ho, hg⟩ := Option.ite_none_right_eq_some.mp hg
    cases hg
    obtain ⟨n1, n2, hm⟩ := eqOk_of ho
    obtain ⟨d1, c1⟩ := va.dp e n1
    obtain ⟨d2, c2⟩ := vb.dp e n2
    exact ⟨_, _, d1, d2, c1, c2, hm, k _ H (.inl ⟨rfl, .bl _⟩)⟩
theorem od_ne (hu : X.A.units + 65 < cLine) : OpD X (compareOp .NotEq) dNe := by
  refine ⟨fun x y H Q => ∃ d e, Dp X.K H x d ∧ Dp X.K H y e ∧ d.canLay0 = true ∧ e.canLay0 = true ∧ min d.depth e.depth ≤ 60 ∧ Q (.bl (!PyData.eqv d e)) H, ?_, fun F H x y a b res Q e va vb hg k => ?_⟩
  · intro pins s σ H x y v u Q I rx ry h
    obtain ⟨d, e, hd, he, sd, se, hm, q⟩ := h
    obtain ⟨as, r1⟩ := Dp.reads I d x v hd rx
    obtain ⟨bs, r2⟩ := Dp.reads I e y u he ry
    exact SeqAt.compareNe_reads r1 r2 sd se (by omega) ⟨.bl _, H, I, rfl, q⟩
  · obtain ⟨ho, hg⟩ := Option.ite_none_right_eq_some.mp hg
    cases hg
    obtain ⟨n1, n2, hm⟩ := eqOk_of ho
    obtain ⟨d1, c1⟩ := va.dp e n1
    obtain ⟨d2, c2⟩ := vb.dp e n2
    exact ⟨_, _, d1, d2, c1, c2, hm, k _ H (.inl ⟨rfl, .bl _⟩)⟩
def inOk (a : D) (bs : List D) : Bool := a.nd && nds bs && decide (min (PyData.depthAll (pys bs)) a.py.depth ≤ 60)
/-- x in a list, a tuple -/
def dInS (neg : Bool) (a b : D) : Option R := match b with
  | .lst bs => if inOk a bs = true then some (.v (.bl (neg ^^ bs.any fun y => deqv y a))) else none
  | .tup bs => if inOk a bs = true then some (.v (.bl (neg ^^ bs.any fun y => deqv y a))) else none
  | _ => none
theorem any_pys (a : D) : ∀ bs : List D, ((pys bs).any fun y => PyData.eqv y a.py) = bs.any fun y => deqv y a
  | [] => rfl
  | b :: bs => by simp only [pys, List.any_cons, any_pys a bs, deqv]
theorem inOk_of {a : D} {bs : List D} (h : inOk a bs = true) : (a.nd = true ∧ nds bs = true) ∧ min (PyData.depthAll (pys bs)) a.py.depth ≤ 60 := by
  unfold inOk at h
  simpa only [Bool.and_eq_true, decide_eq_true_eq] using h
theorem od_inS (hu : X.A.units + 65 < cLine) : OpD X (compareOp .In) (dInS false) := by
  refine ⟨fun x y H Q => ∃ d ds, Dp X.K H x d ∧ (Dp X.K H y (.list ds) ∨ Dp X.K H y (.tuple ds)) ∧ d.canLay0 = true ∧ PyData.canLayAll0 ds = true ∧ min (PyData.depthAll ds) d.depth ≤ 60 ∧ Q (.bl (ds.any fun z => PyData.eqv z d)) H, ?_, fun F H x y a b res Q e va vb hg k => ?_⟩
  · intro pins s σ H x y v u Q I rx ry h
    obtain ⟨d, ds, hd, he, sd, se, hm, q⟩ := h
    obtain ⟨as, r1⟩ := Dp.reads I d x v hd rx
    rcases he with he | he
    · obtain ⟨bs, r2⟩ := Dp.reads I _ y u he ry
      exact SeqAt.in_list_reads r2 r1 se sd (by omega) ⟨.bl _, H, I, rfl, q⟩
    · obtain ⟨bs, r2⟩ := Dp.reads I _ y u he ry
      exact SeqAt.in_tuple_reads r2 r1 se sd (by omega) ⟨.bl _, H, I, rfl, q⟩
  · cases b with
    | lst bs =>
      obtain ⟨ho, hg⟩ := Option.ite_none_right_eq_some.mp hg
      cases hg
      obtain ⟨⟨n1, n2⟩, hm⟩ := inOk_of ho
      obtain ⟨d1, c1⟩ := va.dp e n1
      obtain ⟨d2, c2⟩ := vb.dp e (by simpa using n2)
      exact ⟨_, _, d1, .inl d2, c1, by simpa [D.py, PyData.canLay0] using c2, hm, k _ H (.inl ⟨rfl, by rw [any_pys]; simpa using Rp.bl _⟩)⟩
    | tup bs =>
      obtain ⟨ho, hg⟩ := Option.ite_none_right_eq_some.mp hg
      cases hg
      obtain ⟨⟨n1, n2⟩, hm⟩ := inOk_of ho
      obtain ⟨d1, c1⟩ := va.dp e n1
      obtain ⟨d2, c2⟩ := vb.dp e (by simpa using n2)
      exact ⟨_, _, d1, .inr d2, c1, by simpa [D.py, PyData.canLay0] using c2, hm, k _ H (.inl ⟨rfl, by rw [any_pys]; simpa using Rp.bl _⟩)⟩
    | _ => cases hg
theorem od_notInS (hu : X.A.units + 65 < cLine) : OpD X (compareOp .NotIn) (dInS true) := by
  refine ⟨fun x y H Q => ∃ d ds, Dp X.K H x d ∧ (Dp X.K H y (.list ds) ∨ Dp X.K H y (.tuple ds)) ∧ d.canLay0 = true ∧ PyData.canLayAll0 ds = true ∧ min (PyData.depthAll ds) d.depth ≤ 60 ∧ Q (.bl (!ds.any fun z => PyData.eqv z d)) H, ?_, fun F H x y a b res Q e va vb hg k => ?_⟩
  · intro pins s σ H x y v u Q I rx ry h
    obtain ⟨d, ds, hd, he, sd, se, hm, q⟩ := h
    obtain ⟨as, r1⟩ := Dp.reads I d x v hd rx
    rcases he with he | he
    · obtain ⟨bs, r2⟩ := Dp.reads I _ y u he ry
      exact SeqAt.notIn_list_reads r2 r1 se sd (by omega) ⟨.bl _, H, I, rfl, q⟩
    · obtain ⟨bs, r2⟩ := Dp.reads I _ y u he ry
      exact SeqAt.notIn_tuple_reads r2 r1 se sd (by omega) ⟨.bl _, H, I, rfl, q⟩
  · cases b with
    | lst bs =>
      obtain ⟨ho, hg⟩ := Option.ite_none_right_eq_some.mp hg
      cases hg
      obtain ⟨⟨n1, n2⟩, hm⟩ := inOk_of ho
      obtain ⟨d1, c1⟩ := va.dp e n1
      obtain ⟨d2, c2⟩ := vb.dp e (by simpa using n2)
      exact ⟨_, _, d1, .inl d2, c1, by simpa [D.py, PyData.canLay0] using c2, hm, k _ H (.inl ⟨rfl, by rw [any_pys]; simpa using Rp.bl _⟩)⟩
    | tup bs =>
      obtain ⟨ho, hg⟩ := Option.ite_none_right_eq_some.mp hg
      cases hg
      obtain ⟨⟨n1, n2⟩, hm⟩ := inOk_of ho
      obtain ⟨d1, c1⟩ := va.dp e n1
      obtain ⟨d2, c2⟩ := vb.dp e (by simpa using n2)
      exact ⟨_, _, d1, .inr d2, c1, by simpa [D.py, PyData.canLay0] using c2, hm, k _ H (.inl ⟨rfl, by rw [any_pys]; simpa using Rp.bl _⟩)⟩
    | _ => cases hg
/-- one text in another -/
def subS (i j : Str) : Bool := !(Builtin.Str.occurrences j i 0 j.length 1).isEmpty
def dInT (neg : Bool) (a b : D) : Option R := match a, b with
  | .str i, .str j => some (.v (.bl (neg ^^ subS i j)))
  | _, _ => none
theorem od_inT : OpD X (compareOp .In) (dInT false) := by
  refine ⟨_, op_in_str, fun F H x y a b res Q e va vb hg k => ?_⟩
  match a, b, hg with
  | .str i, .str j, hg => cases hg; exact ⟨i, j, va.str.1, vb.str.1, k _ H (.inl ⟨rfl, by simpa [subS] using Rp.bl _⟩)⟩
theorem od_notInT : OpD X (compareOp .NotIn) (dInT true) := by
  refine ⟨_, op_notin_str, fun F H x y a b res Q e va vb hg k => ?_⟩
  match a, b, hg with
  | .str i, .str j, hg => cases hg; exact ⟨i, j, va.str.1, vb.str.1, k _ H (.inl ⟨rfl, by simpa [subS] using Rp.bl _⟩)⟩
/-- a key in a dict -/
def dKey : D → Option Key
  | .int i => some (.inl i)
  | .str x => some (.inr x)
  | _ => none
def D.isK (k : Key) : D → Bool
  | .int i => decide (k = .inl i)
  | .str x => decide (k = .inr x)
  | _ => false
def dLook (kvs : List (D × D)) (k : Key) : Option D := (kvs.find? fun kv => kv.1.isK k).map (·.2)
theorem isK_kD (k k' : Key) : (kD k').isK k = decide (k' = k) := by
  cases k' <;> simp [kD, D.isK, eq_comm]
theorem RpK.look {K : PySem.W.Frag} {F : Hp} {k : Key} : ∀ {kvs : List (Key × V)} {ds : List (D × D)}, RpK K F kvs ds → (dLook ds k = none ∧ valV kvs k = none) ∨ ∃ v d, dLook ds k = some d ∧ valV kvs k = some v ∧ Rp K F v d
  | _, _, .nil => .inl ⟨rfl, rfl⟩
  | _, _, .cons (k := k') r s t => by
    have ih := RpK.look (k := k) t
    unfold dLook valV at *
    rw [List.find?_cons, List.find?_cons, isK_kD]
    by_cases h : k' = k
    · subst h
      simp
      exact r
    · have h' : ¬ (decide (k' = k)) = true := by simpa using h
      simp only [h, decide_false]
      exact ih
def dInD (neg : Bool) (a b : D) : Option R := match b with
  | .dic kvs => (dKey a).bind fun k => some (.v (.bl (neg ^^ (dLook kvs k).isSome)))
  | _ => none
theorem key_v {K : PySem.W.Frag} {F H : Hp} {v : V} {a : D} {k : Key} (h : VR K F H v a) (e : dKey a = some k) : v = kV k ∧ a = kD k := by
  cases a with
  | int i => cases e; exact ⟨h.int, rfl⟩
  | str x => cases e; exact ⟨h.str.1, rfl⟩
  | _ => cases e
theorem od_inD (hu : X.A.units + 65 < cLine) : OpD X (compareOp .In) (dInD false) := by
  refine ⟨fun x y H Q => ∃ a o, y = .ref a ∧ DGet H a x o ∧ Q (.bl o.isSome) H, ?_, fun F H x y a b res Q e va vb hg k => ?_⟩
  · intro pins s σ H x y v u Q I rx ry h
    obtain ⟨a, o, rfl, g, q⟩ := h
    cases ry
    exact d_in (by omega) I g rx fun s3 I3 => ⟨.bl _, H, I3, rfl, q⟩
  · cases b with
    | dic kvs =>
      obtain ⟨key, hk, hg⟩ := bsome hg
      cases hg
      obtain ⟨d, ks, rfl, rd, r⟩ := vb.dic e
      obtain ⟨rfl, rfl⟩ := key_v va hk
      refine ⟨d, valV ks key, rfl, .inl ⟨ks, key, rd, rfl, rfl⟩, k _ H (.inl ⟨rfl, ?_⟩)⟩
      rcases r.look (k := key) with ⟨h1, h2⟩ | ⟨v, d, h1, h2, _⟩
      · rw [h1, h2]; exact .bl _
      · rw [h1, h2]; exact .bl _
    | _ => cases hg
theorem od_notInD (hu : X.A.units + 65 < cLine) : OpD X (compareOp .NotIn) (dInD true) := by
  refine ⟨fun x y H Q => ∃ a o, y = .ref a ∧ DGet H a x o ∧ Q (.bl (!o.isSome)) H, ?_, fun F H x y a b res Q e va vb hg k => ?_⟩
  · intro pins s σ H x y v u Q I rx ry h
    obtain ⟨a, o, rfl, g, q⟩ := h
    cases ry
    exact d_notIn (by omega) I g rx fun s3 I3 => ⟨.bl _, H, I3, rfl, q⟩
  · cases b with
    | dic kvs =>
      obtain ⟨key, hk, hg⟩ := bsome hg
      cases hg
      obtain ⟨d, ks, rfl, rd, r⟩ := vb.dic e
      obtain ⟨rfl, rfl⟩ := key_v va hk
      refine ⟨d, valV ks key, rfl, .inl ⟨ks, key, rd, rfl, rfl⟩, k _ H (.inl ⟨rfl, ?_⟩)⟩
      rcases r.look (k := key) with ⟨h1, h2⟩ | ⟨v, d, h1, h2, _⟩
      · rw [h1, h2]; exact .bl _
      · rw [h1, h2]; exact .bl _
    | _ => cases hg
def dIn (neg : Bool) (a b : D) : Option R := ((dInS neg a b).or (dInT neg a b)).or (dInD neg a b)
theorem od_in (hu : X.A.units + 65 < cLine) : OpD X (compareOp .In) (dIn false) := ((od_inS hu).or od_inT).or (od_inD hu)
theorem od_notIn (hu : X.A.units + 65 < cLine) : OpD X (compareOp .NotIn) (dIn true) := ((od_notInS hu).or od_notInT).or (od_notInD hu)
end
end PV

namespace PV
open PySem L2 PyProof.Rows
section
variable {X : Cx}
/-! ### arithmetic -/
def dII (f : Int → Int → Option D) (a b : D) : Option R := match a, b with
  | .int i, .int j => (f i j).bind fun d => some (.v d)
  | _, _ => none
theorem od_II {op : Value → Value → Sem Value} {C : Int → Int → Prop} {g : Int → Int → V} {f : Int → Int → Option D} (ho : OpR X op (rI C g)) (hf : ∀ i j d, f i j = some d → C i j ∧ ∀ F, Rp X.K F (g i j) d) : OpD X op (dII f) := by
  refine ⟨_, ho, fun F H x y a b res Q e va vb hg k => ?_⟩
  match a, b, hg with
  | .int i, .int j, hg =>
    obtain ⟨d, h1, h2⟩ := bsome hg
    cases h2
    obtain ⟨hc, hr⟩ := hf i j d h1
    exact ⟨i, j, va.int, vb.int, hc, k _ H (.inl ⟨rfl, hr F⟩)⟩
theorem od_II0 {op : Value → Value → Sem Value} {g : Int → Int → V} {f : Int → Int → D} (ho : OpR X op (rI0 g)) (hf : ∀ i j F, Rp X.K F (g i j) (f i j)) : OpD X op (dII fun i j => some (f i j)) := by
  refine ⟨_, ho, fun F H x y a b res Q e va vb hg k => ?_⟩
  match a, b, hg with
  | .int i, .int j, hg =>
    cases hg
    exact ⟨i, j, va.int, vb.int, k _ H (.inl ⟨rfl, hf i j F⟩)⟩
def dSub : D → D → Option R := dII fun i j => some (.int (i - j))
theorem od_sub : OpD X (binaryOp .Sub) dSub := od_II0 op_sub fun i j F => .int _
def mulI (i j : Int) : Option D := if i.natAbs.log2 + j.natAbs.log2 < 1000000 then some (.int (i * j)) else none
def fdivI (i j : Int) : Option D := if 0 < j ∧ j.natAbs.log2 < 9000 then some (.int (i / j)) else none
def modI (i j : Int) : Option D := if 0 < j then some (.int (i % j)) else none
def powI (i j : Int) : Option D := if 0 ≤ j ∧ j ≤ 1000000 ∧ i.natAbs < 2 ^ 64 then some (.int (i ^ j.toNat)) else none
def shlI (i j : Int) : Option D := if 0 ≤ j ∧ j ≤ 1000000 ∧ i.natAbs < 2 ^ 64 then some (.int (i * 2 ^ j.toNat)) else none
theorem od_mulI : OpD X (binaryOp .Mult) (dII mulI) := od_II op_mulW fun i j d h => by
  obtain ⟨h1, h2⟩ := Option.ite_none_right_eq_some.mp h
  cases h2; exact ⟨h1, fun F => .int _⟩
theorem od_fdiv : OpD X (binaryOp .FloorDiv) (dII fdivI) := od_II op_fdivW fun i j d h => by
  obtain ⟨h1, h2⟩ := Option.ite_none_right_eq_some.mp h
  cases h2; exact ⟨h1, fun F => .int _⟩
theorem od_mod : OpD X (binaryOp .Mod) (dII modI) := od_II op_mod fun i j d h => by
  obtain ⟨h1, h2⟩ := Option.ite_none_right_eq_some.mp h
  cases h2; exact ⟨h1, fun F => .int _⟩
theorem od_pow : OpD X (binaryOp .Pow) (dII powI) := od_II op_pow fun i j d h => by
  obtain ⟨h1, h2⟩ := Option.ite_none_right_eq_some.mp h
  cases h2; exact ⟨h1, fun F => .int _⟩
theorem od_shl : OpD X (binaryOp .LShift) (dII shlI) := od_II op_shl fun i j d h => by
  obtain ⟨h1, h2⟩ := Option.ite_none_right_eq_some.mp h
  cases h2; exact ⟨h1, fun F => .int _⟩
def dNeg (a : D) : Option R := match a with | .int i => some (.v (.int (-i))) | _ => none
theorem ud_neg : UnD X (unaryOp .USub) dNeg := by
  refine ⟨_, un_neg, fun F H x a res Q e va hg k => ?_⟩
  match a, hg with
  | .int i, hg => cases hg; exact ⟨i, va.int, k _ H (.inl ⟨rfl, .int _⟩)⟩

/-! ### + -/
theorem SOk.app {x y : Str} (hx : SOk x) (hy : SOk y) (h : x.length + y.length ≤ sizeLine) : SOk (x ++ y) := by
  obtain ⟨⟨a⟩⟩ := x
  obtain ⟨⟨b⟩⟩ := y
  refine ⟨by show (a.toArray ++ b.toArray).size ≤ _; simpa [Str.length] using h, ?_⟩
  have h1 := hx.2
  have h2 := hy.2
  show (a.toArray ++ b.toArray).all _ = true
  simp only [Array.all_append, Bool.and_eq_true]
  exact ⟨h1, h2⟩
def dAddT (a b : D) : Option R := match a, b with
  | .str i, .str j => if i.length + j.length ≤ sizeLine then some (.v (.str (i ++ j))) else none
  | _, _ => none
theorem od_addT : OpD X (binaryOp .Add) dAddT := by
  refine ⟨_, op_add_str, fun F H x y a b res Q e va vb hg k => ?_⟩
  match a, b, hg with
  | .str i, .str j, hg =>
    obtain ⟨h1, h2⟩ := Option.ite_none_right_eq_some.mp hg
    cases h2
    exact ⟨i, j, va.str.1, vb.str.1, h1, k _ H (.inl ⟨rfl, .str _ (va.str.2.app vb.str.2 h1)⟩)⟩
def dAddL (a b : D) : Option R := match a, b with
  | .lst i, .lst j => if i.length + j.length ≤ sizeLine then some (.f (.lst (i ++ j))) else none
  | _, _ => none
theorem od_addL : OpD X (binaryOp .Add) dAddL := by
  refine ⟨_, op_cat, fun F H x y a b res Q e va vb hg k => ?_⟩
  match a, b, hg with
  | .lst i, .lst j, hg =>
    obtain ⟨h1, h2⟩ := Option.ite_none_right_eq_some.mp hg
    cases h2
    obtain ⟨p, vs, rfl, s1, r1, l1⟩ := va.lst e
    obtain ⟨q, us, rfl, s2, r2, l2⟩ := vb.lst e
    refine ⟨p, q, vs, us, rfl, rfl, s1, s2, by rw [r1.length, r2.length]; exact h1, fun t n => k _ _ (Ou.newL n (r1.append r2) (by simpa using h1))⟩
def dAddU (a b : D) : Option R := match a, b with
  | .tup i, .tup j => if i.length + j.length ≤ sizeLine then some (.v (.tup (i ++ j))) else none
  | _, _ => none
theorem RpA.nil_of {K : PySem.W.Frag} {F : Hp} {vs : List V} {ds : List D} (r : RpA K F vs ds) (h : vs = []) : ds = [] := by
  subst h; cases r; rfl
theorem vtup {K : PySem.W.Frag} {F H : Hp} {v : V} {ds : List D} (h : VR K F H v (.tup ds)) : Rp K F v (.tup ds) := by
  rcases h with h | ⟨p, rfl, h⟩
  · exact h
  · exact h.elim
theorem od_addU : OpD X (binaryOp .Add) dAddU := by
  refine ⟨_, op_catA, fun F H x y a b res Q e va vb hg k => ?_⟩
  match a, b, hg with
  | .tup i, .tup j, hg =>
    obtain ⟨h1, h2⟩ := Option.ite_none_right_eq_some.mp hg
    cases h2
    have ra := vtup va
    have rb := vtup vb
    obtain ⟨p, vs, rfl, s1, r1, l1⟩ := va.tup e
    obtain ⟨q, us, rfl, s2, r2, l2⟩ := vb.tup e
    refine ⟨p, q, vs, us, rfl, rfl, s1, s2, by rw [r1.length, r2.length]; exact h1, fun z => ?_, fun _ z => ?_, fun _ _ t n => k _ _ (Ou.newT e n (r1.append r2) (by simpa using h1))⟩
    · have := r1.nil_of z; subst this
      exact k _ H (.inl ⟨rfl, rb⟩)
    · have := r2.nil_of z; subst this
      rw [List.append_nil] at k
      exact k _ H (.inl ⟨rfl, ra⟩)
def dAdd (a b : D) : Option R := (((dII (fun i j => some (.int (i + j)))) a b).or (dAddT a b)).or ((dAddL a b).or (dAddU a b))
theorem od_add : OpD X (binaryOp .Add) dAdd := ((od_II0 op_add fun i j F => .int _).or od_addT).or (od_addL.or od_addU)

/-! ### order -/
def dLtI : D → D → Option R := dII fun i j => some (.bl (decide (i < j)))
def dLeI : D → D → Option R := dII fun i j => some (.bl (decide (i ≤ j)))
def dGtI : D → D → Option R := dII fun i j => some (.bl (decide (j < i)))
def dGeI : D → D → Option R := dII fun i j => some (.bl (decide (j ≤ i)))
theorem od_ltI : OpD X (compareOp .Lt) dLtI := od_II0 op_lt fun i j F => .bl _
theorem od_leI : OpD X (compareOp .LtE) dLeI := od_II0 op_le fun i j F => .bl _
theorem od_gtI : OpD X (compareOp .Gt) dGtI := od_II0 op_gt fun i j F => .bl _
theorem od_geI : OpD X (compareOp .GtE) dGeI := od_II0 op_ge fun i j F => .bl _
/-! ### is -/
def D.isNon : D → Bool
  | .non => true
  | _ => false
def isB (neg : Bool) (a b : D) : Option R := match a, b with
  | .bl i, .bl j => some (.v (.bl (neg ^^ decide (i = j))))
  | _, _ => none
def isN (neg : Bool) (a b : D) : Option R := match b with
  | .non => some (.v (.bl (neg ^^ a.isNon)))
  | _ => none
theorem od_isB : OpD X (compareOp .Is) (isB false) := by
  refine ⟨_, op_isBl, fun F H x y a b res Q e va vb hg k => ?_⟩
  match a, b, hg with
  | .bl i, .bl j, hg => cases hg; exact ⟨i, j, va.bl, vb.bl, k _ H (.inl ⟨rfl, by simpa using Rp.bl _⟩)⟩
theorem od_notB : OpD X (compareOp .IsNot) (isB true) := by
  refine ⟨_, op_notBl, fun F H x y a b res Q e va vb hg k => ?_⟩
  match a, b, hg with
  | .bl i, .bl j, hg => cases hg; exact ⟨i, j, va.bl, vb.bl, k _ H (.inl ⟨rfl, by simpa using Rp.bl _⟩)⟩
theorem non_dec {K : PySem.W.Frag} {F H : Hp} {v : V} {a : D} (h : VR K F H v a) : decide (v = V.non) = a.isNon := by
  rcases h with h | ⟨p, rfl, h⟩
  · cases h <;> simp [D.isNon]
  · cases a <;> first | exact h.elim | simp [D.isNon]
theorem od_isN : OpD X (compareOp .Is) (isN false) := by
  refine ⟨_, op_isN, fun F H x y a b res Q e va vb hg k => ?_⟩
  match b, hg with
  | .non, hg => cases hg; exact ⟨vb.non, k _ H (.inl ⟨rfl, by rw [non_dec va]; simpa using Rp.bl _⟩)⟩
theorem od_notN : OpD X (compareOp .IsNot) (isN true) := by
  refine ⟨_, op_notN, fun F H x y a b res Q e va vb hg k => ?_⟩
  match b, hg with
  | .non, hg => cases hg; exact ⟨vb.non, k _ H (.inl ⟨rfl, by rw [non_dec va]; simpa using Rp.bl _⟩)⟩
def dIs (neg : Bool) (a b : D) : Option R := (isN neg a b).or (isB neg a b)
theorem od_is : OpD X (compareOp .Is) (dIs false) := od_isN.or od_isB
theorem od_isNot : OpD X (compareOp .IsNot) (dIs true) := od_notN.or od_notB

/-! ### x[i], x[i:j] -/
def ixL (a b : D) : Option R := match a, b with
  | .lst xs, .int i => (atI xs i).bind fun d => some (.v d)
  | _, _ => none
def ixT (a b : D) : Option R := match a, b with
  | .tup xs, .int i => (atI xs i).bind fun d => some (.v d)
  | _, _ => none
def ixS (a b : D) : Option R := match a, b with
  | .str z, .int i => (atI z.cps.toList i).bind fun c => some (.v (.str ⟨#[c]⟩))
  | _, _ => none
def ixD (a b : D) : Option R := match a with
  | .dic kvs => (dKey b).bind fun k => (dLook kvs k).bind fun d => some (.v d)
  | _ => none
theorem RpA.atI {K : PySem.W.Frag} {F : Hp} {vs : List V} {ds : List D} {i : Int} {d : D} (r : RpA K F vs ds) (h : L2.atI ds i = some d) : ∃ v, L2.atI vs i = some v ∧ Rp K F v d := by
  unfold L2.atI at h ⊢
  rw [r.length]
  obtain ⟨j, h1, h2⟩ := bsome h
  obtain ⟨v, h3, h4⟩ := r.get h2
  exact ⟨v, by rw [h1]; exact h3, h4⟩
theorem id_L : IxD X ixL := by
  refine ⟨_, ix_list, fun F H x y a b res Q e va vb hg k => ?_⟩
  match a, b, hg with
  | .lst xs, .int i, hg =>
    obtain ⟨d, h1, h2⟩ := bsome hg
    cases h2
    obtain ⟨p, vs, rfl, s, r, _⟩ := va.lst e
    obtain ⟨v, h3, h4⟩ := r.atI h1
    exact ⟨p, vs, i, v, rfl, vb.int, .inl (.inl s), h3, k v H (.inl ⟨rfl, h4⟩)⟩
theorem id_T : IxD X ixT := by
  refine ⟨_, ix_tup, fun F H x y a b res Q e va vb hg k => ?_⟩
  match a, b, hg with
  | .tup xs, .int i, hg =>
    obtain ⟨d, h1, h2⟩ := bsome hg
    cases h2
    obtain ⟨p, vs, rfl, s, r, _⟩ := va.tup e
    obtain ⟨v, h3, h4⟩ := r.atI h1
    exact ⟨p, vs, i, v, rfl, vb.int, s, h3, k v H (.inl ⟨rfl, h4⟩)⟩
theorem id_S : IxD X ixS := by
  refine ⟨_, ix_str, fun F H x y a b res Q e va vb hg k => ?_⟩
  match a, b, hg with
  | .str z, .int i, hg =>
    obtain ⟨c, h1, h2⟩ := bsome hg
    cases h2
    obtain ⟨rfl, hz⟩ := va.str
    refine ⟨z, i, c, rfl, vb.int, hz.1, h1, k _ H (.inl ⟨rfl, .str _ ?_⟩)⟩
    unfold L2.atI at h1
    obtain ⟨j, _, h2⟩ := bsome h1
    exact hz.sign (i := j) (by simpa using h2)
theorem ixr_dict (hu : X.A.units + 65 < cLine) : IxR X (fun x y H Q => ∃ a v, x = .ref a ∧ DGet H a y (some v) ∧ Q v H) := by
  intro value slice pins s σ H x y v u Q I rx ry h hs
  obtain ⟨a, w, rfl, g, q⟩ := h
  cases rx
  exact tail_any (dict_typeIs I g) PySem.F.slot_dict_getitem.lookup (d_getItem (by omega) I g ry fun w' s3 I3 rw' => ⟨w, H, I3, rw', q⟩) hs
theorem id_D (hu : X.A.units + 65 < cLine) : IxD X ixD := by
  refine ⟨_, ixr_dict hu, fun F H x y a b res Q e va vb hg k => ?_⟩
  match a, hg with
  | .dic kvs, hg =>
    obtain ⟨key, hk, hg⟩ := bsome hg
    obtain ⟨d, hd, hg⟩ := bsome hg
    cases hg
    obtain ⟨p, ks, rfl, rd, r⟩ := va.dic e
    obtain ⟨rfl, rfl⟩ := key_v vb hk
    rcases r.look (k := key) with ⟨h1, _⟩ | ⟨v, d', h1, h2, h3⟩
    · rw [hd] at h1; cases h1
    · rw [hd] at h1; cases h1
      exact ⟨p, v, rfl, .inl ⟨ks, key, rd, rfl, h2.symm⟩, k v H (.inl ⟨rfl, h3⟩)⟩
def dIx (a b : D) : Option R := ((ixL a b).or (ixT a b)).or ((ixS a b).or (ixD a b))
theorem id_ix (hu : X.A.units + 65 < cLine) : IxD X dIx := (id_L.or id_T).or (id_S.or (id_D hu))

def cutD {α : Type} (xs : List α) (lo hi : Option Int) : List α := (xs.drop (HT.sIx xs.length 0 lo)).take (HT.sIx xs.length xs.length hi - HT.sIx xs.length 0 lo)
theorem RpA.cut {K : PySem.W.Frag} {F : Hp} {vs : List V} {ds : List D} (r : RpA K F vs ds) (lo hi : Option Int) : RpA K F (cutV vs lo hi) (cutD ds lo hi) := by
  unfold cutV cutD
  rw [r.length]
  exact (r.drop _).take _
theorem cutD_le {α : Type} (xs : List α) (lo hi : Option Int) : (cutD xs lo hi).length ≤ xs.length := by
  unfold cutD
  rw [List.length_take, List.length_drop]
  omega
def slL (a : D) (lo hi : Option Int) : Option R := match a with | .lst xs => some (.f (.lst (cutD xs lo hi))) | _ => none
def slT (a : D) (lo hi : Option Int) : Option R := match a with | .tup xs => some (.v (.tup (cutD xs lo hi))) | _ => none
def cutT (z : Str) (lo hi : Option Int) : Str := ⟨(cutD z.cps.toList lo hi).toArray⟩
def slS (a : D) (lo hi : Option Int) : Option R := match a with | .str z => some (.v (.str (cutT z lo hi))) | _ => none
theorem sd_L : SlD X slL := by
  refine ⟨_, sl_list, fun F H x a lo hi res Q e va hg k => ?_⟩
  match a, hg with
  | .lst xs, hg =>
    cases hg
    obtain ⟨p, vs, rfl, s, r, l⟩ := va.lst e
    exact ⟨p, vs, rfl, .inl (.inl s), fun q n => k _ _ (Ou.newL n (r.cut lo hi) (Nat.le_trans (cutD_le _ _ _) l))⟩
theorem cut_whole {α : Type} {xs : List α} {lo hi : Option Int} (h : HT.sIx xs.length 0 lo = 0 ∧ HT.sIx xs.length xs.length hi = xs.length) : cutD xs lo hi = xs := by
  unfold cutD; rw [h.1, h.2]; simp
theorem sd_T : SlD X slT := by
  refine ⟨_, sl_tupA, fun F H x a lo hi res Q e va hg k => ?_⟩
  match a, hg with
  | .tup xs, hg =>
    cases hg
    have ra := vtup va
    obtain ⟨p, vs, rfl, s, r, l⟩ := va.tup e
    refine ⟨p, vs, rfl, s, fun h => ?_, fun h q n => k _ _ (Ou.newT e n (r.cut lo hi) (Nat.le_trans (cutD_le _ _ _) l))⟩
    rw [r.length] at h
    rw [cut_whole h] at k
    exact k _ H (.inl ⟨rfl, ra⟩)
theorem SOk.cut {z : Str} (h : SOk z) (lo hi : Option Int) : SOk (cutT z lo hi) := by
  refine ⟨?_, ?_⟩
  · show (cutD z.cps.toList lo hi).toArray.size ≤ sizeLine
    have := cutD_le z.cps.toList lo hi
    have h1 : z.cps.size ≤ sizeLine := h.1
    simp only [List.size_toArray, Array.length_toList] at this ⊢
    omega
  · have h2 := h.2
    rw [← Array.all_toList, List.all_eq_true] at h2
    show (cutD z.cps.toList lo hi).toArray.all _ = true
    rw [List.all_toArray, List.all_eq_true]
    exact fun c hc => h2 c (List.mem_of_mem_drop (List.mem_of_mem_take hc))
theorem cutS_eq (z : Str) (lo hi : Option Int) : cutS z lo hi = cutT z lo hi := by
  unfold cutS cutT cutD Str.length
  simp only [Array.length_toList]
theorem sd_S : SlD X slS := by
  refine ⟨_, sl_str, fun F H x a lo hi res Q e va hg k => ?_⟩
  match a, hg with
  | .str z, hg =>
    cases hg
    obtain ⟨rfl, hz⟩ := va.str
    exact ⟨z, rfl, hz.1, k _ H (.inl ⟨rfl, by rw [cutS_eq]; exact .str _ (hz.cut lo hi)⟩)⟩
def dSl (a : D) (lo hi : Option Int) : Option R := ((slL a lo hi).or (slT a lo hi)).or (slS a lo hi)
theorem sd_sl : SlD X dSl := (sd_L.or sd_T).or sd_S

/-! ### len, int, bool .. -/
def cLen (ds : List D) : Option R := match ds with
  | [.str x] => some (.v (.int x.length))
  | [.lst xs] => some (.v (.int xs.length))
  | [.tup xs] => some (.v (.int xs.length))
  | _ => none
theorem cd_len0 : CallD X (.builtin "len") cLen := by
  refine ⟨_, call_len, fun F H xs ds res Q e vs hg k => ?_⟩
  match ds, hg with
  | [.str x], hg =>
    cases hg
    obtain ⟨v, rfl, r⟩ := vals1 vs
    obtain ⟨rfl, hz⟩ := r.str
    exact ⟨_, x.length, rfl, ⟨hz.1, rfl⟩, k _ H (.inl ⟨rfl, .int _⟩)⟩
  | [.lst ys], hg =>
    cases hg
    obtain ⟨v, rfl, r⟩ := vals1 vs
    obtain ⟨p, us, rfl, s, r, l⟩ := r.lst e
    exact ⟨_, us.length, rfl, .inl ⟨us, .inl (.inl s), rfl⟩, k _ H (.inl ⟨rfl, by rw [r.length]; exact .int _⟩)⟩
  | [.tup ys], hg =>
    cases hg
    obtain ⟨v, rfl, r⟩ := vals1 vs
    obtain ⟨p, us, rfl, s, r, l⟩ := r.tup e
    exact ⟨_, us.length, rfl, .inr ⟨us, s, rfl⟩, k _ H (.inl ⟨rfl, by rw [r.length]; exact .int _⟩)⟩
def cInt (ds : List D) : Option R := match ds with
  | [.int i] => some (.v (.int i))
  | _ => none
theorem cd_int0 : CallD X (.type "int") cInt := by
  refine ⟨_, call_int1, fun F H xs ds res Q e vs hg k => ?_⟩
  match ds, hg with
  | [.int i], hg =>
    cases hg
    obtain ⟨v, rfl, r⟩ := vals1 vs
    exact .inl ⟨i, by rw [r.int], k _ H (.inl ⟨rfl, .int _⟩)⟩
def cIntT (ds : List D) : Option R := match ds with
  | [.str x] => if x.length ≤ 640 then (PySem.intText? x).bind fun n => some (.v (.int n)) else none
  | _ => none
theorem cd_intT : CallD X (.type "int") cIntT := by
  refine ⟨_, call_int_str, fun F H xs ds res Q e vs hg k => ?_⟩
  match ds, hg with
  | [.str x], hg =>
    obtain ⟨hl, hg⟩ := Option.ite_none_right_eq_some.mp hg
    obtain ⟨n, hn, hg⟩ := bsome hg
    cases hg
    obtain ⟨v, rfl, r⟩ := vals1 vs
    exact ⟨x, n, by rw [r.str.1], hn, hl, k _ H (.inl ⟨rfl, .int _⟩)⟩
theorem cd_int : CallD X (.type "int") (fun ds => (cInt ds).or (cIntT ds)) := cd_int0.or cd_intT
end
end PV

namespace PV
open PySem L2 PyProof.Rows
section
variable {X : Cx}
/-! ### isinstance -/
def D.tn : D → String
  | .non => "NoneType" | .bl _ => "bool" | .int _ => "int" | .str _ => "str" | .tup _ => "tuple" | .lst _ => "list" | .dic _ => "dict" | .st _ => "set"
theorem VR.tyx {F H : Hp} {v : V} {d : D} (h : VR X.K F H v d) (e : Ex F H) : TyX X.K H v (.type d.tn) := by
  cases d with
  | non => rw [h.non]; exact .base .non
  | bl b => rw [h.bl]; exact .base (.bl b)
  | int i => rw [h.int]; exact .base (.int i)
  | str x => rw [h.str.1]; exact .base (.str x)
  | lst ds =>
    obtain ⟨a, vs, rfl, s, _⟩ := h.lst e
    exact .base (.lst s)
  | tup ds =>
    obtain ⟨a, vs, rfl, s, _⟩ := h.tup e
    rcases s with (s | ⟨o, s⟩) | ⟨o, its, n, hk, hc, _⟩
    · exact .base (.tup s)
    · exact .fTuple s
    · exact .kTuple hk hc
  | dic ds =>
    obtain ⟨a, vs, rfl, s, _⟩ := h.dic e
    rcases s with s | ⟨o, s⟩
    · exact .base (.dK s)
    · exact .fDict s
  | st ds =>
    rcases h with h | ⟨p, _, h⟩
    · cases h
    · exact h.elim
def mIsi (T : String) (f : EF P) : EF R := fun E => (f E).bind fun p => (p.1.get p.2).bind fun d => (kitB d.tn T).bind fun b => some (.v (.bl b), p.2)
variable {e : Expr} {p q pos : Pos} {T : Str} {t : String}
theorem de_isi {f : EF P} (hg : Gl X "isinstance") (hm : X.mg "isinstance" = none) (hgT : Gl X T) (hmT : X.mg T = none) (hv : bootBuiltins T = some (.type t)) (ha : DP X e f) (hn : T ≠ "__name__" := by decide) (hd : (T == ("__debug__" : Str)) = false := by decide)
    (hst1 : starEach [.Name T q] X.env = (false, eval (.Name T q) X.env) :: starEach [] X.env := by rfl)
    (hst : starEach [e, .Name T q] X.env = (false, eval e X.env) :: starEach [.Name T q] X.env := by rfl)
    (hpl : (backTo pos (starEach [.Name T q] X.env)).any (·.1) = false := by rfl) : DE X (.Call (.Name "isinstance" p) [e, .Name T q] [] pos) (mIsi t f) := by
  obtain ⟨te, pa, h⟩ := ha.ex
  refine ⟨_, pe_callB call_isi hg hm PyProof.Rows.boot_isinstance (pa_cons pa (pa_cons (pe_bltn (v := .ty t) hgT hmT hv rfl hn hd) pa_nil hst1) hst) (by decide) (by decide) hst hpl, fun W F H E r E' Q I hf k => ?_⟩
  unfold mIsi at hf
  obtain ⟨⟨o, E1⟩, h1, hf⟩ := bsome hf
  obtain ⟨d, h2, hf⟩ := bsome hf
  obtain ⟨b, h3, hf⟩ := bsome hf
  cases hf
  refine h W F H E o E1 _ I h1 fun v F1 H1 I1 e1 r1 => ?_
  exact ⟨v, .ty t, .type d.tn, .type t, b, rfl, .ty t, (I1.vr r1 h2).tyx I1.FH, kit_ty h3, k _ F1 H1 I1 e1 (.bl b)⟩

/-! ### sums, all, any, max, min -/
def dInts : List D → Option (List Int)
  | [] => some []
  | .int i :: ds => (dInts ds).bind fun r => some (i :: r)
  | _ => none
def dBools : List D → Option (List Bool)
  | [] => some []
  | .bl i :: ds => (dBools ds).bind fun r => some (i :: r)
  | _ => none
def dStrs : List D → Option (List Str)
  | [] => some []
  | .str i :: ds => (dStrs ds).bind fun r => some (i :: r)
  | _ => none
theorem dInts_eq : ∀ {ds : List D} {ns : List Int}, dInts ds = some ns → ds = ns.map D.int
  | [], _, h => by cases h; rfl
  | .int i :: ds, ns, h => by
    unfold dInts at h
    obtain ⟨r, h1, h2⟩ := bsome h
    cases h2
    rw [dInts_eq h1, List.map_cons]
  | .non :: _, _, h | .bl _ :: _, _, h | .str _ :: _, _, h | .tup _ :: _, _, h | .lst _ :: _, _, h | .dic _ :: _, _, h | .st _ :: _, _, h => by cases h
theorem dBools_eq : ∀ {ds : List D} {ns : List Bool}, dBools ds = some ns → ds = ns.map D.bl
  | [], _, h => by cases h; rfl
  | .bl i :: ds, ns, h => by
    unfold dBools at h
    obtain ⟨r, h1, h2⟩ := bsome h
    cases h2
    rw [dBools_eq h1, List.map_cons]
  | .non :: _, _, h | .int _ :: _, _, h | .str _ :: _, _, h | .tup _ :: _, _, h | .lst _ :: _, _, h | .dic _ :: _, _, h | .st _ :: _, _, h => by cases h
theorem dStrs_eq : ∀ {ds : List D} {ns : List Str}, dStrs ds = some ns → ds = ns.map D.str
  | [], _, h => by cases h; rfl
  | .str i :: ds, ns, h => by
    unfold dStrs at h
    obtain ⟨r, h1, h2⟩ := bsome h
    cases h2
    rw [dStrs_eq h1, List.map_cons]
  | .non :: _, _, h | .int _ :: _, _, h | .bl _ :: _, _, h | .tup _ :: _, _, h | .lst _ :: _, _, h | .dic _ :: _, _, h | .st _ :: _, _, h => by cases h
theorem dInts_map : ∀ ns : List Int, dInts (ns.map D.int) = some ns
  | [] => rfl
  | n :: ns => by rw [List.map_cons]; unfold dInts; rw [dInts_map ns]; rfl
theorem dBools_map : ∀ ns : List Bool, dBools (ns.map D.bl) = some ns
  | [] => rfl
  | n :: ns => by rw [List.map_cons]; unfold dBools; rw [dBools_map ns]; rfl
theorem dStrs_map : ∀ ns : List Str, dStrs (ns.map D.str) = some ns
  | [] => rfl
  | n :: ns => by rw [List.map_cons]; unfold dStrs; rw [dStrs_map ns]; rfl
theorem RpA.ofInts {K : PySem.W.Frag} {F : Hp} : ∀ {vs : List V} {ns : List Int}, RpA K F vs (ns.map D.int) → vs = ns.map V.int
  | _, [], h => by cases h; rfl
  | _, n :: ns, h => by
    have h : RpA K F _ (D.int n :: ns.map D.int) := h
    cases h with
    | cons r t => cases r; rw [RpA.ofInts t, List.map_cons]
theorem RpA.ofBools {K : PySem.W.Frag} {F : Hp} : ∀ {vs : List V} {ns : List Bool}, RpA K F vs (ns.map D.bl) → vs = ns.map V.bl
  | _, [], h => by cases h; rfl
  | _, n :: ns, h => by
    have h : RpA K F _ (D.bl n :: ns.map D.bl) := h
    cases h with
    | cons r t => cases r; rw [RpA.ofBools t, List.map_cons]
theorem RpA.ofStrs {K : PySem.W.Frag} {F : Hp} : ∀ {vs : List V} {ns : List Str}, RpA K F vs (ns.map D.str) → vs = ns.map V.str ∧ ∀ x ∈ ns, SOk x
  | _, [], h => by cases h; exact ⟨rfl, fun _ h => by cases h⟩
  | _, n :: ns, h => by
    have h : RpA K F _ (D.str n :: ns.map D.str) := h
    cases h with
    | cons r t =>
      cases r with
      | str _ hn =>
        obtain ⟨h1, h2⟩ := RpA.ofStrs t
        refine ⟨by rw [h1, List.map_cons], fun x hx => ?_⟩
        rcases List.mem_cons.mp hx with rfl | hx
        · exact hn
        · exact h2 x hx
/-- a list as a bag of dInts .. -/
def lOf {α : Type} (f : List D → Option α) (ds : List D) : Option α := match ds with
  | [.lst xs] => f xs
  | _ => none
theorem lOf_some {α : Type} {f : List D → Option α} {ds : List D} {a : α} (h : lOf f ds = some a) : ∃ xs, ds = [.lst xs] ∧ f xs = some a := by
  match ds, h with
  | [.lst xs], h => exact ⟨xs, rfl, h⟩
def cAll (ds : List D) : Option R := (lOf dBools ds).bind fun bs => some (.v (.bl (bs.all id)))
def cAny (ds : List D) : Option R := (lOf dBools ds).bind fun bs => some (.v (.bl (bs.any id)))
def cSum (ds : List D) : Option R := (lOf dInts ds).bind fun bs => some (.v (.int bs.sum))
def maxI : List Int → Option Int
  | [] => none
  | n :: ns => some (ns.foldl max n)
def minI : List Int → Option Int
  | [] => none
  | n :: ns => some (ns.foldl min n)
theorem maxI_spec : ∀ (ns : List Int) (n : Int), (ns.foldl max n ∈ n :: ns) ∧ ∀ y ∈ n :: ns, y ≤ ns.foldl max n
  | [], n => ⟨by simp, fun y h => by simp at h; subst h; exact Int.le_refl _⟩
  | m :: ns, n => by
    obtain ⟨h1, h2⟩ := maxI_spec ns (max n m)
    refine ⟨?_, fun y hy => ?_⟩
    · rw [List.foldl_cons]
      rcases List.mem_cons.mp h1 with h | h
      · rw [h]
        rcases Int.le_total n m with z | z
        · rw [Int.max_eq_right z]; simp
        · rw [Int.max_eq_left z]; simp
      · simp [h]
    · rw [List.foldl_cons]
      have h3 := h2 (max n m) List.mem_cons_self
      rcases List.mem_cons.mp hy with rfl | hy
      · exact Int.le_trans (Int.le_max_left _ _) h3
      · rcases List.mem_cons.mp hy with rfl | hy
        · exact Int.le_trans (Int.le_max_right _ _) h3
        · exact h2 y (List.mem_cons_of_mem _ hy)
theorem minI_spec : ∀ (ns : List Int) (n : Int), (ns.foldl min n ∈ n :: ns) ∧ ∀ y ∈ n :: ns, ns.foldl min n ≤ y
  | [], n => ⟨by simp, fun y h => by simp at h; subst h; exact Int.le_refl _⟩
  | m :: ns, n => by
    obtain ⟨h1, h2⟩ := minI_spec ns (min n m)
    refine ⟨?_, fun y hy => ?_⟩
    · rw [List.foldl_cons]
      rcases List.mem_cons.mp h1 with h | h
      · rw [h]
        rcases Int.le_total n m with z | z
        · rw [Int.min_eq_left z]; simp
        · rw [Int.min_eq_right z]; simp
      · simp [h]
    · rw [List.foldl_cons]
      have h3 := h2 (min n m) List.mem_cons_self
      rcases List.mem_cons.mp hy with rfl | hy
      · exact Int.le_trans h3 (Int.min_le_left _ _)
      · rcases List.mem_cons.mp hy with rfl | hy
        · exact Int.le_trans h3 (Int.min_le_right _ _)
        · exact h2 y (List.mem_cons_of_mem _ hy)
def cMax (ds : List D) : Option R := (lOf dInts ds).bind fun ns => (maxI ns).bind fun m => some (.v (.int m))
def cMin (ds : List D) : Option R := (lOf dInts ds).bind fun ns => (minI ns).bind fun m => some (.v (.int m))
def cMax2 (ds : List D) : Option R := match ds with | [.int i, .int j] => some (.v (.int (max i j))) | _ => none
def cMin2 (ds : List D) : Option R := match ds with | [.int i, .int j] => some (.v (.int (min i j))) | _ => none
def cAbs (ds : List D) : Option R := match ds with | [.int i] => some (.v (.int (i.natAbs : Int))) | _ => none
theorem cd_all (hc : X.calm = true) : CallD X (.builtin "all") cAll := by
  refine ⟨_, cr_all hc, fun F H xs ds res Q e vs hg k => ?_⟩
  obtain ⟨bs, h1, h2⟩ := bsome hg
  cases h2
  obtain ⟨ys, rfl, h3⟩ := lOf_some h1
  obtain ⟨v, rfl, r⟩ := vals1 vs
  obtain ⟨a, us, rfl, s, r, _⟩ := r.lst e
  rw [dBools_eq h3] at r
  exact ⟨a, bs, rfl, .inl (.inl (by rw [← r.ofBools]; exact s)), k _ H (.inl ⟨rfl, .bl _⟩)⟩
theorem cd_any (hc : X.calm = true) : CallD X (.builtin "any") cAny := by
  refine ⟨_, cr_any hc, fun F H xs ds res Q e vs hg k => ?_⟩
  obtain ⟨bs, h1, h2⟩ := bsome hg
  cases h2
  obtain ⟨ys, rfl, h3⟩ := lOf_some h1
  obtain ⟨v, rfl, r⟩ := vals1 vs
  obtain ⟨a, us, rfl, s, r, _⟩ := r.lst e
  rw [dBools_eq h3] at r
  exact ⟨a, bs, rfl, .inl (.inl (by rw [← r.ofBools]; exact s)), k _ H (.inl ⟨rfl, .bl _⟩)⟩
theorem cd_sum (hc : X.calm = true) : CallD X (.builtin "sum") cSum := by
  refine ⟨_, cr_sum hc, fun F H xs ds res Q e vs hg k => ?_⟩
  obtain ⟨bs, h1, h2⟩ := bsome hg
  cases h2
  obtain ⟨ys, rfl, h3⟩ := lOf_some h1
  obtain ⟨v, rfl, r⟩ := vals1 vs
  obtain ⟨a, us, rfl, s, r, _⟩ := r.lst e
  rw [dInts_eq h3] at r
  exact ⟨a, bs, rfl, .inl (.inl (by rw [← r.ofInts]; exact s)), k _ H (.inl ⟨rfl, .int _⟩)⟩
theorem cd_max1 (hc : X.calm = true) : CallD X (.builtin "max") cMax := by
  refine ⟨_, cr_max hc, fun F H xs ds res Q e vs hg k => ?_⟩
  obtain ⟨bs, h1, hg⟩ := bsome hg
  obtain ⟨m, h4, h2⟩ := bsome hg
  cases h2
  obtain ⟨ys, rfl, h3⟩ := lOf_some h1
  obtain ⟨v, rfl, r⟩ := vals1 vs
  obtain ⟨a, us, rfl, s, r, _⟩ := r.lst e
  rw [dInts_eq h3] at r
  match bs, h4 with
  | n :: ns, h4 =>
    cases h4
    obtain ⟨g1, g2⟩ := maxI_spec ns n
    exact ⟨a, n :: ns, rfl, .inl (.inl (by rw [← r.ofInts]; exact s)), Nat.succ_pos _, fun m hm hl => by
      have : m = ns.foldl max n := Int.le_antisymm (g2 m hm) (hl _ g1)
      rw [this]; exact k _ H (.inl ⟨rfl, .int _⟩)⟩
theorem cd_min1 (hc : X.calm = true) : CallD X (.builtin "min") cMin := by
  refine ⟨_, cr_min hc, fun F H xs ds res Q e vs hg k => ?_⟩
  obtain ⟨bs, h1, hg⟩ := bsome hg
  obtain ⟨m, h4, h2⟩ := bsome hg
  cases h2
  obtain ⟨ys, rfl, h3⟩ := lOf_some h1
  obtain ⟨v, rfl, r⟩ := vals1 vs
  obtain ⟨a, us, rfl, s, r, _⟩ := r.lst e
  rw [dInts_eq h3] at r
  match bs, h4 with
  | n :: ns, h4 =>
    cases h4
    obtain ⟨g1, g2⟩ := minI_spec ns n
    exact ⟨a, n :: ns, rfl, .inl (.inl (by rw [← r.ofInts]; exact s)), Nat.succ_pos _, fun m hm hl => by
      have : m = ns.foldl min n := Int.le_antisymm (hl _ g1) (g2 m hm)
      rw [this]; exact k _ H (.inl ⟨rfl, .int _⟩)⟩
theorem cd_max2 (hc : X.calm = true) : CallD X (.builtin "max") cMax2 := by
  refine ⟨_, call_max2 hc, fun F H xs ds res Q e vs hg k => ?_⟩
  match ds, hg with
  | [.int i, .int j], hg =>
    cases hg
    obtain ⟨v, u, rfl, r, r'⟩ := vals2 vs
    rw [r.int, r'.int]
    refine ⟨i, j, rfl, ?_⟩
    have : (if j > i then j else i) = max i j := by
      by_cases z : j > i
      · rw [if_pos z, Int.max_eq_right (Int.le_of_lt z)]
      · rw [if_neg z, Int.max_eq_left (Int.not_lt.mp z)]
    rw [this]
    exact k _ H (.inl ⟨rfl, .int _⟩)
theorem cd_min2 (hc : X.calm = true) : CallD X (.builtin "min") cMin2 := by
  refine ⟨_, call_min2 hc, fun F H xs ds res Q e vs hg k => ?_⟩
  match ds, hg with
  | [.int i, .int j], hg =>
    cases hg
    obtain ⟨v, u, rfl, r, r'⟩ := vals2 vs
    rw [r.int, r'.int]
    refine ⟨i, j, rfl, ?_⟩
    have : (if j < i then j else i) = min i j := by
      by_cases z : j < i
      · rw [if_pos z, Int.min_eq_right (Int.le_of_lt z)]
      · rw [if_neg z, Int.min_eq_left (Int.not_lt.mp z)]
    rw [this]
    exact k _ H (.inl ⟨rfl, .int _⟩)
theorem cd_max (hc : X.calm = true) : CallD X (.builtin "max") (fun ds => (cMax ds).or (cMax2 ds)) := (cd_max1 hc).or (cd_max2 hc)
theorem cd_min (hc : X.calm = true) : CallD X (.builtin "min") (fun ds => (cMin ds).or (cMin2 ds)) := (cd_min1 hc).or (cd_min2 hc)
theorem cd_abs : CallD X (.builtin "abs") cAbs := by
  refine ⟨_, call_abs, fun F H xs ds res Q e vs hg k => ?_⟩
  match ds, hg with
  | [.int i], hg =>
    cases hg
    obtain ⟨v, rfl, r⟩ := vals1 vs
    rw [r.int]
    refine ⟨i, rfl, ?_⟩
    have : (if i < 0 then -i else i) = (i.natAbs : Int) := by
      by_cases z : i < 0
      · rw [if_pos z]; omega
      · rw [if_neg z]; omega
    rw [this]
    exact k _ H (.inl ⟨rfl, .int _⟩)

/-! ### list(), tuple(), dict(), str() -/
def cLst (ds : List D) : Option R := match ds with
  | [.lst xs] => some (.f (.lst xs))
  | [.tup xs] => some (.f (.lst xs))
  | _ => none
def cTup (ds : List D) : Option R := match ds with
  | [.lst xs] => some (.v (.tup xs))
  | [.tup xs] => some (.v (.tup xs))
  | _ => none
theorem cd_lst0 : CallD X (.type "list") cLst := by
  refine ⟨_, call_list_of, fun F H xs ds res Q e vs hg k => ?_⟩
  match ds, hg with
  | [.lst ys], hg =>
    cases hg
    obtain ⟨v, rfl, r⟩ := vals1 vs
    obtain ⟨a, us, rfl, s, r, l⟩ := r.lst e
    exact ⟨a, us, rfl, .inl (.inl (.inl s)), fun p n => k _ _ (Ou.newL n r l)⟩
  | [.tup ys], hg =>
    cases hg
    obtain ⟨v, rfl, r⟩ := vals1 vs
    obtain ⟨a, us, rfl, s, r, l⟩ := r.tup e
    exact ⟨a, us, rfl, .inr s, fun p n => k _ _ (Ou.newL n r l)⟩
theorem cd_tup0 : CallD X (.type "tuple") cTup := by
  refine ⟨_, call_tuple_of, fun F H xs ds res Q e vs hg k => ?_⟩
  match ds, hg with
  | [.lst ys], hg =>
    cases hg
    obtain ⟨v, rfl, r⟩ := vals1 vs
    obtain ⟨a, us, rfl, s, r, l⟩ := r.lst e
    exact ⟨a, us, rfl, .inl ⟨.inl (.inl s), fun p n => k _ _ (Ou.newT e n r l)⟩⟩
  | [.tup ys], hg =>
    cases hg
    obtain ⟨v, rfl, r⟩ := vals1 vs
    have r0 := vtup r
    obtain ⟨a, us, rfl, s, r, l⟩ := r.tup e
    exact ⟨a, us, rfl, .inr ⟨s, k _ H (.inl ⟨rfl, r0⟩)⟩⟩
def cLstS (ds : List D) : Option R := match ds with
  | [.str x] => some (.f (.lst (signs x)))
  | _ => none
theorem signs_vals {x : Str} {acc : Array Value} (h : ItemsOf (SignAt x) acc x.cps.size) : Vals (x.cps.toList.map fun c => V.str ⟨#[c]⟩) acc.toList := by
  refine vals_of_at (by rw [List.length_map, Array.length_toList, Array.length_toList]; exact h.1.symm) fun j v u hj hu => ?_
  rw [List.getElem?_map] at hj
  obtain ⟨c, hc, rfl⟩ := Option.map_eq_some_iff.mp hj
  have hu' : acc[j]? = some u := by rw [← hu, Array.getElem?_toList]
  obtain ⟨c', t, hc', rfl⟩ := h.2 j u hu'
  rw [Array.getElem?_toList, hc'] at hc
  cases hc
  exact ⟨t, rfl⟩
theorem signs_rp {K : PySem.W.Frag} {F : Hp} {x : Str} (h : SOk x) : RpA K F (x.cps.toList.map fun c => V.str ⟨#[c]⟩) (signs x) := by
  unfold signs
  have : ∀ l : List Nat, (∀ c ∈ l, SOk ⟨#[c]⟩) → RpA K F (l.map fun c => V.str ⟨#[c]⟩) (l.map fun c => D.str ⟨#[c]⟩) := by
    intro l
    induction l with
    | nil => intro _; exact .nil
    | cons c l ih => intro h; exact .cons (.str _ (h c List.mem_cons_self)) (ih fun d hd => h d (List.mem_cons_of_mem _ hd))
  refine this _ fun c hc => ?_
  obtain ⟨i, hi⟩ := List.mem_iff_getElem?.mp hc
  exact h.sign (i := i) (by rw [← hi, Array.getElem?_toList])
theorem cd_lstS (hc : X.calm = true) : CallD X (.type "list") cLstS := by
  refine ⟨fun xs H Q => ∃ x, xs = [.str x] ∧ SOk x ∧ ∀ p, H p = none → Q (.ref p) (upd H p (.lst (x.cps.toList.map fun c => V.str ⟨#[c]⟩))), ?_, fun F H xs ds res Q e vs hg k => ?_⟩
  · intro pins s σ H xs us Q I r h
    obtain ⟨x, rfl, hx, q⟩ := h
    obtain ⟨u, rfl, t, rfl⟩ := r.one
    refine PySem.call_list_str (I.ok.hd hc) x t (fun h' tk acc c' hk hS hacc => ?_) hx.1
    have hv := signs_vals hacc
    refine ⟨.ref s.heap.objs.size, _, I.laid (a := s.heap.objs.size) (o := .lst (x.cps.toList.map fun c => V.str ⟨#[c]⟩)) hk (Nat.le_refl _) ⟨?_, acc.toList, c', hv, ?_⟩, rfl, q _ (I.hok.fresh (Nat.le_refl _))⟩
    · rw [List.length_map, Array.length_toList]; exact hx.1
    · rw [Array.toArray_toList]; exact hS
  · match ds, hg with
    | [.str x], hg =>
      cases hg
      obtain ⟨v, rfl, r⟩ := vals1 vs
      exact ⟨x, by rw [r.str.1], r.str.2, fun p n => k _ _ (Ou.newL n (signs_rp r.str.2) (by unfold signs; rw [List.length_map, Array.length_toList]; exact r.str.2.1))⟩
/-- list(d): the keys -/
def dKeys (kvs : List (D × D)) : List D := kvs.map (·.1)
def cLstD (ds : List D) : Option R := match ds with
  | [.dic kvs] => if kvs.length ≤ sizeLine then some (.f (.lst (dKeys kvs))) else none
  | _ => none
theorem RpK.keys {K : PySem.W.Frag} {F : Hp} : ∀ {vs : List (Key × V)} {ds : List (D × D)}, RpK K F vs ds → RpA K F (vs.map fun kv => kV kv.1) (dKeys ds)
  | _, _, .nil => .nil
  | _, _, .cons (k := k) r s t => by
    refine .cons ?_ (RpK.keys t)
    cases k with
    | inl i => exact .int i
    | inr x => exact .str x (s x rfl)
theorem RpK.length {K : PySem.W.Frag} {F : Hp} : ∀ {vs : List (Key × V)} {ds : List (D × D)}, RpK K F vs ds → vs.length = ds.length
  | _, _, .nil => rfl
  | _, _, .cons r s t => congrArg (· + 1) (RpK.length t)
theorem cd_list (hc : X.calm = true) : CallD X (.type "list") (fun ds => (cLst ds).or (cLstS ds)) := cd_lst0.or (cd_lstS hc)

/-! ### sorted -/
def dLt (a b : D) : Bool := PySem.W.dataLt a.py b.py
/-- they may be put in order -/
def sortOk (ds : List D) : Bool := (ds.all fun a => a.nd && ds.all fun b => PySem.W.alike a.py b.py) && ((ds.all fun d => match d with | .tup (_ :: _) => true | _ => false) || ds.all fun d => match d with | .non => false | .tup _ => false | _ => true)
  && ds.all fun d => decide (d.py.depth ≤ 60)
def dSort (ds : List D) : List D := ds.mergeSort fun a b => !dLt b a
def cSort (ds : List D) : Option R := (lOf (fun xs => if sortOk xs = true then some xs else none) ds).bind fun xs => some (.f (.lst (dSort xs)))
theorem sortOk_of {ds : List D} (h : sortOk ds = true) : (∀ d ∈ ds, d.nd = true) ∧ PySem.W.AllAlike (ds.map D.py) ∧ PySem.W.Sortable (ds.map D.py) ∧ ∀ d ∈ ds, d.py.depth ≤ 60 := by
  unfold sortOk at h
  simp only [Bool.and_eq_true, Bool.or_eq_true, List.all_eq_true, decide_eq_true_eq] at h
  obtain ⟨⟨h1, h2⟩, h3⟩ := h
  refine ⟨fun d hd => (h1 d hd).1, ?_, ?_, h3⟩
  · intro d hd d' hd'
    obtain ⟨b, hb, rfl⟩ := List.mem_map.mp hd
    obtain ⟨b', hb', rfl⟩ := List.mem_map.mp hd'
    exact (h1 b hb).2 b' hb'
  · rcases h2 with h2 | h2
    · refine .inl fun d hd => ?_
      obtain ⟨b, hb, rfl⟩ := List.mem_map.mp hd
      have := h2 b hb
      match b, this with
      | .tup (x :: xs), _ => exact ⟨x.py, pys xs, by simp [D.py, pys]⟩
    · refine .inr fun d hd => ?_
      obtain ⟨b, hb, rfl⟩ := List.mem_map.mp hd
      have := h2 b hb
      have n := (h1 b hb).1
      match b, this, n with
      | .bl _, _, _ => exact ⟨by simp [D.py], by simp [D.py]⟩
      | .int _, _, _ => exact ⟨by simp [D.py], by simp [D.py]⟩
      | .str _, _, _ => exact ⟨by simp [D.py], by simp [D.py]⟩
      | .lst _, _, _ => exact ⟨by simp [D.py], by simp [D.py]⟩
theorem each_of_rpa {K : PySem.W.Frag} {F H : Hp} {vs : List V} {ds : List D} (r : RpA K F vs ds) : ∀ {us : List Value}, Vals vs us → PySem.W.EachIs (fun u d => ∃ v, RelV v u ∧ Rp K F v d) us ds := by
  induction ds generalizing vs with
  | nil => intro us h; cases r; cases h; exact .nil
  | cons d ds ih =>
    intro us h
    cases r with
    | cons r t =>
      cases h with
      | cons q qs => exact .cons ⟨_, q, r⟩ (ih t qs)
theorem rpa_of_each {K : PySem.W.Frag} {F : Hp} : ∀ {us : List Value} {ds : List D}, PySem.W.EachIs (fun u d => ∃ v, RelV v u ∧ Rp K F v d) us ds → ∃ vs, Vals vs us ∧ RpA K F vs ds
  | _, _, .nil => ⟨[], .nil, .nil⟩
  | _, _, .cons ⟨v, q, r⟩ t => by
    obtain ⟨vs, h1, h2⟩ := rpa_of_each t
    exact ⟨v :: vs, .cons q h1, .cons r h2⟩
theorem each_imp {α β : Type} {R S : α → β → Prop} : ∀ {as : List α} {bs : List β}, (∀ a b, b ∈ bs → R a b → S a b) → PySem.W.EachIs R as bs → PySem.W.EachIs S as bs
  | _, _, _, .nil => .nil
  | _, _, h, .cons r t => .cons (h _ _ List.mem_cons_self r) (each_imp (fun a b hb => h a b (List.mem_cons_of_mem _ hb)) t)
theorem cd_sort (hu : X.A.units + 65 < cLine) : CallD X (.builtin "sorted") cSort := by
  refine ⟨fun vs H Q => ∃ (F : Hp) (a : Addr) (xs : List V) (ds : List D), Ex F H ∧ vs = [.ref a] ∧ SqL X.K H a xs ∧ RpA X.K F xs ds ∧ sortOk ds = true ∧ ds.length ≤ sizeLine ∧ ∀ (out : List V) p, RpA X.K F out (dSort ds) → H p = none → Q (.ref p) (upd H p (.lst out)), ?_, fun F H xs ds res Q e vs hg k => ?_⟩
  · intro pins s σ H vs us Q I r h
    obtain ⟨F, a, xs, ds, e, rfl, hs, ra, ok, hl, q⟩ := h
    obtain ⟨its, rv, hlst, hz⟩ := I.list hs
    rw [Vals.ref1 r]
    obtain ⟨k1, k2, k3, k4⟩ := sortOk_of ok
    have ei := each_of_rpa (H := H) ra rv
    have er : PySem.W.EachIs (fun v (b : D) => ∃ as, Reads s.heap v b.py as) its ds := each_imp (fun u d hd ⟨v, q, r⟩ => Dp.reads I d.py v u (r.dp e (k1 _ hd)).1 q) ei
    refine PySem.W.sorted_data (enc := D.py) hlst.isList ei er k2 k3 hl (fun b hb => ?_) fun out ho eo => ?_
    · have := k4 b hb
      omega
    · obtain ⟨vs, hv, rv2⟩ := rpa_of_each eo
      obtain ⟨ep, he'⟩ := PyProof.Rows.sortedAll_at s.heap its out.toArray
      refine ⟨.ref _, upd H (s.heap.objs.size + 1) (.lst vs), I.laid (t' := s.toks) (fun _ _ => PyProof.Rows.sortedAll_old) (Nat.le_succ _) ⟨?_, out, ep, hv, he'⟩, rfl, q _ _ rv2 (I.hok.fresh (Nat.le_succ _))⟩
      rw [hv.length, ho]; exact hl
  · obtain ⟨xs', h1, h2⟩ := bsome hg
    cases h2
    obtain ⟨ys, rfl, h3⟩ := lOf_some h1
    obtain ⟨ok, h3⟩ := Option.ite_none_right_eq_some.mp h3
    cases h3
    obtain ⟨v, rfl, r⟩ := vals1 vs
    obtain ⟨a, us, rfl, s, r, l⟩ := r.lst e
    exact ⟨F, a, us, _, e, rfl, .inl (.inl s), r, ok, l, fun out p ro n => k _ _ (Ou.newL n ro (by unfold dSort; rw [List.length_mergeSort]; exact l))⟩
end
end PV

namespace PV
open PySem L2 PyProof.Rows
section
variable {K : PySem.W.Frag} {F F' H H' : Hp} {W : FP} {E : En} {v : V}
theorem FI.nop (I : FI K W E F H) {i : Nat} {d : D} {p : Addr} (q : E.sl[i]? = some (.o false d)) (e1 : W.σ[i]? = some (some (.ref p))) : NO W { E with sl := E.sl.set i .no } p := by
  have hi : i < E.sl.length := (List.getElem?_eq_some_iff.mp q).1
  refine ⟨fun j l c e z => ?_, fun x hx z => ?_, fun x hx z => ?_⟩
  · by_cases w : i = j
    · subst w; simp only [List.getElem?_set_self hi] at e; cases e
    · simp only [List.getElem?_set_ne w] at e
      exact I.ds i j _ _ _ _ p w q e e1 z
  · exact (I.ho x hx).2.2 i _ _ q (z ▸ e1)
  · exact (I.l2 x hx).2 i _ q (z ▸ e1)
/-- the container of a slot is written -/
theorem FI.wslot (I : FI K W E F H) {i : Nat} {d d' : D} {p : Addr} {o : HO} (q : E.sl[i]? = some (.o false d)) (e1 : W.σ[i]? = some (some (.ref p))) (nfz : ∀ od u, o ≠ .frz od u) (hc : Ct K F (upd H p o) p d') :
    FI K W { E with sl := E.sl.set i (.o false d') } F (upd H p o) := by
  obtain ⟨p', e2, ow, wr⟩ := I.sl i _ q
  rw [e1] at e2; cases e2
  have nop := I.nop q e1
  have nl : ∀ x ∈ W.lk, x.1 ≠ p := fun x hx z => wr rfl x.2.1 x.2.2 (z ▸ (I.lo x hx).1)
  have I1 := (I.drop i).write (o := o) ow.nf ow.n0 ow.nb nop nl
  have I2 := I1.put (i := i) (s := .o false d') ⟨p, e1, ⟨hc, ow.nf, ow.n0, ow.nb⟩, fun _ => wr_same nfz⟩ fun l c p' e z => by
    cases e
    rw [e1] at z; cases z
    refine ⟨rfl, ?_⟩
    simp only [List.set_set]
    exact nop
  simp only [List.set_set] at I2
  exact I2
end

/-! ### methods that change a container of one's own -/
def MuD (X : Cx) (T id : String) (g : D → List D → Option (D × D)) : Prop := ∃ r, MtR X id r ∧
  ∀ F H p a xs ds res nd (Q : VK), Ex F H → Ct X.K F H p a → Wr H p → RpA X.K F xs ds → g a ds = some (res, nd) → (∀ v o, (∀ od u, o ≠ .frz od u) → Rp X.K F v res → Ct X.K F (upd H p o) p nd → Q v (upd H p o)) → r (.ref p) xs H Q
theorem MuD.or {X : Cx} {T id : String} {g g' : D → List D → Option (D × D)} (h : MuD X T id g) (h' : MuD X T id g') : MuD X T id (fun a ds => (g a ds).or (g' a ds)) := by
  obtain ⟨r, hr, h⟩ := h
  obtain ⟨r', hr', h'⟩ := h'
  refine ⟨_, hr.or hr', fun F H p a xs ds res nd Q e c w va hg k => ?_⟩
  have hg : (g a ds).or (g' a ds) = some (res, nd) := hg
  cases q : g a ds with
  | some z => rw [q] at hg; cases hg; exact .inl (h F H p a xs ds _ _ Q e c w va q k)
  | none => rw [q] at hg; exact .inr (h' F H p a xs ds res nd Q e c w va hg k)
def mMu (g : D → List D → Option (D × D)) (i : Nat) (fa : EF (List D)) : EF R := fun E => match E.sl[i]? with
  | some (.o false (.lst _)) => (fa E).bind fun x => match x.2.sl[i]? with
    | some (.o false d) => (g d x.1).bind fun y => some (.v y.1, { x.2 with sl := x.2.sl.set i (.o false y.2) })
    | _ => none
  | _ => none
theorem mMu_some {g : D → List D → Option (D × D)} {i : Nat} {fa : EF (List D)} {E E' : En} {r : R} (h : mMu g i fa E = some (r, E')) :
    ∃ ds0 xs E1 d res nd, E.sl[i]? = some (.o false (.lst ds0)) ∧ fa E = some (xs, E1) ∧ E1.sl[i]? = some (.o false d) ∧ g d xs = some (res, nd) ∧ r = .v res ∧ E' = { E1 with sl := E1.sl.set i (.o false nd) } := by
  unfold mMu at h
  match q : E.sl[i]? with
  | some (.o false (.lst ds)) =>
    rw [q] at h
    obtain ⟨⟨xs, E1⟩, h1, h⟩ := bsome h
    match q2 : E1.sl[i]? with
    | some (.o false d) =>
      simp only [q2] at h
      obtain ⟨⟨res, nd⟩, h2, h⟩ := bsome h
      cases h
      exact ⟨ds, xs, E1, d, res, nd, rfl, h1, q2, h2, rfl, rfl⟩
    | some (.o true d) => simp [q2] at h
    | some .no => simp [q2] at h
    | some (.v _) => simp [q2] at h
    | some (.b _) => simp [q2] at h
    | some .bx => simp [q2] at h
    | none => simp [q2] at h
  | some (.o false .non) | some (.o false (.bl _)) | some (.o false (.int _)) | some (.o false (.str _)) | some (.o false (.tup _)) | some (.o false (.dic _)) | some (.o false (.st _)) => simp [q] at h
  | some (.o true _) => simp [q] at h
  | some .no => simp [q] at h
  | some (.v _) => simp [q] at h
  | some (.b _) => simp [q] at h
  | some .bx => simp [q] at h
  | none => simp [q] at h
section
variable {X : Cx} {e : Expr} {es : List Expr} {x name : Str} {px apos cpos pos : Pos} {i : Nat} {id : String}
theorem de_mu {g : D → List D → Option (D × D)} {fa : EF (List D)} (pa : PlainAttrs "list") (slot : Slot "list" name id) (hty : typeOf (.builtin id) = pure (.type "method_descriptor")) (hm : MuD X "list" id g) (hN : X.N[i]? = some x) (hv : Vis X.env.scope x) (ha : DV X (e :: es) fa)
    (hd : (x == ("__debug__" : Str)) = false := by decide) (hcd : (x == ("__classdict__" : Str)) = false := by decide)
    (hbase : attributeBase (.Name x px) name X.env (eval (.Name x px) X.env) = eval (.Name x px) X.env := by rfl)
    (hfew : ((backTo cpos (starEach (e :: es) X.env)).all (fun x => !x.1) && (backToKw cpos (keywordEach [] X.env)).all (fun x => x.1.isSome)
      && decide ((e :: es).length + ([] : List Keyword).length + (if ([] : List Keyword).isEmpty then 0 else 1) < 30)) = true := by rfl)
    (hline : (apos.endLine == cpos.line) = true := by rfl) (hs : starEach (e :: es) X.env = (false, eval e X.env) :: starEach es X.env := by rfl) (hplain : (backTo cpos (starEach es X.env)).any (·.1) = false := by rfl) :
    DE X (.Call (.Attribute (.Name x px) name apos) (e :: es) [] cpos) (mMu g i fa) := by
  obtain ⟨r, hr, h⟩ := hm
  obtain ⟨ta, qa, ha⟩ := ha.ex
  refine ⟨_, pe_bm pa slot hty hr (pe_var hN hv hd hcd) qa hbase hfew hline hs hplain, fun W F H E res E' Q I hf k => ?_⟩
  obtain ⟨ds0, xs, E1, d, rs, nd, q, h1, q2, h2, rfl, rfl⟩ := mMu_some hf
  obtain ⟨p, e1, ow, wr⟩ := I.sl i _ q
  obtain ⟨vs, hv, _⟩ := _root_.id ow.ct
  refine ⟨.ref p, e1, .inl ⟨rfl, vs, .inl (.inl hv)⟩, ha W F H E xs E1 _ I h1 fun us F1 H1 I1 ex r1 => ?_⟩
  obtain ⟨p', e2, ow1, wr1⟩ := I1.sl i _ q2
  rw [e1] at e2; cases e2
  exact h F1 H1 p d us xs rs nd _ I1.FH ow1.ct (wr1 rfl) r1 h2 fun v o nfz rv hc => k v F1 _ (I1.wslot q2 e1 nfz hc) ex rv
theorem de_mu0 {g : D → List D → Option (D × D)} (pa : PlainAttrs "list") (slot : Slot "list" name id) (hty : typeOf (.builtin id) = pure (.type "method_descriptor")) (hm : MuD X "list" id g) (hN : X.N[i]? = some x) (hv : Vis X.env.scope x)
    (hd : (x == ("__debug__" : Str)) = false := by decide) (hcd : (x == ("__classdict__" : Str)) = false := by decide)
    (hbase : attributeBase (.Name x px) name X.env (eval (.Name x px) X.env) = eval (.Name x px) X.env := by rfl) (hline : (apos.endLine == cpos.line) = true := by rfl) :
    DE X (.Call (.Attribute (.Name x px) name apos) [] [] cpos) (mMu g i mNil) := by
  obtain ⟨r, hr, h⟩ := hm
  refine ⟨_, pe_bm0 pa slot hty hr (pe_var hN hv hd hcd) hbase hline, fun W F H E res E' Q I hf k => ?_⟩
  obtain ⟨ds0, xs, E1, d, rs, nd, q, h1, q2, h2, rfl, rfl⟩ := mMu_some hf
  cases h1
  obtain ⟨p, e1, ow, wr⟩ := I.sl i _ q
  obtain ⟨vs, hv, _⟩ := _root_.id ow.ct
  refine ⟨.ref p, e1, .inl ⟨rfl, vs, .inl (.inl hv)⟩, ?_⟩
  obtain ⟨p', e2, ow1, wr1⟩ := I.sl i _ q2
  rw [e1] at e2; cases e2
  exact h F H p d [] [] rs nd _ I.FH ow1.ct (wr1 rfl) .nil h2 fun v o nfz rv hc => k v F _ (I.wslot q2 e1 nfz hc) (Ex.refl F) rv
def uAppend (a : D) (ds : List D) : Option (D × D) := match a, ds with
  | .lst xs, [y] => if xs.length < sizeLine then some (.non, .lst (xs ++ [y])) else none
  | _, _ => none
def uExtend (a : D) (ds : List D) : Option (D × D) := match a, ds with
  | .lst xs, [.lst ys] => if xs.length + ys.length ≤ sizeLine then some (.non, .lst (xs ++ ys)) else none
  | _, _ => none
def uPop (a : D) (ds : List D) : Option (D × D) := match a, ds with
  | .lst xs, [] => (xs[xs.length - 1]?).bind fun y => some (y, .lst xs.dropLast)
  | _, _ => none
def uPopAt (a : D) (ds : List D) : Option (D × D) := match a, ds with
  | .lst xs, [.int i] => if -(2 ^ 63) ≤ i ∧ i < 2 ^ 63 then (seqIndex? i xs.length).bind fun k => (xs[k]?).bind fun y => some (y, .lst (xs.eraseIdx k)) else none
  | _, _ => none
def uInsert (a : D) (ds : List D) : Option (D × D) := match a, ds with
  | .lst xs, [.int i, y] => if xs.length < sizeLine ∧ 0 ≤ i ∧ i < 2 ^ 63 then some (.non, .lst (xs.take i.toNat ++ [y] ++ xs.drop i.toNat)) else none
  | _, _ => none
theorem mu_append : MuD X "list" "list.append" uAppend := by
  refine ⟨_, mt_append, fun F H p a xs ds res nd Q e c w va hg k => ?_⟩
  match a, ds, hg with
  | .lst ys, [y], hg =>
    obtain ⟨hl, hg⟩ := Option.ite_none_right_eq_some.mp hg
    cases hg
    obtain ⟨vs, hp, r, l⟩ := c
    cases va with
    | cons r1 t =>
      cases t
      exact ⟨p, vs, _, rfl, rfl, hp, by rw [r.length]; exact hl, k _ _ (fun _ _ z => nomatch z) .non ⟨_, upd_same, r.append (.cons r1 .nil), by simp; omega⟩⟩
theorem mu_extend : MuD X "list" "list.extend" uExtend := by
  refine ⟨_, mt_extend, fun F H p a xs ds res nd Q e c w va hg k => ?_⟩
  match a, ds, hg with
  | .lst ys, [.lst zs], hg =>
    obtain ⟨hl, hg⟩ := Option.ite_none_right_eq_some.mp hg
    cases hg
    obtain ⟨vs, hp, r, l⟩ := c
    cases va with
    | cons r1 t =>
      cases t
      cases r1 with
      | lst s1 r1 l1 =>
        exact ⟨p, _, vs, _, rfl, rfl, hp, e _ _ s1, by rw [r.length, r1.length]; exact hl, k _ _ (fun _ _ z => nomatch z) .non ⟨_, upd_same, r.append r1, by simpa using hl⟩⟩
theorem mu_pop : MuD X "list" "list.pop" uPop := by
  refine ⟨_, mt_pop, fun F H p a xs ds res nd Q e c w va hg k => ?_⟩
  match a, ds, hg with
  | .lst ys, [], hg =>
    obtain ⟨y, hy, hg⟩ := bsome hg
    cases hg
    obtain ⟨vs, hp, r, l⟩ := c
    cases va
    obtain ⟨u, hu, ru⟩ := r.get hy
    exact ⟨p, vs, u, rfl, rfl, hp, by rw [r.length]; exact hu, k _ _ (fun _ _ z => nomatch z) ru ⟨_, upd_same, r.dropLast, by simp; omega⟩⟩
theorem mu_popAt : MuD X "list" "list.pop" uPopAt := by
  refine ⟨_, mt_popAt, fun F H p a xs ds res nd Q e c w va hg k => ?_⟩
  match a, ds, hg with
  | .lst ys, [.int i], hg =>
    obtain ⟨hl, hg⟩ := Option.ite_none_right_eq_some.mp hg
    obtain ⟨j, hj, hg⟩ := bsome hg
    obtain ⟨y, hy, hg⟩ := bsome hg
    cases hg
    obtain ⟨vs, hp, r, l⟩ := c
    cases va with
    | cons r1 t =>
      cases t
      cases r1
      obtain ⟨u, hu, ru⟩ := r.get hy
      exact ⟨p, vs, i, j, u, rfl, rfl, hp, hl.1, hl.2, by rw [r.length]; exact hj, hu, k _ _ (fun _ _ z => nomatch z) ru ⟨_, upd_same, r.eraseIdx j, Nat.le_trans (List.length_eraseIdx_le ys j) l⟩⟩
theorem mu_insert : MuD X "list" "list.insert" uInsert := by
  refine ⟨_, mt_insert, fun F H p a xs ds res nd Q e c w va hg k => ?_⟩
  match a, ds, hg with
  | .lst ys, [.int i, y], hg =>
    obtain ⟨hl, hg⟩ := Option.ite_none_right_eq_some.mp hg
    cases hg
    obtain ⟨vs, hp, r, l⟩ := c
    cases va with
    | cons r1 t =>
      cases t with
      | cons r2 t =>
        cases t
        cases r1
        refine ⟨p, vs, i, _, rfl, rfl, hp, by rw [r.length]; exact hl.1, hl.2.1, hl.2.2, k _ _ (fun _ _ z => nomatch z) .non ⟨_, upd_same, ((r.take _).append (.cons r2 .nil)).append (r.drop _), ?_⟩⟩
        simp only [List.length_append, List.length_take, List.length_drop, List.length_singleton]
        have := hl.1
        omega

/-! ### x[k] = value -/
def SuD (X : Cx) (g : D → D → D → Option D) : Prop := ∃ t : TSet, PSet X t ∧
  ∀ F H p a b c i v nd (Q : Hp → Prop), Ex F H → Ct X.K F H p a → Wr H p → VR X.K F H i b → Rp X.K F v c → g a b c = some nd → (∀ o, (∀ od u, o ≠ .frz od u) → Ct X.K F (upd H p o) p nd → Q (upd H p o)) → t (.ref p) i v H Q
def suL (a b c : D) : Option D := match a, b with
  | .lst xs, .int k => (ixN xs.length k).bind fun j => some (.lst (xs.set j c))
  | _, _ => none
def dPut (kvs : List (D × D)) (k : Key) (d : D) : List (D × D) := if (kvs.any fun kv => kv.1.isK k) = true then kvs.map (fun kv => if kv.1.isK k = true then (kv.1, d) else kv) else kvs ++ [(kD k, d)]
def suK (a b c : D) : Option D := match a with
  | .dic kvs => (dKey b).bind fun k => if kvs.length < sizeLine then some (.dic (dPut kvs k c)) else none
  | _ => none
theorem su_L : SuD X suL := by
  refine ⟨_, set_list, fun F H p a b c i v nd Q e ct w vb rc hg k => ?_⟩
  match a, b, hg with
  | .lst xs, .int j, hg =>
    obtain ⟨n, hn, hg⟩ := bsome hg
    cases hg
    obtain ⟨vs, hp, r, l⟩ := ct
    exact ⟨p, vs, j, n, rfl, vb.int, hp, by rw [r.length]; exact hn, k _ (fun _ _ z => nomatch z) ⟨_, upd_same, r.set rc n, by simpa using l⟩⟩
theorem RpK.any {K : PySem.W.Frag} {F : Hp} {k : Key} : ∀ {kvs : List (Key × V)} {ds : List (D × D)}, RpK K F kvs ds → (ds.any fun kv => kv.1.isK k) = kvs.any fun kv => decide (kv.1 = k)
  | _, _, .nil => rfl
  | _, _, .cons r s t => by rw [List.any_cons, List.any_cons, isK_kD, RpK.any t]
theorem RpK.repl {K : PySem.W.Frag} {F : Hp} {k : Key} {v : V} {d : D} (q : Rp K F v d) : ∀ {kvs : List (Key × V)} {ds : List (D × D)}, RpK K F kvs ds →
    RpK K F (kvs.map fun kv => if kv.1 = k then (kv.1, v) else kv) (ds.map fun kv => if kv.1.isK k = true then (kv.1, d) else kv)
  | _, _, .nil => .nil
  | _, _, .cons (k := k') r s t => by
    rw [List.map_cons, List.map_cons]
    by_cases h : k' = k
    · subst h
      simp only [if_true, isK_kD, decide_true]
      exact .cons q s (RpK.repl q t)
    · have h2 : ¬ ((kD k').isK k = true) := by rw [isK_kD]; simpa using h
      simp only [if_neg h, if_neg h2]
      exact .cons r s (RpK.repl q t)
theorem RpK.append {K : PySem.W.Frag} {F : Hp} : ∀ {kvs us : List (Key × V)} {ds es : List (D × D)}, RpK K F kvs ds → RpK K F us es → RpK K F (kvs ++ us) (ds ++ es)
  | _, _, _, _, .nil, h => h
  | _, _, _, _, .cons r s t, h => .cons r s (RpK.append t h)
theorem RpK.put {K : PySem.W.Frag} {F : Hp} {k : Key} {v : V} {d : D} {kvs : List (Key × V)} {ds : List (D × D)} (h : RpK K F kvs ds) (q : Rp K F v d) (hk : ∀ x, k = .inr x → SOk x) : RpK K F (putK kvs k v) (dPut ds k d) := by
  unfold putK dPut
  rw [h.any]
  split
  · exact h.repl q
  · exact h.append (.cons q hk .nil)
theorem key_ok {K : PySem.W.Frag} {F H : Hp} {v : V} {a : D} {k : Key} (h : VR K F H v a) (e : dKey a = some k) : ∀ x, k = .inr x → SOk x := by
  intro x hx
  subst hx
  cases a with
  | int i => cases e
  | str y => cases e; exact h.str.2
  | _ => cases e
theorem Rd_mut {H : Hp} {p : Addr} {u : HO} (w : Wr H p) (h : Rd H p u) : H p = some u := by
  rcases h with h | ⟨o, h⟩
  · exact h
  · exact absurd h (w _ _)
theorem su_K (hu : X.A.units + 65 < cLine) : SuD X suK := by
  refine ⟨_, set_dict (by omega), fun F H p a b c i v nd Q e ct w vb rc hg k => ?_⟩
  match a, hg with
  | .dic kvs, hg =>
    obtain ⟨key, hk, hg⟩ := bsome hg
    obtain ⟨hl, hg⟩ := Option.ite_none_right_eq_some.mp hg
    cases hg
    obtain ⟨vs, rd, r⟩ := ct
    have hp := Rd_mut w rd
    have ko := key_ok vb hk
    obtain ⟨rfl, rfl⟩ := key_v vb hk
    exact ⟨p, _, rfl, .k hp (by rw [r.length]; exact hl), k _ (fun _ _ z => nomatch z) ⟨_, .inl upd_same, r.put rc ko⟩⟩
theorem SuD.or {g g' : D → D → D → Option D} (h : SuD X g) (h' : SuD X g') : SuD X (fun a b c => (g a b c).or (g' a b c)) := by
  obtain ⟨r, hr, h⟩ := h
  obtain ⟨r', hr', h'⟩ := h'
  refine ⟨fun o i v H Q => r o i v H Q ∨ r' o i v H Q, fun pins s σ H o i v ov iv u Q I ro ri rv h => ?_, fun F H p a b c i v nd Q e ct w vb rc hg k => ?_⟩
  · rcases h with h | h
    · exact hr pins s σ H o i v ov iv u Q I ro ri rv h
    · exact hr' pins s σ H o i v ov iv u Q I ro ri rv h
  · have hg : (g a b c).or (g' a b c) = some nd := hg
    cases q : g a b c with
    | some z => rw [q] at hg; cases hg; exact .inl (h F H p a b c i v _ Q e ct w vb rc q k)
    | none => rw [q] at hg; exact .inr (h' F H p a b c i v nd Q e ct w vb rc hg k)
def suD (a b c : D) : Option D := (suL a b c).or (suK a b c)
theorem su_D (hu : X.A.units + 65 < cLine) : SuD X suD := su_L.or (su_K hu)
def isO : Option Sl → Option D
  | some (.o false d) => some d
  | _ => none
theorem isO_some {o : Option Sl} {d : D} (h : isO o = some d) : o = some (.o false d) := by
  match o, h with
  | some (.o false d), h => cases h; rfl
def bSub (g : D → D → D → Option D) (i : Nat) (fv : EF D) (fk : EF P) : EF Fl := fun E => (fv E).bind fun v => (isO v.2.sl[i]?).bind fun _ => (fk v.2).bind fun k => (isO k.2.sl[i]?).bind fun d =>
  (k.1.get k.2).bind fun kd => (g d kd v.1).bind fun nd => some (.nx, { k.2 with sl := k.2.sl.set i (.o false nd) })
theorem ds_sub {ix value : Expr} {ps pn : Pos} {g : D → D → D → Option D} {fv : EF D} {fk : EF P} (hm : SuD X g) (hN : X.N[i]? = some x) (hv : Vis X.env.scope x) (hval : DQ X value fv) (hix : DP X ix fk)
    (hd : (x == ("__debug__" : Str)) = false := by decide) (hcd : (x == ("__classdict__" : Str)) = false := by decide)
    (ha : ∀ v, assign (.Subscript (.Name x pn) ix ps) X.env v = (do
      let ov ← holding [v] (eval (.Name x pn) X.env)
      let iv ← holding [v, ov] (eval ix X.env)
      standAt ps
      holding [v, ov, iv] (setItem ov iv v)
      release [v, ov, iv] []) := by intro _; rfl)
    (hs : swapsWithSole [.Subscript (.Name x pn) ix ps] value pos.line X.env = pure false := by rfl) (hw : swappedStores [.Subscript (.Name x pn) ix ps] value X.env = pure none := by rfl)
    (h1 : (assignEach [.Subscript (.Name x pn) ix ps] X.env).map (·.2) = [assign (.Subscript (.Name x pn) ix ps) X.env] := by rfl) :
    DS X (.Assign [.Subscript (.Name x pn) ix ps] value pos) (bSub g i fv fk) := by
  obtain ⟨ts, qs, h⟩ := hm
  obtain ⟨tv, qv, hval⟩ := hval.ex
  obtain ⟨tk, qk, hix⟩ := hix.ex
  refine ⟨_, ps_asg qv (pg_sub (pe_var hN hv hd hcd) qk qs ha) hs hw h1, fun W F H E r E' D I hf k => ?_⟩
  unfold bSub at hf
  obtain ⟨⟨vd, E1⟩, g1, hf⟩ := bsome hf
  obtain ⟨d0, q0, hf⟩ := bsome hf
  obtain ⟨⟨kp, E2⟩, g2, hf⟩ := bsome hf
  obtain ⟨d, q, hf⟩ := bsome hf
  obtain ⟨kd, g3, hf⟩ := bsome hf
  obtain ⟨nd, g4, hf⟩ := bsome hf
  cases hf
  have q0 := isO_some q0
  have q := isO_some q
  refine hval W F H E vd E1 _ I g1 fun v F1 H1 I1 e1 r1 => ?_
  obtain ⟨p, hp, _⟩ := I1.sl i _ q0
  refine ⟨.ref p, hp, hix W F1 H1 E1 kp E2 _ I1 g2 fun u F2 H2 I2 e2 r2 => ?_⟩
  obtain ⟨p', hp', ow, wr⟩ := I2.sl i _ q
  rw [hp] at hp'; cases hp'
  exact h F2 H2 p d kd vd u v nd _ I2.FH ow.ct (wr rfl) (I2.vr r2 g3) (r1.mono e2) g4 fun o nfz hc => k W.σ F2 _ (I2.wslot q hp nfz hc) (e1.trans e2)
end
end PV

namespace PV
open PySem L2 PyProof.Rows
section
variable {K : PySem.W.Frag} {F F' H H' : Hp} {W : FP} {E : En} {v : V}
theorem FI.res (I : FI K W E F H) (I' : FI K W E F' H') {p : Addr} {d : D} (n : H p = none) (nf : F' p = none) (c : Ct K F' H' p d) (w : Wr H' p) : RR K W E F' H' (.ref p) (.f d) :=
  ⟨p, rfl, ⟨c, nf, I.no0 n, I.nob n⟩, w, I.noo n⟩
end

/-! ### sorted, of whatever can be collected -/
section
variable {X : Cx} {pins : List (Addr × Obj)} {s : Shared} {σ : L2.St} {H : Hp}
theorem sorted_coll {x : Value} {Q : VK} (hu : X.A.units + 65 < cLine)
    (hcol : ∀ (R : List Value → Shared → Prop), (∀ us vs ds (F H' : Hp) s', Inv X pins σ H' s' → Vals vs us → RpA X.K F vs ds → Ex F H' → sortOk ds = true → ds.length ≤ sizeLine →
        (∀ (out : List V) p, RpA X.K F out (dSort ds) → H' p = none → Q (.ref p) (upd H' p (.lst out))) → R us s') → wpAny (model X.prog X.w) X.A.in1 (collect x) R X.xe s) :
    wpAny (model X.prog X.w) X.A (call (.builtin "sorted") [x]) (EP X pins σ Q) X.xe s := by
  refine Calls.call_function_entry kind_sorted plain_sorted entry_sorted (args_sorted1 _) ?_
  unfold Builtin.«sorted»
  refine wpAny_bind (m := checkCount "sorted" 1 1 _) (wpAny_pure ?_)
  refine wpAny_bind (hcol _ fun us vs ds F H' s' I hv r e ok hl q => ?_)
  have hul : us.length ≤ sizeLine := by rw [← hv.length, r.length]; exact hl
  refine wpAny_bind (wpAny_newList ?_ hul)
  have hoL : (s'.heap.push (seqObj "list" us.toArray 0)).get? s'.heap.objs.size = some (seqObj "list" us.toArray 0) := Heap.get?_push_size _ rfl
  show wpAny _ _ _ _ _ { s' with heap := s'.heap.push (seqObj "list" us.toArray 0) }
  obtain ⟨k1, k2, k3, k4⟩ := sortOk_of ok
  have ei := each_of_rpa (H := H') r hv
  have er : PySem.W.EachIs (fun v (b : D) => ∃ as, Reads s'.heap v b.py as) us ds := each_imp (fun u d hd ⟨v, q, r⟩ => Dp.reads I d.py v u (r.dp e (k1 _ hd)).1 q) ei
  have keep : ∀ b o, s'.heap.get? b = some o → (PySem.W.sortingHeap (s'.heap.push (seqObj "list" us.toArray 0)) s'.heap.objs.size us).get? b = some o := fun b o e =>
    PySem.W.sortingHeap_old (Nat.ne_of_lt (Heap.lt_size e)) (Heap.get?_push_of_some _ e)
  have er' : PySem.W.EachIs (fun v (b : D) => ∃ as, Reads (PySem.W.sortingHeap (s'.heap.push (seqObj "list" us.toArray 0)) s'.heap.objs.size us) v b.py as) us ds := er.mono fun _ _ ⟨as, r⟩ => ⟨as, PyProof.Rows.Reads.keeps keep r⟩
  refine wpAny_bind (wpAny_holding (wpAny_call_entry slot_list_sort ⟨_, hoL, rfl⟩ entry_list_sort
    (PySem.W.list_sort_vals (κ := PySem.W.dataKind (PySem.W.sortingHeap (s'.heap.push (seqObj "list" us.toArray 0)) s'.heap.objs.size us) (ds.map D.py)) hoL
      (PySem.W.SortsAt.data (s := { s' with heap := PySem.W.sortingHeap (s'.heap.push (seqObj "list" us.toArray 0)) s'.heap.objs.size us }) (PySem.W.each_map (R := fun v d => ∃ as, Reads (PySem.W.sortingHeap (s'.heap.push (seqObj "list" us.toArray 0)) s'.heap.objs.size us) v d as) D.py er') k2 k3 (PySem.W.bound_map fun b hb => ?_)) hul ⟨_, rfl, ?_⟩) (args_list_sort _)))
  · have := k4 b hb
    show X.A.units + 1 + 1 + b.py.depth < cLine
    omega
  · have eo := PySem.W.sortVals_data false ei er' k2
    obtain ⟨out, hv2, r2⟩ := rpa_of_each eo
    obtain ⟨ep, he'⟩ := PyProof.Rows.sortedHeap_at (vs := us) (out := (PySem.W.sortVals (PySem.W.dataKind (PySem.W.sortingHeap (s'.heap.push (seqObj "list" us.toArray 0)) s'.heap.objs.size us) (ds.map D.py)) false us us).toArray) hoL
    refine wpAny_pure ⟨_, rfl, .ref s'.heap.objs.size, upd H' s'.heap.objs.size (.lst out), I.laid (t' := s'.toks) (fun b u e => ?_) (Nat.le_refl _)
      (show ObjOk X.prog X.w _ _ _ (.lst out) from ⟨?_, _, ep, hv2, he'⟩), rfl, q out _ r2 (I.hok.fresh (Nat.le_refl _))⟩
    · have hb : b < s'.heap.objs.size := Heap.lt_size e
      rw [PyProof.Rows.sortedHeap_old (Nat.ne_of_lt hb) (by rw [size_push']; exact Nat.lt_succ_of_lt hb)]
      exact Heap.get?_push_of_some _ e
    · rw [r2.length, List.length_mergeSort]; exact hl
end
section
variable {X : Cx}
/-! sorted(d) -/
def cSortD (ds : List D) : Option R := match ds with
  | [.dic kvs] => if sortOk (dKeys kvs) = true ∧ kvs.length ≤ sizeLine then some (.f (.lst (dSort (dKeys kvs)))) else none
  | _ => none
theorem keys_vals {P : Program} {w : World} : ∀ {kvs : List (Key × V)} {vs : List (Key × Value)} {us : List Value}, KV kvs vs → us.length = vs.length → (∀ (j : Nat) (u : Value), us[j]? = some u → ∃ k x, vs[j]? = some (k, x) ∧ (mixKind P w).is k u = true) → Vals (kvs.map fun kv => kV kv.1) us := by
  intro kvs vs us r hl h
  have l : kvs.length = vs.length := Paired.length r
  refine vals_of_at (by rw [List.length_map]; omega) fun j x u hx hu => ?_
  rw [List.getElem?_map] at hx
  obtain ⟨kv, hkv, rfl⟩ := Option.map_eq_some_iff.mp hx
  obtain ⟨k, y, h1, h2⟩ := h j u hu
  obtain ⟨u', h3, _⟩ := kv_get (k := kv.1) (v := kv.2) r hkv
  rw [h1] at h3
  cases h3
  exact keyIs_rel h2
theorem cd_sortD (hc : X.calm = true) (hu : X.A.units + 65 < cLine) : CallD X (.builtin "sorted") cSortD := by
  refine ⟨fun vs H Q => ∃ (F : Hp) (a : Addr) (kvs : List (Key × V)) (ds : List (D × D)), Ex F H ∧ vs = [.ref a] ∧ Rd H a (.dK kvs) ∧ RpK X.K F kvs ds ∧ sortOk (dKeys ds) = true ∧ ds.length ≤ sizeLine ∧ ∀ (out : List V) p, RpA X.K F out (dSort (dKeys ds)) → H p = none → Q (.ref p) (upd H p (.lst out)), ?_, fun F H xs ds res Q e vs hg k => ?_⟩
  · intro pins s σ H vs us Q I r h
    obtain ⟨F, a, kvs, ds, e, rfl, hd, ra, ok, hl, q⟩ := h
    rw [Vals.ref1 r]
    obtain ⟨z, lo, ws, rel, dd⟩ := dk_rd I.hok hd
    obtain ⟨ep, hat⟩ := dd.dictAt
    have l1 : kvs.length = ws.length := Paired.length rel
    refine sorted_coll hu fun R hR => ?_
    refine PySem.W.kdu_collect (A := X.A.in1) (PySem.W.kdl_dict (knd := mixKind X.prog X.w) (kvs := ws) (ep := ep) lo) (I.ok.hd hc) hat (by omega) fun h' tk acc hk hacc => ?_
    have hv := keys_vals (P := X.prog) (w := X.w) rel (us := acc.toList) (by rw [Array.length_toList]; exact hacc.1) fun j u hu => hacc.2 j u (by rw [← hu, Array.getElem?_toList])
    exact hR _ _ _ F H _ (I.kept hk) hv ra.keys e ok (by unfold dKeys; rw [List.length_map]; exact hl) q
  · match ds, hg with
    | [.dic kvs], hg =>
      obtain ⟨ok, hg⟩ := Option.ite_none_right_eq_some.mp hg
      cases hg
      obtain ⟨v, rfl, r⟩ := vals1 vs
      obtain ⟨a, us, rfl, rd, r⟩ := r.dic e
      exact ⟨F, a, us, kvs, e, rfl, rd, r, ok.1, ok.2, fun out p ro n => k _ _ (Ou.newL n ro (by unfold dSort dKeys; rw [List.length_mergeSort, List.length_map]; exact ok.2))⟩
theorem cd_sorted (hc : X.calm = true) (hu : X.A.units + 65 < cLine) : CallD X (.builtin "sorted") (fun ds => (cSort ds).or (cSortD ds)) := (cd_sort hu).or (cd_sortD hc hu)
theorem cd_lstD (hc : X.calm = true) : CallD X (.type "list") cLstD := by
  refine ⟨_, call_listD hc, fun F H xs ds res Q e vs hg k => ?_⟩
  match ds, hg with
  | [.dic kvs], hg =>
    obtain ⟨ok, hg⟩ := Option.ite_none_right_eq_some.mp hg
    cases hg
    obtain ⟨v, rfl, r⟩ := vals1 vs
    obtain ⟨a, us, rfl, rd, r⟩ := r.dic e
    exact ⟨a, us, rfl, rd, fun p n => k _ _ (Ou.newL n r.keys (by unfold dKeys; rw [List.length_map]; exact ok))⟩

/-! ### one operand that may be a fresh container -/
def R.dat : R → D
  | .v d => d
  | .f d => d
def mCall1 (g : List D → Option R) (f : EF R) : EF R := fun E => (f E).bind fun r => (g [r.1.dat]).bind fun z => some (z, r.2)
variable {x : Str} {p pos : Pos} {id T : String} {e : Expr}
theorem RR.vr {K : PySem.W.Frag} {W : FP} {E : En} {F H : Hp} {v : V} {r : R} (h : RR K W E F H v r) : VR K F H v r.dat := by
  cases r with
  | v d => exact .inl h
  | f d =>
    obtain ⟨p, e, ow, _⟩ := h
    exact .inr ⟨p, e, ow.ct⟩
theorem calls1 {f : EF R} {te : TE} {g : List D → Option R} {r : List V → Hp → VK → Prop}
    (ha : ∀ W F H E r E' (Q : VK), FI X.K W E F H → f E = some (r, E') → (∀ v F' H', FI X.K W E' F' H' → Ex F F' → RR X.K W E' F' H' v r → Q v H') → te W.σ H Q)
    (h : ∀ F H xs ds res (Q : VK), Ex F H → Paired (VR X.K F H) xs ds → g ds = some res → (∀ v H', Ou X.K F H v H' res → Q v H') → r xs H Q) :
    ∀ W F H E res E' (Q : VK), FI X.K W E F H → mCall1 g f E = some (res, E') → (∀ v F' H', FI X.K W E' F' H' → Ex F F' → RR X.K W E' F' H' v res → Q v H') → tCB r (tCons te tNil) W.σ H Q := by
  intro W F H E res E' Q I hf k
  unfold mCall1 at hf
  obtain ⟨⟨r1, E1⟩, h1, hf⟩ := bsome hf
  obtain ⟨z, h3, hf⟩ := bsome hf
  cases hf
  refine ha W F H E r1 _ _ I h1 fun v F1 H1 I1 e1 rr => ?_
  refine h F1 H1 [v] [r1.dat] _ _ I1.FH (.cons rr.vr .nil) h3 fun w H3 o => ?_
  obtain ⟨F3, I3, e3, rr⟩ := I1.ou o
  exact k w F3 H3 I3 (e1.trans e3) rr
theorem de_call1B {g : List D → Option R} {f : EF R} (hc : CallD X (.builtin id) g) (hg : Gl X x) (hm : X.mg x = none) (hv : bootBuiltins x = some (.builtin id)) (ha : DE X e f) (hn : x ≠ "__name__" := by decide) (hdb : (x == ("__debug__" : Str)) = false := by decide)
    (he : starEach [e] X.env = (false, eval e X.env) :: starEach [] X.env := by rfl) (hpl : (backTo pos (starEach [] X.env)).any (·.1) = false := by rfl) : DE X (.Call (.Name x p) [e] [] pos) (mCall1 g f) := by
  obtain ⟨r, hr, h⟩ := hc
  obtain ⟨t, pa, ha⟩ := ha.ex
  exact ⟨_, pe_callB hr hg hm hv (pa_cons pa pa_nil he) hn hdb he hpl, calls1 ha h⟩
theorem de_call1T {g : List D → Option R} {f : EF R} (hc : CallD X (.type T) g) (hg : Gl X x) (hm : X.mg x = none) (hv : bootBuiltins x = some (.type T)) (ha : DE X e f) (hn : x ≠ "__name__" := by decide) (hdb : (x == ("__debug__" : Str)) = false := by decide)
    (he : starEach [e] X.env = (false, eval e X.env) :: starEach [] X.env := by rfl) (hpl : (backTo pos (starEach [] X.env)).any (·.1) = false := by rfl) : DE X (.Call (.Name x p) [e] [] pos) (mCall1 g f) := by
  obtain ⟨r, hr, h⟩ := hc
  obtain ⟨t, pa, ha⟩ := ha.ex
  exact ⟨_, pe_callTy hr hg hm hv (pa_cons pa pa_nil he) hn hdb he hpl, calls1 ha h⟩
end
end PV

namespace PV
open PySem L2 PyProof.Rows
section
variable {X : Cx} {x : Str} {p pos apos cpos : Pos} {id T : String} {e o y z : Expr} {i : Nat}
/-! ### dicts -/
def mEmp : EF R := fun E => some (.f (.dic []), E)
theorem de_emp : DE X (.Dict [] [] pos) mEmp := ⟨_, pe_dnewK, fun W F H E r E' Q I hf k => by
  cases hf
  intro p n
  obtain ⟨F3, I3, e3, rr⟩ := I.ou (Ou.newD n (ds := []) .nil)
  exact k _ F3 _ I3 e3 rr⟩
/-- the pairs of a display, one after another -/
structure DDs (X : Cx) (pos : Pos) (ks : List (Option Expr)) (vs : List Expr) (f : EF (List (D × D))) : Prop where
  ex : ∃ trs, PPs X pos ks vs trs ∧ ∀ W F H E r E' (Q : List (V × V) → Hp → Prop), FI X.K W E F H → f E = some (r, E') →
    (∀ ps F' H', FI X.K W E' F' H' → Ex F F' → (∃ kvs, ps = kvs.map (fun kv : Key × V => (kV kv.1, kv.2)) ∧ RpK X.K F' kvs r) → Q ps H') → tPairs trs W.σ H Q
def mPrs (fk fv : EF D) (g : EF (List (D × D))) : EF (List (D × D)) := fun E => (fk E).bind fun k => (fv k.2).bind fun v => (g v.2).bind fun r => (dKey k.1).bind fun _ => some ((k.1, v.1) :: r.1, r.2)
theorem dds_nil : DDs X pos [] [] mNil := ⟨_, pps_nil, fun W F H E r E' Q I hf k => by cases hf; exact k [] F H I (Ex.refl F) ⟨[], rfl, .nil⟩⟩
theorem dds_cons {k v : Expr} {ks : List (Option Expr)} {vs : List Expr} {fk fv : EF D} {g : EF (List (D × D))} (hk : DQ X k fk) (hv : DQ X v fv) (hr : DDs X pos ks vs g) : DDs X pos (some k :: ks) (v :: vs) (mPrs fk fv g) := by
  obtain ⟨tk, pk, hk⟩ := hk.ex
  obtain ⟨tv, pv, hv⟩ := hv.ex
  obtain ⟨tr, pr, hr⟩ := hr.ex
  refine ⟨_, pps_cons pk pv pr, fun W F H E r E' Q I hf kk => ?_⟩
  unfold mPrs at hf
  obtain ⟨⟨a, E1⟩, h1, hf⟩ := bsome hf
  obtain ⟨⟨b, E2⟩, h2, hf⟩ := bsome hf
  obtain ⟨⟨c, E3⟩, h3, hf⟩ := bsome hf
  obtain ⟨key, h4, hf⟩ := bsome hf
  cases hf
  refine hk W F H E a E1 _ I h1 fun u1 F1 H1 I1 e1 r1 => hv W F1 H1 E1 b E2 _ I1 h2 fun u2 F2 H2 I2 e2 r2 => hr W F2 H2 E2 c E3 _ I2 h3 fun ps F3 H3 I3 e3 ⟨kvs, eps, rk⟩ => ?_
  have v1 : VR X.K F1 H1 u1 a := .inl r1
  have ko := key_ok v1 h4
  obtain ⟨rfl, rfl⟩ := key_v v1 h4
  exact kk _ F3 H3 I3 ((e1.trans e2).trans e3) ⟨(key, u2) :: kvs, by rw [List.map_cons, eps], .cons (r2.mono e3) ko rk⟩
def dMerge (kvs more : List (D × D)) : List (D × D) := more.foldl (fun acc kv => match dKey kv.1 with | some k => dPut acc k kv.2 | none => acc) kvs
theorem dKey_kD (k : Key) : dKey (kD k) = some k := by cases k <;> rfl
theorem RpK.merge {K : PySem.W.Frag} {F : Hp} : ∀ {more kvs : List (Key × V)} {dm ds : List (D × D)}, RpK K F more dm → RpK K F kvs ds → RpK K F (mergeK kvs more) (dMerge ds dm)
  | _, _, _, _, .nil, h => h
  | _, _, _, _, .cons (k := k) (v := v) (d := d) r s t, h => by
    have ih := RpK.merge t (h.put r s)
    unfold mergeK dMerge at *
    rw [List.foldl_cons, List.foldl_cons]
    simp only [dKey_kD]
    exact ih
def mDisp (f : EF (List (D × D))) : EF R := fun E => (f E).bind fun x => if x.1.length ≤ 15 then some (.f (.dic (dMerge [] x.1)), x.2) else none
theorem de_disp {ks : List (Option Expr)} {vs : List Expr} {f : EF (List (D × D))} (h : DDs X pos ks vs f) (hall : ks.all (·.isSome) = true := by rfl) (hl : ks.length = vs.length := by rfl) (h0 : ks ≠ [] := by exact fun z => nomatch z)
    (h15 : ks.length ≤ 15 := by decide) : DE X (.Dict ks vs pos) (mDisp f) := by
  obtain ⟨trs, pp, h⟩ := h.ex
  refine ⟨_, pe_disp pp hall hl h0 h15, fun W F H E r E' Q I hf k => ?_⟩
  unfold mDisp at hf
  obtain ⟨⟨x, E1⟩, h1, hf⟩ := bsome hf
  obtain ⟨hl, hf⟩ := Option.ite_none_right_eq_some.mp hf
  cases hf
  intro p n
  -- the empty dict is held while the pairs are found
  obtain ⟨F1, I1, e1, rr⟩ := I.ou (Ou.newD n (ds := []) .nil)
  have nd := (show RR X.K W E F1 _ (.ref p) (.f (.dic [])) from rr)
  have nd2 : (∀ y ∈ W.hs, y.1 ≠ p) ∧ ∀ y ∈ W.ls, y.2.1 ≠ p := by
    obtain ⟨p', e', _, _, no⟩ := nd
    cases e'
    exact no.2
  have Ih := I1.hold nd
  refine h { W with hs := (p, .dic []) :: W.hs } F1 _ E x E1 _ Ih h1 fun ps F2 H2 I2 e2 ⟨kvs, eps, rk⟩ => ?_
  obtain ⟨I3, r3⟩ := FI.unhold (W := W) (x := (p, .dic [])) I2 nd2
  obtain ⟨p', e', ow, wr, no⟩ := r3
  cases e'
  obtain ⟨us, rd, ru⟩ := ow.ct
  cases ru
  have hp := Rd_mut wr rd
  refine ⟨hp, kvs, eps, by rw [rk.length]; exact hl, ?_⟩
  have nl : ∀ x ∈ W.lk, x.1 ≠ p := fun x hx z => wr x.2.1 x.2.2 (z ▸ (I3.lo x hx).1)
  refine k (.ref p) F2 _ (I3.write ow.nf ow.n0 ow.nb no nl) (e1.trans e2) ⟨p, rfl, ⟨⟨_, .inl upd_same, rk.merge .nil⟩, ow.nf, ow.n0, ow.nb⟩, wr_same (fun _ _ z => nomatch z), no⟩

/-! d.get(k), d.get(k, v): the dict a slot's, or fresh -/
def dGet (kvs : List (D × D)) (a c : D) : Option D := (dKey a).bind fun k => some ((dLook kvs k).getD c)
theorem get_look {K : PySem.W.Frag} {F : Hp} {kvs : List (Key × V)} {ds : List (D × D)} {k : Key} {c : D} {u : V} (r : RpK K F kvs ds) (rc : Rp K F u c) : Rp K F ((valV kvs k).getD u) ((dLook ds k).getD c) := by
  rcases r.look (k := k) with ⟨h1, h2⟩ | ⟨v, d, h1, h2, h3⟩
  · rw [h1, h2]; exact rc
  · rw [h1, h2]; exact h3
def mGet (fo fy : EF P) : EF R := fun E => (fo E).bind fun p => (p.1.get p.2).bind fun d0 => match d0 with
  | .dic _ => (fy p.2).bind fun q => (p.1.get q.2).bind fun d => (q.1.get q.2).bind fun a => match d with
    | .dic kvs => (dGet kvs a .non).bind fun r => some (.v r, q.2)
    | _ => none
  | _ => none
def mGet2 (fo fy : EF P) (fz : EF D) : EF R := fun E => (fo E).bind fun p => (p.1.get p.2).bind fun d0 => match d0 with
  | .dic _ => (fy p.2).bind fun q => (fz q.2).bind fun s => (p.1.get s.2).bind fun d => (q.1.get s.2).bind fun a => match d with
    | .dic kvs => (dGet kvs a s.1).bind fun r => some (.v r, s.2)
    | _ => none
  | _ => none
theorem de_get1 {fo fy : EF P} (hu : X.A.units + 65 < cLine) (ho : DP X o fo) (hy : DP X y fy) (m : M1 X o "get" apos y cpos) : DE X (.Call (.Attribute o "get" apos) [y] [] cpos) (mGet fo fy) := by
  obtain ⟨to, po, ho⟩ := ho.ex
  obtain ⟨ty, py, hy⟩ := hy.ex
  refine ⟨_, pe_dget1 (by omega) po py m, fun W F H E r E' Q I hf k => ?_⟩
  unfold mGet at hf
  obtain ⟨⟨q, E1⟩, h1, hf⟩ := bsome hf
  obtain ⟨d0, h2, hf⟩ := bsome hf
  match d0, h2, hf with
  | .dic kvs0, h2, hf =>
    obtain ⟨⟨q2, E2⟩, h3, hf⟩ := bsome hf
    obtain ⟨d, h4, hf⟩ := bsome hf
    obtain ⟨a, h5, hf⟩ := bsome hf
    match d, h4, hf with
    | .dic kvs, h4, hf =>
      obtain ⟨res, h6, hf⟩ := bsome hf
      cases hf
      obtain ⟨key, h7, h6⟩ := bsome h6
      cases h6
      refine ho W F H E q E1 _ I h1 fun v F1 H1 I1 e1 r1 => ?_
      obtain ⟨d, ks, rfl, rd, _⟩ := (I1.vr r1 h2).dic I1.FH
      refine ⟨d, rfl, .inl ⟨ks, rd⟩, hy W F1 H1 E1 q2 E2 _ I1 h3 fun u F2 H2 I2 e2 r2 => ?_⟩
      obtain ⟨d', ks2, e', rd2, rk⟩ := (I2.vr (r1.mono e2) h4).dic I2.FH
      cases e'
      obtain ⟨rfl, rfl⟩ := key_v (I2.vr r2 h5) h7
      exact ⟨_, .inl ⟨ks2, key, rd2, rfl, rfl⟩, k _ F2 H2 I2 (e1.trans e2) (get_look rk .non)⟩
theorem de_get2 {fo fy : EF P} {fz : EF D} (hu : X.A.units + 65 < cLine) (ho : DP X o fo) (hy : DP X y fy) (hz : DQ X z fz) (m : M2 X o "get" apos y z cpos) : DE X (.Call (.Attribute o "get" apos) [y, z] [] cpos) (mGet2 fo fy fz) := by
  obtain ⟨to, po, ho⟩ := ho.ex
  obtain ⟨ty, py, hy⟩ := hy.ex
  obtain ⟨tz, pz, hz⟩ := hz.ex
  refine ⟨_, pe_dget2 (by omega) po py pz m, fun W F H E r E' Q I hf k => ?_⟩
  unfold mGet2 at hf
  obtain ⟨⟨q, E1⟩, h1, hf⟩ := bsome hf
  obtain ⟨d0, h2, hf⟩ := bsome hf
  match d0, h2, hf with
  | .dic kvs0, h2, hf =>
    obtain ⟨⟨q2, E2⟩, h3, hf⟩ := bsome hf
    obtain ⟨⟨q3, E3⟩, h8, hf⟩ := bsome hf
    obtain ⟨d, h4, hf⟩ := bsome hf
    obtain ⟨a, h5, hf⟩ := bsome hf
    match d, h4, hf with
    | .dic kvs, h4, hf =>
      obtain ⟨res, h6, hf⟩ := bsome hf
      cases hf
      obtain ⟨key, h7, h6⟩ := bsome h6
      cases h6
      refine ho W F H E q E1 _ I h1 fun v F1 H1 I1 e1 r1 => ?_
      obtain ⟨d, ks, rfl, rd, _⟩ := (I1.vr r1 h2).dic I1.FH
      refine ⟨d, rfl, .inl ⟨ks, rd⟩, hy W F1 H1 E1 q2 E2 _ I1 h3 fun u F2 H2 I2 e2 r2 => hz W F2 H2 E2 q3 E3 _ I2 h8 fun u3 F3 H3 I3 e3 r3 => ?_⟩
      obtain ⟨d', ks2, e', rd2, rk⟩ := (I3.vr ((r1.mono e2).mono e3) h4).dic I3.FH
      cases e'
      obtain ⟨rfl, rfl⟩ := key_v (I3.vr (r2.mono e3) h5) h7
      exact ⟨_, .inl ⟨ks2, key, rd2, rfl, rfl⟩, k _ F3 H3 I3 ((e1.trans e2).trans e3) (get_look rk r3)⟩
/-- .. of a dict just made -/
def mGetF (fo : EF R) (fy : EF D) (fz : EF D) : EF R := fun E => (fo E).bind fun p => match p.1 with
  | .f (.dic kvs) => (fy p.2).bind fun q => (fz q.2).bind fun s => (dGet kvs q.1 s.1).bind fun r => some (.v r, s.2)
  | _ => none
theorem de_getF2 {fo : EF R} {fy fz : EF D} (hu : X.A.units + 65 < cLine) (ho : DE X o fo) (hy : DQ X y fy) (hz : DQ X z fz) (m : M2 X o "get" apos y z cpos) : DE X (.Call (.Attribute o "get" apos) [y, z] [] cpos) (mGetF fo fy fz) := by
  obtain ⟨to, po, ho⟩ := ho.ex
  obtain ⟨ty, py, hy⟩ := hy.ex
  obtain ⟨tz, pz, hz⟩ := hz.ex
  refine ⟨_, pe_dget2 (by omega) po py pz m, fun W F H E r E' Q I hf k => ?_⟩
  unfold mGetF at hf
  obtain ⟨⟨q, E1⟩, h1, hf⟩ := bsome hf
  match q, h1, hf with
  | .f (.dic kvs), h1, hf =>
    obtain ⟨⟨q2, E2⟩, h3, hf⟩ := bsome hf
    obtain ⟨⟨q3, E3⟩, h8, hf⟩ := bsome hf
    obtain ⟨res, h6, hf⟩ := bsome hf
    cases hf
    obtain ⟨key, h7, h6⟩ := bsome h6
    cases h6
    refine ho W F H E _ E1 _ I h1 fun v F1 H1 I1 e1 r1 => ?_
    obtain ⟨p, rfl, ow, wr, no⟩ := id r1
    obtain ⟨ks, rd, _⟩ := ow.ct
    refine ⟨p, rfl, .inl ⟨ks, rd⟩, hy { W with hs := (p, .dic kvs) :: W.hs } F1 H1 E1 q2 E2 _ (I1.hold r1) h3 fun u F2 H2 I2 e2 r2 => hz { W with hs := (p, .dic kvs) :: W.hs } F2 H2 E2 q3 E3 _ I2 h8 fun u3 F3 H3 I3 e3 r3 => ?_⟩
    obtain ⟨I4, p', e', ow4, wr4, _⟩ := FI.unhold (W := W) (x := (p, .dic kvs)) I3 no.2
    cases e'
    obtain ⟨ks2, rd2, rk⟩ := ow4.ct
    obtain ⟨rfl, rfl⟩ := key_v (H := H3) (.inl (r2.mono e3)) h7
    exact ⟨_, .inl ⟨ks2, key, rd2, rfl, rfl⟩, k _ F3 H3 I4 ((e1.trans e2).trans e3) (get_look rk r3)⟩
end
end PV

namespace PV
open PySem L2 PyProof.Rows
section
variable {X : Cx} {tg e : Expr} {td : TE} {apos cpos : Pos}
/-- for .. in d.items(): the dict is never changed from then on -/
def iItemsF (td : TE) : TI := fun σ H R => td σ H fun x H1 => ∃ d kvs, x = .ref d ∧ H1 d = some (.dK kvs) ∧ ∀ o, R (Iti d o kvs) (upd H1 d (.frz o (.dK kvs)))
theorem pi_itemsF {elts : List Expr} {kk : Nat} {tpos : Pos} (he : PE X e td) (hbase : attributeBase e "items" X.env (eval e X.env) = eval e X.env := by rfl) (hline : (apos.endLine == cpos.line) = true := by rfl) :
    PI X (.Tuple elts kk tpos) (.Call (.Attribute e "items" apos) [] [] cpos) (iItemsF td) := by
  refine ⟨fun pins s σ H R I h => ?_⟩
  refine wpAny_Call_method (T := "dict") (id := "dict.items") hbase rfl hline F.plainAttrs_dict F.slot_dict_items F.type_dict_items (thn (he.run pins s σ H _ I h) fun u s1 ⟨x, H1, I0, rx, d, kvs, ex, hd0, q⟩ => ?_)
  subst ex
  obtain rfl : u = Value.ref d := rx
  obtain ⟨o, I1⟩ := I0.lock hd0 True.intro
  have hd : (upd H1 d (.frz o (.dK kvs))) d = some (.frz o (.dK kvs)) := upd_same
  obtain ⟨hs, hgd, hx, es, ep, vs, hdt, hsz, kv, hm⟩ := I1.frzK hd
  have hl : kvs.length = vs.length := Paired.length kv
  refine ⟨hm.dictOf.typeIs, hm.dictOf.mapOf.noDict, ?_⟩
  have I2 : Inv X pins σ (upd H1 d (.frz o (.dK kvs))) { s1 with heap := s1.heap.push { cls := .type "dict_items", data := .fields #[.ref d] } } := I1.kept (t' := s1.toks) fun b ob q => Heap.get?_push_of_some _ q
  have fin : wpAny (model X.prog X.w) X.A (pyIter (.ref s1.heap.objs.size)) (PIE X pins σ (.Tuple elts kk tpos) R) X.xe { s1 with heap := s1.heap.push { cls := .type "dict_items", data := .fields #[.ref d] } } := by
    refine wpAny_pyIter_items (d := d) (knd := mixKind X.prog X.w) ⟨_, Heap.get?_push_size _ rfl, rfl, rfl⟩ (hm.push _) (pi_one (tk := s1.toks) I2 _ (turn_items _ hdt) ⟨.none, .none, ?_⟩ (q o))
    rw [hl]
    exact Heap.get?_push_size _ rfl
  show wpAny _ _ (callWith cpos (.builtin "dict.items") [.ref d] [] []) _ X.xe s1
  exact method_meetsIn F.slot_dict_items F.entry_dict_items rfl (PySem.evalArgs_none ⟨rfl, hm.dictOf.typeIs, F.args_dict_items_1 _, _, meets_dict_items (mixKind X.prog X.w) d hs, ⟨vs, hm.dictOf⟩, fin⟩)
def iKeysF (td : TE) : TI := fun σ H R => td σ H fun x H1 => ∃ d kvs, x = .ref d ∧ H1 d = some (.dK kvs) ∧ ∀ o, R (Itk d o kvs) (upd H1 d (.frz o (.dK kvs)))
theorem pi_keysF (he : PE X e td) : PI X tg e (iKeysF td) := by
  refine ⟨fun pins s σ H R I h => ?_⟩
  refine thn (he.run pins s σ H _ I h) fun u s1 ⟨x, H1, I0, rx, d, kvs, ex, hd0, q⟩ => ?_
  subst ex
  obtain rfl : u = Value.ref d := rx
  obtain ⟨o, I1⟩ := I0.lock hd0 True.intro
  have hd : (upd H1 d (.frz o (.dK kvs))) d = some (.frz o (.dK kvs)) := upd_same
  obtain ⟨hs, hgd, hx, es, ep, vs, hdt, hsz, kv, hm⟩ := I1.frzK hd
  refine iter_keys hs hgd hx hdt (pi_one (tk := s1.toks) I1 _ (turn_keys _ hdt) ⟨_, Heap.get?_push_size _ rfl, rfl, ?_⟩ (q o))
  rw [hsz] <;> rfl
end
section
variable {K : PySem.W.Frag} {F F' H H' : Hp} {W : FP} {E : En} {v : V}
/-- a container that nobody has is known from now on, as any object that stands for it -/
theorem FI.know (I : FI K W E F H) {p : Addr} {o : HO} (nf : F p = none) (n0 : W.H0 p = none) (nb : NB W p) (no : NO W E p) (nl : ∀ x ∈ W.lk, x.1 ≠ p) : FI K W E (upd F p o) (upd H p o) := by
  have I1 := I.write (o := o) nf n0 nb no nl
  have eF : Ex F (upd F p o) := Ex.new nf
  have un : ∀ {a : Addr}, a ≠ p → upd F p o a = F a := fun z => upd_ne z
  refine ⟨I1.fF.trans eF, fun a u e => ?_, I1.kp, fun a h => ?_, fun i s e => ?_, I1.ds, fun q e => ?_, fun x hx => ⟨(I1.lo x hx).1, ?_⟩, fun x hx => ?_, I1.l1, fun x hx => ⟨(I1.l2 x hx).1.step eF (.inl (un (no.2.2 x hx))) (Ex.refl _), (I1.l2 x hx).2⟩, I1.e0, I1.ln⟩
  · by_cases z : a = p
    · subst z; rw [upd_same] at e ⊢; exact e
    · rw [un z] at e; exact I1.FH a u e
  · have z : a ≠ p := fun z => by rw [z] at h; exact h n0
    rw [un z]; exact I1.nw a h
  · have h := I1.sl i s e
    cases s with
    | no => exact trivial
    | v d =>
      obtain ⟨v, h1, h2⟩ := h
      exact ⟨v, h1, h2.mono eF⟩
    | o l d' =>
      obtain ⟨p', h1, h2, h3⟩ := h
      have z : p' ≠ p := fun z => no.1 i l d' e (z ▸ h1)
      exact ⟨p', h1, h2.step eF (.inl (un z)) (Ex.refl _), h3⟩
    | b d' =>
      obtain ⟨p', h1, h2, h3, h4, h5⟩ := h
      have z : p' ≠ p := fun z => by rw [z] at h4; exact h4 n0
      exact ⟨p', h1, h2.mono eF rfl, (un z).trans h3, h4, h5⟩
    | bx => exact h
  · obtain ⟨h1, h2, h3, h4, h5⟩ := I1.bo q e
    have z := nb q e
    exact ⟨h1, (un (Ne.symm z.1)).trans h2, (un (Ne.symm z.2)).trans h3, h4, h5⟩
  · rw [un (nl x hx)]; exact (I1.lo x hx).2
  · obtain ⟨h1, h2, h3⟩ := I1.ho x hx
    exact ⟨h1.step eF (.inl (un (no.2.1 x hx))) (Ex.refl _), h2, h3⟩
def pairD (kv : D × D) : D := .tup [kv.1, kv.2]
theorem RpK.get {kvs : List (Key × V)} {ds : List (D × D)} (r : RpK K F kvs ds) : ∀ {i : Nat} {x : D × D}, ds[i]? = some x → ∃ k v, kvs[i]? = some (k, v) ∧ x.1 = kD k ∧ Rp K F v x.2 ∧ ∀ z, k = .inr z → SOk z := by
  induction ds generalizing kvs with
  | nil => intro i x e; simp at e
  | cons d ds ih =>
    intro i x e
    cases r with
    | cons r s t =>
      cases i with
      | zero => simp at e; subst e; exact ⟨_, _, rfl, rfl, r, s⟩
      | succ i => exact (ih t (i := i) (x := x) (by simpa using e)).imp fun k ⟨v, h⟩ => ⟨v, by simpa using h⟩
theorem kV_rp {k : Key} (h : ∀ z, k = .inr z → SOk z) : Rp K F (kV k) (kD k) := by
  cases k with
  | inl i => exact .int i
  | inr z => exact .str z (h z rfl)
theorem wk_items {d : Addr} {o : Obj} {kvs : List (Key × V)} {ds : List (D × D)} (h : F d = some (.frz o (.dK kvs))) (r : RpK K F kvs ds) : Wk K W F (ds.map pairD) (Iti d o kvs) := by
  intro W2 E2 F2 H2 q1 I e
  have hd : H2 d = some (.frz o (.dK kvs)) := I.FH _ _ (e _ _ h)
  have hl := r.length
  refine ⟨⟨hd, by rw [List.length_map]; omega⟩, fun i x hx => ?_⟩
  rw [List.getElem?_map] at hx
  obtain ⟨kv, hkv, rfl⟩ := Option.map_eq_some_iff.mp hx
  obtain ⟨k, v, h1, h2, h3, h4⟩ := r.get hkv
  refine ⟨⟨hd, (List.getElem?_eq_some_iff.mp h1).1⟩, fun y H3 ⟨T, k', v', g1, g2, g3, g4⟩ => ?_⟩
  rw [h1] at g1; cases g1
  subst g2 g4
  have nT : F2 T = none := I.FH.none g3
  refine ⟨upd F2 T (.tup [kV k, v]), I.know nT (I.no0 g3) (I.nob g3) (I.noo g3) fun x hx z => by (rw [← z, (I.lo x hx).1] at g3; cases g3), Ex.new nT, ?_⟩
  refine .tup (.inl (.inl upd_same)) (.cons ?_ (.cons ((h3.mono e).mono (Ex.new nT)) .nil)) (by show 2 ≤ sizeLine; decide)
  rw [h2]
  exact kV_rp h4
theorem wk_keys {d : Addr} {o : Obj} {kvs : List (Key × V)} {ds : List (D × D)} (h : F d = some (.frz o (.dK kvs))) (r : RpK K F kvs ds) : Wk K W F (dKeys ds) (Itk d o kvs) := by
  intro W2 E2 F2 H2 q1 I e
  have hd : H2 d = some (.frz o (.dK kvs)) := I.FH _ _ (e _ _ h)
  have hl := r.length
  refine ⟨⟨hd, by unfold dKeys; rw [List.length_map]; omega⟩, fun i x hx => ?_⟩
  unfold dKeys at hx
  rw [List.getElem?_map] at hx
  obtain ⟨kv, hkv, rfl⟩ := Option.map_eq_some_iff.mp hx
  obtain ⟨k, v, h1, h2, h3, h4⟩ := r.get hkv
  refine ⟨⟨hd, (List.getElem?_eq_some_iff.mp h1).1⟩, fun y H3 ⟨g4, k', v', g1, g2⟩ => ?_⟩
  rw [h1] at g1; cases g1
  subst g2 g4
  refine ⟨F2, I, Ex.refl _, ?_⟩
  rw [h2]
  exact kV_rp h4
end
section
variable {X : Cx} {tg e : Expr} {apos cpos : Pos}
def iItemsR (f : EF R) : EF (List D × Option Nat) := fun E => (f E).bind fun x => match x.1 with
  | .f (.dic kvs) => some ((kvs.map pairD, none), x.2)
  | _ => none
def iKeysR (f : EF R) : EF (List D × Option Nat) := fun E => (f E).bind fun x => match x.1 with
  | .f (.dic kvs) => some ((dKeys kvs, none), x.2)
  | _ => none
theorem RpK.monoU {K : PySem.W.Frag} {F : Hp} {p : Addr} {o : HO} (n : F p = none) {kvs : List (Key × V)} {ds : List (D × D)} (r : RpK K F kvs ds) : RpK K (upd F p o) kvs ds := r.mono (Ex.new n)
theorem di_itemsF {elts : List Expr} {kk : Nat} {tpos : Pos} {f : EF R} (h : DE X e f) (hbase : attributeBase e "items" X.env (eval e X.env) = eval e X.env := by rfl) (hline : (apos.endLine == cpos.line) = true := by rfl) :
    DI X (.Tuple elts kk tpos) (.Call (.Attribute e "items" apos) [] [] cpos) (iItemsR f) := by
  obtain ⟨t, hp, h⟩ := h.ex
  refine ⟨_, pi_itemsF hp hbase hline, fun W F H E its o E' R I hf k => ?_⟩
  unfold iItemsR at hf
  obtain ⟨⟨r, E1⟩, h1, hf⟩ := bsome hf
  match r, h1, hf with
  | .f (.dic kvs), h1, hf =>
    cases hf
    refine h W F H E _ E1 _ I h1 fun v F1 H1 I1 e1 rr => ?_
    obtain ⟨p, rfl, ow, wr, no⟩ := rr
    obtain ⟨us, rd, rk⟩ := ow.ct
    have hp := Rd_mut wr rd
    refine ⟨p, us, rfl, hp, fun od => ?_⟩
    have nl : ∀ x ∈ W.lk, x.1 ≠ p := fun x hx z => wr x.2.1 x.2.2 (z ▸ (I1.lo x hx).1)
    have I2 := I1.know (o := .frz od (.dK us)) ow.nf ow.n0 ow.nb no nl
    exact k _ W _ _ rfl I2 (e1.trans (Ex.new ow.nf)) (wk_items upd_same (rk.monoU ow.nf))
theorem di_keysF {f : EF R} (h : DE X e f) : DI X tg e (iKeysR f) := by
  obtain ⟨t, hp, h⟩ := h.ex
  refine ⟨_, pi_keysF hp, fun W F H E its o E' R I hf k => ?_⟩
  unfold iKeysR at hf
  obtain ⟨⟨r, E1⟩, h1, hf⟩ := bsome hf
  match r, h1, hf with
  | .f (.dic kvs), h1, hf =>
    cases hf
    refine h W F H E _ E1 _ I h1 fun v F1 H1 I1 e1 rr => ?_
    obtain ⟨p, rfl, ow, wr, no⟩ := rr
    obtain ⟨us, rd, rk⟩ := ow.ct
    have hp := Rd_mut wr rd
    refine ⟨p, us, rfl, hp, fun od => ?_⟩
    have nl : ∀ x ∈ W.lk, x.1 ≠ p := fun x hx z => wr x.2.1 x.2.2 (z ▸ (I1.lo x hx).1)
    have I2 := I1.know (o := .frz od (.dK us)) ow.nf ow.n0 ow.nb no nl
    exact k _ W _ _ rfl I2 (e1.trans (Ex.new ow.nf)) (wk_keys upd_same (rk.monoU ow.nf))
end

/-! ### sorted(d.items()) -/
section
variable {X : Cx} {pins : List (Addr × Obj)} {s : Shared} {σ : L2.St} {H : Hp}
/-- many tuples known at once -/
def tupsAt (H : Hp) (l : List (Addr × List V)) : Hp := fun b => match l.lookup b with
  | some xs => some (.tup xs)
  | none => H b
theorem tupsAt_in {l : List (Addr × List V)} {b : Addr} {xs : List V} (h : l.lookup b = some xs) : tupsAt H l b = some (.tup xs) := by unfold tupsAt; rw [h]
theorem tupsAt_out {l : List (Addr × List V)} {b : Addr} (h : l.lookup b = none) : tupsAt H l b = H b := by unfold tupsAt; rw [h]
theorem Inv.laidT {h' : Heap} {t' : Nat} {l : List (Addr × List V)} (I : Inv X pins σ H s) (k : ∀ b u, s.heap.get? b = some u → h'.get? b = some u) (hp : ∀ x ∈ l, s.heap.objs.size ≤ x.1)
    (ok : ∀ x ∈ l, x.2.length ≤ sizeLine ∧ ∃ its, Vals x.2 its ∧ IsTup h' x.1 its.toArray) : Inv X pins σ (tupsAt H l) { s with heap := h', toks := t' } := by
  have out : ∀ b, (∃ o, s.heap.get? b = some o) → tupsAt H l b = H b := fun b ⟨o, e⟩ => by
    cases q : l.lookup b with
    | none => exact tupsAt_out q
    | some xs => exact absurd (Heap.lt_size e) (Nat.not_lt.mpr (hp _ (lookup_mem q)))
  have outH : ∀ b o, H b = some o → tupsAt H l b = some o := fun b o e => by
    cases q : l.lookup b with
    | none => rw [tupsAt_out q]; exact e
    | some xs =>
      have := I.hok.fresh (hp _ (lookup_mem q))
      rw [this] at e; cases e
  refine I.un ⟨fun b o e _ _ _ => k b o e, fun b o e _ _ _ => ⟨o.slots, k b o e⟩, fun b o e n _ => by rw [out b ⟨o, e⟩]; exact n, fun b o e _ => ⟨o, k b o e⟩, fun b xs e => outH b _ e, fun b o u e => outH b _ e, fun b ps e => ⟨#[], by rw [outH b _ e]; simp⟩⟩ ?_
  intro b u e
  cases q : l.lookup b with
  | none =>
    rw [tupsAt_out q] at e
    exact (I.hok b u e).stay (fun c v _ q => k c v q) (fun c q => outH c _ q) fun c xs q => outH c _ q
  | some xs =>
    rw [tupsAt_in q] at e
    cases e
    obtain ⟨h1, its, h2, h3⟩ := ok _ (lookup_mem q)
    exact ⟨h1, its, h2, h3⟩
end
end PV

namespace PV
open PySem L2 PyProof.Rows
section
variable {X : Cx} {o e : Expr} {td : TE} {p pos apos cpos : Pos}
def tSortIt (K : PySem.W.Frag) (td : TE) : TE := fun σ H Q => td σ H fun x H1 => ∃ (F : Hp) (d : Addr) (kvs : List (Key × V)) (ds : List (D × D)), x = .ref d ∧ Ex F H1 ∧ Rd H1 d (.dK kvs) ∧ RpK K F kvs ds ∧ sortOk (ds.map pairD) = true ∧ ds.length ≤ sizeLine ∧
  ∀ (F' H2 : Hp) (out : List V) p, Ex F F' → (∀ a, F' a = F a ∨ H1 a = none) → Ex H1 H2 → Ex F' H2 → RpA K F' out (dSort (ds.map pairD)) → H2 p = none → H1 p = none → Q (.ref p) (upd H2 p (.lst out))
theorem lookup_zip {α : Type} : ∀ {as : List Addr} {bs : List α} {j : Nat} {a : Addr} {b : α}, as.Nodup → as[j]? = some a → bs[j]? = some b → (as.zip bs).lookup a = some b
  | [], _, _, _, _, _, h, _ => by simp at h
  | _ :: _, [], _, _, _, _, _, h => by simp at h
  | a :: as, b :: bs, 0, _, _, n, h1, h2 => by
    simp at h1 h2; subst h1 h2
    rw [List.zip_cons_cons, List.lookup_cons]; simp
  | a :: as, b :: bs, j + 1, x, y, n, h1, h2 => by
    have h1 : as[j]? = some x := by simpa using h1
    have h2 : bs[j]? = some y := by simpa using h2
    have ne : ¬ x = a := fun z => by
      subst z
      exact (List.nodup_cons.mp n).1 (List.mem_of_getElem? h1)
    rw [List.zip_cons_cons, List.lookup_cons]
    simp only [beq_eq_false_iff_ne.mpr ne]
    exact lookup_zip (List.nodup_cons.mp n).2 h1 h2
theorem pe_sortItems (hc : X.calm = true) (hu : X.A.units + 65 < cLine) (hg : Gl X "sorted") (hm : X.mg "sorted" = none) (ho : PE X o td)
    (hbase : attributeBase o "items" X.env (eval o X.env) = eval o X.env := by rfl) (hline : (apos.endLine == cpos.line) = true := by rfl)
    (na : starEach [.Call (.Attribute o "items" apos) [] [] cpos] X.env = (false, eval (.Call (.Attribute o "items" apos) [] [] cpos) X.env) :: starEach [] X.env := by rfl) (hpl : (backTo pos (starEach [] X.env)).any (·.1) = false := by rfl) :
    PE X (.Call (.Name "sorted" p) [.Call (.Attribute o "items" apos) [] [] cpos] [] pos) (tSortIt X.K td) := by
  refine ⟨fun pins s σ H Q I h => ?_⟩
  refine Call_ (ld_blt I hg hm boot_sorted (PyProof.Rows.callWith_builtin1 (args_cons (wpAny_Call_method (T := "dict") (id := "dict.items") hbase rfl hline PySem.F.plainAttrs_dict PySem.F.slot_dict_items PySem.F.type_dict_items (thn (ho.run pins s σ H _ I h) fun u s1 ⟨x, H1, I1, rx, F, d, kvs, ds, ex, e, hd, rk, ok, hl, q⟩ => ?_)) na) na hpl))
  subst ex
  obtain rfl : u = Value.ref d := rx
  obtain ⟨z, lo, ws, rel, dd⟩ := dk_rd I1.hok hd
  obtain ⟨ep, hat⟩ := dd.dictAt
  refine ⟨hat.dictOf.typeIs, hat.dictOf.mapOf.noDict, ?_⟩
  show wpAny _ _ (callWith cpos (.builtin "dict.items") [.ref d] [] []) _ X.xe s1
  refine method_meetsIn PySem.F.slot_dict_items PySem.F.entry_dict_items rfl (PySem.evalArgs_none ⟨rfl, hat.dictOf.typeIs, PySem.F.args_dict_items_1 _, _, meets_dict_items (mixKind X.prog X.w) d lo, ⟨ws, hat.dictOf⟩, ?_⟩)
  refine args_nil ?_
  have hv : (s1.heap.push { cls := .type "dict_items", data := .fields #[.ref d] }).IsItemsView s1.heap.objs.size d := ⟨_, Heap.get?_push_size _ rfl, rfl, rfl⟩
  have I2 : Inv X pins σ H1 { s1 with heap := s1.heap.push { cls := .type "dict_items", data := .fields #[.ref d] } } := I1.kept (t' := s1.toks) fun b ob q => Heap.get?_push_of_some _ q
  obtain ⟨es, hraw, hes, hkv⟩ := PySem.Heap.DictAt.raw (hat.push { cls := .type "dict_items", data := .fields #[.ref d] })
  have l1 : kvs.length = ws.length := Paired.length rel
  refine sorted_coll hu fun R hR => ?_
  refine PySem.W.dil_collect (s := { s1 with heap := s1.heap.push { cls := .type "dict_items", data := .fields #[.ref d] } }) (I.ok.hd hc) hv hraw (by omega) fun h' tk as hk hlen g => ?_
  have nd : as.Nodup := g.rise.imp fun h => Nat.ne_of_lt h
  let prs : List (List V) := kvs.map fun kv => [kV kv.1, kv.2]
  have lp : prs.length = as.length := by show (kvs.map _).length = _; rw [List.length_map]; omega
  have hge : ∀ x ∈ as.zip prs, (s1.heap.push { cls := .type "dict_items", data := .fields #[.ref d] }).objs.size ≤ x.1 := fun x hx => Nat.le_of_lt (g.above _ (List.of_mem_zip hx).1)
  have I3 : Inv X pins σ (tupsAt H1 (as.zip prs)) { s1 with heap := h', toks := tk } := by
    refine Inv.laidT (s := { s1 with heap := s1.heap.push { cls := .type "dict_items", data := .fields #[.ref d] } }) I2 hk hge fun x hx => ?_
    obtain ⟨j, hj⟩ := List.mem_iff_getElem?.mp hx
    obtain ⟨h1, h2⟩ := List.getElem?_zip_eq_some.mp hj
    obtain ⟨hje, ha⟩ := g.pairs j x.1 h1
    obtain ⟨kv, hkv', ekv⟩ := Option.map_eq_some_iff.mp ((List.getElem?_map ..).symm.trans h2)
    obtain ⟨u, hu', ru⟩ := kv_get (k := kv.1) (v := kv.2) rel hkv'
    obtain ⟨ik, iv⟩ := hkv j hje kv.1 u hu'
    rw [← ekv]
    refine ⟨by show 2 ≤ sizeLine; decide, [es[j].key, es[j].val], .cons (keyIs_rel ik) (.cons (by rw [iv]; exact ru) .nil), ⟨_, ha, rfl, _, rfl⟩⟩
  have fresh : ∀ x ∈ as.zip prs, H1 x.1 = none := fun x hx => I2.hok.fresh (hge x hx)
  have exF : ∀ (G : Hp), Ex G H1 → Ex G (tupsAt G (as.zip prs)) := fun G eG b o hb => by
    cases q : (as.zip prs).lookup b with
    | none => rw [tupsAt_out q]; exact hb
    | some xs =>
      have := fresh _ (lookup_mem q)
      rw [eG _ _ hb] at this; cases this
  have eFH : Ex (tupsAt F (as.zip prs)) (tupsAt H1 (as.zip prs)) := fun b o hb => by
    cases q : (as.zip prs).lookup b with
    | none => rw [tupsAt_out q] at hb ⊢; exact e _ _ hb
    | some xs => rw [tupsAt_in q] at hb ⊢; exact hb
  have rp : RpA X.K (tupsAt F (as.zip prs)) (as.map V.ref) (ds.map pairD) := by
    have key : ∀ (vs : List V) (es : List D), vs.length = es.length → (∀ (j : Nat) (v : V) (d : D), vs[j]? = some v → es[j]? = some d → Rp X.K (tupsAt F (as.zip prs)) v d) → RpA X.K (tupsAt F (as.zip prs)) vs es := by
      intro vs
      induction vs with
      | nil => intro es hl _; cases es with | nil => exact .nil | cons _ _ => simp at hl
      | cons v vs ih =>
        intro es hl hh
        cases es with
        | nil => simp at hl
        | cons d es => exact .cons (hh 0 v d rfl rfl) (ih es (by simpa using hl) fun j v d h1 h2 => hh (j + 1) v d (by simpa using h1) (by simpa using h2))
    refine key _ _ (by rw [List.length_map, List.length_map, ← rk.length]; omega) fun j v dd h1 h2 => ?_
    rw [List.getElem?_map] at h1 h2
    obtain ⟨a, ha, rfl⟩ := Option.map_eq_some_iff.mp h1
    obtain ⟨kd, hkd, rfl⟩ := Option.map_eq_some_iff.mp h2
    obtain ⟨k, v, g1, g2, g3, g4⟩ := rk.get hkd
    have hpr : prs[j]? = some [kV k, v] := by show (kvs.map _)[j]? = _; rw [List.getElem?_map, g1]; rfl
    have at_ := tupsAt_in (H := F) (lookup_zip nd ha hpr)
    refine .tup (.inl (.inl at_)) (.cons (by rw [g2]; exact kV_rp g4) (.cons (g3.mono (exF F e)) .nil)) (by show 2 ≤ sizeLine; decide)
  have hvs : Vals (as.map V.ref) (as.map Value.ref) := vals_refs as
  refine hR _ _ (ds.map pairD) (tupsAt F (as.zip prs)) (tupsAt H1 (as.zip prs)) _ I3 hvs rp eFH ok (by rw [List.length_map]; exact hl) fun out p ro np => ?_
  refine q (tupsAt F (as.zip prs)) (tupsAt H1 (as.zip prs)) out p (exF F e) (fun a => ?_) (exF H1 (Ex.refl _)) eFH ro np ?_
  · cases q : (as.zip prs).lookup a with
    | none => exact .inl (tupsAt_out q)
    | some xs => exact .inr (fresh _ (lookup_mem q))
  · cases q : (as.zip prs).lookup p with
    | none => rw [tupsAt_out q] at np; exact np
    | some xs => exact fresh _ (lookup_mem q)
def sItems (d : D) : Option R := match d with
  | .dic kvs => if sortOk (kvs.map pairD) = true ∧ kvs.length ≤ sizeLine then some (.f (.lst (dSort (kvs.map pairD)))) else none
  | _ => none
/-- sorted(d.items()), d a slot's -/
def mSortIt (f : EF P) : EF R := fun E => (f E).bind fun p => (p.1.get p.2).bind fun d => (sItems d).bind fun r => some (r, p.2)
/-- .. d just made -/
def mSortItF (f : EF R) : EF R := fun E => (f E).bind fun p => (sItems p.1.dat).bind fun r => some (r, p.2)
theorem sItems_some {d : D} {r : R} (h : sItems d = some r) : ∃ kvs, d = .dic kvs ∧ sortOk (kvs.map pairD) = true ∧ kvs.length ≤ sizeLine ∧ r = .f (.lst (dSort (kvs.map pairD))) := by
  match d, h with
  | .dic kvs, h =>
    obtain ⟨ok, h⟩ := Option.ite_none_right_eq_some.mp h
    cases h
    exact ⟨kvs, rfl, ok.1, ok.2, rfl⟩
theorem FI.many {K : PySem.W.Frag} {F H F' H2 : Hp} {W : FP} {E : En} {out : List V} {ds : List D} {p : Addr} (I : FI K W E F H) (e1 : Ex F F') (e2 : ∀ a, F' a = F a ∨ H a = none) (e3 : Ex H H2) (e4 : Ex F' H2) (r : RpA K F' out ds) (hl : ds.length ≤ sizeLine) (n2 : H2 p = none) (n : H p = none) :
    FI K W E F' (upd H2 p (.lst out)) ∧ RR K W E F' (upd H2 p (.lst out)) (.ref p) (.f (.lst ds)) := by
  have I' : FI K W E F' (upd H2 p (.lst out)) := I.step e1 e2 (e3.trans (Ex.new n2)) (e4.trans (Ex.new n2))
  exact ⟨I', I.res I' n (e4.none n2) ⟨out, upd_same, r, hl⟩ (wr_same fun _ _ z => nomatch z)⟩
theorem de_sortItems {f : EF P} (hc : X.calm = true) (hu : X.A.units + 65 < cLine) (hg : Gl X "sorted") (hm : X.mg "sorted" = none) (ho : DP X o f)
    (hbase : attributeBase o "items" X.env (eval o X.env) = eval o X.env := by rfl) (hline : (apos.endLine == cpos.line) = true := by rfl)
    (na : starEach [.Call (.Attribute o "items" apos) [] [] cpos] X.env = (false, eval (.Call (.Attribute o "items" apos) [] [] cpos) X.env) :: starEach [] X.env := by rfl) (hpl : (backTo pos (starEach [] X.env)).any (·.1) = false := by rfl) :
    DE X (.Call (.Name "sorted" p) [.Call (.Attribute o "items" apos) [] [] cpos] [] pos) (mSortIt f) := by
  obtain ⟨t, po, h⟩ := ho.ex
  refine ⟨_, pe_sortItems hc hu hg hm po hbase hline na hpl, fun W F H E r E' Q I hf k => ?_⟩
  unfold mSortIt at hf
  obtain ⟨⟨q, E1⟩, h1, hf⟩ := bsome hf
  obtain ⟨d, h2, hf⟩ := bsome hf
  obtain ⟨r', h3, hf⟩ := bsome hf
  cases hf
  obtain ⟨kvs, rfl, ok, hl, rfl⟩ := sItems_some h3
  refine h W F H E q E1 _ I h1 fun v F1 H1 I1 e1 r1 => ?_
  obtain ⟨a, us, rfl, rd, rk⟩ := (I1.vr r1 h2).dic I1.FH
  refine ⟨F1, a, us, kvs, rfl, I1.FH, rd, rk, ok, hl, fun F' H2 out p a1 a2 a3 a4 ro n2 n => ?_⟩
  obtain ⟨I2, r2⟩ := I1.many a1 a2 a3 a4 ro (by unfold dSort; rw [List.length_mergeSort, List.length_map]; exact hl) n2 n
  exact k _ F' _ I2 (e1.trans a1) r2
theorem de_sortItemsF {f : EF R} (hc : X.calm = true) (hu : X.A.units + 65 < cLine) (hg : Gl X "sorted") (hm : X.mg "sorted" = none) (ho : DE X o f)
    (hbase : attributeBase o "items" X.env (eval o X.env) = eval o X.env := by rfl) (hline : (apos.endLine == cpos.line) = true := by rfl)
    (na : starEach [.Call (.Attribute o "items" apos) [] [] cpos] X.env = (false, eval (.Call (.Attribute o "items" apos) [] [] cpos) X.env) :: starEach [] X.env := by rfl) (hpl : (backTo pos (starEach [] X.env)).any (·.1) = false := by rfl) :
    DE X (.Call (.Name "sorted" p) [.Call (.Attribute o "items" apos) [] [] cpos] [] pos) (mSortItF f) := by
  obtain ⟨t, po, h⟩ := ho.ex
  refine ⟨_, pe_sortItems hc hu hg hm po hbase hline na hpl, fun W F H E r E' Q I hf k => ?_⟩
  unfold mSortItF at hf
  obtain ⟨⟨q, E1⟩, h1, hf⟩ := bsome hf
  obtain ⟨r', h3, hf⟩ := bsome hf
  cases hf
  obtain ⟨kvs, e0, ok, hl, rfl⟩ := sItems_some h3
  refine h W F H E q E1 _ I h1 fun v F1 H1 I1 e1 r1 => ?_
  have vr := r1.vr
  rw [show (q, E1).1.dat = q.dat from rfl] at e0
  rw [e0] at vr
  obtain ⟨a, us, rfl, rd, rk⟩ := vr.dic I1.FH
  refine ⟨F1, a, us, kvs, rfl, I1.FH, rd, rk, ok, hl, fun F' H2 out p a1 a2 a3 a4 ro n2 n => ?_⟩
  obtain ⟨I2, r2⟩ := I1.many a1 a2 a3 a4 ro (by unfold dSort; rw [List.length_mergeSort, List.length_map]; exact hl) n2 n
  exact k _ F' _ I2 (e1.trans a1) r2

/-! ### methods of texts, lists -/
def sOk (x : Str) : Bool := decide (x.length ≤ sizeLine) && x.cps.all (· < 0x110000)
theorem sOk_iff {x : Str} : sOk x = true ↔ SOk x := by
  unfold sOk SOk
  rw [Bool.and_eq_true, decide_eq_true_eq]
def tJoin (a : D) (ds : List D) : Option R := match a with
  | .str s => (lOf dStrs ds).bind fun ys => if (ys.map (·.length)).sum + ys.length * s.length ≤ 16777216 ∧ sOk (Txt.join s ys) = true then some (.v (.str (Txt.join s ys))) else none
  | _ => none
theorem md_join : MtD X "str" "str.join" tJoin := by
  refine ⟨_, mt_join, fun F H x a xs ds res Q e va vs hg k => ?_⟩
  match a, hg with
  | .str s, hg =>
    obtain ⟨ys, h1, hg⟩ := bsome hg
    obtain ⟨ok, hg⟩ := Option.ite_none_right_eq_some.mp hg
    cases hg
    obtain ⟨ws, rfl, h3⟩ := lOf_some h1
    obtain ⟨v, rfl, r⟩ := vals1 vs
    obtain ⟨a, us, rfl, st, r, _⟩ := r.lst e
    rw [dStrs_eq h3] at r
    exact ⟨s, a, ys, va.str.1, rfl, .inl (.inl (.inl (by rw [← r.ofStrs.1]; exact st))), ok.1, k _ H (.inl ⟨rfl, .str _ (sOk_iff.mp ok.2)⟩)⟩
def tCount (a : D) (ds : List D) : Option R := match a, ds with
  | .str s, [.str t] => some (.v (.int (Txt.count s t)))
  | _, _ => none
theorem md_count : MtD X "str" "str.count" tCount := by
  refine ⟨_, mt_count, fun F H x a xs ds res Q e va vs hg k => ?_⟩
  match a, ds, hg with
  | .str s, [.str t], hg =>
    cases hg
    obtain ⟨v, rfl, r⟩ := vals1 vs
    exact ⟨s, t, va.str.1, by rw [r.str.1], k _ H (.inl ⟨rfl, .int _⟩)⟩
def tUpper (a : D) (ds : List D) : Option R := match a, ds with
  | .str s, [] => if s.length ≤ 5592405 ∧ sOk (Txt.upper s) = true then some (.v (.str (Txt.upper s))) else none
  | _, _ => none
theorem md_upper : MtD X "str" "str.upper" tUpper := by
  refine ⟨_, mt_upper, fun F H x a xs ds res Q e va vs hg k => ?_⟩
  match a, ds, hg with
  | .str s, [], hg =>
    obtain ⟨ok, hg⟩ := Option.ite_none_right_eq_some.mp hg
    cases hg
    cases vs
    exact ⟨s, va.str.1, rfl, ok.1, k _ H (.inl ⟨rfl, .str _ (sOk_iff.mp ok.2)⟩)⟩
/-- text.index(text) -/
def tIndex (a : D) (ds : List D) : Option R := match a, ds with
  | .str s, [.str t] => match Builtin.Str.occurrences s t 0 s.length 1 with
    | i :: _ => some (.v (.int (i : Nat)))
    | [] => none
  | _, _ => none
/-- list.count of ints -/
def lCount (a : D) (ds : List D) : Option R := match a, ds with
  | .lst xs, [.int k] => (dInts xs).bind fun ns => some (.v (.int (ns.count k : Nat)))
  | _, _ => none
theorem md_lcount : MtD X "list" "list.count" lCount := by
  refine ⟨_, mt_lcount, fun F H x a xs ds res Q e va vs hg k => ?_⟩
  match a, ds, hg with
  | .lst ys, [.int t], hg =>
    obtain ⟨ns, h1, hg⟩ := bsome hg
    cases hg
    obtain ⟨v, rfl, r⟩ := vals1 vs
    obtain ⟨a, us, rfl, st, ra, _⟩ := va.lst e
    rw [dInts_eq h1] at ra
    exact ⟨a, ns, t, rfl, by rw [r.int], .inl (.inl (by rw [← ra.ofInts]; exact st)), k _ H (.inl ⟨rfl, .int _⟩)⟩
/-- list.index -/
def findD (d : D) : List D → Option Nat
  | [] => none
  | x :: xs => if deqv x d = true then some 0 else (findD d xs).map (· + 1)
def lIndex (a : D) (ds : List D) : Option R := match a, ds with
  | .lst xs, [d] => if inOk d xs = true ∧ d.py.depth ≤ 60 ∧ PyData.depthAll (pys xs) ≤ 60 then (findD d xs).bind fun i => some (.v (.int (i : Nat))) else none
  | _, _ => none
theorem findD_some {d : D} : ∀ {xs : List D} {i : Nat}, findD d xs = some i → (∃ z, xs[i]? = some z ∧ deqv z d = true) ∧ ∀ (m : Nat) z, m < i → xs[m]? = some z → deqv z d = false
  | x :: xs, i, h => by
    unfold findD at h
    by_cases hx : deqv x d = true
    · rw [if_pos hx] at h; cases h
      exact ⟨⟨x, rfl, hx⟩, fun m z hm => absurd hm (Nat.not_lt_zero m)⟩
    · rw [if_neg hx] at h
      obtain ⟨j, hj, rfl⟩ := Option.map_eq_some_iff.mp h
      obtain ⟨⟨z, h1, h2⟩, h3⟩ := findD_some hj
      refine ⟨⟨z, by simpa using h1, h2⟩, fun m z hm e => ?_⟩
      cases m with
      | zero => simp at e; subst e; exact Bool.eq_false_iff.mpr hx
      | succ m => exact h3 m z (by omega) (by simpa using e)
theorem pys_get {xs : List D} {i : Nat} : (pys xs)[i]? = (xs[i]?).map D.py := by rw [pys_eq, List.getElem?_map]
theorem md_lindex (hu : X.A.units + 65 < cLine) : MtD X "list" "list.index" lIndex := by
  refine ⟨_, mt_indexD hu, fun F H x a xs ds res Q e va vs hg k => ?_⟩
  match a, ds, hg with
  | .lst ys, [d], hg =>
    obtain ⟨⟨ok, ok2, ok3⟩, hg⟩ := Option.ite_none_right_eq_some.mp hg
    obtain ⟨i, hi, hg⟩ := bsome hg
    cases hg
    obtain ⟨v, rfl, r⟩ := vals1 vs
    obtain ⟨⟨n1, n2⟩, hm⟩ := inOk_of ok
    obtain ⟨d1, c1⟩ := r.dp e n1
    obtain ⟨d2, c2⟩ := va.dp e (by simpa using n2)
    obtain ⟨⟨z, h1, h2⟩, h3⟩ := findD_some hi
    obtain ⟨a, us, rfl, _⟩ := va.lst e
    refine ⟨a, v, d.py, pys ys, i, z.py, rfl, rfl, d2, d1, ?_, ?_, by rw [pys_get, h1]; rfl, h2, fun m z' hmi hz => ?_, k _ H (.inl ⟨rfl, .int _⟩)⟩
    · unfold SeqAt.shaped
      rw [Bool.and_eq_true, decide_eq_true_eq]
      refine ⟨c2, ?_⟩
      show PyData.depth (.list (pys ys)) ≤ 64
      simp only [PyData.depth]
      omega
    · unfold SeqAt.shaped
      rw [Bool.and_eq_true, decide_eq_true_eq]
      exact ⟨c1, by omega⟩
    · rw [pys_get] at hz
      obtain ⟨w, hw, rfl⟩ := Option.map_eq_some_iff.mp hz
      exact h3 m w hmi hw
end
end PV

namespace PV
open PySem L2 PyProof.Rows

/-! ### sets of keys (ints, texts) whose members may be told in their order -/
def kOf (e : Int × Value) : Key := match e.2 with
  | .int k _ => .inl k
  | .str x _ => .inr x
  | _ => .inl 0
/-- a member as the table keeps it -/
def Mem1 (P : Program) (w : World) (e : Int × Value) : Prop := ∃ k, (mixKind P w).is k e.2 = true ∧ e.2.scannable = true ∧ e.1 = (mixKind P w).hash k
structure SetX (P : Program) (w : World) (h : Heap) (a : Addr) (S : Key → Bool) (n : Nat) : Prop where
  ex : ∃ o es ep t, h.get? a = some o ∧ o.ExactSet ∧ o.data = .set es ep t ∧ (∀ e ∈ es.toList, Mem1 P w e) ∧ (es.toList.map kOf).Nodup ∧ (∀ k, S k = true ↔ k ∈ es.toList.map kOf) ∧
    es.size < scanBound ∧ t.fits es.size = true ∧ es.size = n ∧ Ris t.place.toList ∧ (w.params.followText "set-order" = true ∨ t.led = true)
section
variable {P : Program} {w : World} {h h' : Heap} {a : Addr} {S : Key → Bool} {n : Nat}
theorem is_shape {k : Key} {v : Value} (e : (mixKind P w).is k v = true) : (∃ i t, k = .inl i ∧ v = .int i t) ∨ ∃ x t, k = .inr x ∧ v = .str x t := keyIs_shape (show keyIs k v = true from e)
theorem kOf_is {e : Int × Value} {k : Key} (q : (mixKind P w).is k e.2 = true) : kOf e = k := by
  unfold kOf
  rcases is_shape q with ⟨i, t, rfl, h⟩ | ⟨x, t, rfl, h⟩ <;> rw [h]
theorem Mem1.iff {e : Int × Value} (m : Mem1 P w e) (k : Key) : (mixKind P w).is k e.2 = true ↔ kOf e = k := by
  obtain ⟨k0, h0, _, _⟩ := m
  refine ⟨kOf_is, fun q => ?_⟩
  rw [← q, kOf_is h0]; exact h0
theorem mem_kOf {l : List (Int × Value)} (g : ∀ e ∈ l, Mem1 P w e) (k : Key) : k ∈ l.map kOf ↔ ∃ e ∈ l, (mixKind P w).is k e.2 = true := by
  rw [List.mem_map]
  exact ⟨fun ⟨e, he, q⟩ => ⟨e, he, ((g e he).iff k).2 q⟩, fun ⟨e, he, q⟩ => ⟨e, he, ((g e he).iff k).1 q⟩⟩
theorem mems_elems {l : List (Int × Value)} (g : ∀ e ∈ l, Mem1 P w e) : ElemsOf (mixKind P w) l := fun e he => by
  obtain ⟨k, h1, h2, h3⟩ := g e he
  exact ⟨⟨k, h1, h3⟩, h2⟩
theorem SetX.at (R : SetX P w h a S n) (k : ∀ o, h.get? a = some o → h'.get? a = some o) : SetX P w h' a S n := by
  obtain ⟨o, es, ep, t, ho, r⟩ := R.ex
  exact ⟨o, es, ep, t, k o ho, r⟩
theorem SetX.congr {S' : Key → Bool} (R : SetX P w h a S n) (e : ∀ k, S' k = S k) : SetX P w h a S' n := by
  have q : S' = S := funext e
  rw [q]; exact R
end
section
variable {P : Program} {w : World} {A : Around} {E : Value → Shared → Prop} {s : Shared} {a : Addr} {S : Key → Bool} {n : Nat}
/-- what the table has become is stored; if it is too full it is laid anew -/
theorem setX_store {g : Bool → Sem Unit} (hg : ∀ (b : Bool) (s₁ : Shared) (Q' : Unit → Shared → Prop), Q' () s₁ → wpAny (model P w) A (g b) Q' E s₁)
    {o : Obj} {es : Array (Int × Value)} {ep : Nat} {t : SetTable} (ho : s.heap.get? a = some o) (hex : o.ExactSet) (hd : o.data = .set es ep t)
    {es1 : Array (Int × Value)} {t2 : SetTable} {S' : Key → Bool} (g1 : ∀ e ∈ es1.toList, Mem1 P w e) (nd1 : (es1.toList.map kOf).Nodup) (m1 : ∀ k, S' k = true ↔ k ∈ es1.toList.map kOf)
    (hb1 : es1.size < scanBound) (hf2 : t2.fits es1.size = true) (hr : Ris t2.place.toList) (hl : w.params.followText "set-order" = true ∨ t2.led = true) {wasDummy : Bool} {R : Option Bool → Shared → Prop}
    (hR : ∀ h', Heap.SameBut a s.heap h' → SetX P w h' a S' es1.size → R (some true) { s with heap := h' }) :
    wpAny (model P w) A (do
        storeSet a es1 t2
        if (!wasDummy && t2.tooFull) = true then do
            g (relayAll t2 es1 (SetTable.grown es1.size)).2.2
            storeSet a (relayAll t2 es1 (SetTable.grown es1.size)).1 (relayAll t2 es1 (SetTable.grown es1.size)).2.1
            pure (some true)
          else pure (some true)) R E s := by
  refine wpAny_bind (wpAny_storeSet_of ho hd ?_ (fits_of_scanBound hb1))
  have ho1 := store_at (es' := es1) (t' := t2) ho hd
  have sb1 := Heap.SameBut.update s.heap a (Obj.putSet es1 t2)
  by_cases full : (!wasDummy && t2.tooFull) = true
  · rw [if_pos full]
    have pm := relayAll_perm t2 es1 (SetTable.grown es1.size)
    have hf3 := relayAll_fits t2 es1 (SetTable.grown es1.size)
    have hr3 := relayAll_ris t2 es1 (SetTable.grown es1.size)
    have hl3 := relayAll_led t2 es1 (SetTable.grown es1.size)
    generalize relayAll t2 es1 (SetTable.grown es1.size) = Z at pm hf3 hr3 hl3 ⊢
    obtain ⟨es2, t3, gave⟩ := Z
    dsimp only at pm hf3 hr3 hl3 ⊢
    have hsz : es2.size = es1.size := by rw [← Array.length_toList, pm.length_eq, Array.length_toList]
    have hb2 : es2.size < scanBound := by rw [hsz]; exact hb1
    refine wpAny_bind (hg _ _ _ (wpAny_bind (wpAny_storeSet_of ho1 rfl (wpAny_pure (hR _ (sb1.trans (Heap.SameBut.update _ a _)) ?_)) (fits_of_scanBound hb2))))
    exact ⟨_, es2, _, t3, store_at (es' := es2) (t' := t3) ho1 rfl, hex, rfl, fun e he => g1 e (pm.mem_iff.mp he), (pm.map kOf).nodup_iff.mpr nd1, fun k => (m1 k).trans (pm.map kOf).mem_iff.symm, hb2, hf3, hsz, hr3,
      hl.imp id fun z => by rw [hl3]; exact z⟩
  · rw [if_neg full]
    exact wpAny_pure (hR _ sb1 ⟨_, es1, _, t2, ho1, hex, rfl, g1, nd1, m1, hb1, hf2, rfl, hr, hl⟩)
theorem setX_add {k : Key} {x : Value} {Q : Bool → Shared → Prop} (hkey : (mixKind P w).is k x = true) (hsc : x.scannable = true) (R : SetX P w s.heap a S n) (room : n + 1 < scanBound)
    (hQ : ∀ h', Heap.SameBut a s.heap h' → SetX P w h' a (fun j => S j || decide (j = k)) (if S k = true then n else n + 1) → Q (!S k) { s with heap := h' }) :
    wpAny (model P w) A (setAddHashed a x ((mixKind P w).hash k)) Q E s := by
  obtain ⟨o, es, ep, t, ho, hex, hd, g, nd, hm, hb, hf, hn, hr, hl⟩ := R.ex
  have hel : ElemsOf (mixKind P w) es.toList := mems_elems g
  have quiet : ∀ (b : Bool) (s₁ : Shared) (Q' : Unit → Shared → Prop), Q' () s₁ → wpAny (model P w) A (match b with | true => rule "set.scan.the-table-gave-way" | false => pure ()) Q' E s₁ := fun b s₁ Q' q => by
    cases b
    · exact wpAny_pure q
    · exact wpAny_rule q
  unfold setAddHashed setAddHashedIn
  refine wpAny_holding (wpAny_bind (wpAny_setState_of ho hd hf ?_))
  dsimp only
  rw [byScan_of hsc hb hel]
  simp only [↓reduceIte]
  unfold setAddByScan
  refine wpAny_bind (wpAny_bind (wpAny_rule (wpAny_bind (wpAny_setScan_of hkey ho hd hf hel ?_))))
  cases hfi : List.findIdx? (fun e => (mixKind P w).is k e.2) es.toList with
  | some j =>
    dsimp only
    obtain ⟨hj, pj, _⟩ := List.findIdx?_eq_some_iff_getElem.mp hfi
    have hSk : S k = true := (hm k).2 ((mem_kOf g k).2 ⟨es.toList[j], List.getElem_mem hj, pj⟩)
    have q := hQ s.heap (Heap.SameBut.refl a s.heap) ⟨o, es, ep, t, ho, hex, hd, g, nd, fun i => by
      rw [Bool.or_eq_true, decide_eq_true_eq, ← hm i]
      exact ⟨fun z => z.elim id (fun e => e ▸ hSk), .inl⟩, hb, hf, by rw [if_pos hSk]; exact hn, hr, hl⟩
    rw [hSk] at q
    exact wpAny_pure (wpAny_pure q)
  | none =>
    dsimp only
    have hnk : k ∉ es.toList.map kOf := fun z => by
      obtain ⟨e, he, q⟩ := (mem_kOf g k).1 z
      have c := List.findIdx?_eq_none_iff.mp hfi e he
      rw [q] at c
      cases c
    have hSk : S k = false := by
      cases q : S k with
      | false => rfl
      | true => exact absurd ((hm k).1 q) hnk
    have pm := layNew_perm t es ((mixKind P w).hash k) x
    have hf1 := layNew_fits t es ((mixKind P w).hash k) x
    have hr1 := layNew_ris t es ((mixKind P w).hash k) x hr
    have hl1 := layNew_led t es ((mixKind P w).hash k) x
    generalize layNew t es ((mixKind P w).hash k) x = Z at pm hf1 hr1 hl1 ⊢
    obtain ⟨es1, t1, wasDummy, gave⟩ := Z
    dsimp only at pm hf1 hr1 hl1 ⊢
    rw [Array.toList_push] at pm
    have pc : es1.toList.Perm (((mixKind P w).hash k, x) :: es.toList) := pm.trans (List.perm_append_singleton _ _)
    have kx : kOf ((mixKind P w).hash k, x) = k := kOf_is hkey
    have pk : (es1.toList.map kOf).Perm (k :: es.toList.map kOf) := by
      have := pc.map kOf
      rw [List.map_cons, kx] at this
      exact this
    have g1 : ∀ e ∈ es1.toList, Mem1 P w e := fun e he => by
      rcases List.mem_cons.mp (pc.mem_iff.mp he) with z | z
      · rw [z]; exact ⟨k, hkey, hsc, rfl⟩
      · exact g e z
    have nd1 : (es1.toList.map kOf).Nodup := pk.nodup_iff.mpr (List.nodup_cons.mpr ⟨hnk, nd⟩)
    have m1 : ∀ i, (S i || decide (i = k)) = true ↔ i ∈ es1.toList.map kOf := fun i => by
      rw [Bool.or_eq_true, decide_eq_true_eq, hm i, pk.mem_iff, List.mem_cons]
      exact Or.comm
    have hsz : es1.size = n + 1 := by rw [← Array.length_toList, pc.length_eq, List.length_cons, Array.length_toList, hn]
    have hb1 : es1.size < scanBound := by rw [hsz]; exact room
    have hled : w.params.followText "set-order" = true ∨ t1.led = true := hl.imp id fun z => by rw [hl1]; exact z
    have fin : ∀ h', Heap.SameBut a s.heap h' → SetX P w h' a (fun j => S j || decide (j = k)) es1.size → Q true { s with heap := h' } := fun h' sb r => by
      have q := hQ h' sb
      rw [hSk] at q
      rw [hsz] at r
      exact q r
    refine wpAny_bind (quiet _ _ _ ?_)
    split
    · refine wpAny_bind ?_
      rw [hashByValue_scannable 8 hsc]
      refine wpAny_pure ?_
      refine setX_store (by intro b s₁ Q' q; cases b <;> first | exact wpAny_pure q | exact wpAny_rule q) ho hex hd g1 nd1 m1 hb1 ?_ ?_ ?_ fun h' sb r => wpAny_pure (fin h' sb r)
      · first | (split <;> first | exact hf1 | exact SetTable.fits_plain_off hf1) | exact hf1
      · first | (split <;> exact hr1) | exact hr1
      · first | (split <;> exact hled) | exact hled
    · refine wpAny_bind (wpAny_pure ?_)
      simp only [↓reduceIte]
      exact setX_store (by intro b s₁ Q' q; cases b <;> first | exact wpAny_pure q | exact wpAny_rule q) ho hex hd g1 nd1 m1 hb1 hf1 hr1 hled fun h' sb r => wpAny_pure (fin h' sb r)
end
end PV
namespace PV
open PySem L2 PyProof.Rows
section
variable {α : Type} [DecidableEq α]
def uniq : List α → List α
  | [] => []
  | x :: xs => if x ∈ xs then uniq xs else x :: uniq xs
theorem mem_uniq {x : α} : ∀ {xs : List α}, x ∈ uniq xs ↔ x ∈ xs
  | [] => Iff.rfl
  | y :: ys => by
    unfold uniq
    by_cases h : y ∈ ys
    · rw [if_pos h, mem_uniq, List.mem_cons]
      exact ⟨.inr, fun z => z.elim (fun e => e ▸ h) id⟩
    · rw [if_neg h, List.mem_cons, List.mem_cons, mem_uniq]
theorem nodup_uniq : ∀ xs : List α, (uniq xs).Nodup
  | [] => List.nodup_nil
  | y :: ys => by
    unfold uniq
    by_cases h : y ∈ ys
    · rw [if_pos h]; exact nodup_uniq ys
    · rw [if_neg h]; exact List.nodup_cons.mpr ⟨fun z => h (mem_uniq.mp z), nodup_uniq ys⟩
theorem uniq_le_of {xs ys : List α} (h : ∀ x ∈ xs, x ∈ ys) : (uniq xs).length ≤ (uniq ys).length :=
  List.Nodup.length_le_of_subset (nodup_uniq xs) fun x hx => mem_uniq.mpr (h x (mem_uniq.mp hx))
theorem uniq_perm {xs ys : List α} (h : ∀ x, x ∈ xs ↔ x ∈ ys) : (uniq xs).Perm (uniq ys) :=
  (List.perm_ext_iff_of_nodup (nodup_uniq xs) (nodup_uniq ys)).mpr fun x => by rw [mem_uniq, mem_uniq]; exact h x
theorem uniq_snoc {xs : List α} {z : α} : (uniq (xs ++ [z])).length = if z ∈ xs then (uniq xs).length else (uniq xs).length + 1 := by
  by_cases h : z ∈ xs
  · rw [if_pos h]
    exact (uniq_perm fun x => by rw [List.mem_append, List.mem_singleton]; exact ⟨fun q => q.elim id fun e => e ▸ h, .inl⟩).length_eq
  · rw [if_neg h]
    have : (uniq (xs ++ [z])).Perm (z :: uniq xs) := (List.perm_ext_iff_of_nodup (nodup_uniq _) (List.nodup_cons.mpr ⟨fun q => h (mem_uniq.mp q), nodup_uniq xs⟩)).mpr fun x => by
      rw [mem_uniq, List.mem_append, List.mem_singleton, List.mem_cons, mem_uniq]; exact Or.comm
    rw [this.length_eq, List.length_cons]
end
/-- k is among the keys -/
def hasK (ks : List Key) (j : Key) : Bool := ks.any fun k => decide (k = j)
theorem hasK_iff {ks : List Key} {j : Key} : hasK ks j = true ↔ j ∈ ks := by
  unfold hasK
  rw [List.any_eq_true]
  exact ⟨fun ⟨x, h, e⟩ => by (have := of_decide_eq_true e; rw [← this]; exact h), fun h => ⟨j, h, decide_eq_true rfl⟩⟩
section
variable {P : Program} {w : World} {A : Around} {E : Value → Shared → Prop} {s : Shared}
/-- set.update's loop over keys -/
theorem setX_loop {I : Addr} {fp wr : List Addr} {G : Array GenState → Array GenState → Prop} {n : Nat} {Pv : Nat → Value → Prop} {St : Nat → Shared → Prop} {R : Result → Shared → Prop}
    (W : WalksS P w A.in1 I fp wr G n Pv St) (S : Addr) (hSf : S ∉ fp) (ks : List Key) (hn : n = ks.length) (hb : (uniq ks).length + 1 < scanBound) (hval : ∀ i v, Pv i v → ∃ k, ks[i]? = some k ∧ (mixKind P w).is k v = true ∧ v.scannable = true) :
    ∀ (k i : Nat) (s : Shared), n - i = k → i ≤ n → St i s → SetX P w s.heap S (hasK (ks.take i)) (uniq (ks.take i)).length →
      (∀ s' c, Moved (S :: wr) G s s' → SetX P w s'.heap S (hasK ks) c → R (.ok (.ret .none)) s') →
      codeAny (model P w) A (.builtin "set.update.loop" ⟨[.ref S, .ref I], []⟩) R s := by
  have hSw : S ∉ wr := fun h => hSf (W.sub _ h)
  have hsub : ∀ b ∈ wr, b ∈ S :: wr := fun b hb => List.mem_cons_of_mem _ hb
  intro k
  induction k with
  | zero =>
    intro i s hk' hi hst hS hR
    have hin : i = n := by omega
    subst hin
    refine codeAny_builtin F.entry_set_update_loop ?_
    rw [Around.under_plainId F.plain_set_update_loop _]
    refine wpAny_bind (W.done s _ _ hst fun s' hm => wpAny_pure (hR s' (uniq ks).length (hm.mono hsub) ?_))
    rw [List.take_of_length_le (show ks.length ≤ i by omega)] at hS
    exact hS.at fun o e => hm.heap S o hSw e
  | succ k ih =>
    intro i s hk' hi hst hS hR
    have hlt : i < n := by omega
    refine codeAny_builtin F.entry_set_update_loop ?_
    rw [Around.under_plainId F.plain_set_update_loop _]
    refine wpAny_bind (W.item i s _ _ hlt hst fun v s' hP hst' hm => ?_)
    obtain ⟨z, hz, hkey, hsc⟩ := hval i v hP
    have hS' : SetX P w s'.heap S (hasK (ks.take i)) (uniq (ks.take i)).length := hS.at fun o e => hm.heap S o hSw e
    show wpAny _ A.in1 (holding [v] (setAdd S v) >>= _) _ _ s'
    refine wpAny_bind (wpAny_holding ?_)
    unfold setAdd
    refine wpAny_holding (wpAny_bind ((mixKind P w).pyHash hkey ?_))
    refine setX_add (s := { s' with toks := s'.toks + 1 }) hkey hsc hS' (by have := uniq_le_of (xs := ks.take i) (ys := ks) fun x hx => List.mem_of_mem_take hx; omega) fun h' hsb hS2 => ?_
    have hcz : (if hasK (ks.take i) z = true then (uniq (ks.take i)).length else (uniq (ks.take i)).length + 1) = (uniq (ks.take (i + 1))).length := by
      rw [List.take_add_one, hz]
      show _ = (uniq (ks.take i ++ [z])).length
      rw [uniq_snoc]
      by_cases hh : z ∈ ks.take i
      · rw [if_pos hh, if_pos (hasK_iff.mpr hh)]
      · rw [if_neg hh, if_neg (fun e => hh (hasK_iff.mp e))]
    have hS3 : SetX P w h' S (hasK (ks.take (i + 1))) (uniq (ks.take (i + 1))).length := by
      rw [← hcz]
      exact hS2.congr fun j => by
        rw [List.take_add_one, hz]
        unfold hasK
        simp [List.any_append, eq_comm]
    refine wpAny_pure ⟨plainId_quiet F.plain_set_update_loop _, ih (i + 1) _ (by omega) hlt (W.frame _ s' _ _ hst' (Nat.le_succ _) fun b hb o e => ?_) hS3 fun s'' c2 hm'' hS'' => ?_⟩
    · rw [hsb.2 b (fun h : b = S => hSf (by rw [← h]; exact hb))]; exact e
    · refine hR s'' c2 (Moved.trans W.gtrans ((hm.mono hsub).then_heap (Nat.le_succ _) fun b o hb e => ?_) hm'') hS''
      rw [hsb.2 b (fun h : b = S => hb (by rw [h]; exact List.mem_cons_self))]; exact e
theorem setX_new {h : Heap} {a : Addr} (ho : h.get? a = some { cls := .type "set", dict := none, data := .set #[] 0 (.fresh 0 0 (!w.params.followText "set-order")) }) : SetX P w h a (hasK []) 0 :=
  ⟨_, #[], 0, _, ho, ⟨rfl, rfl, rfl⟩, rfl, (fun e he => by simp at he), (by simp), (fun k => by simp [hasK]), (by decide), (by rfl), rfl, List.Pairwise.nil, by
    show _ ∨ (!w.params.followText "set-order") = true
    cases w.params.followText "set-order"
    · exact .inr rfl
    · exact .inl rfl⟩

set_option maxHeartbeats 8000000 in
theorem callX_list {l : Addr} {items : Array Value} (ks : List Key) {Q : Value → Shared → Prop} (hh : A.handled = none) (hl : s.heap.IsList l items) (hit : ∀ (i : Nat) (v : Value), items[i]? = some v → ∃ k, ks[i]? = some k ∧ (mixKind P w).is k v = true ∧ v.scannable = true) (hisz : items.size = ks.length) (hb : (uniq ks).length + 1 < scanBound)
    (h : ∀ (h' : Heap) (tk c : Nat), SetX P w h' s.heap.objs.size (hasK ks) c → (∀ b o, s.heap.get? b = some o → h'.get? b = some o) → Q (.ref s.heap.objs.size) { s with heap := h', toks := tk }) :
    wpAny (model P w) A (call (.type "set") [.ref l]) Q E s := by
  obtain ⟨c, tl, hmro⟩ := F.called_set.mro
  have hmade := F.called_set.made
  have hsub := F.called_set.sub
  refine wpAny_call (codeAny_of_tree ?_)
  show wpAny _ _ (callAny (.type "set") _) _ _ _
  refine wpAny_pure ⟨Code.quiet_builtin _ (by decide +kernel), codeAny_builtin F.entry_type_call ?_⟩
  rw [Around.under_plain (weight_type_call_type "set" [.ref l] []) rfl]
  have h1 := F.called_set.notType
  have h2 := F.called_set.canCreate
  have hct := F.typeCall_set_1 (.ref l)
  repeat (any_goals (first | assumption | wp_step))
  refine codeAny_mono (code_set_led1 (.ref l) (E := E) (Q₁ := fun obj s₁ => obj = .ref s.heap.objs.size ∧ s₁ = { s with heap := s.heap.push { cls := .type "set", dict := none, data := .set #[] 0 (.fresh 0 0 (!w.params.followText "set-order")) } }) ⟨rfl, rfl⟩) fun r s₁ hr => ?_
  match r, hr with
  | .error e, hr => exact hr
  | .ok (.ret obj), hr =>
    obtain ⟨rfl, rfl⟩ := hr
    have hS : (s.heap.push { cls := .type "set", dict := none, data := .set #[] 0 (.fresh 0 0 (!w.params.followText "set-order")) }).get? s.heap.objs.size = some { cls := .type "set", dict := none, data := .set #[] 0 (.fresh 0 0 (!w.params.followText "set-order")) } := Heap.get?_push_size _ rfl
    have hT : Shared.TypeIs { s with heap := s.heap.push { cls := .type "set", dict := none, data := .set #[] 0 (.fresh 0 0 (!w.params.followText "set-order")) } } (.ref s.heap.objs.size) "set" := ⟨_, hS, rfl⟩
    have hli := F.called_set.init.lookup
    have hbi := F.called_set.init.bind (.ref s.heap.objs.size)
    repeat (any_goals (first | assumption | wp_step))
    refine codeAny_mono (codeAny_call_builtin (R := wants (fun r s₂ => r = .none ∧ ∃ h' tk c, s₂ = { s with heap := h', toks := tk } ∧ SetX P w h' s.heap.objs.size (hasK ks) c ∧
        (∀ b o, s.heap.get? b = some o → h'.get? b = some o)) E) F.called_set.init.plain F.entry_set_init (check_set_init_1 hT ?_)) fun r₂ s₂ hr₂ => ?_
    · have hl1 : (s.heap.push { cls := .type "set", dict := none, data := .set #[] 0 (.fresh 0 0 (!w.params.followText "set-order")) }).IsList l items := hl.push _
      obtain ⟨ol, hol, hcl, rest⟩ := id hl
      obtain ⟨ocls, odict, odata, oslots⟩ := ol
      simp only at hcl
      subst hcl
      have hol' : (s.heap.push { cls := .type "set", dict := none, data := .set #[] 0 (.fresh 0 0 (!w.params.followText "set-order")) }).get? l = some { cls := .type "list", dict := odict, data := odata, slots := oslots } := Heap.get?_push_of_some _ hol
      have hsls := F.sub_list_set
      have hslf := F.sub_list_frozenset
      have hne : (Value.type "list" == Value.type "dict") = false := by decide
      unfold Builtin.«set.__init__» noKeywords Builtin.Frozenset.updateFrom
      generalize hPI : pyIter = PI
      wp_walk
      subst hPI
      refine wpAny_pyIter_list hl1 ?_
      refine wpAny_bind (wpAny_runValue ?_)
      have hlS : l < s.heap.objs.size := Heap.lt_size hol
      have hneI : l ≠ (s.heap.push { cls := .type "set", dict := none, data := .set #[] 0 (.fresh 0 0 (!w.params.followText "set-order")) }).objs.size := by
        rw [Heap.size_push]; exact Nat.ne_of_lt (Nat.lt_succ_of_lt hlS)
      have hSf : s.heap.objs.size ∉ [(s.heap.push { cls := .type "set", dict := none, data := .set #[] 0 (.fresh 0 0 (!w.params.followText "set-order")) }).objs.size, l] := by
        rw [Heap.size_push]; simp only [List.mem_cons, List.mem_singleton, List.not_mem_nil, or_false, not_or]
        exact ⟨Nat.ne_of_lt (Nat.lt_succ_self _), Nat.ne_of_gt hlS⟩
      refine setX_loop ((Walks.list (show A.in1.in1.in1.handled = none by simp [hh]) _ l hneI items).toS) s.heap.objs.size hSf ks hisz hb hit (items.size - 0) 0 _ (by omega) (Nat.zero_le _)
        ⟨⟨_, Heap.get?_push_size _ rfl, rfl, rfl⟩, (hl1.push _)⟩ (setX_new (Heap.get?_push_of_some _ hS)) ?_
      intro s' c' hm hS'
      obtain ⟨h', g2, d', tk', os'⟩ := s'
      have eg : g2 = s.gens := hm.gens
      have ed : d' = s.drawn := hm.drawn
      have eo : os' = s.os := hm.os
      subst eg; subst ed; subst eo
      refine wpAny_pure ?_
      show wpAny _ _ (ret Value.none) _ _ _
      refine wpAny_pure ⟨rfl, h', tk', c', rfl, hS', fun b o e => ?_⟩
      have hb0 : b < s.heap.objs.size := Heap.lt_size e
      have hb1 : b ≠ s.heap.objs.size := Nat.ne_of_lt hb0
      have hb2 : b ≠ (s.heap.push { cls := .type "set", dict := none, data := .set #[] 0 (.fresh 0 0 (!w.params.followText "set-order")) }).objs.size := by
        rw [Heap.size_push]; exact Nat.ne_of_lt (Nat.lt_succ_of_lt hb0)
      exact hm.heap b o (by simp only [List.mem_cons, List.mem_singleton, List.not_mem_nil, or_false, not_or]; exact ⟨hb1, hb2⟩) (Heap.get?_push_of_some _ (Heap.get?_push_of_some _ e))
    · match r₂, hr₂ with
      | .error e, hr₂ => exact hr₂
      | .ok (.ret r), hr₂ =>
        obtain ⟨rfl, h', tk, c', rfl, hS', hk'⟩ := hr₂
        repeat (any_goals (first | assumption | wp_step))
        exact h _ _ _ hS' hk'

set_option maxHeartbeats 8000000 in
theorem callX_tuple {l : Addr} {items : Array Value} (ks : List Key) {Q : Value → Shared → Prop} (hh : A.handled = none) (hl : s.heap.IsTuple l items) (hit : ∀ (i : Nat) (v : Value), items[i]? = some v → ∃ k, ks[i]? = some k ∧ (mixKind P w).is k v = true ∧ v.scannable = true) (hisz : items.size = ks.length) (hb : (uniq ks).length + 1 < scanBound)
    (h : ∀ (h' : Heap) (tk c : Nat), SetX P w h' s.heap.objs.size (hasK ks) c → (∀ b o, s.heap.get? b = some o → h'.get? b = some o) → Q (.ref s.heap.objs.size) { s with heap := h', toks := tk }) :
    wpAny (model P w) A (call (.type "set") [.ref l]) Q E s := by
  obtain ⟨c, tl, hmro⟩ := F.called_set.mro
  have hmade := F.called_set.made
  have hsub := F.called_set.sub
  refine wpAny_call (codeAny_of_tree ?_)
  show wpAny _ _ (callAny (.type "set") _) _ _ _
  refine wpAny_pure ⟨Code.quiet_builtin _ (by decide +kernel), codeAny_builtin F.entry_type_call ?_⟩
  rw [Around.under_plain (weight_type_call_type "set" [.ref l] []) rfl]
  have h1 := F.called_set.notType
  have h2 := F.called_set.canCreate
  have hct := F.typeCall_set_1 (.ref l)
  repeat (any_goals (first | assumption | wp_step))
  refine codeAny_mono (code_set_led1 (.ref l) (E := E) (Q₁ := fun obj s₁ => obj = .ref s.heap.objs.size ∧ s₁ = { s with heap := s.heap.push { cls := .type "set", dict := none, data := .set #[] 0 (.fresh 0 0 (!w.params.followText "set-order")) } }) ⟨rfl, rfl⟩) fun r s₁ hr => ?_
  match r, hr with
  | .error e, hr => exact hr
  | .ok (.ret obj), hr =>
    obtain ⟨rfl, rfl⟩ := hr
    have hS : (s.heap.push { cls := .type "set", dict := none, data := .set #[] 0 (.fresh 0 0 (!w.params.followText "set-order")) }).get? s.heap.objs.size = some { cls := .type "set", dict := none, data := .set #[] 0 (.fresh 0 0 (!w.params.followText "set-order")) } := Heap.get?_push_size _ rfl
    have hT : Shared.TypeIs { s with heap := s.heap.push { cls := .type "set", dict := none, data := .set #[] 0 (.fresh 0 0 (!w.params.followText "set-order")) } } (.ref s.heap.objs.size) "set" := ⟨_, hS, rfl⟩
    have hli := F.called_set.init.lookup
    have hbi := F.called_set.init.bind (.ref s.heap.objs.size)
    repeat (any_goals (first | assumption | wp_step))
    refine codeAny_mono (codeAny_call_builtin (R := wants (fun r s₂ => r = .none ∧ ∃ h' tk c, s₂ = { s with heap := h', toks := tk } ∧ SetX P w h' s.heap.objs.size (hasK ks) c ∧
        (∀ b o, s.heap.get? b = some o → h'.get? b = some o)) E) F.called_set.init.plain F.entry_set_init (check_set_init_1 hT ?_)) fun r₂ s₂ hr₂ => ?_
    · have hl1 : (s.heap.push { cls := .type "set", dict := none, data := .set #[] 0 (.fresh 0 0 (!w.params.followText "set-order")) }).IsTuple l items := hl.push _
      obtain ⟨ol, hol, hcl, rest⟩ := id hl
      obtain ⟨ocls, odict, odata, oslots⟩ := ol
      simp only at hcl
      subst hcl
      have hol' : (s.heap.push { cls := .type "set", dict := none, data := .set #[] 0 (.fresh 0 0 (!w.params.followText "set-order")) }).get? l = some { cls := .type "tuple", dict := odict, data := odata, slots := oslots } := Heap.get?_push_of_some _ hol
      have hsls := F.sub_tuple_set
      have hslf := F.sub_tuple_frozenset
      have hne : (Value.type "tuple" == Value.type "dict") = false := by decide
      unfold Builtin.«set.__init__» noKeywords Builtin.Frozenset.updateFrom
      generalize hPI : pyIter = PI
      wp_walk
      subst hPI
      refine wpAny_pyIter_tuple hl1 ?_
      refine wpAny_bind (wpAny_runValue ?_)
      have hlS : l < s.heap.objs.size := Heap.lt_size hol
      have hneI : l ≠ (s.heap.push { cls := .type "set", dict := none, data := .set #[] 0 (.fresh 0 0 (!w.params.followText "set-order")) }).objs.size := by
        rw [Heap.size_push]; exact Nat.ne_of_lt (Nat.lt_succ_of_lt hlS)
      have hSf : s.heap.objs.size ∉ [(s.heap.push { cls := .type "set", dict := none, data := .set #[] 0 (.fresh 0 0 (!w.params.followText "set-order")) }).objs.size, l] := by
        rw [Heap.size_push]; simp only [List.mem_cons, List.mem_singleton, List.not_mem_nil, or_false, not_or]
        exact ⟨Nat.ne_of_lt (Nat.lt_succ_self _), Nat.ne_of_gt hlS⟩
      refine setX_loop ((Walks.tuple (show A.in1.in1.in1.handled = none by simp [hh]) _ l hneI items).toS) s.heap.objs.size hSf ks hisz hb hit (items.size - 0) 0 _ (by omega) (Nat.zero_le _)
        ⟨⟨_, Heap.get?_push_size _ rfl, rfl, rfl⟩, (hl1.push _)⟩ (setX_new (Heap.get?_push_of_some _ hS)) ?_
      intro s' c' hm hS'
      obtain ⟨h', g2, d', tk', os'⟩ := s'
      have eg : g2 = s.gens := hm.gens
      have ed : d' = s.drawn := hm.drawn
      have eo : os' = s.os := hm.os
      subst eg; subst ed; subst eo
      refine wpAny_pure ?_
      show wpAny _ _ (ret Value.none) _ _ _
      refine wpAny_pure ⟨rfl, h', tk', c', rfl, hS', fun b o e => ?_⟩
      have hb0 : b < s.heap.objs.size := Heap.lt_size e
      have hb1 : b ≠ s.heap.objs.size := Nat.ne_of_lt hb0
      have hb2 : b ≠ (s.heap.push { cls := .type "set", dict := none, data := .set #[] 0 (.fresh 0 0 (!w.params.followText "set-order")) }).objs.size := by
        rw [Heap.size_push]; exact Nat.ne_of_lt (Nat.lt_succ_of_lt hb0)
      exact hm.heap b o (by simp only [List.mem_cons, List.mem_singleton, List.not_mem_nil, or_false, not_or]; exact ⟨hb1, hb2⟩) (Heap.get?_push_of_some _ (Heap.get?_push_of_some _ e))
    · match r₂, hr₂ with
      | .error e, hr₂ => exact hr₂
      | .ok (.ret r), hr₂ =>
        obtain ⟨rfl, h', tk, c', rfl, hS', hk'⟩ := hr₂
        repeat (any_goals (first | assumption | wp_step))
        exact h _ _ _ hS' hk'
set_option maxHeartbeats 8000000 in
theorem callX_str {z : Str} {tz : Tok} (ks : List Key) {Q : Value → Shared → Prop} (hh : A.handled = none) (hit : ∀ (i : Nat) (v : Value), SignAt z i v → ∃ k, ks[i]? = some k ∧ (mixKind P w).is k v = true ∧ v.scannable = true) (hisz : z.cps.size = ks.length) (hb : (uniq ks).length + 1 < scanBound)
    (h : ∀ (h' : Heap) (tk c : Nat), SetX P w h' s.heap.objs.size (hasK ks) c → (∀ b o, s.heap.get? b = some o → h'.get? b = some o) → Q (.ref s.heap.objs.size) { s with heap := h', toks := tk }) :
    wpAny (model P w) A (call (.type "set") [.str z tz]) Q E s := by
  obtain ⟨c, tl, hmro⟩ := F.called_set.mro
  have hmade := F.called_set.made
  have hsub := F.called_set.sub
  refine wpAny_call (codeAny_of_tree ?_)
  show wpAny _ _ (callAny (.type "set") _) _ _ _
  refine wpAny_pure ⟨Code.quiet_builtin _ (by decide +kernel), codeAny_builtin F.entry_type_call ?_⟩
  rw [Around.under_plain (weight_type_call_type "set" [.str z tz] []) rfl]
  have h1 := F.called_set.notType
  have h2 := F.called_set.canCreate
  have hct := F.typeCall_set_1 (.str z tz)
  repeat (any_goals (first | assumption | wp_step))
  refine codeAny_mono (code_set_led1 (.str z tz) (E := E) (Q₁ := fun obj s₁ => obj = .ref s.heap.objs.size ∧ s₁ = { s with heap := s.heap.push { cls := .type "set", dict := none, data := .set #[] 0 (.fresh 0 0 (!w.params.followText "set-order")) } }) ⟨rfl, rfl⟩) fun r s₁ hr => ?_
  match r, hr with
  | .error e, hr => exact hr
  | .ok (.ret obj), hr =>
    obtain ⟨rfl, rfl⟩ := hr
    have hS : (s.heap.push { cls := .type "set", dict := none, data := .set #[] 0 (.fresh 0 0 (!w.params.followText "set-order")) }).get? s.heap.objs.size = some { cls := .type "set", dict := none, data := .set #[] 0 (.fresh 0 0 (!w.params.followText "set-order")) } := Heap.get?_push_size _ rfl
    have hT : Shared.TypeIs { s with heap := s.heap.push { cls := .type "set", dict := none, data := .set #[] 0 (.fresh 0 0 (!w.params.followText "set-order")) } } (.ref s.heap.objs.size) "set" := ⟨_, hS, rfl⟩
    have hli := F.called_set.init.lookup
    have hbi := F.called_set.init.bind (.ref s.heap.objs.size)
    repeat (any_goals (first | assumption | wp_step))
    refine codeAny_mono (codeAny_call_builtin (R := wants (fun r s₂ => r = .none ∧ ∃ h' tk c, s₂ = { s with heap := h', toks := tk } ∧ SetX P w h' s.heap.objs.size (hasK ks) c ∧
        (∀ b o, s.heap.get? b = some o → h'.get? b = some o)) E) F.called_set.init.plain F.entry_set_init (check_set_init_1 hT ?_)) fun r₂ s₂ hr₂ => ?_
    · have hsls := F.sub_str_set
      have hslf := F.sub_str_frozenset
      have hne : (Value.type "str" == Value.type "dict") = false := by decide
      unfold Builtin.«set.__init__» noKeywords Builtin.Frozenset.updateFrom
      generalize hPI : pyIter = PI
      wp_walk
      subst hPI
      refine wpAny_pyIter_str fun o St W0 hst => ?_
      refine wpAny_bind (wpAny_runValue ?_)
      have hSf : s.heap.objs.size ∉ [(s.heap.push { cls := .type "set", dict := none, data := .set #[] 0 (.fresh 0 0 (!w.params.followText "set-order")) }).objs.size] := by
        rw [Heap.size_push]; simp only [List.mem_singleton]
        exact Nat.ne_of_lt (Nat.lt_succ_self _)
      refine setX_loop ((W0 _ (show A.in1.in1.in1.handled = none by simp [hh])).toS) s.heap.objs.size hSf ks hisz hb hit (z.cps.size - 0) 0 _ (by omega) (Nat.zero_le _)
        hst (setX_new (Heap.get?_push_of_some _ hS)) ?_
      intro s' c' hm hS'
      obtain ⟨h', g2, d', tk', os'⟩ := s'
      have eg : g2 = s.gens := hm.gens
      have ed : d' = s.drawn := hm.drawn
      have eo : os' = s.os := hm.os
      subst eg; subst ed; subst eo
      refine wpAny_pure ?_
      show wpAny _ _ (ret Value.none) _ _ _
      refine wpAny_pure ⟨rfl, h', tk', c', rfl, hS', fun b o e => ?_⟩
      have hb0 : b < s.heap.objs.size := Heap.lt_size e
      have hb1 : b ≠ s.heap.objs.size := Nat.ne_of_lt hb0
      have hb2 : b ≠ (s.heap.push { cls := .type "set", dict := none, data := .set #[] 0 (.fresh 0 0 (!w.params.followText "set-order")) }).objs.size := by
        rw [Heap.size_push]; exact Nat.ne_of_lt (Nat.lt_succ_of_lt hb0)
      exact hm.heap b o (by simp only [List.mem_cons, List.mem_singleton, List.not_mem_nil, or_false, not_or]; exact ⟨hb1, hb2⟩) (Heap.get?_push_of_some _ (Heap.get?_push_of_some _ e))
    · match r₂, hr₂ with
      | .error e, hr₂ => exact hr₂
      | .ok (.ret r), hr₂ =>
        obtain ⟨rfl, h', tk, c', rfl, hS', hk'⟩ := hr₂
        repeat (any_goals (first | assumption | wp_step))
        exact h _ _ _ hS' hk'
end
end PV

namespace PV
open PySem L2 PyProof.Rows
/-! ### each once -/
def sortI (ns : List Int) : List Int := ns.mergeSort fun a b => decide (a ≤ b)
def leS (a b : Str) : Bool := decide (a.cps.toList ≤ b.cps.toList)
def sortS (xs : List Str) : List Str := xs.mergeSort leS
theorem sortI_sorted (ns : List Int) : (sortI ns).Pairwise (· ≤ ·) := by
  have := List.pairwise_mergeSort (le := fun a b : Int => decide (a ≤ b)) (fun a b c h1 h2 => by simp only [decide_eq_true_eq] at *; omega) (fun a b => by simp only [Bool.or_eq_true, decide_eq_true_eq]; omega) ns
  exact this.imp fun h => of_decide_eq_true h
theorem sortI_perm (ns : List Int) : (sortI ns).Perm ns := List.mergeSort_perm ns _
theorem sortI_of_perm {a b : List Int} (h : a.Perm b) : sortI a = sortI b :=
  List.Perm.eq_of_pairwise (le := (· ≤ ·)) (fun x y _ _ h1 h2 => Int.le_antisymm h1 h2) (sortI_sorted a) (sortI_sorted b) ((sortI_perm a).trans (h.trans (sortI_perm b).symm))
theorem leS_trans (a b c : Str) (h1 : leS a b = true) (h2 : leS b c = true) : leS a c = true := by
  unfold leS at *
  simp only [decide_eq_true_eq] at *
  exact List.le_trans h1 h2
theorem leS_total (a b : Str) : (leS a b || leS b a) = true := by
  unfold leS
  simp only [Bool.or_eq_true, decide_eq_true_eq]
  exact List.le_total _ _
theorem leS_anti {a b : Str} (h1 : leS a b = true) (h2 : leS b a = true) : a = b := by
  unfold leS at *
  simp only [decide_eq_true_eq] at *
  have := List.le_antisymm h1 h2
  obtain ⟨⟨a⟩⟩ := a
  obtain ⟨⟨b⟩⟩ := b
  simp at this
  subst this; rfl
theorem sortS_sorted (xs : List Str) : (sortS xs).Pairwise fun a b => leS a b = true := List.pairwise_mergeSort leS_trans leS_total xs
theorem sortS_perm (xs : List Str) : (sortS xs).Perm xs := List.mergeSort_perm xs _
theorem sortS_of_perm {a b : List Str} (h : a.Perm b) : sortS a = sortS b :=
  List.Perm.eq_of_pairwise (le := fun a b => leS a b = true) (fun x y _ _ h1 h2 => leS_anti h1 h2) (sortS_sorted a) (sortS_sorted b) ((sortS_perm a).trans (h.trans (sortS_perm b).symm))
theorem dLt_int (a b : Int) : (!dLt (.int b) (.int a)) = decide (a ≤ b) := by
  unfold dLt
  simp only [D.py, PySem.W.dataLt_int]
  by_cases h : a ≤ b
  · simp [h]
  · simp [h]; omega
theorem dLt_str (a b : Str) : (!dLt (.str b) (.str a)) = leS a b := by
  unfold dLt leS
  simp only [D.py, PySem.W.dataLt_str]
  by_cases h : b.cps.toList < a.cps.toList
  · rw [decide_eq_true h]; simp; exact h
  · rw [decide_eq_false h]; simp; exact List.not_lt.mp h
theorem dSort_ints (ns : List Int) : dSort (ns.map D.int) = (sortI ns).map D.int := by
  unfold dSort sortI
  exact (List.map_mergeSort fun a _ b _ => (dLt_int a b).symm).symm
theorem dSort_strs (xs : List Str) : dSort (xs.map D.str) = (sortS xs).map D.str := by
  unfold dSort sortS
  exact (List.map_mergeSort fun a _ b _ => (dLt_str a b).symm).symm
theorem sortOk_ints (ns : List Int) : sortOk (ns.map D.int) = true := by
  unfold sortOk
  simp [List.all_map, D.nd, D.py, PySem.W.alike, PyData.depth, Function.comp_def]
theorem sortOk_strs (ns : List Str) : sortOk (ns.map D.str) = true := by
  unfold sortOk
  simp [List.all_map, D.nd, D.py, PySem.W.alike, PyData.depth, Function.comp_def]
end PV
namespace PV
open PySem L2 PyProof.Rows
section
variable {P : Program} {w : World}
def vI : Value → Int
  | .int i _ => i
  | _ => 0
def vS : Value → Str
  | .str x _ => x
  | _ => ⟨#[]⟩
theorem out_ints {es : List (Int × Value)} {out : List Value} {ns : List Int} (g : ∀ e ∈ es, Mem1 P w e) (nd : (es.map kOf).Nodup) (hm : ∀ k, hasK (ns.map Sum.inl) k = true ↔ k ∈ es.map kOf) (pm : out.Perm (es.map (·.2))) :
    ∃ ms : List Int, Vals (ms.map V.int) out ∧ ms.Perm (uniq ns) := by
  have hv : ∀ e ∈ es, ∃ i t, e.2 = .int i t ∧ kOf e = .inl i ∧ i ∈ ns := fun e he => by
    have := (hm (kOf e)).2 (List.mem_map.mpr ⟨e, he, rfl⟩)
    obtain ⟨i, hi, e1⟩ := List.mem_map.mp (hasK_iff.mp this)
    obtain ⟨k, h1, _⟩ := g e he
    have e2 := kOf_is h1
    rcases is_shape h1 with ⟨j, t, rfl, h⟩ | ⟨x, t, rfl, h⟩
    · rw [e2] at e1; cases e1
      exact ⟨i, t, h, e2, hi⟩
    · rw [e2] at e1; cases e1
  have ho : ∀ v ∈ out, ∃ i t, v = .int i t := fun v h => by
    obtain ⟨e, he, rfl⟩ := List.mem_map.mp (pm.mem_iff.mp h)
    obtain ⟨i, t, h, _⟩ := hv e he
    exact ⟨i, t, h⟩
  have pk : (out.map vI).Perm ((es.map (·.2)).map vI) := pm.map vI
  have ek : (es.map kOf) = ((es.map (·.2)).map vI).map Sum.inl := by
    rw [List.map_map, List.map_map]
    refine List.map_congr_left fun e he => ?_
    obtain ⟨i, t, h1, h2, _⟩ := hv e he
    simp [h1, h2, vI]
  refine ⟨out.map vI, ?_, ?_⟩
  · clear pk pm
    induction out with
    | nil => exact .nil
    | cons v vs ih =>
      obtain ⟨i, t, rfl⟩ := ho v List.mem_cons_self
      exact .cons ⟨t, rfl⟩ (ih fun u hu => ho u (List.mem_cons_of_mem _ hu))
  · rw [ek] at nd
    have nd2 : ((es.map (·.2)).map vI).Nodup := List.Pairwise.of_map Sum.inl (fun _ _ hne e => hne (congrArg Sum.inl e)) nd
    refine pk.trans ((List.perm_ext_iff_of_nodup nd2 (nodup_uniq ns)).mpr fun i => ?_)
    rw [mem_uniq]
    constructor
    · intro h
      obtain ⟨v, hv', rfl⟩ := List.mem_map.mp h
      obtain ⟨e, he, rfl⟩ := List.mem_map.mp hv'
      obtain ⟨i, t, h1, h2, h3⟩ := hv e he
      rw [h1]; exact h3
    · intro h
      have : (Sum.inl i : Key) ∈ es.map kOf := (hm _).1 (hasK_iff.mpr (List.mem_map.mpr ⟨i, h, rfl⟩))
      rw [ek] at this
      obtain ⟨j, hj, e⟩ := List.mem_map.mp this
      cases e; exact hj
theorem out_strs {es : List (Int × Value)} {out : List Value} {ns : List Str} (g : ∀ e ∈ es, Mem1 P w e) (nd : (es.map kOf).Nodup) (hm : ∀ k, hasK (ns.map Sum.inr) k = true ↔ k ∈ es.map kOf) (pm : out.Perm (es.map (·.2))) :
    ∃ ms : List Str, Vals (ms.map V.str) out ∧ ms.Perm (uniq ns) := by
  have hv : ∀ e ∈ es, ∃ i t, e.2 = .str i t ∧ kOf e = .inr i ∧ i ∈ ns := fun e he => by
    have := (hm (kOf e)).2 (List.mem_map.mpr ⟨e, he, rfl⟩)
    obtain ⟨i, hi, e1⟩ := List.mem_map.mp (hasK_iff.mp this)
    obtain ⟨k, h1, _⟩ := g e he
    have e2 := kOf_is h1
    rcases is_shape h1 with ⟨j, t, rfl, h⟩ | ⟨x, t, rfl, h⟩
    · rw [e2] at e1; cases e1
    · rw [e2] at e1; cases e1
      exact ⟨i, t, h, e2, hi⟩
  have ho : ∀ v ∈ out, ∃ i t, v = .str i t := fun v h => by
    obtain ⟨e, he, rfl⟩ := List.mem_map.mp (pm.mem_iff.mp h)
    obtain ⟨i, t, h, _⟩ := hv e he
    exact ⟨i, t, h⟩
  have pk : (out.map vS).Perm ((es.map (·.2)).map vS) := pm.map vS
  have ek : (es.map kOf) = ((es.map (·.2)).map vS).map Sum.inr := by
    rw [List.map_map, List.map_map]
    refine List.map_congr_left fun e he => ?_
    obtain ⟨i, t, h1, h2, _⟩ := hv e he
    simp [h1, h2, vS]
  refine ⟨out.map vS, ?_, ?_⟩
  · clear pk pm
    induction out with
    | nil => exact .nil
    | cons v vs ih =>
      obtain ⟨i, t, rfl⟩ := ho v List.mem_cons_self
      exact .cons ⟨t, rfl⟩ (ih fun u hu => ho u (List.mem_cons_of_mem _ hu))
  · rw [ek] at nd
    have nd2 : ((es.map (·.2)).map vS).Nodup := List.Pairwise.of_map Sum.inr (fun _ _ hne e => hne (congrArg Sum.inr e)) nd
    refine pk.trans ((List.perm_ext_iff_of_nodup nd2 (nodup_uniq ns)).mpr fun i => ?_)
    rw [mem_uniq]
    constructor
    · intro h
      obtain ⟨v, hv', rfl⟩ := List.mem_map.mp h
      obtain ⟨e, he, rfl⟩ := List.mem_map.mp hv'
      obtain ⟨i, t, h1, h2, h3⟩ := hv e he
      rw [h1]; exact h3
    · intro h
      have : (Sum.inr i : Key) ∈ es.map kOf := (hm _).1 (hasK_iff.mpr (List.mem_map.mpr ⟨i, h, rfl⟩))
      rw [ek] at this
      obtain ⟨j, hj, e⟩ := List.mem_map.mp this
      cases e; exact hj
end
/-- ints or texts, all of one kind -/
inductive KL where
  | i (ns : List Int) | s (xs : List Str)
def KL.of (ds : List D) : Option KL := match dInts ds with
  | some ns => some (.i ns)
  | none => (dStrs ds).map .s
def KL.keys : KL → List Key
  | .i ns => ns.map Sum.inl
  | .s xs => xs.map Sum.inr
def KL.ds : KL → List D
  | .i ns => ns.map D.int
  | .s xs => xs.map D.str
/-- each once, in order -/
def KL.set : KL → List D
  | .i ns => (sortI (uniq ns)).map D.int
  | .s xs => (sortS (uniq xs)).map D.str
def KL.size : KL → Nat
  | .i ns => (uniq ns).length
  | .s xs => (uniq xs).length
theorem KL.of_eq {ds : List D} {k : KL} (h : KL.of ds = some k) : ds = k.ds := by
  unfold KL.of at h
  cases q : dInts ds with
  | some ns => rw [q] at h; cases h; exact dInts_eq q
  | none =>
    rw [q] at h
    obtain ⟨xs, h1, rfl⟩ := Option.map_eq_some_iff.mp h
    exact dStrs_eq h1
theorem uniq_le {α : Type} [DecidableEq α] : ∀ xs : List α, (uniq xs).length ≤ xs.length
  | [] => Nat.le_refl _
  | x :: xs => by
    have := uniq_le xs
    unfold uniq
    split <;> simp <;> omega
section
variable {X : Cx} {pins : List (Addr × Obj)} {s : Shared} {σ : L2.St} {H : Hp} {x : Value}
theorem KL.vals {F : Hp} {us : List V} {its : List Value} {k : KL} (r : RpA X.K F us k.ds) (h : Vals us its) : ∀ (i : Nat) (v : Value), its.toArray[i]? = some v → ∃ q, k.keys[i]? = some q ∧ (mixKind X.prog X.w).is q v = true ∧ v.scannable = true := by
  have gen : ∀ (us : List V) (its : List Value) (ks : List Key), us = ks.map kV → Vals us its → ∀ (i : Nat) (v : Value), its[i]? = some v → ∃ q, ks[i]? = some q ∧ (mixKind X.prog X.w).is q v = true ∧ v.scannable = true := by
    intro us its ks e h
    subst e
    induction ks generalizing its with
    | nil => cases h; intro i v hv; simp at hv
    | cons q ks ih =>
      cases h with
      | cons r t =>
        intro i v hv
        cases i with
        | zero => simp at hv; subst hv; exact ⟨q, rfl, kV_is r, key_scan r⟩
        | succ i => exact (ih _ t i v (by simpa using hv)).imp fun q h => ⟨by simpa using h.1, h.2⟩
  intro i v hv
  have e : us = k.keys.map kV := by
    cases k with
    | i ns => rw [show us = _ from RpA.ofInts r]; show _ = (ns.map Sum.inl).map kV; rw [List.map_map]; rfl
    | s xs => rw [(RpA.ofStrs r).1]; show _ = (xs.map Sum.inr).map kV; rw [List.map_map]; rfl
  exact gen us its k.keys e h i v (by simpa using hv)
theorem uniq_map {α β : Type} [DecidableEq α] [DecidableEq β] {f : α → β} (hf : ∀ a b, f a = f b → a = b) : ∀ xs : List α, uniq (xs.map f) = (uniq xs).map f
  | [] => rfl
  | x :: xs => by
    have e : f x ∈ xs.map f ↔ x ∈ xs := ⟨fun h => by obtain ⟨y, hy, e⟩ := List.mem_map.mp h; exact hf _ _ e ▸ hy, fun h => List.mem_map.mpr ⟨x, h, rfl⟩⟩
    rw [List.map_cons]
    unfold uniq
    by_cases h : x ∈ xs
    · rw [if_pos h, if_pos (e.mpr h), uniq_map hf xs]
    · rw [if_neg h, if_neg (fun z => h (e.mp z)), uniq_map hf xs]; rfl
theorem kl_uniq (k : KL) : (uniq k.keys).length = k.size := by
  cases k with
  | i ns => show (uniq (ns.map Sum.inl)).length = _; rw [uniq_map (fun a b h => by cases h; rfl), List.length_map]; rfl
  | s xs => show (uniq (xs.map Sum.inr)).length = _; rw [uniq_map (fun a b h => by cases h; rfl), List.length_map]; rfl
/-- what a set is made of: a list, a tuple of keys, a text -/
def SetSrc (K : PySem.W.Frag) (F H : Hp) (x : V) (k : KL) : Prop := (∃ a us, x = .ref a ∧ (SqL K H a us ∨ SqT K H a us) ∧ RpA K F us k.ds) ∨ ∃ z : Str, x = .str z ∧ k = .s (z.cps.toList.map fun c => ⟨#[c]⟩) ∧ SOk z
/-- set(xs) of a list, a tuple of keys, a text -/
theorem set_call {F : Hp} {xv : V} {u : Value} {k : KL} {Q : Value → Shared → Prop} (hc : X.calm = true) (I : Inv X pins σ H s) (hs : SetSrc X.K F H xv k) (ru : RelV xv u) (hb : k.size + 1 < scanBound)
    (h : ∀ p s' c, Inv X pins σ H s' → SetX X.prog X.w s'.heap p (hasK k.keys) c → Q (.ref p) s') : wpAny (model X.prog X.w) X.A (call (.type "set") [u]) Q X.xe s := by
  rcases hs with ⟨a, us, rfl, hs, r⟩ | ⟨z, rfl, rfl, hz⟩
  · cases ru
    have lk : k.keys.length = k.ds.length := by cases k <;> simp [KL.keys, KL.ds]
    rcases hs with hs | hs
    · obtain ⟨its, rv, hl, _⟩ := I.list hs
      refine callX_list k.keys (I.ok.hd hc) hl.isList (k.vals r rv) (by rw [List.size_toArray, lk, ← r.length, rv.length]) (by rw [kl_uniq]; exact hb) fun h' tk c hS hk => ?_
      exact h _ _ c (I.kept hk) hS
    · obtain ⟨its, rv, hl, _⟩ := I.tuple hs
      refine callX_tuple k.keys (I.ok.hd hc) (show s.heap.IsTuple a its.toArray from hl) (k.vals r rv) (by rw [List.size_toArray, lk, ← r.length, rv.length]) (by rw [kl_uniq]; exact hb) fun h' tk c hS hk => ?_
      exact h _ _ c (I.kept hk) hS
  · obtain ⟨t, rfl⟩ := ru
    refine callX_str (z := z) (tz := t) (KL.s (z.cps.toList.map fun c => ⟨#[c]⟩)).keys (I.ok.hd hc) (fun i v ⟨c, u, hc, hv⟩ => ?_) (by simp [KL.keys]) (by rw [kl_uniq]; exact hb) fun h' tk c hS hk => h _ _ c (I.kept hk) hS
    have rv : RelV (kV (.inr ⟨#[c]⟩)) v := ⟨u, hv⟩
    refine ⟨.inr ⟨#[c]⟩, ?_, kV_is rv, key_scan rv⟩
    show ((z.cps.toList.map fun c => (⟨#[c]⟩ : Str)).map Sum.inr)[i]? = _
    rw [List.getElem?_map, List.getElem?_map]
    have : z.cps.toList[i]? = some c := by simpa using hc
    rw [this]
    rfl
theorem SetX.sorted {p : Addr} {c : Nat} {k : KL} {Q : VK} {F : Hp} (hc : X.calm = true) (hu : X.A.units + 65 < cLine) (I : Inv X pins σ H s) (R : SetX X.prog X.w s.heap p (hasK k.keys) c) (e : Ex F H) (ok : ∀ x, .s x = k → ∀ y ∈ x, SOk y) (hl : k.size ≤ sizeLine)
    (q : ∀ (out : List V) p, RpA X.K F out k.set → H p = none → Q (.ref p) (upd H p (.lst out))) : wpAny (model X.prog X.w) X.A (call (.builtin "sorted") [.ref p]) (EP X pins σ Q) X.xe s := by
  obtain ⟨o, es, ep, t, ho, hex, hd, g, nd, hm, hbs, hf, hn, hr, hled⟩ := R.ex
  refine sorted_coll hu fun R2 hR => ?_
  refine collect_set (A := X.A.in1) (I.ok.hd hc) ⟨o, ho, hex.1, hd⟩ hf hbs hr hled fun s' out hk hz hg ho2 pm => ?_
  have I2 : Inv X pins σ H s' := by
    have J : Inv X pins σ H { s with heap := s'.heap, gens := s'.gens, drawn := s'.drawn, toks := s'.toks } :=
      I.call (ch := []) (Un.kept hk) (I.hok.kept hk) (by rw [hg]; exact I.bare) (fun _ z => nomatch z)
    have e0 : ({ s with heap := s'.heap, gens := s'.gens, drawn := s'.drawn, toks := s'.toks } : Shared) = s' := by
      cases s'; cases ho2; rfl
    rwa [e0] at J
  cases k with
  | i ns =>
    obtain ⟨ms, hv, pu⟩ := out_ints g nd hm pm
    refine hR _ _ (ms.map D.int) F H _ I2 hv (RpA.ints ms) e (sortOk_ints ms) (by rw [List.length_map, pu.length_eq]; exact hl) fun out p ro np => q out p ?_ np
    rw [dSort_ints, sortI_of_perm pu] at ro
    exact ro
  | s xs =>
    obtain ⟨ms, hv, pu⟩ := out_strs g nd hm pm
    have okm : ∀ y ∈ ms, SOk y := fun y hy => ok xs rfl y (mem_uniq.mp (pu.mem_iff.mp hy))
    have rs : RpA X.K F (ms.map V.str) (ms.map D.str) := by
      clear hv pu
      induction ms with
      | nil => exact .nil
      | cons m ms ih => exact .cons (.str m (okm m List.mem_cons_self)) (ih fun y hy => okm y (List.mem_cons_of_mem _ hy))
    refine hR _ _ (ms.map D.str) F H _ I2 hv rs e (sortOk_strs ms) (by rw [List.length_map, pu.length_eq]; exact hl) fun out p ro np => q out p ?_ np
    rw [dSort_strs, sortS_of_perm pu] at ro
    exact ro
theorem SetX.size {p : Addr} {c : Nat} {k : KL} (R : SetX X.prog X.w s.heap p (hasK k.keys) c) : c = k.size := by
  obtain ⟨o, es, ep, t, ho, hex, hd, g, nd, hm, hbs, hf, hn, hr, hled⟩ := R.ex
  rw [← hn]
  cases k with
  | i ns =>
    obtain ⟨ms, hv, pu⟩ := out_ints g nd hm (List.Perm.refl _)
    have h1 := hv.length
    have h2 := pu.length_eq
    simp only [List.length_map, Array.length_toList] at h1
    show es.size = (uniq _).length
    omega
  | s xs =>
    obtain ⟨ms, hv, pu⟩ := out_strs g nd hm (List.Perm.refl _)
    have h1 := hv.length
    have h2 := pu.length_eq
    simp only [List.length_map, Array.length_toList] at h1
    show es.size = (uniq _).length
    omega
end
section
variable {X : Cx} {e : Expr} {p p2 pos pos2 : Pos} {te : TE}
def setKL (d : D) : Option KL := match d with
  | .lst ds => (KL.of ds).bind fun k => if k.size + 1 < scanBound then some k else none
  | .tup ds => (KL.of ds).bind fun k => if k.size + 1 < scanBound then some k else none
  | .str z => if (KL.s (z.cps.toList.map fun c => ⟨#[c]⟩)).size + 1 < scanBound then some (KL.s (z.cps.toList.map fun c => ⟨#[c]⟩)) else none
  | _ => none
theorem setKL_vr {F H : Hp} {v : V} {d : D} {k : KL} (h : VR X.K F H v d) (e : Ex F H) (q : setKL d = some k) : SetSrc X.K F H v k ∧ k.size + 1 < scanBound := by
  match d, q with
  | .lst ds, q =>
    obtain ⟨k', q', q⟩ := bsome q
    obtain ⟨hl, q⟩ := Option.ite_none_right_eq_some.mp q
    cases q
    obtain ⟨a, us, rfl, s, r, _⟩ := h.lst e
    have := KL.of_eq q'
    subst this
    exact ⟨.inl ⟨a, us, rfl, .inl (.inl (.inl s)), r⟩, hl⟩
  | .tup ds, q =>
    obtain ⟨k', q', q⟩ := bsome q
    obtain ⟨hl, q⟩ := Option.ite_none_right_eq_some.mp q
    cases q
    obtain ⟨a, us, rfl, s, r, _⟩ := h.tup e
    have := KL.of_eq q'
    subst this
    exact ⟨.inl ⟨a, us, rfl, .inr s, r⟩, hl⟩
  | .str z, q =>
    obtain ⟨hl, q⟩ := Option.ite_none_right_eq_some.mp q
    cases q
    exact ⟨.inr ⟨z, h.str.1, rfl, h.str.2⟩, hl⟩
theorem sok_sign {z : Str} (hz : SOk z) {c : Nat} (hc : c ∈ z.cps.toList) : SOk ⟨#[c]⟩ := by
  obtain ⟨i, hi, e⟩ := List.mem_iff_getElem.mp hc
  have : z.cps[i]? = some c := by
    have h2 : z.cps.toList[i]? = some c := by rw [List.getElem?_eq_getElem hi, e]
    simpa using h2
  exact hz.sign this
theorem kl_ok {F H : Hp} {v : V} {k : KL} (r : SetSrc X.K F H v k) : ∀ x, .s x = k → ∀ y ∈ x, SOk y := fun x e y hy => by
  subst e
  rcases r with ⟨a, us, _, _, r⟩ | ⟨z, _, e, hz⟩
  · exact (RpA.ofStrs r).2 y hy
  · cases e
    obtain ⟨c, hc, rfl⟩ := List.mem_map.mp hy
    exact sok_sign hz hc
theorem kl_size {k : KL} : k.size ≤ k.ds.length := by
  cases k <;> simp [KL.size, KL.ds, uniq_le]
theorem scan_line {n : Nat} (h : n + 1 < scanBound) : n ≤ sizeLine := by
  have : scanBound ≤ sizeLine := by decide
  omega
/-- sorted(set(e)) -/
def mSortSet (f : EF P) : EF R := fun E => (f E).bind fun q => (q.1.get q.2).bind fun d => (setKL d).bind fun k => some (.f (.lst k.set), q.2)
/-- len(set(e)) -/
def mLenSet (f : EF P) : EF R := fun E => (f E).bind fun q => (q.1.get q.2).bind fun d => (setKL d).bind fun k => some (.v (.int (k.size : Nat)), q.2)
def tSetThen (K : PySem.W.Frag) (te : TE) (C : Hp → Hp → KL → VK → Prop) : TE := fun σ H Q => te σ H fun x H1 => ∃ (F : Hp) (k : KL), SetSrc K F H1 x k ∧ k.size + 1 < scanBound ∧ Ex F H1 ∧ C F H1 k Q
theorem pe_setThen {C : Hp → Hp → KL → VK → Prop} {x : Str} {id : String} (hc : X.calm = true) (hg : Gl X x) (hm : X.mg x = none) (hv : bootBuiltins x = some (.builtin id)) (hgs : Gl X "set") (hms : X.mg "set" = none) (he : PE X e te)
    (rule : ∀ (pins : List (Addr × Obj)) (s : Shared) (σ : L2.St) (H F : Hp) (p : Addr) (c : Nat) (k : KL) (Q : VK), Inv X pins σ H s → SetX X.prog X.w s.heap p (hasK k.keys) c → Ex F H → (∀ x, .s x = k → ∀ y ∈ x, SOk y) → k.size ≤ sizeLine → C F H k Q → wpAny (model X.prog X.w) X.A (call (.builtin id) [.ref p]) (EP X pins σ Q) X.xe s)
    (hn : x ≠ "__name__" := by decide) (hdb : (x == ("__debug__" : Str)) = false := by decide)
    (n1 : starEach [e] X.env = (false, eval e X.env) :: starEach [] X.env := by rfl) (n2 : starEach [.Call (.Name "set" p2) [e] [] pos2] X.env = (false, eval (.Call (.Name "set" p2) [e] [] pos2) X.env) :: starEach [] X.env := by rfl)
    (hpl : (backTo pos (starEach [] X.env)).any (·.1) = false := by rfl) :
    PE X (.Call (.Name x p) [.Call (.Name "set" p2) [e] [] pos2] [] pos) (tSetThen X.K te C) := by
  refine ⟨fun pins s σ H Q I h => ?_⟩
  refine Call_ (ld_blt I hg hm hv (PyProof.Rows.callWith_builtin1 (args_cons (Call_ (ld_blt I hgs hms boot_set (PyProof.Rows.callWith_type1 (one_arg he I h (fun v s2 x H2 I2 r q => ?_) n1) n1))) n2) n2 hpl) hn hdb)
  obtain ⟨F, k, hs, hb, ex, q⟩ := q
  refine set_call hc I2 hs r hb fun p s' c I3 R => args_nil ?_
  exact rule pins s' σ H2 F p c k Q I3 R ex (kl_ok hs) (scan_line hb) q
theorem de_sortSet {f : EF P} (hc : X.calm = true) (hu : X.A.units + 65 < cLine) (hg : Gl X "sorted") (hm : X.mg "sorted" = none) (hgs : Gl X "set") (hms : X.mg "set" = none) (he : DP X e f)
    (n1 : starEach [e] X.env = (false, eval e X.env) :: starEach [] X.env := by rfl) (n2 : starEach [.Call (.Name "set" p2) [e] [] pos2] X.env = (false, eval (.Call (.Name "set" p2) [e] [] pos2) X.env) :: starEach [] X.env := by rfl)
    (hpl : (backTo pos (starEach [] X.env)).any (·.1) = false := by rfl) : DE X (.Call (.Name "sorted" p) [.Call (.Name "set" p2) [e] [] pos2] [] pos) (mSortSet f) := by
  obtain ⟨t, pe, h⟩ := he.ex
  refine ⟨_, pe_setThen (C := fun F H k Q => ∀ (out : List V) p, RpA X.K F out k.set → H p = none → Q (.ref p) (upd H p (.lst out))) hc hg hm boot_sorted hgs hms pe (fun pins s σ H F p c k Q I R e ok hl q => SetX.sorted hc hu I R e ok hl q) (by decide) (by decide) n1 n2 hpl, fun W F H E r E' Q I hf k => ?_⟩
  unfold mSortSet at hf
  obtain ⟨⟨q, E1⟩, h1, hf⟩ := bsome hf
  obtain ⟨d, h2, hf⟩ := bsome hf
  obtain ⟨kl, h3, hf⟩ := bsome hf
  cases hf
  refine h W F H E q E1 _ I h1 fun v F1 H1 I1 e1 r1 => ?_
  obtain ⟨hs, hb⟩ := setKL_vr (I1.vr r1 h2) I1.FH h3
  refine ⟨F1, kl, hs, hb, I1.FH, fun out p ro n => ?_⟩
  have hl : kl.set.length ≤ sizeLine := by
    have h5 := scan_line hb
    cases kl with
    | i ns => simp only [KL.set, List.length_map, (sortI_perm _).length_eq]; exact h5
    | s xs => simp only [KL.set, List.length_map, (sortS_perm _).length_eq]; exact h5
  obtain ⟨F3, I3, e3, rr⟩ := I1.ou (Ou.newL n ro hl)
  exact k _ F3 _ I3 (e1.trans e3) rr
theorem de_lenSet {f : EF P} (hc : X.calm = true) (hg : Gl X "len") (hm : X.mg "len" = none) (hgs : Gl X "set") (hms : X.mg "set" = none) (he : DP X e f)
    (n1 : starEach [e] X.env = (false, eval e X.env) :: starEach [] X.env := by rfl) (n2 : starEach [.Call (.Name "set" p2) [e] [] pos2] X.env = (false, eval (.Call (.Name "set" p2) [e] [] pos2) X.env) :: starEach [] X.env := by rfl)
    (hpl : (backTo pos (starEach [] X.env)).any (·.1) = false := by rfl) : DE X (.Call (.Name "len" p) [.Call (.Name "set" p2) [e] [] pos2] [] pos) (mLenSet f) := by
  obtain ⟨t, pe, h⟩ := he.ex
  refine ⟨_, pe_setThen (C := fun F H k Q => Q (.int (k.size : Nat)) H) hc hg hm boot_len hgs hms pe (fun pins s σ H F p c k Q I R e ok hl q => ?_) (by decide) (by decide) n1 n2 hpl, fun W F H E r E' Q I hf k => ?_⟩
  · have hz := R.size
    obtain ⟨o, es, ep, t, ho, hex, hd, g, nd, hm, hbs, hf, hn, hr, hled⟩ := R.ex
    have hsl : scanBound < 2 ^ 63 := by decide
    refine call_len_set ho hex hd hf (by omega) ?_
    refine ⟨.int (k.size : Nat), H, I.tok _, ?_, q⟩
    rw [hn, hz]
    exact ⟨_, rfl⟩
  · unfold mLenSet at hf
    obtain ⟨⟨q, E1⟩, h1, hf⟩ := bsome hf
    obtain ⟨d, h2, hf⟩ := bsome hf
    obtain ⟨kl, h3, hf⟩ := bsome hf
    cases hf
    refine h W F H E q E1 _ I h1 fun v F1 H1 I1 e1 r1 => ?_
    obtain ⟨hs, hb⟩ := setKL_vr (I1.vr r1 h2) I1.FH h3
    exact ⟨F1, kl, hs, hb, I1.FH, k _ F1 H1 I1 e1 (.int _)⟩
end
end PV

namespace PV
open PySem L2 PyProof.Rows
section
variable {X : Cx} {a b e tg : Expr} {p p2 pos pos2 : Pos} {x : Str}
/-! ### list(range(..)), tuple(range(..)) -/
theorem rg_rp {K : PySem.W.Frag} {F : Hp} (lo hi : Int) : RpA K F (rgV lo hi) (rangeD lo (hi - lo).toNat) := by
  unfold rgV rangeD
  induction (List.range (hi - lo).toNat) with
  | nil => exact .nil
  | cons i l ih => exact .cons (.int _) ih
theorem rangeD_len (lo : Int) (n : Nat) : (rangeD lo n).length = n := by unfold rangeD; rw [List.length_map, List.length_range]
def rgOk (lo hi : Int) : Bool := decide (-(2 ^ 62) ≤ lo) && decide (lo < 2 ^ 62) && decide (-(2 ^ 62) ≤ hi) && decide (hi < 2 ^ 62) && decide ((hi - lo).toNat ≤ 2 ^ 24)
theorem rgOk_of {lo hi : Int} (h : rgOk lo hi = true) : RgOk lo hi := by
  unfold rgOk at h
  simp only [Bool.and_eq_true, decide_eq_true_eq] at h
  exact ⟨h.1.1.1.1, h.1.1.1.2, h.1.1.2, h.1.2, h.2⟩
def asInt : D → Option Int
  | .int i => some i
  | _ => none
theorem asInt_some {d : D} {i : Int} (h : asInt d = some i) : d = .int i := by
  cases d <;> simp [asInt] at h
  rw [h]
/-- the bounds of a range: range(e), range(e, e') -/
structure DRg (X : Cx) (e : Expr) (f : EF (Int × Int)) : Prop where
  ex : ∃ t, PRg X e t ∧ ∀ W F H E r E' (Q : Int → Int → Hp → Prop), FI X.K W E F H → f E = some (r, E') → (∀ F' H', FI X.K W E' F' H' → Ex F F' → Q r.1 r.2 H') → t W.σ H Q
def mRg1 (f : EF P) : EF (Int × Int) := fun E => (f E).bind fun p => (p.1.get p.2).bind fun d => (asInt d).bind fun i => some ((0, i), p.2)
def mRg2 (f g : EF P) : EF (Int × Int) := fun E => (f E).bind fun p => (g p.2).bind fun q => (p.1.get q.2).bind fun d => (q.1.get q.2).bind fun d2 => (asInt d).bind fun i => (asInt d2).bind fun j => some ((i, j), q.2)
theorem drg_1 {f : EF P} (hg : Gl X "range") (hm : X.mg "range" = none) (ha : DP X a f) (na : starEach [a] X.env = (false, eval a X.env) :: starEach [] X.env := by rfl) : DRg X (.Call (.Name "range" p) [a] [] pos) (mRg1 f) := by
  obtain ⟨t, q, h⟩ := ha.ex
  refine ⟨_, prg_1 hg hm q na, fun W F H E r E' Q I hf k => ?_⟩
  unfold mRg1 at hf
  obtain ⟨⟨p, E1⟩, h1, hf⟩ := bsome hf
  obtain ⟨d, h2, hf⟩ := bsome hf
  obtain ⟨i, h3, hf⟩ := bsome hf
  cases hf
  refine h W F H E p E1 _ I h1 fun v F1 H1 I1 e1 r1 => ?_
  have vr := I1.vr r1 h2
  rw [asInt_some h3] at vr
  exact ⟨i, vr.int, k F1 H1 I1 e1⟩
theorem drg_2 {f g : EF P} (hg : Gl X "range") (hm : X.mg "range" = none) (ha : DP X a f) (hb : DP X b g) (na : starEach [a, b] X.env = (false, eval a X.env) :: starEach [b] X.env := by rfl)
    (nb : starEach [b] X.env = (false, eval b X.env) :: starEach [] X.env := by rfl) (hp : (backTo pos (starEach [b] X.env)).any (·.1) = false := by rfl) : DRg X (.Call (.Name "range" p) [a, b] [] pos) (mRg2 f g) := by
  obtain ⟨t, q, h⟩ := ha.ex
  obtain ⟨t2, q2, h2⟩ := hb.ex
  refine ⟨_, prg_2 hg hm q q2 na nb hp, fun W F H E r E' Q I hf k => ?_⟩
  unfold mRg2 at hf
  obtain ⟨⟨p, E1⟩, g1, hf⟩ := bsome hf
  obtain ⟨⟨p2, E2⟩, g2, hf⟩ := bsome hf
  obtain ⟨d, g3, hf⟩ := bsome hf
  obtain ⟨d2, g4, hf⟩ := bsome hf
  obtain ⟨i, g5, hf⟩ := bsome hf
  obtain ⟨j, g6, hf⟩ := bsome hf
  cases hf
  refine h W F H E p E1 _ I g1 fun v F1 H1 I1 e1 r1 => h2 W F1 H1 E1 p2 E2 _ I1 g2 fun u F2 H2 I2 e2 r2 => ?_
  have v1 := I2.vr (r1.mono e2) g3
  have v2 := I2.vr r2 g4
  rw [asInt_some g5] at v1
  rw [asInt_some g6] at v2
  exact ⟨i, j, v1.int, v2.int, k F2 H2 I2 (e1.trans e2)⟩
def mTupRg (f : EF (Int × Int)) : EF R := fun E => (f E).bind fun x => if rgOk x.1.1 x.1.2 = true then some (.v (.tup (rangeD x.1.1 (x.1.2 - x.1.1).toNat)), x.2) else none
def mLstRg (f : EF (Int × Int)) : EF R := fun E => (f E).bind fun x => if rgOk x.1.1 x.1.2 = true then some (.f (.lst (rangeD x.1.1 (x.1.2 - x.1.1).toNat)), x.2) else none
theorem de_tupRg {f : EF (Int × Int)} (hc : X.calm = true) (hg : Gl X "tuple") (hm : X.mg "tuple" = none) (h : DRg X e f) (na : starEach [e] X.env = (false, eval e X.env) :: starEach [] X.env := by rfl) : DE X (.Call (.Name "tuple" p) [e] [] pos) (mTupRg f) := by
  obtain ⟨t, q, h⟩ := h.ex
  refine ⟨_, pe_tupRg hc hg hm q na, fun W F H E r E' Q I hf k => ?_⟩
  unfold mTupRg at hf
  obtain ⟨⟨x, E1⟩, h1, hf⟩ := bsome hf
  obtain ⟨ok, hf⟩ := Option.ite_none_right_eq_some.mp hf
  cases hf
  refine h W F H E x E1 _ I h1 fun F1 H1 I1 e1 => ⟨rgOk_of ok, fun p n => ?_⟩
  obtain ⟨F3, I3, e3, rr⟩ := I1.ou (Ou.newT I1.FH n (rg_rp x.1 x.2) (by rw [rangeD_len]; have := (rgOk_of ok).2.2.2.2; rw [sizeLine_eq]; exact this))
  exact k _ F3 _ I3 (e1.trans e3) rr
theorem de_lstRg {f : EF (Int × Int)} (hc : X.calm = true) (hg : Gl X "list") (hm : X.mg "list" = none) (h : DRg X e f) (na : starEach [e] X.env = (false, eval e X.env) :: starEach [] X.env := by rfl) : DE X (.Call (.Name "list" p) [e] [] pos) (mLstRg f) := by
  obtain ⟨t, q, h⟩ := h.ex
  refine ⟨_, pe_listRg hc hg hm q na, fun W F H E r E' Q I hf k => ?_⟩
  unfold mLstRg at hf
  obtain ⟨⟨x, E1⟩, h1, hf⟩ := bsome hf
  obtain ⟨ok, hf⟩ := Option.ite_none_right_eq_some.mp hf
  cases hf
  refine h W F H E x E1 _ I h1 fun F1 H1 I1 e1 => ⟨rgOk_of ok, fun p n => ?_⟩
  obtain ⟨F3, I3, e3, rr⟩ := I1.ou (Ou.newL n (rg_rp x.1 x.2) (by rw [rangeD_len]; have := (rgOk_of ok).2.2.2.2; rw [sizeLine_eq]; exact this))
  exact k _ F3 _ I3 (e1.trans e3) rr

/-! ### (a, b, ..) = a value; name op= value -/
def bTg (f : EF D) (g : D → EF Unit) : EF Fl := fun E => (f E).bind fun x => (g x.1 x.2).bind fun y => some (.nx, y.2)
theorem ds_tg {f : EF D} {g : D → EF Unit} {wr : List Nat} (h : DQ X e f) (hg : DG X tg g wr) (hs : swapsWithSole [tg] e pos.line X.env = pure false := by rfl) (hw : swappedStores [tg] e X.env = pure none := by rfl)
    (h1 : (assignEach [tg] X.env).map (·.2) = [assign tg X.env] := by rfl) : DS X (.Assign [tg] e pos) (bTg f g) := by
  obtain ⟨t, q, h⟩ := h.ex
  obtain ⟨t2, q2, h2⟩ := hg.ex
  refine ⟨_, ps_asg q q2 hs hw h1, fun W F H E r E' D I hf k => ?_⟩
  unfold bTg at hf
  obtain ⟨⟨d, E1⟩, g1, hf⟩ := bsome hf
  obtain ⟨⟨y, E2⟩, g2, hf⟩ := bsome hf
  cases hf
  refine h W F H E d E1 _ I g1 fun v F1 H1 I1 e1 r1 => h2 W F1 H1 E1 v d y E2 _ I1 r1 g2 fun σ' _ I2 => ?_
  exact k σ' F1 H1 I2 e1
def bAug (g : D → D → Option D) (i : Nat) (f : EF D) : EF Fl := fun E => match E.sl[i]? with
  | some (.v d) => (f E).bind fun x => (g d x.1).bind fun r => if i < x.2.sl.length then some (.nx, { x.2 with sl := x.2.sl.set i (.v r) }) else none
  | _ => none
def AuD (X : Cx) (op : Operator) (g : D → D → Option D) : Prop := ∃ t, PIp X op t ∧ ∀ (F H : Hp) x y a b res (Q : VK), Rp X.K F x a → Rp X.K F y b → g a b = some res → (∀ v, Rp X.K F v res → Q v H) → t x y H Q
def auI (f : Int → Int → Option Int) (a b : D) : Option D := match a, b with
  | .int i, .int j => (f i j).map D.int
  | _, _ => none
theorem au_I0 {op : Operator} {g : Int → Int → Int} (ho : OpR X (inplaceOp op) (rI0 fun i j => .int (g i j))) : AuD X op (auI fun i j => some (g i j)) := by
  refine ⟨_, ho, fun F H x y a b res Q ra rb hg k => ?_⟩
  match a, b, hg with
  | .int i, .int j, hg =>
    cases hg
    cases ra; cases rb
    exact ⟨i, j, rfl, rfl, k _ (.int _)⟩
theorem au_add : AuD X .Add (auI fun i j => some (i + j)) := au_I0 iop_add
theorem au_sub : AuD X .Sub (auI fun i j => some (i - j)) := au_I0 iop_sub
theorem ds_aug {op : Operator} {i : Nat} {g : D → D → Option D} {f : EF D} {pos' : Pos} (ho : AuD X op g) (hN : X.N.Nodup) (hi : X.N[i]? = some x) (hx : Loc X.env.scope x) (he : DQ X e f) (hf : X.fn x = true ∨ X.env.scope.names.lookup x = some .local := by first | exact .inl rfl | exact .inr rfl | assumption) :
    DS X (.AugAssign (.Name x pos') op e pos) (bAug g i f) := by
  obtain ⟨ti, qi, ho⟩ := ho
  obtain ⟨t, q, h⟩ := he.ex
  refine ⟨_, ps_aug hN hi hx q qi hf, fun W F H E r E' D I hf k => ?_⟩
  unfold bAug at hf
  match q : E.sl[i]? with
  | some (.v d) =>
    simp only [q] at hf
    obtain ⟨⟨y, E1⟩, g1, hf⟩ := bsome hf
    obtain ⟨res, g2, hf⟩ := bsome hf
    obtain ⟨hl, hf⟩ := Option.ite_none_right_eq_some.mp hf
    cases hf
    obtain ⟨v, e1, r1⟩ := I.sl i _ q
    refine ⟨v, e1, h W F H E y E1 _ I g1 fun u F1 H1 I1 ex r2 => ho F1 H1 v u d y res _ (r1.mono ex) r2 g2 fun z rz => ?_⟩
    exact k _ F1 H1 (I1.asg (r := .v res) hl rz) ex
  | some (.o _ d) => simp [q] at hf
  | some .no => simp [q] at hf
  | some (.b _) => simp [q] at hf
  | some .bx => simp [q] at hf
  | none => simp [q] at hf

/-! ### the module's own values -/
structure GlD (K : PySem.W.Frag) (mg : Str → Option Value) (x : Str) (d : D) : Prop where
  ex : ∃ v u, mg x = some u ∧ RelV v u ∧ ∀ F, Rp K F v d
theorem dq_gl {d : D} (h : GlD X.K X.mg x d) (hg : Gl X x) (hd : (x == ("__debug__" : Str)) = false := by decide) : DQ X (.Name x pos) (mC d) := by
  obtain ⟨v, u, h1, h2, h3⟩ := h.ex
  exact dq_glob hg h1 h2 h3 hd
theorem gl_int {K : PySem.W.Frag} {mg : Str → Option Value} {i : Int} {t : Tok} (h : mg x = some (.int i t)) : GlD K mg x (.int i) := ⟨.int i, _, h, ⟨t, rfl⟩, fun _ => .int i⟩
theorem gl_str {K : PySem.W.Frag} {mg : Str → Option Value} {i : Str} {t : Tok} (h : mg x = some (.str i t)) (ok : SOk i) : GlD K mg x (.str i) := ⟨.str i, _, h, ⟨t, rfl⟩, fun _ => .str i ok⟩
end
/-! ### calls by the bundle -/
section
variable {P : Program} {w : World} {K : PySem.W.Frag} {mg : Str → Option Value} {base : Heap}
theorem FnD.mk' {x : Str} {k n : Nat} {g : FN} {f : Addr} {fd : FuncData} {ps : List Str} (h1 : mg x = some (.ref f)) (h2 : PySem.W.keepIn K (.ref f) = true) (h3 : Binds K fd ps []) (h4 : ps.length = n) (h5 : FnOk P w K mg base CX0 k f fd ps (spF K n g)) : FnD P w K mg base x k n g := ⟨f, fd, ps, h1, h2, h3, h4, h5⟩
end
end PV

namespace PV
open PySem L2 PyProof.Rows
/-! ### the script's box: its cells, then the rest and the state -/
abbrev cInt1 : List V → Hp → VK → Prop := fun xs H Q => (∃ i, xs = [.int i] ∧ Q (.int i) H) ∨ ∃ k, xs = [.bl k] ∧ Q (.int (if k then 1 else 0)) H
abbrev cLenV (K : PySem.W.Frag) : List V → Hp → VK → Prop := fun xs H Q => ∃ x n, xs = [x] ∧ LenV K x H n ∧ Q (.int n) H
abbrev cListOf (K : PySem.W.Frag) : List V → Hp → VK → Prop := fun xs H Q => ∃ p ys, xs = [.ref p] ∧ (SqL K H p ys ∨ SqT K H p ys) ∧ ∀ l, H l = none → Q (.ref l) (upd H l (.lst ys))
abbrev oMul : R2 := rI CMulX fun i j => .int (i * j)
abbrev oAdd : R2 := rI0 fun i j => .int (i + j)
abbrev oSub : R2 := rI0 fun i j => .int (i - j)
abbrev oMod : R2 := rI (fun _ j => 0 < j) fun i j => .int (i % j)
abbrev oGe : R2 := rI0 fun i j => .bl (decide (j ≤ i))
abbrev oGt : R2 := rI0 fun i j => .bl (decide (j < i))
abbrev oLt : R2 := rI0 fun i j => .bl (decide (i < j))
abbrev kI (i : Int) : TE := tC (.int i)
def tBoxT (K : PySem.W.Frag) : TS := tRet (tLst (tCons (tCB (cListOf K) (tCons (tSl (rSlL K) (tVar 0) tNoPart (tPart (kI 63))) tNil)) (tCons (kI 0) (tCons (tOp oAdd (kI 4711) (tCB (cLenV K) (tCons (tVar 0) tNil))) tNil))))
def tInt1 (t : TE) : TE := tCB cInt1 (tCons t tNil)
def tLoadT (K : PySem.W.Frag) : TS :=
  tSeq (tAsg (tOp (rIxL K) (tVar 0) (kI 0)) (gName 1))
  (tSeq (tIfS (tTest (tOp oGt (tCB (cLenV K) (tCons (tVar 1) tNil)) (kI 0)))
    (tSeq (tAsg (tInt1 (tBM K "list" rPopAt (tVar 1) (tCons (kI 0) tNil))) (gName 2))
    (tSeq (tAsg (tIf (tTest (tOp oGe (tVar 2) (kI 0))) (tOp oMul (kI 2) (tVar 2)) (tOp oSub (tOp oMul (tUn (rU fun i => .int (-i)) (kI 2)) (tVar 2)) (kI 1))) (gName 3))
    (tSeq (tIfS (tTest (tOp oGe (tVar 3) (kI 1000000000000000000))) (tRet (tVar 3)) tNext)
    (tAsg (tOp oMod (tInt1 (tOp oAdd (tOp oAdd (tOp oMul (tOp (rIxL K) (tVar 0) (kI 2)) (kI 69621)) (tOp oMul (tVar 3) (kI 48271))) (kI 11))) (kI 2147483647)) (gSub (tVar 0) (kI 2) rSetL))))) tNext)
  (tSeq (tAsg (tOp oMod (tInt1 (tOp oAdd (tOp oMul (tOp (rIxL K) (tVar 0) (kI 2)) (kI 48271)) (kI 17))) (kI 2147483629)) (gName 4))
  (tSeq (tAsg (tOp oMod (tInt1 (tOp oAdd (tOp oMul (tVar 4) (kI 69621)) (kI 5))) (kI 2147483587)) (gName 5))
  (tSeq (tAsg (tOp oMod (tInt1 (tOp oAdd (tOp oMul (tVar 5) (kI 40692)) (kI 3))) (kI 2147483563)) (gSub (tVar 0) (kI 2) rSetL))
  (tRet (tOp oAdd (tOp oAdd (tOp oMul (tVar 4) (kI 4611686014132420609)) (tOp oMul (tVar 5) (kI 2147483647))) (tOp (rIxL K) (tVar 0) (kI 2))))))))
def tDrawT (K : PySem.W.Frag) (sp : Sp) : TS :=
  tSeq (tIfS (tTest (tOp oLt (tOp (rIxL K) (tVar 0) (kI 1)) (tVar 1))) (tAsg (tCall sp [] E0 (tCons (tVar 0) tNil)) (gSub (tVar 0) (kI 1) rSetL)) tNext)
  (tSeq (tAsg (tOp oMod (tInt1 (tOp (rIxL K) (tVar 0) (kI 1))) (tVar 1)) (gName 2))
  (tSeq (tAsg (tOp (rI CDivW fun i j => .int (i / j)) (tOp (rIxL K) (tVar 0) (kI 1)) (tVar 1)) (gSub (tVar 0) (kI 1) rSetL))
  (tRet (tVar 2))))
/-! what they compute -/
def bits (i : Int) : Nat := Builtin.Int.intBits i
def stepS (st size : Int) : Int := (st * 69621 + size * 48271 + 11) % 2147483647
def fin1 (st : Int) : Int := (st * 48271 + 17) % 2147483629
def fin2 (st : Int) : Int := (fin1 st * 69621 + 5) % 2147483587
def fin3 (st : Int) : Int := (fin2 st * 40692 + 3) % 2147483563
def finR (st : Int) : Int := fin1 st * 4611686014132420609 + fin2 st * 2147483647 + fin3 st
def sizeC (c : Int) : Int := if 0 ≤ c then 2 * c else -2 * c - 1
def bxLoad : Bx → Option (Int × Bx)
  | ([], [a, st]) => if bits st ≤ 64 then some (finR st, ([], [a, fin3 st])) else none
  | (c :: cs, [a, st]) => if bits st ≤ 64 ∧ bits c ≤ 1048576 then
      (if 1000000000000000000 ≤ sizeC c then some (sizeC c, (cs, [a, st])) else some (finR (stepS st (sizeC c)), (cs, [a, fin3 (stepS st (sizeC c))]))) else none
  | _ => none
def bxDraw (m : Int) (b : Bx) : Option (Int × Bx) := match b.2 with
  | [a, st] => if 0 < m ∧ m.natAbs.log2 < 9000 then
      (if a < m then (bxLoad b).bind fun x => match x.2.2 with
        | [_, st'] => some (x.1 % m, (x.2.1, [x.1 / m, st']))
        | _ => none
      else some (a % m, (b.1, [a / m, st]))) else none
  | _ => none
def fnLoad : FN := fun as bx => match as with
  | [.bx] => (bxLoad bx).map fun x => (.v (.int x.1), x.2)
  | _ => none
def fnDraw : FN := fun as bx => match as with
  | [.bx, .v (.int m)] => (bxDraw m bx).map fun x => (.v (.int x.1), x.2)
  | _ => none
section
variable {K : PySem.W.Frag} {F H H' : Hp} {q : Addr × Addr} {b : Bx}
theorem BxOk.aft {bx' : Bx} {i : Int} {ob : Ob} (hob : ob = some q) (o : BxOk F H q b) (e : Ex F H) (h1 : H' q.1 = some (.lst (.ref q.2 :: bx'.2.map V.int))) (h2 : H' q.2 = some (.lst (bx'.1.map V.int))) (hk : ∀ a o, H a = some o → a ≠ q.1 → a ≠ q.2 → H' a = some o) :
    Aft K F H ob bx' F H' (.int i) (.v (.int i)) := by
  obtain ⟨n, f1, f2, _, _⟩ := o
  refine ⟨Ex.refl F, fun a u ha => ?_, fun a u ha nb => ?_, fun _ _ => rfl, fun r hr => ?_, .int i⟩
  · exact hk a u (e a u ha) (fun z => by rw [z, f1] at ha; cases ha) (fun z => by rw [z, f2] at ha; cases ha)
  · obtain ⟨g1, g2⟩ := nb q hob
    exact hk a u ha g1 g2
  · rw [hob] at hr; cases hr
    exact ⟨n, f1, f2, h1, h2⟩
theorem bits_le {i : Int} {n : Nat} (h : i.natAbs < 2 ^ n) : bits i ≤ n := PyProof.Rows.intBits_le h
theorem bits_mod {i m : Int} (h0 : 0 < m) (h : m ≤ 2 ^ 31) : bits (i % m) ≤ 64 := by
  have h1 := Int.emod_nonneg i (show m ≠ 0 by omega)
  have h2 := Int.emod_lt_of_pos i h0
  exact bits_le (by omega)
theorem mulx {i j : Int} (h : bits i + bits j ≤ 134217728) : CMulX i j := by
  unfold CMulX bits at *
  omega
theorem bits_c {i : Int} (h : i.natAbs < 2 ^ 64) : bits i ≤ 64 := bits_le h
theorem fin1_bits (st : Int) : bits (fin1 st) ≤ 64 := bits_mod (by decide) (by decide)
theorem fin2_bits (st : Int) : bits (fin2 st) ≤ 64 := bits_mod (by decide) (by decide)
theorem fin3_bits (st : Int) : bits (fin3 st) ≤ 64 := bits_mod (by decide) (by decide)
theorem stepS_bits (st c : Int) : bits (stepS st c) ≤ 64 := bits_mod (by decide) (by decide)
theorem mul64 {i j : Int} (h : bits i ≤ 64) (hj : j.natAbs < 2 ^ 64) : CMulX i j := mulx (by have := bits_c hj; omega)
def tFin (K : PySem.W.Frag) : TS :=
  tSeq (tAsg (tOp oMod (tInt1 (tOp oAdd (tOp oMul (tOp (rIxL K) (tVar 0) (kI 2)) (kI 48271)) (kI 17))) (kI 2147483629)) (gName 4))
  (tSeq (tAsg (tOp oMod (tInt1 (tOp oAdd (tOp oMul (tVar 4) (kI 69621)) (kI 5))) (kI 2147483587)) (gName 5))
  (tSeq (tAsg (tOp oMod (tInt1 (tOp oAdd (tOp oMul (tVar 5) (kI 40692)) (kI 3))) (kI 2147483563)) (gSub (tVar 0) (kI 2) rSetL))
  (tRet (tOp oAdd (tOp oAdd (tOp oMul (tVar 4) (kI 4611686014132420609)) (tOp oMul (tVar 5) (kI 2147483647))) (tOp (rIxL K) (tVar 0) (kI 2))))))
theorem fin_run {D : Ends} {p c : Addr} {a st : Int} {x1 x2 x3 x4 x5 : Option V} (h : H p = some (.lst [.ref c, .int a, .int st])) (hb : bits st ≤ 64) (k : D.rt (.int (finR st)) (upd H p (.lst [.ref c, .int a, .int (fin3 st)]))) :
    tFin K D [some (.ref p), x1, x2, x3, x4, x5] H := by
  have sq : ∀ {G : Hp} {l : List V}, G p = some (.lst l) → SqL K G p l := fun e => .inl (.inl e)
  refine ⟨_, rfl, p, _, 2, .int st, rfl, rfl, sq h, rfl, st, 48271, rfl, rfl, mul64 hb (by decide), _, _, rfl, rfl, .inl ⟨_, rfl, _, _, rfl, rfl, (by show (0 : Int) < 2147483629; decide), ?_⟩⟩
  show tSeq _ _ D [some (.ref p), x1, x2, x3, some (.int (fin1 st)), x5] H
  refine ⟨_, rfl, fin1 st, 69621, rfl, rfl, mul64 (fin1_bits st) (by decide), _, _, rfl, rfl, .inl ⟨_, rfl, _, _, rfl, rfl, (by show (0 : Int) < 2147483587; decide), ?_⟩⟩
  show tSeq _ _ D [some (.ref p), x1, x2, x3, some (.int (fin1 st)), some (.int (fin2 st))] H
  refine ⟨_, rfl, fin2 st, 40692, rfl, rfl, mul64 (fin2_bits st) (by decide), _, _, rfl, rfl, .inl ⟨_, rfl, _, _, rfl, rfl, (by show (0 : Int) < 2147483563; decide), ?_⟩⟩
  refine ⟨_, rfl, p, _, 2, 2, rfl, rfl, h, rfl, ?_⟩
  have e : [V.ref c, .int a, .int st].set 2 (V.int ((fin2 st * 40692 + 3) % 2147483563)) = [V.ref c, .int a, .int (fin3 st)] := rfl
  have e2 : ((fun i j => V.int (i % j)) (fin2 st * 40692 + 3) 2147483563) = V.int ((fin2 st * 40692 + 3) % 2147483563) := rfl
  rw [e2, e]
  exact ⟨_, rfl, fin1 st, _, rfl, rfl, mul64 (fin1_bits st) (by decide), _, rfl, fin2 st, _, rfl, rfl, mul64 (fin2_bits st) (by decide), _, _, rfl, rfl, _, rfl, p, _, 2, .int (fin3 st), rfl, rfl, sq upd_same, rfl, _, _, rfl, rfl, k⟩
theorem sizeC_bits {c : Int} (h : bits c ≤ 1048576) : CMulX 2 c ∧ CMulX (-2) c := by
  have h1 : bits 2 ≤ 64 := bits_c (by decide)
  have h2 : bits (-2) ≤ 64 := bits_c (by decide)
  exact ⟨mulx (by omega), mulx (by omega)⟩
theorem load_run {D : Ends} {q : Addr × Addr} {bx bx' : Bx} {i : Int} (o : BxOk F H q bx) (hl : bxLoad bx = some (i, bx'))
    (k : ∀ H', H' q.1 = some (.lst (.ref q.2 :: bx'.2.map V.int)) → H' q.2 = some (.lst (bx'.1.map V.int)) → (∀ a o, H a = some o → a ≠ q.1 → a ≠ q.2 → H' a = some o) → D.rt (.int i) H') : tLoadT K D (L2.start ["box", "cells", "cell", "size", "first", "second"] [.ref q.1]) H := by
  obtain ⟨n, f1, f2, h1, h2⟩ := o
  obtain ⟨p, c⟩ := q
  have sq : ∀ {G : Hp} {a : Addr} {l : List V}, G a = some (.lst l) → SqL K G a l := fun e => .inl (.inl e)
  show tLoadT K D [some (.ref p), none, none, none, none, none] H
  match bx, hl with
  | ([], [a, st]), hl =>
    unfold bxLoad at hl
    obtain ⟨hb, hl⟩ := Option.ite_none_right_eq_some.mp hl
    cases hl
    refine ⟨_, rfl, p, _, 0, .ref c, rfl, rfl, sq h1, rfl, ?_⟩
    refine ⟨_, rfl, .ref c, 0, rfl, .inl ⟨[], sq h2, rfl⟩, 0, 0, rfl, rfl, _, rfl, ?_⟩
    refine fin_run (K := K) (x1 := some (.ref c)) h1 hb (k _ upd_same ?_ fun a o e h _ => (upd_ne h).trans e)
    rw [upd_ne (Ne.symm n)]; exact h2
  | (z :: cs, [a, st]), hl =>
    unfold bxLoad at hl
    obtain ⟨⟨hb, hc⟩, hl⟩ := Option.ite_none_right_eq_some.mp hl
    refine ⟨_, rfl, p, _, 0, .ref c, rfl, rfl, sq h1, rfl, ?_⟩
    refine ⟨_, rfl, .ref c, (z :: cs).length, rfl, .inl ⟨_, sq h2, by simp⟩, _, 0, rfl, rfl, true, (by simp), ?_⟩
    obtain ⟨m1, m2⟩ := sizeC_bits hc
    -- the first cell is taken
    refine ⟨_, rfl, .inl ⟨rfl, _, sq h2⟩, c, _, 0, 0, .int z, rfl, rfl, h2, by decide, by decide, (by simp [seqIndex?]), rfl, .inl ⟨z, rfl, ?_⟩⟩
    have g1 : (upd H c (.lst (cs.map V.int))) p = some (.lst [.ref c, .int a, .int st]) := by rw [upd_ne n]; exact h1
    have g2 : (upd H c (.lst (cs.map V.int))) c = some (.lst (cs.map V.int)) := upd_same
    have size : ∀ (R : V → Hp → Prop) (G : Hp), R (.int (sizeC z)) G → tIf (tTest (tOp oGe (tVar 2) (kI 0))) (tOp oMul (kI 2) (tVar 2)) (tOp oSub (tOp oMul (tUn (rU fun i => .int (-i)) (kI 2)) (tVar 2)) (kI 1)) [some (.ref p), some (.ref c), some (.int z), none, none, none] G R := by
      intro R G hR
      refine ⟨_, rfl, z, 0, rfl, rfl, _, rfl, ?_⟩
      unfold sizeC at hR
      by_cases hz : (0 : Int) ≤ z
      · rw [if_pos hz] at hR
        rw [decide_eq_true hz]
        exact ⟨_, rfl, 2, z, rfl, rfl, m1, hR⟩
      · rw [if_neg hz] at hR
        rw [decide_eq_false hz]
        exact ⟨2, rfl, _, rfl, -2, z, rfl, rfl, m2, _, _, rfl, rfl, hR⟩
    refine size _ _ ?_
    show tSeq _ _ _ [some (.ref p), some (.ref c), some (.int z), some (.int (sizeC z)), none, none] (upd H c (.lst (cs.map V.int)))
    refine ⟨_, rfl, sizeC z, 1000000000000000000, rfl, rfl, _, rfl, ?_⟩
    by_cases hs : (1000000000000000000 : Int) ≤ sizeC z
    · rw [if_pos hs] at hl
      cases hl
      rw [decide_eq_true hs]
      exact ⟨_, rfl, k _ g1 g2 fun a o e h1 h2 => (upd_ne h2).trans e⟩
    · rw [if_neg hs] at hl
      cases hl
      rw [decide_eq_false hs]
      have sz : bits (sizeC z) ≤ 64 := bits_c (by
        have : 0 ≤ sizeC z := by unfold sizeC; split <;> omega
        omega)
      refine ⟨_, rfl, p, _, 2, .int st, rfl, rfl, sq g1, rfl, st, 69621, rfl, rfl, mul64 hb (by decide), _, rfl, sizeC z, 48271, rfl, rfl, mul64 sz (by decide), _, _, rfl, rfl, _, _, rfl, rfl, .inl ⟨_, rfl, _, _, rfl, rfl, (by show (0 : Int) < 2147483647; decide), ?_⟩⟩
      refine ⟨_, rfl, p, _, 2, 2, rfl, rfl, g1, rfl, ?_⟩
      refine fin_run (K := K) (x1 := some (.ref c)) (x2 := some (.int z)) (x3 := some (.int (sizeC z))) (st := stepS st (sizeC z)) upd_same (stepS_bits _ _) (k _ upd_same ?_ fun a' o' e' h1' h2' => ?_)
      · rw [upd_ne (Ne.symm n), upd_ne (Ne.symm n)]; exact g2
      · rw [upd_ne h1', upd_ne h1', upd_ne h2']; exact e'
theorem draw_run {D : Ends} {q : Addr × Addr} {bx bx' : Bx} {i m : Int} (e : Ex F H) (o : BxOk F H q bx) (hl : bxDraw m bx = some (i, bx'))
    (k : ∀ H', H' q.1 = some (.lst (.ref q.2 :: bx'.2.map V.int)) → H' q.2 = some (.lst (bx'.1.map V.int)) → (∀ a o, H a = some o → a ≠ q.1 → a ≠ q.2 → H' a = some o) → D.rt (.int i) H') : tDrawT K (spF K 1 fnLoad) D (L2.start ["box", "many", "digit"] [.ref q.1, .int m]) H := by
  obtain ⟨n, f1, f2, h1, h2⟩ := id o
  obtain ⟨p, c⟩ := q
  obtain ⟨cells, rest⟩ := bx
  have sq : ∀ {G : Hp} {a : Addr} {l : List V}, G a = some (.lst l) → SqL K G a l := fun e => .inl (.inl e)
  show tDrawT K (spF K 1 fnLoad) D [some (.ref p), some (.int m), none] H
  match rest, hl with
  | [a, st], hl =>
    unfold bxDraw at hl
    obtain ⟨⟨hm, hlg⟩, hl⟩ := Option.ite_none_right_eq_some.mp hl
    refine ⟨_, rfl, p, _, 1, .int a, rfl, rfl, sq h1, rfl, _, rfl, a, m, rfl, rfl, _, rfl, ?_⟩
    -- the rest of it
    have fin : ∀ (G : Hp) (a' st' : Int) (cs : List Int), G p = some (.lst [.ref c, .int a', .int st']) → G c = some (.lst (cs.map V.int)) → (∀ a o, H a = some o → a ≠ p → a ≠ c → G a = some o) → (a' % m, ((cs, [a' / m, st']) : Bx)) = (i, bx') →
        tSeq (tAsg (tOp oMod (tInt1 (tOp (rIxL K) (tVar 0) (kI 1))) (tVar 1)) (gName 2))
        (tSeq (tAsg (tOp (rI CDivW fun i j => .int (i / j)) (tOp (rIxL K) (tVar 0) (kI 1)) (tVar 1)) (gSub (tVar 0) (kI 1) rSetL))
        (tRet (tVar 2))) D [some (.ref p), some (.int m), none] G := by
      intro G a' st' cs g1 g2 gk hq
      cases hq
      refine ⟨_, rfl, p, _, 1, .int a', rfl, rfl, sq g1, rfl, .inl ⟨_, rfl, _, rfl, _, _, rfl, rfl, hm, ?_⟩⟩
      refine ⟨_, rfl, p, _, 1, .int a', rfl, rfl, sq g1, rfl, _, rfl, _, _, rfl, rfl, ⟨hm, hlg⟩, ?_⟩
      refine ⟨_, rfl, p, _, 1, 1, rfl, rfl, g1, rfl, ?_⟩
      refine ⟨_, rfl, k _ upd_same ?_ fun b o e hb hc => ?_⟩
      · rw [upd_ne (Ne.symm n)]; exact g2
      · rw [upd_ne hb]; exact gk b o e hb hc
    by_cases ha : a < m
    · rw [if_pos ha] at hl
      rw [decide_eq_true ha]
      obtain ⟨⟨r, b2⟩, g1, hl⟩ := bsome hl
      obtain ⟨cells2, rest2⟩ := b2
      match rest2, hl, g1 with
      | [a2, st2], hl, g1 =>
        have hq := Option.some.inj hl
        refine ⟨_, rfl, rfl, F, some (p, c), [.bx], (cells, [a, st]), .v (.int r), (cells2, [a2, st2]), e, .cons ⟨(p, c), rfl, rfl⟩ .nil, fun q hq => by (cases hq; exact o), ?_, fun v F' H' af => ?_⟩
        · show (bxLoad (cells, [a, st])).map _ = _
          rw [g1]; rfl
        · obtain ⟨_, _, _, b1, b2⟩ := af.bo (p, c) rfl
          have rv : v = .int r := by
            have := af.rr
            cases (show Rp K F' v (.int r) from this)
            rfl
          subst rv
          refine ⟨_, rfl, p, _, 1, 1, rfl, rfl, b1, rfl, ?_⟩
          refine fin _ r st2 cells2 upd_same ?_ (fun b u q hb hc => ?_) hq
          · rw [upd_ne (Ne.symm n)]; exact b2
          · rw [upd_ne hb]
            exact af.kp b u q fun z hz => by (cases hz; exact ⟨hb, hc⟩)
    · rw [if_neg ha] at hl
      rw [decide_eq_false ha]
      exact fin H a st cells h1 h2 (fun _ _ e _ _ => e) (Option.some.inj hl)
end
section
variable {P : Program} {w : World} {K : PySem.W.Frag} {mg : Str → Option Value} {base : Heap} {f : Addr} {fd : FuncData} {st : Stmt}
theorem ok_load (Fn : Fun K "_law_load" "_law_load" st f fd) (S : FnScope ["box", "cells", "cell", "size", "first", "second"] ["box"] (defScope st))
    (hd : ∀ (cdv : Value) (A : Around) (outer : List Env) (s : Shared) (H : Hp) (E : XK), PSs (cxOf CX0 P w K mg base ["box", "cells", "cell", "size", "first", "second"] "_law_load" (defScope st) f cdv A outer s H E).nox (defBody st) (tLoadT K)) :
    FnOk P w K mg base CX0 1 f fd ["box"] (spF K 1 fnLoad) := by
  refine Fn.ok S (fun vs H Q E h => h.1) fun cdv A outer s H vs Q E hr hsp => ⟨_, hd cdv A outer s H E, ?_⟩
  obtain ⟨hl, F, ob, as, bx, r, bx', e, ha, hbx, hg, k⟩ := hsp
  unfold fnLoad at hg
  match as, ha, hg with
  | [.bx], ha, hg =>
    obtain ⟨⟨i, b2⟩, h1, h2⟩ := Option.map_eq_some_iff.mp hg
    cases h2
    match vs, ha with
    | [v], .cons hv .nil =>
      obtain ⟨q, hob, rfl⟩ := hv
      exact load_run (hbx q hob) h1 fun H' a1 a2 a3 => k _ F H' ((hbx q hob).aft hob e a1 a2 a3)
theorem ok_draw (Fn : Fun K "_law_draw" "_law_draw" st f fd) (S : FnScope ["box", "many", "digit"] ["box", "many"] (defScope st))
    (hd : ∀ (cdv : Value) (A : Around) (outer : List Env) (s : Shared) (H : Hp) (E : XK), Room 1 (A.deeper (envOfC "_law_draw" (defScope st) s.heap.objs.size f cdv)) → PSs (cxOf CX0 P w K mg base ["box", "many", "digit"] "_law_draw" (defScope st) f cdv A outer s H E).nox (defBody st) (tDrawT K (spF K 1 fnLoad))) :
    FnOk P w K mg base CX0 2 f fd ["box", "many"] (spF K 2 fnDraw) := by
  refine Fn.ok S (fun vs H Q E h => h.1) fun cdv A outer s H vs Q E hr hsp => ⟨_, hd cdv A outer s H E hr, ?_⟩
  obtain ⟨hl, F, ob, as, bx, r, bx', e, ha, hbx, hg, k⟩ := hsp
  unfold fnDraw at hg
  match as, ha, hg with
  | [.bx, .v (.int m)], ha, hg =>
    obtain ⟨⟨i, b2⟩, h1, h2⟩ := Option.map_eq_some_iff.mp hg
    cases h2
    match vs, ha with
    | [v, u], .cons hv (.cons hu .nil) =>
      obtain ⟨q, hob, rfl⟩ := hv
      cases (show Rp K F u (.int m) from hu)
      exact draw_run e (hbx q hob) h1 fun H' a1 a2 a3 => k _ F H' ((hbx q hob).aft hob e a1 a2 a3)
/-- what _law_box promises: a new box -/
def spBox (K : PySem.W.Frag) : Sp := fun vs H Q _ => ∃ (a : Addr) (ns : List Int), vs = [.ref a] ∧ SqL K H a (ns.map V.int) ∧ ns.length ≤ 63 ∧ ∀ (q : Addr × Addr) H', H q.1 = none → H q.2 = none → q.1 ≠ q.2 → (∀ b o, H b = some o → H' b = some o) →
  H' q.1 = some (.lst [.ref q.2, .int 0, .int (4711 + (ns.length : Int))]) → H' q.2 = some (.lst (ns.map V.int)) → Q (.ref q.1) H'
theorem ok_box (Fn : Fun K "_law_box" "_law_box" st f fd) (S : FnScope ["script"] ["script"] (defScope st))
    (hd : ∀ (cdv : Value) (A : Around) (outer : List Env) (s : Shared) (H : Hp) (E : XK), PSs (cxOf CX0 P w K mg base ["script"] "_law_box" (defScope st) f cdv A outer s H E).nox (defBody st) (tBoxT K)) :
    FnOk P w K mg base CX0 1 f fd ["script"] (spBox K) := by
  refine Fn.ok S (fun vs H Q E h => by obtain ⟨a, ns, rfl, _⟩ := h; rfl) fun cdv A outer s H vs Q E hr hsp => ⟨_, hd cdv A outer s H E, ?_⟩
  obtain ⟨a, ns, rfl, hs, hl, k⟩ := hsp
  have ec : cutV (ns.map V.int) none (some 63) = ns.map V.int := by
    unfold cutV
    have e2 : HT.sIx (ns.map V.int).length (ns.map V.int).length (some (63 : Int)) = (ns.map V.int).length := by
      have := HT.sIx_nat (ns.map V.int).length (ns.map V.int).length 63
      rw [show ((63 : Nat) : Int) = 63 from rfl] at this
      rw [this, List.length_map]
      omega
    rw [HT.sIx_none, e2, List.drop_zero, Nat.sub_zero, List.take_length]
  refine ⟨_, rfl, 63, rfl, a, _, rfl, hs, fun l hn => ?_⟩
  rw [ec]
  refine ⟨l, _, rfl, .inl (.inl (.inl upd_same)), fun c hc => ?_⟩
  have hcl : c ≠ l := fun z => by rw [z, upd_same] at hc; cases hc
  have hcH : H c = none := by rw [upd_ne hcl] at hc; exact hc
  have sG : ∀ b o, H b = some o → (upd (upd H l (.lst (ns.map V.int))) c (.lst (ns.map V.int))) b = some o := fun b o e => by
    rw [upd_ne (ne_of_none e hcH), upd_ne (ne_of_none e hn)]; exact e
  have hs2 : SqL K (upd (upd H l (.lst (ns.map V.int))) c (.lst (ns.map V.int))) a (ns.map V.int) := ex_l sG hs
  refine ⟨_, rfl, .ref a, ns.length, rfl, .inl ⟨_, hs2, by rw [List.length_map]⟩, _, _, rfl, rfl, ?_⟩
  refine ⟨by show 3 ≤ sizeLine; decide, fun p hp => ?_⟩
  have hpc : p ≠ c := fun z => by rw [z, upd_same] at hp; cases hp
  have hpl : p ≠ l := fun z => by rw [z, upd_ne (Ne.symm hcl), upd_same] at hp; cases hp
  have hpH : H p = none := by rw [upd_ne hpc, upd_ne hpl] at hp; exact hp
  refine k (p, c) _ hpH hcH hpc (fun b o e => ?_) upd_same ?_
  · rw [upd_ne (ne_of_none e hpH)]; exact sG b o e
  · rw [upd_ne (Ne.symm hpc), upd_same]
end
end PV

namespace PV
open PySem L2 PyProof.Rows
section
variable {X : Cx} {x : Str} {p pos px : Pos} {e : Expr} {es : List Expr}
/-! ### the rules by the slot's number -/
theorem nP (i : Nat) (hN : X.N[i]? = some x := by rfl) (hv : Vis X.env.scope x := by first | exact Or.inl rfl | exact Or.inr (Or.inl rfl) | exact Or.inr (Or.inr rfl)) (hd : (x == ("__debug__" : Str)) = false := by decide) (hcd : (x == ("__classdict__" : Str)) = false := by decide) : DP X (.Name x pos) (mSlot i) := dp_var hN hv hd hcd
theorem nQ (i : Nat) (hN : X.N[i]? = some x := by rfl) (hv : Vis X.env.scope x := by first | exact Or.inl rfl | exact Or.inr (Or.inl rfl) | exact Or.inr (Or.inr rfl)) (hd : (x == ("__debug__" : Str)) = false := by decide) (hcd : (x == ("__classdict__" : Str)) = false := by decide) : DQ X (.Name x pos) (mVar i) := dq_var hN hv hd hcd
theorem nO (i : Nat) (hN : X.N[i]? = some x := by rfl) (hv : Vis X.env.scope x := by first | exact Or.inl rfl | exact Or.inr (Or.inl rfl) | exact Or.inr (Or.inr rfl)) (hd : (x == ("__debug__" : Str)) = false := by decide) (hcd : (x == ("__classdict__" : Str)) = false := by decide) : DE X (.Name x pos) (mOwn i) := de_own hN hv hd hcd
theorem nG (i : Nat) (hN : X.N.Nodup := by assumption) (hi : X.N[i]? = some x := by rfl) (hx : Loc X.env.scope x := by first | exact Or.inl rfl | exact Or.inr rfl) (hf : X.fn x = true ∨ X.env.scope.names.lookup x = some .local := by first | exact .inl rfl | exact .inr rfl | assumption) : DG X (.Name x pos) (gSet i) [i] := dg_name hN hi hx hf
theorem nSet (i : Nat) {pos' : Pos} {f : EF R} (h : DE X e f) (hN : X.N.Nodup := by assumption) (hi : X.N[i]? = some x := by rfl) (hx : Loc X.env.scope x := by first | exact Or.inl rfl | exact Or.inr rfl) (hs : swapsWith e (some (.Name x pos')) pos.line X.env = pure false := by rfl) (hf : X.fn x = true ∨ X.env.scope.names.lookup x = some .local := by first | exact .inl rfl | exact .inr rfl | assumption) :
    DS X (.Assign [.Name x pos'] e pos) (bSet i f) := ds_set h hN hi hx hs hf
theorem nSetC (i : Nat) {pos' : Pos} {f : EF R} (h : DC X e f) (hi : X.N[i]? = some x := by rfl) (hx : X.env.scope.names.lookup x = some .local := by rfl) (hs : swapsWith e (some (.Name x pos')) pos.line X.env = pure true := by rfl) : DS X (.Assign [.Name x pos'] e pos) (bSet i f) := ds_setC h hi hx hs
theorem nMu (i : Nat) {name : Str} {id : String} {apos cpos : Pos} {g : D → List D → Option (D × D)} {fa : EF (List D)} (slot : Slot "list" name id) (hty : typeOf (.builtin id) = pure (.type "method_descriptor")) (hm : MuD X "list" id g) (ha : DV X (e :: es) fa)
    (hN : X.N[i]? = some x := by rfl) (hv : Vis X.env.scope x := by first | exact Or.inl rfl | exact Or.inr (Or.inl rfl) | exact Or.inr (Or.inr rfl))
    (hd : (x == ("__debug__" : Str)) = false := by decide) (hcd : (x == ("__classdict__" : Str)) = false := by decide)
    (hbase : attributeBase (.Name x px) name X.env (eval (.Name x px) X.env) = eval (.Name x px) X.env := by rfl)
    (hfew : ((backTo cpos (starEach (e :: es) X.env)).all (fun x => !x.1) && (backToKw cpos (keywordEach [] X.env)).all (fun x => x.1.isSome)
      && decide ((e :: es).length + ([] : List Keyword).length + (if ([] : List Keyword).isEmpty then 0 else 1) < 30)) = true := by rfl)
    (hline : (apos.endLine == cpos.line) = true := by rfl) (hs : starEach (e :: es) X.env = (false, eval e X.env) :: starEach es X.env := by rfl) (hplain : (backTo cpos (starEach es X.env)).any (·.1) = false := by rfl) :
    DE X (.Call (.Attribute (.Name x px) name apos) (e :: es) [] cpos) (mMu g i fa) := de_mu PySem.F.plainAttrs_list slot hty hm hN hv ha hd hcd hbase hfew hline hs hplain
theorem nMu0 (i : Nat) {name : Str} {id : String} {apos cpos : Pos} {g : D → List D → Option (D × D)} (slot : Slot "list" name id) (hty : typeOf (.builtin id) = pure (.type "method_descriptor")) (hm : MuD X "list" id g)
    (hN : X.N[i]? = some x := by rfl) (hv : Vis X.env.scope x := by first | exact Or.inl rfl | exact Or.inr (Or.inl rfl) | exact Or.inr (Or.inr rfl))
    (hd : (x == ("__debug__" : Str)) = false := by decide) (hcd : (x == ("__classdict__" : Str)) = false := by decide)
    (hbase : attributeBase (.Name x px) name X.env (eval (.Name x px) X.env) = eval (.Name x px) X.env := by rfl) (hline : (apos.endLine == cpos.line) = true := by rfl) :
    DE X (.Call (.Attribute (.Name x px) name apos) [] [] cpos) (mMu g i mNil) := de_mu0 PySem.F.plainAttrs_list slot hty hm hN hv hd hcd hbase hline
theorem nSub (i : Nat) {ix value : Expr} {ps pn : Pos} {g : D → D → D → Option D} {fv : EF D} {fk : EF P} (hm : SuD X g) (hval : DQ X value fv) (hix : DP X ix fk)
    (hN : X.N[i]? = some x := by rfl) (hv : Vis X.env.scope x := by first | exact Or.inl rfl | exact Or.inr (Or.inl rfl) | exact Or.inr (Or.inr rfl))
    (hd : (x == ("__debug__" : Str)) = false := by decide) (hcd : (x == ("__classdict__" : Str)) = false := by decide)
    (ha : ∀ v, assign (.Subscript (.Name x pn) ix ps) X.env v = (do
      let ov ← holding [v] (eval (.Name x pn) X.env)
      let iv ← holding [v, ov] (eval ix X.env)
      standAt ps
      holding [v, ov, iv] (setItem ov iv v)
      release [v, ov, iv] []) := by intro _; rfl)
    (hs : swapsWithSole [.Subscript (.Name x pn) ix ps] value pos.line X.env = pure false := by rfl) (hw : swappedStores [.Subscript (.Name x pn) ix ps] value X.env = pure none := by rfl)
    (h1 : (assignEach [.Subscript (.Name x pn) ix ps] X.env).map (·.2) = [assign (.Subscript (.Name x pn) ix ps) X.env] := by rfl) :
    DS X (.Assign [.Subscript (.Name x pn) ix ps] value pos) (bSub g i fv fk) := ds_sub hm hN hv hval hix hd hcd ha hs hw h1
theorem nAug (i : Nat) {op : Operator} {g : D → D → Option D} {f : EF D} {pos' : Pos} (ho : AuD X op g) (he : DQ X e f) (hN : X.N.Nodup := by assumption) (hi : X.N[i]? = some x := by rfl) (hx : Loc X.env.scope x := by first | exact Or.inl rfl | exact Or.inr rfl) (hf : X.fn x = true ∨ X.env.scope.names.lookup x = some .local := by first | exact .inl rfl | exact .inr rfl | assumption) :
    DS X (.AugAssign (.Name x pos') op e pos) (bAug g i f) := ds_aug ho hN hi hx he hf
theorem nPar2 (i j : Nat) {a b : Expr} {y : Str} {f : EF (List R)} {px py pt : Pos} {kt k2 pt2} (h : DR X [a, b] f) (hc : X.calm = true := by rfl) (hN : X.N.Nodup := by assumption) (hi : X.N[i]? = some x := by rfl) (hj : X.N[j]? = some y := by rfl) (hij : i ≠ j := by decide)
    (hx : X.env.scope.names.lookup x = some .local := by rfl) (hy : X.env.scope.names.lookup y = some .local := by rfl)
    (hw : swappedStores [.Tuple [.Name x px, .Name y py] kt pt] (.Tuple [a, b] k2 pt2) X.env = pure (some [x, y]) := by rfl)
    (hs : swapsWithSole [.Tuple [.Name x px, .Name y py] kt pt] (.Tuple [a, b] k2 pt2) pos.line X.env = pure false := by rfl) :
    DS X (.Assign [.Tuple [.Name x px, .Name y py] kt pt] (.Tuple [a, b] k2 pt2) pos) (bPar2 i j f) := ds_par h hc hN hi hj hij hx hy hw hs
/-! ### a, b, .. = (x, y, ..) by way of the tuple -/
def gNs : List Nat → TGs
  | [] => gNil
  | i :: is => gCons (gName i) (gNs is)
structure NsD (X : Cx) (ts : List Expr) (is : List Nat) : Prop where
  ex : PGs X ts (gNs is)
theorem ns_nil : NsD X [] [] := ⟨pgs_nil⟩
theorem ns_cons (i : Nat) {is : List Nat} {ts : List Expr} (h : NsD X ts is) (hN : X.N.Nodup := by assumption) (hi : X.N[i]? = some x := by rfl) (hx : Loc X.env.scope x := by first | exact Or.inl rfl | exact Or.inr rfl) (hf : X.fn x = true ∨ X.env.scope.names.lookup x = some .local := by first | exact .inl rfl | exact .inr rfl | assumption)
    (hs : (assignEach (.Name x px :: ts) X.env).map (·.2) = assign (.Name x px) X.env :: (assignEach ts X.env).map (·.2) := by rfl) : NsD X (.Name x px :: ts) (i :: is) := ⟨pgs_cons (pg_name hN hi hx hf) h.ex hs⟩
def setAll : List Nat → List R → List Sl → List Sl
  | i :: is, r :: rs, l => setAll is rs (l.set i r.sl)
  | _, _, l => l
theorem setAll_len : ∀ (is : List Nat) (rs : List R) (l : List Sl), (setAll is rs l).length = l.length
  | [], _, _ => by unfold setAll; rfl
  | _ :: _, [], _ => by unfold setAll; rfl
  | i :: is, r :: rs, l => by unfold setAll; rw [setAll_len is rs]; simp
theorem RRs.put {K : PySem.W.Frag} {F H : Hp} {W : FP} {E : En} {v : V} {i : Nat} {r : R} (hi : i < W.σ.length) (hie : i < E.sl.length) : ∀ {vs : List V} {rs : List R}, RRs K W E F H vs rs → (∀ p d, v = .ref p → r = .f d → ∀ (u : V) (e : D), (u, R.f e) ∈ vs.zip rs → u ≠ .ref p) → RRs K (W.at (W.σ.set i (some v))) { E with sl := E.sl.set i r.sl } F H vs rs
  | [], [], _, _ => trivial
  | u :: us, q :: qs, ⟨h1, h2, h3⟩, hd => ⟨RR.put hi hie h1 fun p d e1 e2 e e3 => hd p d e1 e2 u e (by rw [e3]; exact List.mem_cons_self), RRs.put hi hie h2 fun p d e1 e2 u' e hm => hd p d e1 e2 u' e (List.mem_cons_of_mem _ hm), h3⟩
  | [], _ :: _, h, _ => h.elim
  | _ :: _, [], h, _ => h.elim
theorem gNs_run {K : PySem.W.Frag} {F H : Hp} {Q : L2.St → Hp → Prop} : ∀ (is : List Nat) {vs : List V} {rs : List R} {W : FP} {E : En}, FI K W E F H → RRs K W E F H vs rs → is.length = rs.length → (∀ i ∈ is, i < E.sl.length) →
    (∀ σ', FI K (W.at σ') { E with sl := setAll is rs E.sl } F H → Q σ' H) → gNs is vs W.σ H Q
  | [], [], [], W, E, I, _, _, _, k => ⟨rfl, k W.σ I⟩
  | i :: is, v :: vs, r :: rs, W, E, I, ⟨h1, h2, h3⟩, hl, hb, k => by
    have hi := hb i List.mem_cons_self
    have I2 := I.asg hi h1
    have R2 := RRs.put (r := r) (v := v) (by rw [I.ln]; exact hi) hi h2 h3
    refine ⟨v, vs, rfl, ?_⟩
    exact gNs_run is (W := W.at (W.σ.set i (some v))) I2 R2 (by simpa using hl) (fun j hj => by simpa using hb j (List.mem_cons_of_mem _ hj)) k
  | [], _ :: _, [], _, _, _, h, _, _, _ => h.elim
  | [], [], _ :: _, _, _, _, h, _, _, _ => h.elim
  | _ :: _, [], [], _, _, _, _, hl, _, _ => by simp at hl
  | [], _ :: _, _ :: _, _, _, _, _, hl, _, _ => by simp at hl
  | _ :: _, [], _ :: _, _, _, _, h, _, _, _ => h.elim
  | _ :: _, _ :: _, [], _, _, _, h, _, _, _ => h.elim
def bParL (is : List Nat) (f : EF (List R)) : EF Fl := fun E => (f E).bind fun x => if (x.1.length = is.length ∧ x.1.length ≤ 1000) ∧ (is.all fun i => decide (i < x.2.sl.length)) = true then some (.nx, { x.2 with sl := setAll is x.1 x.2.sl }) else none
theorem RRs.len {K : PySem.W.Frag} {F H : Hp} {W : FP} {E : En} : ∀ {vs : List V} {rs : List R}, RRs K W E F H vs rs → vs.length = rs.length
  | [], [], _ => rfl
  | _ :: _, _ :: _, h => congrArg (· + 1) (RRs.len h.2.1)
  | [], _ :: _, h => h.elim
  | _ :: _, [], h => h.elim
theorem RR.new {K : PySem.W.Frag} {F H H' : Hp} {W : FP} {E : En} {v : V} {r : R} (e : Ex H H') (h : RR K W E F H v r) : RR K W E F H' v r := by
  cases r with
  | v d => exact h
  | f d =>
    obtain ⟨p, rfl, ow, wr, no⟩ := h
    obtain ⟨o, ho⟩ := ow.ct.ex
    exact ⟨p, rfl, ow.step (Ex.refl F) (.inl rfl) e, wr.step ho e, no⟩
theorem RRs.new {K : PySem.W.Frag} {F H H' : Hp} {W : FP} {E : En} (e : Ex H H') : ∀ {vs : List V} {rs : List R}, RRs K W E F H vs rs → RRs K W E F H' vs rs
  | [], [], _ => trivial
  | _ :: _, _ :: _, ⟨h1, h2, h3⟩ => ⟨h1.new e, RRs.new e h2, h3⟩
  | [], _ :: _, h => h.elim
  | _ :: _, [], h => h.elim
theorem nParL (is : List Nat) {ts vs : List Expr} {f : EF (List R)} {pt : Pos} {kt k2 pt2} (hn : NsD X ts is) (h : DR X vs f) (hc : X.calm = true := by rfl)
    (hn1 : (assignEach ts X.env).length = is.length := by rfl) (hst : (assignEach ts X.env).findIdx? (·.1) = none := by rfl)
    (hs : swapsWithSole [.Tuple ts kt pt] (.Tuple vs k2 pt2) pos.line X.env = pure false := by rfl) (hw : swappedStores [.Tuple ts kt pt] (.Tuple vs k2 pt2) X.env = pure none := by rfl)
    (h1 : (assignEach [.Tuple ts kt pt] X.env).map (·.2) = [assign (.Tuple ts kt pt) X.env] := by rfl) :
    DS X (.Assign [.Tuple ts kt pt] (.Tuple vs k2 pt2) pos) (bParL is f) := by
  obtain ⟨t, p, h⟩ := h.ex
  refine ⟨_, ps_asg (pe_tup p) (pg_tup hc hn.ex hn1 hst) hs hw h1, fun W F H E r E' D I hf k => ?_⟩
  unfold bParL at hf
  obtain ⟨⟨xs, E1⟩, g1, hf⟩ := bsome hf
  obtain ⟨⟨⟨hl, hl2⟩, hb⟩, hf⟩ := Option.ite_none_right_eq_some.mp hf
  cases hf
  refine h W F H E xs E1 _ I g1 fun us F1 H1 I1 e1 r1 => ⟨by rw [r1.len]; exact le_line hl2, fun q n => ?_⟩
  have I2 : FI X.K W E1 F1 (upd H1 q (.tup us)) := I1.step (Ex.refl F1) (fun _ => .inl rfl) (Ex.new n) (I1.FH.trans (Ex.new n))
  refine ⟨q, us, rfl, .inl (.inl upd_same), by rw [r1.len]; exact hl, ?_⟩
  exact gNs_run is I2 (r1.new (Ex.new n)) hl.symm (fun i hi => of_decide_eq_true (List.all_eq_true.mp hb i hi)) fun σ' I3 => k σ' F1 _ I3 e1
/-! ### rules of several kinds -/
def cList (ds : List D) : Option R := ((cLst ds).or (cLstS ds)).or (cLstD ds)
theorem cd_listA (hc : X.calm = true) : CallD X (.type "list") cList := (cd_list hc).or (cd_lstD hc)
def cIntA (ds : List D) : Option R := (cInt ds).or (cIntT ds)
def cMaxA (ds : List D) : Option R := (cMax ds).or (cMax2 ds)
def cMinA (ds : List D) : Option R := (cMin ds).or (cMin2 ds)
def cSorted (ds : List D) : Option R := (cSort ds).or (cSortD ds)
def cLenD (ds : List D) : Option R := match ds with
  | [.dic kvs] => if kvs.length ≤ sizeLine then some (.v (.int kvs.length)) else none
  | _ => none
theorem cd_lenD : CallD X (.builtin "len") cLenD := by
  refine ⟨fun xs H Q => ∃ a kvs, xs = [.ref a] ∧ Rd H a (.dK kvs) ∧ Q (.int kvs.length) H, ?_, fun F H xs ds res Q e vs hg k => ?_⟩
  · intro pins s σ H xs us Q I r h
    obtain ⟨a, kvs, rfl, hd, q⟩ := h
    rw [Vals.ref1 r]
    exact d_len I hd fun t s2 I2 => ⟨.int kvs.length, H, I2, ⟨t, rfl⟩, q⟩
  · match ds, hg with
    | [.dic kvs], hg =>
      obtain ⟨hl, hg⟩ := Option.ite_none_right_eq_some.mp hg
      cases hg
      obtain ⟨v, rfl, r⟩ := vals1 vs
      obtain ⟨a, us, rfl, rd, r⟩ := r.dic e
      exact ⟨a, us, rfl, rd, k _ H (.inl ⟨rfl, by rw [r.length]; exact .int _⟩)⟩
def cLenA (ds : List D) : Option R := (cLen ds).or (cLenD ds)
theorem cd_len : CallD X (.builtin "len") cLenA := cd_len0.or cd_lenD
def cStrI (ds : List D) : Option R := match ds with
  | [.int i] => if i.natAbs.log2 < 1920 ∧ sOk (toString i) = true then some (.v (.str (toString i))) else none
  | _ => none
theorem cd_str : CallD X (.type "str") cStrI := by
  refine ⟨_, call_str_int, fun F H xs ds res Q e vs hg k => ?_⟩
  match ds, hg with
  | [.int i], hg =>
    obtain ⟨hl, hg⟩ := Option.ite_none_right_eq_some.mp hg
    cases hg
    obtain ⟨v, rfl, r⟩ := vals1 vs
    exact ⟨i, by rw [r.int], hl.1, k _ H (.inl ⟨rfl, .str _ (sOk_iff.mp hl.2)⟩)⟩
def cDictC (ds : List D) : Option R := match ds with
  | [.dic kvs] => some (.f (.dic kvs))
  | _ => none
theorem cd_dict : CallD X (.type "dict") cDictC := by
  refine ⟨_, call_dictD, fun F H xs ds res Q e vs hg k => ?_⟩
  match ds, hg with
  | [.dic kvs], hg =>
    cases hg
    obtain ⟨v, rfl, r⟩ := vals1 vs
    obtain ⟨a, us, rfl, rd, r⟩ := r.dic e
    exact ⟨a, us, rfl, rd, fun p n => k _ _ (Ou.newD n r)⟩
def dMulI : D → D → Option R := dII mulI
def dRepL (a b : D) : Option R := match a, b with
  | .lst xs, .int k => if 0 ≤ k ∧ xs.length * k.toNat ≤ 1000000 ∧ k ≤ 1000000 then some (.f (.lst (List.replicate k.toNat xs).flatten)) else none
  | _, _ => none
end
end PV

namespace PV
open PySem L2 PyProof.Rows
/-! ### the law -/
def spLaw (K : PySem.W.Frag) : Sp := fun vs H Q _ => ∃ (a : Addr) (ns : List Int), vs = [.ref a] ∧ SqL K H a (ns.map V.int) ∧ ns.length ≤ 63 ∧ (∀ z ∈ ns, bits z ≤ 1048576) ∧ ∀ H', Q (.bl true) H'
/-- the box at the start -/
def bx0 (ns : List Int) : Bx := (ns, [0, 4711 + (ns.length : Int)])
/-- the law's frame behind its first statement -/
def en0 (n ib : Nat) (ns : List Int) : En := ⟨(List.replicate n Sl.no).set ib .bx, bx0 ns⟩
/-- the law's own reading comes to True -/
def LawSem (fb : EF Fl) (n ib : Nat) : Prop := ∀ ns : List Int, ns.length ≤ 63 → (∀ z ∈ ns, bits z ≤ 1048576) → ∃ E', fb (en0 n ib ns) = some (.rt (.v (.bl true)), E')
section
variable {P : Program} {w : World} {K : PySem.W.Frag} {mg : Str → Option Value} {base : Heap} {f : Addr} {fd : FuncData} {st : Stmt}
theorem law_ok {N : List Str} {k ib : Nat} {fb : EF Fl} {first : Stmt} {rest : List Stmt} (Fn : Fun K "law" "law" st f fd) (S : FnScope N ["script"] (defScope st)) (hbody : defBody st = first :: rest)
    (h1 : ∀ (cdv : Value) (A : Around) (outer : List Env) (s : Shared) (H : Hp) (E : XK), Room k (A.deeper (envOfC "law" (defScope st) s.heap.objs.size f cdv)) →
      PS (cxOf CX0 P w K mg base N "law" (defScope st) f cdv A outer s H E).nox first (tAsg (tCall (spBox K) [] E0 (tCons (tVar 0) tNil)) (gName ib)))
    (h2 : ∀ (cdv : Value) (A : Around) (outer : List Env) (s : Shared) (H : Hp) (E : XK), Room k (A.deeper (envOfC "law" (defScope st) s.heap.objs.size f cdv)) →
      DB (cxOf CX0 P w K mg base N "law" (defScope st) f cdv A outer s H E).nox rest fb)
    (hib : ib < N.length) (sem : LawSem fb N.length ib) : FnOk P w K mg base CX0 (k + 1) f fd ["script"] (spLaw K) := by
  refine Fn.ok S (fun vs H Q E h => by obtain ⟨a, ns, rfl, _⟩ := h; rfl) fun cdv A outer s H vs Q E hr hsp => ?_
  obtain ⟨t, hp, h⟩ := (h2 cdv A outer s H E hr).ex
  rw [hbody]
  refine ⟨_, pss_cons (h1 cdv A outer s H E hr) hp, ?_⟩
  obtain ⟨a, ns, rfl, hs, hl, hbits, k⟩ := hsp
  obtain ⟨E', hE⟩ := sem ns hl hbits
  refine ⟨.ref a, rfl, a, ns, rfl, hs, hl, fun q H' n1 n2 n3 keep e1 e2 => ?_⟩
  have hlen : (L2.start N [V.ref a]).length = N.length := by
    unfold L2.start
    have : 0 < N.length := Nat.lt_of_le_of_lt (Nat.zero_le _) hib
    simp
    omega
  refine h ⟨fun _ => none, H, some q, [], [], [], (L2.start N [V.ref a]).set ib (some (.ref q.1))⟩ (fun _ => none) H' (en0 N.length ib ns) _ E' _ ?_ hE ?_
  · refine ⟨Ex.refl _, fun _ _ z => (nomatch z), fun b o ho _ _ => keep b o ho, fun _ _ => rfl, fun j sl e => ?_, fun i j li ci lj cj p ne ei _ _ _ => ?_, fun q' hq => ?_, fun _ z => (by cases z), fun _ z => (by cases z), fun i d p e _ => ?_, fun _ z => (by cases z), fun _ _ z => (nomatch z), ?_⟩
    · by_cases z : ib = j
      · subst z
        have : ((List.replicate N.length Sl.no).set ib .bx)[ib]? = some sl := e
        rw [List.getElem?_set_self (by simpa using hib)] at this
        cases this
        exact ⟨q, rfl, by show ((L2.start N [V.ref a]).set ib (some (.ref q.1)))[ib]? = _; rw [List.getElem?_set_self (by rw [hlen]; exact hib)]⟩
      · have : ((List.replicate N.length Sl.no).set ib .bx)[j]? = some sl := e
        rw [List.getElem?_set_ne z, List.getElem?_replicate] at this
        split at this
        · cases this; exact trivial
        · cases this
    · have : ((List.replicate N.length Sl.no).set ib .bx)[i]? = some (.o li ci) := ei
      by_cases z : ib = i
      · subst z
        rw [List.getElem?_set_self (by simpa using hib)] at this; cases this
      · rw [List.getElem?_set_ne z, List.getElem?_replicate] at this
        split at this <;> cases this
    · cases hq
      exact ⟨n3, rfl, rfl, e1, e2⟩
    · have : ((List.replicate N.length Sl.no).set ib .bx)[i]? = some (.o true d) := e
      by_cases z : ib = i
      · subst z
        rw [List.getElem?_set_self (by simpa using hib)] at this; cases this
      · rw [List.getElem?_set_ne z, List.getElem?_replicate] at this
        split at this <;> cases this
    · show ((L2.start N [V.ref a]).set ib _).length = ((List.replicate N.length Sl.no).set ib .bx).length
      simp [hlen]
  · intro v σ' F' H2 _ _ rr
    cases (show Rp K F' v (.bl true) from rr)
    exact k H2
end
end PV

namespace PV
open PySem L2 PyProof.Rows
/-! ### the readings, evaluated -/
def rg (j : Int) : Option (List D) := if -(2 ^ 62) ≤ j ∧ j ≤ sizeLine then some (rangeD 0 j.toNat) else none
def rg2 (i j : Int) : Option (List D) := if (-(2 ^ 62) ≤ i ∧ i < 2 ^ 62 ∧ -(2 ^ 62) ≤ j ∧ j < 2 ^ 62) ∧ j - i ≤ sizeLine then some (rangeD i (j - i).toNat) else none
theorem rg_nat {n : Nat} (h : n ≤ 16777216) : rg (n : Int) = some (rangeD 0 n) := by
  have hs : sizeLine = 16777216 := sizeLine_eq
  unfold rg
  rw [if_pos ⟨by omega, by omega⟩]
  rfl
theorem rg_int {j : Int} (h0 : 0 ≤ j) (h : j ≤ 16777216) : rg j = some (rangeD 0 j.toNat) := by
  have hs : sizeLine = 16777216 := sizeLine_eq
  unfold rg
  rw [if_pos ⟨by omega, by omega⟩]
theorem rg2_int {i j : Int} (h0 : -16777216 ≤ i) (h1 : i ≤ 16777216) (h2 : -16777216 ≤ j) (h3 : j ≤ 16777216) (h4 : j - i ≤ 16777216) : rg2 i j = some (rangeD i (j - i).toNat) := by
  have hs : sizeLine = 16777216 := sizeLine_eq
  unfold rg2
  rw [if_pos ⟨⟨by omega, by omega, by omega, by omega⟩, by omega⟩]
@[simp] theorem dKey_int (i : Int) : dKey (.int i) = some (.inl i) := rfl
@[simp] theorem dKey_str (i : Str) : dKey (.str i) = some (.inr i) := rfl
section
variable {E E' : En} {i : Nat} {d : D} {f : EF R} {g : EF D} {h : EF P} {l : Bool}
@[simp] theorem e_mP (f : EF D) (E : En) : mP f E = (f E).bind fun x => some (.v x.1, x.2) := rfl
@[simp] theorem e_mE (f : EF D) (E : En) : mE f E = (f E).bind fun x => some (.v x.1, x.2) := rfl
@[simp] theorem e_mQ (f : EF R) (E : En) : mQ f E = (f E).bind fun x => x.1.d.bind fun d => some (d, x.2) := rfl
@[simp] theorem e_mC (d : D) (E : En) : mC d E = some (d, E) := rfl
@[simp] theorem e_Rv (d : D) : (R.v d).d = some d := rfl
@[simp] theorem e_Rf (d : List D) : (R.f (.lst d)).d = some (.lst d) := rfl
@[simp] theorem e_Rdv (d : D) : (R.v d).dat = d := rfl
@[simp] theorem e_Rdf (d : D) : (R.f d).dat = d := rfl
@[simp] theorem e_slv (d : D) : (R.v d).sl = .v d := rfl
@[simp] theorem e_slf (d : D) : (R.f d).sl = .o false d := rfl
@[simp] theorem e_Pv (d : D) (E : En) : (P.v d).get E = some d := rfl
theorem e_Ps (q : E.sl[i]? = some (.o l d)) : (P.s i).get E = some d := by simp [P.get, q]
theorem e_Psb (q : E.sl[i]? = some (.b d)) : (P.s i).get E = some d := by simp [P.get, q]
theorem e_mSlot (q : E.sl[i]? = some (.v d)) : mSlot i E = some (.v d, E) := by unfold mSlot; rw [q]
theorem e_mSloto (q : E.sl[i]? = some (.o l d)) : mSlot i E = some (.s i, E) := by unfold mSlot; rw [q]
theorem e_mSlotb (q : E.sl[i]? = some (.b d)) : mSlot i E = some (.s i, E) := by unfold mSlot; rw [q]
theorem e_mSlotx (q : E.sl[i]? = some .bx) : mSlot i E = some (.s i, E) := by unfold mSlot; rw [q]
theorem e_mVar (q : E.sl[i]? = some (.v d)) : mVar i E = some (d, E) := by unfold mVar; rw [q]
theorem e_mVaro {ds : List D} (q : E.sl[i]? = some (.o false (.lst ds))) : mVar i E = some (.lst ds, { E with sl := E.sl.set i (.v (.lst ds)) }) := by unfold mVar; rw [q]
theorem e_mOwn (q : E.sl[i]? = some (.v d)) : mOwn i E = some (.v d, E) := by unfold mOwn; rw [q]
theorem e_mOwno (q : E.sl[i]? = some (.o false d)) : mOwn i E = some (.f d, { E with sl := E.sl.set i .no }) := by unfold mOwn; rw [q]
theorem e_argv (d : D) : (P.v d).arg E = some (.v d) := rfl
theorem e_argo (q : E.sl[i]? = some (.o l d)) : (P.s i).arg E = some (.b d) := by simp [P.arg, q]
theorem e_argb (q : E.sl[i]? = some (.b d)) : (P.s i).arg E = some (.b d) := by simp [P.arg, q]
theorem e_argx (q : E.sl[i]? = some .bx) : (P.s i).arg E = some .bx := by simp [P.arg, q]
@[simp] theorem e_m2 (g : D → D → Option R) (fa fb : EF P) (E : En) : m2 g fa fb E = (fa E).bind fun p => (fb p.2).bind fun q => (p.1.get q.2).bind fun x => (q.1.get q.2).bind fun y => (g x y).bind fun r => some (r, q.2) := rfl
@[simp] theorem e_m1 (g : D → Option R) (fa : EF P) (E : En) : m1 g fa E = (fa E).bind fun p => (p.1.get p.2).bind fun x => (g x).bind fun r => some (r, p.2) := rfl
@[simp] theorem e_mNil {α : Type} (E : En) : (mNil : EF (List α)) E = some ([], E) := rfl
@[simp] theorem e_mCons {α : Type} (f : EF α) (g : EF (List α)) (E : En) : mCons f g E = (f E).bind fun x => (g x.2).bind fun y => some (x.1 :: y.1, y.2) := rfl
@[simp] theorem e_mTup (f : EF (List D)) (E : En) : mTup f E = (f E).bind fun x => if x.1.length ≤ 1000 then some (.tup x.1, x.2) else none := rfl
@[simp] theorem e_mLst (f : EF (List D)) (E : En) : mLst f E = (f E).bind fun x => if x.1.length ≤ 1000 then some (.f (.lst x.1), x.2) else none := rfl
@[simp] theorem e_mTru (f : EF P) (E : En) : mTru f E = (f E).bind fun p => (p.1.get p.2).bind fun d => (truth d).bind fun k => some (k, p.2) := rfl
@[simp] theorem e_mBl (f : EF R) (E : En) : mBl f E = (f E).bind fun p => match p.1 with | .v (.bl k) => some (k, p.2) | _ => none := rfl
@[simp] theorem e_mAnd (f g : EF Bool) (E : En) : mAnd f g E = (f E).bind fun x => if x.1 = true then g x.2 else some (false, x.2) := rfl
@[simp] theorem e_mOr (f g : EF Bool) (E : En) : mOr f g E = (f E).bind fun x => if x.1 = true then some (true, x.2) else g x.2 := rfl
@[simp] theorem e_mNot (f : EF Bool) (E : En) : mNot f E = (f E).bind fun x => some (!x.1, x.2) := rfl
@[simp] theorem e_mAndV (f g : EF D) (E : En) : mAndV f g E = (f E).bind fun x => match x.1 with | .bl true => g x.2 | .bl false => some (.bl false, x.2) | _ => none := rfl
@[simp] theorem e_mOrV (f g : EF D) (E : En) : mOrV f g E = (f E).bind fun x => match x.1 with | .bl true => some (.bl true, x.2) | .bl false => g x.2 | _ => none := rfl
@[simp] theorem e_mNotV (f : EF D) (E : En) : mNotV f E = (f E).bind fun x => match x.1 with | .bl k => some (.bl (!k), x.2) | _ => none := rfl
@[simp] theorem e_mIf {α : Type} (t : EF Bool) (f g : EF α) (E : En) : mIf t f g E = (t E).bind fun x => if x.1 = true then f x.2 else g x.2 := rfl
@[simp] theorem e_getNil (E : En) : getAll E [] = some [] := rfl
@[simp] theorem e_getCons (E : En) (p : P) (ps : List P) : getAll E (p :: ps) = (p.get E).bind fun d => (getAll E ps).bind fun ds => some (d :: ds) := rfl
@[simp] theorem e_argNil (E : En) : argAll E [] = some [] := rfl
@[simp] theorem e_argCons (E : En) (p : P) (ps : List P) : argAll E (p :: ps) = (p.arg E).bind fun s => (argAll E ps).bind fun r => some (s :: r) := rfl
@[simp] theorem e_mCall (g : List D → Option R) (fa : EF (List P)) (E : En) : mCall g fa E = (fa E).bind fun ps => (getAll ps.2 ps.1).bind fun ds => (g ds).bind fun r => some (r, ps.2) := rfl
@[simp] theorem e_mCall1 (g : List D → Option R) (f : EF R) (E : En) : mCall1 g f E = (f E).bind fun r => (g [r.1.dat]).bind fun z => some (z, r.2) := rfl
@[simp] theorem e_mFn (g : FN) (fa : EF (List P)) (E : En) : mFn g fa E = (fa E).bind fun ps => (argAll ps.2 ps.1).bind fun as => (g as ps.2.bx).bind fun r => some (r.1, { ps.2 with bx := r.2 }) := rfl
@[simp] theorem e_oNo (E : En) : oNo E = some (none, E) := rfl
@[simp] theorem e_oSo (f : EF P) (E : En) : oSo f E = (f E).bind fun p => (p.1.get p.2).bind fun d => match d with | .int i => some (some i, p.2) | _ => none := rfl
@[simp] theorem e_mSl (g : D → Option Int → Option Int → Option R) (fa : EF P) (fl fh : EF (Option Int)) (E : En) : mSl g fa fl fh E = (fa E).bind fun p => (fl p.2).bind fun l => (fh l.2).bind fun h => (p.1.get h.2).bind fun d => (g d l.1 h.1).bind fun r => some (r, h.2) := rfl
@[simp] theorem e_mMt (T : String) (g : D → List D → Option R) (fo : EF P) (fa : EF (List P)) (E : En) : mMt T g fo fa E = (fo E).bind fun p => (p.1.get p.2).bind fun d => if tyD T d = true then (fa p.2).bind fun ps => (p.1.get ps.2).bind fun d => (getAll ps.2 ps.1).bind fun ds => (g d ds).bind fun r => some (r, ps.2) else none := rfl
@[simp] theorem e_mIsi (T : String) (f : EF P) (E : En) : mIsi T f E = (f E).bind fun p => (p.1.get p.2).bind fun d => (kitB d.tn T).bind fun b => some (.v (.bl b), p.2) := rfl
@[simp] theorem e_mChain (g g' : D → D → Option R) (fa fb fc : EF P) (E : En) : mChain g g' fa fb fc E = (fa E).bind fun p => (fb p.2).bind fun q => (p.1.get q.2).bind fun x => (q.1.get q.2).bind fun y => (g x y).bind fun r =>
  match r with
  | .v (.bl true) => (fc q.2).bind fun s => (q.1.get s.2).bind fun y' => (s.1.get s.2).bind fun z => (g' y' z).bind fun r' => some (r', s.2)
  | .v (.bl false) => some (.v (.bl false), q.2)
  | _ => none := rfl
@[simp] theorem e_bNil (E : En) : bNil E = some (.nx, E) := rfl
@[simp] theorem e_bBk (E : En) : bBk E = some (.bk, E) := rfl
@[simp] theorem e_bCt (E : En) : bCt E = some (.ct, E) := rfl
@[simp] theorem e_bSeq (f g : EF Fl) (E : En) : bSeq f g E = (f E).bind fun x => match x.1 with | .nx => g x.2 | y => some (y, x.2) := rfl
@[simp] theorem e_bRet (f : EF R) (E : En) : bRet f E = (f E).bind fun x => some (.rt x.1, x.2) := rfl
@[simp] theorem e_bDrop (f : EF R) (E : En) : bDrop f E = (f E).bind fun x => some (.nx, x.2) := rfl
@[simp] theorem e_bIf (t : EF Bool) (f g : EF Fl) (E : En) : bIf t f g E = (t E).bind fun x => if x.1 = true then f x.2 else g x.2 := rfl
@[simp] theorem e_bSet (i : Nat) (f : EF R) (E : En) : bSet i f E = (f E).bind fun x => if i < x.2.sl.length then some (.nx, { x.2 with sl := x.2.sl.set i x.1.sl }) else none := rfl
@[simp] theorem e_bTg (f : EF D) (g : D → EF Unit) (E : En) : bTg f g E = (f E).bind fun x => (g x.1 x.2).bind fun y => some (.nx, y.2) := rfl
@[simp] theorem e_gSet (i : Nat) (d : D) (E : En) : gSet i d E = if i < E.sl.length then some ((), { E with sl := E.sl.set i (.v d) }) else none := rfl
@[simp] theorem e_gsNil (E : En) : gsNil [] E = some ((), E) := rfl
@[simp] theorem e_gsCons (f : D → EF Unit) (g : List D → EF Unit) (d : D) (ds : List D) (E : En) : gsCons f g (d :: ds) E = (f d E).bind fun x => g ds x.2 := rfl
@[simp] theorem e_gTupD (n : Nat) (g : List D → EF Unit) (ds : List D) (E : En) : gTupD n g (.tup ds) E = if ds.length = n then g ds E else none := rfl
@[simp] theorem e_bPar2 (i j : Nat) (f : EF (List R)) (E : En) : bPar2 i j f E = (f E).bind fun x => match x.1 with
  | [r, s] => if i < x.2.sl.length ∧ j < x.2.sl.length then some (.nx, { x.2 with sl := (x.2.sl.set i r.sl).set j s.sl }) else none
  | _ => none := rfl
@[simp] theorem e_bParL (is : List Nat) (f : EF (List R)) (E : En) : bParL is f E = (f E).bind fun x => if (x.1.length = is.length ∧ x.1.length ≤ 1000) ∧ (is.all fun i => decide (i < x.2.sl.length)) = true then some (.nx, { x.2 with sl := setAll is x.1 x.2.sl }) else none := rfl
@[simp] theorem e_setAll0 (rs : List R) (l : List Sl) : setAll [] rs l = l := by unfold setAll; rfl
@[simp] theorem e_setAll1 (i : Nat) (is : List Nat) (r : R) (rs : List R) (l : List Sl) : setAll (i :: is) (r :: rs) l = setAll is rs (l.set i r.sl) := rfl
@[simp] theorem e_bSub (g : D → D → D → Option D) (i : Nat) (fv : EF D) (fk : EF P) (E : En) : bSub g i fv fk E = (fv E).bind fun v => (isO v.2.sl[i]?).bind fun _ => (fk v.2).bind fun k => (isO k.2.sl[i]?).bind fun d =>
  (k.1.get k.2).bind fun kd => (g d kd v.1).bind fun nd => some (.nx, { k.2 with sl := k.2.sl.set i (.o false nd) }) := rfl
@[simp] theorem e_isO (d : D) : isO (some (.o false d)) = some d := rfl
@[simp] theorem e_mYes (E : En) : mYes E = some (true, E) := rfl
@[simp] theorem e_mEmp (E : En) : mEmp E = some (.f (.dic []), E) := rfl
@[simp] theorem e_mPrs (fk fv : EF D) (g : EF (List (D × D))) (E : En) : mPrs fk fv g E = (fk E).bind fun k => (fv k.2).bind fun v => (g v.2).bind fun r => (dKey k.1).bind fun _ => some ((k.1, v.1) :: r.1, r.2) := rfl
@[simp] theorem e_mDisp (f : EF (List (D × D))) (E : En) : mDisp f E = (f E).bind fun x => if x.1.length ≤ 15 then some (.f (.dic (dMerge [] x.1)), x.2) else none := rfl
theorem e_mMu {g : D → List D → Option (D × D)} {fa : EF (List D)} {ds : List D} (q : E.sl[i]? = some (.o false (.lst ds))) : mMu g i fa E = (fa E).bind fun x => (isO x.2.sl[i]?).bind fun d => (g d x.1).bind fun y => some (.v y.1, { x.2 with sl := x.2.sl.set i (.o false y.2) }) := by
  unfold mMu
  rw [q]
  show (fa E).bind _ = (fa E).bind _
  congr 1
  funext x
  cases h : x.2.sl[i]? with
  | none => rfl
  | some s => cases s with
    | o l d => cases l <;> rfl
    | _ => rfl
@[simp] theorem e_bFor (fi : EF (List D × Option Nat)) (tg : D → EF Unit) (fb : EF Fl) (E : En) : bFor fi tg fb E = (fi E).bind fun x => (bLoop tg fb x.1.1 x.2).bind fun y => some (y.1, unlk x.1.2 y.2) := rfl
@[simp] theorem e_unlk0 (E : En) : unlk none E = E := rfl
@[simp] theorem e_mLc (fi : EF (List D × Option Nat)) (tg : D → EF Unit) (ft : EF Bool) (fe : EF D) (vs : List Nat) (E : En) : mLc fi tg ft fe vs E = (fi E).bind fun x => if x.1.1.length ≤ sizeLine then (cLoop tg ft fe vs x.1.1 [] x.2).bind fun y => some (.f (.lst y.1), unlk x.1.2 (back vs x.2 y.2)) else none := rfl
@[simp] theorem e_iRg1 (f : EF (List P)) (E : En) : iRg1 f E = (f E).bind fun ps => (getAll ps.2 ps.1).bind fun ds => match ds with
  | [.int j] => (rg j).bind fun l => some ((l, none), ps.2)
  | _ => none := by
  unfold iRg1
  cases f E with
  | none => rfl
  | some ps =>
    show (getAll ps.2 ps.1).bind _ = (getAll ps.2 ps.1).bind _
    congr 1
    funext ds
    match ds with
    | [] => rfl
    | [.int j] =>
      show (if _ then _ else _) = (rg j).bind _
      unfold rg
      by_cases h : -(2 ^ 62) ≤ j ∧ j ≤ sizeLine
      · rw [if_pos h, if_pos h]; rfl
      · rw [if_neg h, if_neg h]; rfl
    | [.non] => rfl
    | [.bl _] => rfl
    | [.str _] => rfl
    | [.tup _] => rfl
    | [.lst _] => rfl
    | [.dic _] => rfl
    | [.st _] => rfl
    | a :: _ :: _ => cases a <;> rfl
@[simp] theorem e_iRg2 (f : EF (List P)) (E : En) : iRg2 f E = (f E).bind fun ps => (getAll ps.2 ps.1).bind fun ds => match ds with
  | [.int i, .int j] => (rg2 i j).bind fun l => some ((l, none), ps.2)
  | _ => none := by
  unfold iRg2
  cases f E with
  | none => rfl
  | some ps =>
    show (getAll ps.2 ps.1).bind _ = (getAll ps.2 ps.1).bind _
    congr 1
    funext ds
    cases ds with
    | nil => rfl
    | cons a t =>
      cases t with
      | nil => cases a <;> rfl
      | cons b u =>
        cases u with
        | cons c v => cases a <;> cases b <;> rfl
        | nil =>
          cases a with
          | int i =>
            cases b with
            | int j =>
              show (if _ then _ else _) = (rg2 i j).bind _
              unfold rg2
              by_cases h : (-(2 ^ 62) ≤ i ∧ i < 2 ^ 62 ∧ -(2 ^ 62) ≤ j ∧ j < 2 ^ 62) ∧ j - i ≤ sizeLine
              · rw [if_pos h, if_pos h]; rfl
              · rw [if_neg h, if_neg h]; rfl
            | _ => rfl
          | _ => rfl
@[simp] theorem e_iVal (f : EF P) (E : En) : iVal f E = (f E).bind fun p => match p.1 with
  | .v d => (items d).bind fun ds => some ((ds, none), p.2)
  | .s i => match p.2.sl[i]? with
    | some (.o false (.lst ds)) => some ((ds, some i), { p.2 with sl := p.2.sl.set i (.o true (.lst ds)) })
    | some (.o true (.lst ds)) => some ((ds, none), p.2)
    | some (.b (.lst ds)) => some ((ds, none), p.2)
    | some (.v d) => (items d).bind fun ds => some ((ds, none), p.2)
    | _ => none := rfl
@[simp] theorem e_iItemsR (f : EF R) (E : En) : iItemsR f E = (f E).bind fun x => match x.1 with
  | .f (.dic kvs) => some ((kvs.map pairD, none), x.2)
  | _ => none := rfl
@[simp] theorem e_mSortSet (f : EF P) (E : En) : mSortSet f E = (f E).bind fun q => (q.1.get q.2).bind fun d => (setKL d).bind fun k => some (.f (.lst k.set), q.2) := rfl
@[simp] theorem e_mLenSet (f : EF P) (E : En) : mLenSet f E = (f E).bind fun q => (q.1.get q.2).bind fun d => (setKL d).bind fun k => some (.v (.int (k.size : Nat)), q.2) := rfl
@[simp] theorem e_mSortIt (f : EF P) (E : En) : mSortIt f E = (f E).bind fun p => (p.1.get p.2).bind fun d => (sItems d).bind fun r => some (r, p.2) := rfl
@[simp] theorem e_mSortItF (f : EF R) (E : En) : mSortItF f E = (f E).bind fun p => (sItems p.1.dat).bind fun r => some (r, p.2) := rfl
@[simp] theorem e_mRg1 (f : EF P) (E : En) : mRg1 f E = (f E).bind fun p => (p.1.get p.2).bind fun d => (asInt d).bind fun i => some ((0, i), p.2) := rfl
@[simp] theorem e_mRg2 (f g : EF P) (E : En) : mRg2 f g E = (f E).bind fun p => (g p.2).bind fun q => (p.1.get q.2).bind fun d => (q.1.get q.2).bind fun d2 => (asInt d).bind fun i => (asInt d2).bind fun j => some ((i, j), q.2) := rfl
@[simp] theorem e_mTupRg (f : EF (Int × Int)) (E : En) : mTupRg f E = (f E).bind fun x => if rgOk x.1.1 x.1.2 = true then some (.v (.tup (rangeD x.1.1 (x.1.2 - x.1.1).toNat)), x.2) else none := rfl
@[simp] theorem e_mLstRg (f : EF (Int × Int)) (E : En) : mLstRg f E = (f E).bind fun x => if rgOk x.1.1 x.1.2 = true then some (.f (.lst (rangeD x.1.1 (x.1.2 - x.1.1).toNat)), x.2) else none := rfl
@[simp] theorem e_mGet2 (fo fy : EF P) (fz : EF D) (E : En) : mGet2 fo fy fz E = (fo E).bind fun p => (p.1.get p.2).bind fun d0 => match d0 with
  | .dic _ => (fy p.2).bind fun q => (fz q.2).bind fun s => (p.1.get s.2).bind fun d => (q.1.get s.2).bind fun a => match d with
    | .dic kvs => (dGet kvs a s.1).bind fun r => some (.v r, s.2)
    | _ => none
  | _ => none := rfl
@[simp] theorem e_mGetF (fo : EF R) (fy : EF D) (fz : EF D) (E : En) : mGetF fo fy fz E = (fo E).bind fun p => match p.1 with
  | .f (.dic kvs) => (fy p.2).bind fun q => (fz q.2).bind fun s => (dGet kvs q.1 s.1).bind fun r => some (.v r, s.2)
  | _ => none := rfl
end
/-! what a turn keeps -/
theorem bLoop_inv {tg : D → EF Unit} {fb : EF Fl} {I : Nat → En → Prop} : ∀ (ds : List D) (k : Nat) (E : En), I k E →
    (∀ (i : Nat) d E, ds[i]? = some d → I (k + i) E → ∃ e E1 E2, tg d E = some (e, E1) ∧ (fb E1 = some (.nx, E2) ∨ fb E1 = some (.ct, E2)) ∧ I (k + i + 1) E2) → ∃ E', bLoop tg fb ds E = some (.nx, E') ∧ I (k + ds.length) E'
  | [], k, E, h0, hs => ⟨E, rfl, h0⟩
  | d :: ds, k, E, h0, hs => by
    obtain ⟨e, E1, E2, h1, h2, h3⟩ := hs 0 d E rfl h0
    obtain ⟨E', h4, h5⟩ := bLoop_inv ds (k + 1) E2 h3 fun i d E hd hI => by
      have := hs (i + 1) d E (by simpa using hd) (by rw [← Nat.add_assoc, Nat.add_right_comm]; exact hI)
      rw [← Nat.add_assoc, Nat.add_right_comm k i 1] at this
      exact this
    refine ⟨E', ?_, by rw [List.length_cons, ← Nat.add_assoc, Nat.add_right_comm]; exact h5⟩
    unfold bLoop
    rw [h1]
    rcases h2 with h2 | h2
    · show (fb E1).bind _ = _
      rw [h2]; exact h4
    · show (fb E1).bind _ = _
      rw [h2]; exact h4
/-- a comprehension that leaves its frame as it is -/
theorem cLoop_map {tg : D → EF Unit} {ft : EF Bool} {fe : EF D} {vs : List Nat} {E : En} {b : D → Bool} {y : D → D} : ∀ (ds acc : List D),
    (∀ d ∈ ds, ∃ e E1 E2, tg d (wE vs E) = some (e, E1) ∧ ft E1 = some (b d, E2) ∧ (b d = true → ∃ E3, fe E2 = some (y d, E3) ∧ wE vs E3 = wE vs E) ∧ (b d = false → wE vs E2 = wE vs E)) →
    ∀ E0, wE vs E0 = wE vs E → cLoop tg ft fe vs ds acc E0 = some (acc ++ (ds.filter b).map y, wE vs E)
  | [], acc, h, E0, h0 => by unfold cLoop; rw [h0]; simp
  | d :: ds, acc, h, E0, h0 => by
    obtain ⟨e, E1, E2, h1, h2, h3, h4⟩ := h d List.mem_cons_self
    unfold cLoop
    rw [h0, h1]
    show (ft E1).bind _ = _
    rw [h2]
    cases hb : b d with
    | true =>
      obtain ⟨E3, h5, h6⟩ := h3 hb
      show (fe E2).bind _ = _
      rw [h5]
      show cLoop tg ft fe vs ds (acc ++ [y d]) E3 = _
      rw [cLoop_map ds _ (fun d hd => h d (List.mem_cons_of_mem _ hd)) E3 h6, List.filter_cons_of_pos hb, List.map_cons, List.append_assoc]
      rfl
    | false =>
      show cLoop tg ft fe vs ds acc E2 = _
      rw [cLoop_map ds _ (fun d hd => h d (List.mem_cons_of_mem _ hd)) E2 (h4 hb), List.filter_cons_of_neg (by simp [hb])]
end PV

namespace PV
open PySem L2 PyProof.Rows
/-! ### * -/
section
variable {X : Cx}
def mulT (z : Str) (k : Int) : Str := if k < 1 then ⟨#[]⟩ else ⟨((List.replicate k.toNat z.cps.toList).flatten).toArray⟩
theorem foldl_flat (z : Array Nat) : ∀ (n : Nat) (acc : Array Nat), (List.replicate n z).foldl (· ++ ·) acc = (acc.toList ++ (List.replicate n z.toList).flatten).toArray
  | 0, acc => by simp
  | n + 1, acc => by
    rw [List.replicate_succ, List.foldl_cons, foldl_flat z n, List.replicate_succ, List.flatten_cons]
    simp
theorem mulT_eq (z : Str) (k : Int) : Txt.mul z k = mulT z k := by
  unfold Txt.mul mulT
  by_cases h : k < 1
  · rw [if_pos h, if_pos h]; rfl
  · rw [if_neg h, if_neg h]
    by_cases h1 : (k == 1 || z.length == 0) = true
    · rw [if_pos h1]
      rcases Bool.or_eq_true_iff.mp h1 with e | e
      · have : k = 1 := by simpa using e
        subst this
        simp
      · have hz : z.cps.size = 0 := by simpa [Str.length] using e
        have : z.cps = #[] := Array.eq_empty_of_size_eq_zero hz
        obtain ⟨cps⟩ := z
        simp only at this
        subst this
        simp
    · rw [if_neg h1, foldl_flat]
      simp
def dMulT (a b : D) : Option R := match a, b with
  | .str z, .int k => if z.length ≤ 1000 ∧ -1000 ≤ k ∧ k ≤ 1000 then some (.v (.str (mulT z k))) else none
  | _, _ => none
theorem od_mulT : OpD X (binaryOp .Mult) dMulT := by
  refine ⟨fun x y H Q => ∃ z k, x = .str z ∧ y = .int k ∧ z.length ≤ 1000 ∧ -1000 ≤ k ∧ k ≤ 1000 ∧ Q (.str (mulT z k)) H, ?_, fun F H x y a b res Q e va vb hg k => ?_⟩
  · intro pins s σ H x y v u Q I rx ry h
    obtain ⟨z, k, rfl, rfl, h1, h2, h3, q⟩ := h
    obtain ⟨t, rfl⟩ := rx
    obtain ⟨t', rfl⟩ := ry
    have h4 : z.length * k.toNat ≤ 1000 * 1000 := Nat.mul_le_mul h1 (by omega)
    refine SB.mul ⟨by rw [decide_eq_false (by omega), decide_eq_false (by omega)]; rfl, fun hk _ hc => ?_, fun hk _ => ?_⟩ fun t2 k2 => ⟨.str (mulT z k), H, I.tok _, ⟨t2, by rw [mulT_eq]⟩, q⟩
    · have h5 : (1000000 : Int) ≤ 9223372036854775807 / k := Int.le_ediv_of_mul_le (by omega) (by omega)
      have h6 : (2 ^ 63 - 1 : Int) = 9223372036854775807 := by decide
      rw [h6] at hc
      omega
    · have hs : sizeLine = 16777216 := sizeLine_eq
      unfold Builtin.Str.tooLong
      simp only [decide_eq_false_iff_not]
      omega
  · match a, b, hg with
    | .str z, .int j, hg =>
      obtain ⟨ok, hg⟩ := Option.ite_none_right_eq_some.mp hg
      cases hg
      refine ⟨z, j, va.str.1, vb.int, ok.1, ok.2.1, ok.2.2, k _ H (.inl ⟨rfl, .str _ ?_⟩)⟩
      have hz := va.str.2
      have hz2 : z.cps.toList.length ≤ 1000 := by simpa [Str.length] using ok.1
      unfold mulT
      split
      · exact ⟨Nat.zero_le _, by simp⟩
      · refine ⟨?_, ?_⟩
        · show (((List.replicate j.toNat z.cps.toList).flatten).toArray).size ≤ sizeLine
          have h4 : j.toNat * z.cps.toList.length ≤ 1000 * 1000 := Nat.mul_le_mul (by omega) hz2
          have hs : sizeLine = 16777216 := sizeLine_eq
          simp only [List.size_toArray, List.length_flatten, List.map_replicate, List.sum_replicate_nat]
          omega
        · have h2 := hz.2
          rw [← Array.all_toList, List.all_eq_true] at h2
          show (((List.replicate j.toNat z.cps.toList).flatten).toArray).all _ = true
          rw [List.all_toArray, List.all_eq_true]
          intro c hc
          obtain ⟨l, hl, hc⟩ := List.mem_flatten.mp hc
          rw [List.eq_of_mem_replicate hl] at hc
          exact h2 c hc
theorem od_repL : OpD X (binaryOp .Mult) dRepL := by
  refine ⟨_, op_rep, fun F H x y a b res Q e va vb hg k => ?_⟩
  match a, b, hg with
  | .lst xs, .int j, hg =>
    obtain ⟨ok, hg⟩ := Option.ite_none_right_eq_some.mp hg
    cases hg
    obtain ⟨p, vs, rfl, s, r, l⟩ := va.lst e
    have hs : sizeLine = 16777216 := sizeLine_eq
    refine ⟨p, j, vs, rfl, vb.int, s, by omega, by omega, by rw [r.length]; omega, fun q n => k _ _ (Ou.newL n (r.replicate _) ?_)⟩
    simp only [List.length_flatten, List.map_replicate, List.sum_replicate_nat]
    have := Nat.mul_comm j.toNat xs.length
    omega
def dMul (a b : D) : Option R := ((dII mulI) a b).or ((dMulT a b).or (dRepL a b))
theorem od_mul : OpD X (binaryOp .Mult) dMul := od_mulI.or (od_mulT.or od_repL)
end

/-! ### the law's own _law_same -/
noncomputable def mSame (g : FN) : EF Fl :=
  (bSeq (bIf (mOr (mAnd (mTru (mP (mQ (mIsi "tuple" (mSlot 0))))) (mTru (mP (mQ (mIsi "tuple" (mSlot 1)))))) (mAnd (mTru (mP (mQ (mIsi "list" (mSlot 0))))) (mTru (mP (mQ (mIsi "list" (mSlot 1))))))) (bRet (mE (mAndV (mQ (m2 dEq (mP (mQ (mCall cLenA (mCons (mSlot 0) mNil)))) (mP (mQ (mCall cLenA (mCons (mSlot 1) mNil)))))) (mQ (mCall1 cAll (mLc (iRg1 (mCons (mP (mQ (mCall cLenA (mCons (mSlot 0) mNil)))) mNil)) (gSet 2) mYes (mQ (mFn g (mCons (mP (mQ (m2 dIx (mSlot 0) (mSlot 2)))) (mCons (mP (mQ (m2 dIx (mSlot 1) (mSlot 2)))) mNil)))) [2])))))) bNil)
  (bSeq (bIf (mOr (mTru (mP (mQ (mIsi "bool" (mSlot 0))))) (mTru (mP (mQ (mIsi "bool" (mSlot 1)))))) (bRet (mE (mAndV (mQ (mIsi "bool" (mSlot 0))) (mAndV (mQ (mIsi "bool" (mSlot 1))) (mQ (m2 dEq (mSlot 0) (mSlot 1))))))) bNil)
  (bSeq (bIf (mOr (mAnd (mTru (mP (mQ (mIsi "int" (mSlot 0))))) (mTru (mP (mQ (mIsi "int" (mSlot 1)))))) (mAnd (mTru (mP (mQ (mIsi "str" (mSlot 0))))) (mTru (mP (mQ (mIsi "str" (mSlot 1))))))) (bRet (m2 dEq (mSlot 0) (mSlot 1))) bNil)
  (bRet (mE (mAndV (mQ (m2 (dIs false) (mSlot 0) (mP (mC .non)))) (mQ (m2 (dIs false) (mSlot 1) (mP (mC .non))))))))))
noncomputable def frSame : Nat → FN
  | 0 => fun _ _ => none
  | k + 1 => run 3 (mSame (frSame k))
mutual
/-- plain data of at most that depth, lists of fair length -/
def fair : Nat → D → Bool
  | 0, _ => false
  | _ + 1, .non => true
  | _ + 1, .bl _ => true
  | _ + 1, .int _ => true
  | _ + 1, .str _ => true
  | k + 1, .tup xs => decide (xs.length ≤ 16000000) && fairAll k xs
  | k + 1, .lst xs => decide (xs.length ≤ 16000000) && fairAll k xs
  | _ + 1, .dic _ => false
  | _ + 1, .st _ => false
def fairAll : Nat → List D → Bool
  | _, [] => true
  | k, x :: xs => fair k x && fairAll k xs
end
theorem fairAll_mem : ∀ {k : Nat} {xs : List D}, fairAll k xs = true → ∀ x ∈ xs, fair k x = true
  | _, [], _, _, h => by cases h
  | k, y :: ys, h, x, hx => by
    unfold fairAll at h
    rw [Bool.and_eq_true] at h
    rcases List.mem_cons.mp hx with rfl | hx
    · exact h.1
    · exact fairAll_mem h.2 x hx
@[simp] theorem isi_tt : kitB "tuple" "tuple" = some true := by decide +kernel
@[simp] theorem dEq_int (i j : Int) : dEq (.int i) (.int j) = some (.v (.bl (decide (i = j)))) := by
  simp [dEq, eqOk, deqv, D.nd, D.py, PyData.depth, PyData.eqv]
  rfl
@[simp] theorem dNe_int (i j : Int) : dNe (.int i) (.int j) = some (.v (.bl (!decide (i = j)))) := by
  simp [dNe, eqOk, deqv, D.nd, D.py, PyData.depth, PyData.eqv]
  rfl
@[simp] theorem dEq_str (i j : Str) : dEq (.str i) (.str j) = some (.v (.bl (decide (i = j)))) := by
  simp [dEq, eqOk, deqv, D.nd, D.py, PyData.depth, PyData.eqv]
  rfl
@[simp] theorem dNe_str (i j : Str) : dNe (.str i) (.str j) = some (.v (.bl (!decide (i = j)))) := by
  simp [dNe, eqOk, deqv, D.nd, D.py, PyData.depth, PyData.eqv]
  rfl
@[simp] theorem dEq_bl (i j : Bool) : dEq (.bl i) (.bl j) = some (.v (.bl (decide (i = j)))) := by
  simp [dEq, eqOk, deqv, D.nd, D.py, PyData.depth, PyData.eqv]
  cases i <;> cases j <;> rfl
@[simp] theorem k_non (T : String) (h : T = "tuple" ∨ T = "list" ∨ T = "bool" ∨ T = "int" ∨ T = "str" ∨ T = "dict") : kitB "NoneType" T = some false := by rcases h with rfl | rfl | rfl | rfl | rfl | rfl <;> decide +kernel
theorem kits : kitB "NoneType" "tuple" = some false ∧ kitB "NoneType" "list" = some false ∧ kitB "NoneType" "bool" = some false ∧ kitB "NoneType" "int" = some false ∧ kitB "NoneType" "str" = some false ∧ kitB "NoneType" "dict" = some false ∧
  kitB "bool" "tuple" = some false ∧ kitB "bool" "list" = some false ∧ kitB "bool" "bool" = some true ∧ kitB "bool" "int" = some true ∧ kitB "bool" "str" = some false ∧ kitB "bool" "dict" = some false ∧
  kitB "int" "tuple" = some false ∧ kitB "int" "list" = some false ∧ kitB "int" "bool" = some false ∧ kitB "int" "int" = some true ∧ kitB "int" "str" = some false ∧ kitB "int" "dict" = some false ∧
  kitB "str" "tuple" = some false ∧ kitB "str" "list" = some false ∧ kitB "str" "bool" = some false ∧ kitB "str" "int" = some false ∧ kitB "str" "str" = some true ∧ kitB "str" "dict" = some false ∧
  kitB "tuple" "tuple" = some true ∧ kitB "tuple" "list" = some false ∧ kitB "tuple" "bool" = some false ∧ kitB "tuple" "int" = some false ∧ kitB "tuple" "str" = some false ∧ kitB "tuple" "dict" = some false ∧
  kitB "list" "tuple" = some false ∧ kitB "list" "list" = some true ∧ kitB "list" "bool" = some false ∧ kitB "list" "int" = some false ∧ kitB "list" "str" = some false ∧ kitB "list" "dict" = some false ∧
  kitB "dict" "tuple" = some false ∧ kitB "dict" "list" = some false ∧ kitB "dict" "bool" = some false ∧ kitB "dict" "int" = some false ∧ kitB "dict" "str" = some false ∧ kitB "dict" "dict" = some true := by decide +kernel
@[simp] theorem tn_non : D.tn .non = "NoneType" := rfl
@[simp] theorem tn_bl (b : Bool) : D.tn (.bl b) = "bool" := rfl
@[simp] theorem tn_int (b : Int) : D.tn (.int b) = "int" := rfl
@[simp] theorem tn_str (b : Str) : D.tn (.str b) = "str" := rfl
@[simp] theorem tn_tup (b : List D) : D.tn (.tup b) = "tuple" := rfl
@[simp] theorem tn_lst (b : List D) : D.tn (.lst b) = "list" := rfl
@[simp] theorem tn_dic (b : List (D × D)) : D.tn (.dic b) = "dict" := rfl
@[simp] theorem truth_bl (b : Bool) : truth (.bl b) = some b := rfl
@[simp] theorem cLen_tup (xs : List D) : cLenA [.tup xs] = some (.v (.int xs.length)) := rfl
@[simp] theorem cLen_lst (xs : List D) : cLenA [.lst xs] = some (.v (.int xs.length)) := rfl
@[simp] theorem cLen_str (x : Str) : cLenA [.str x] = some (.v (.int x.length)) := rfl
@[simp] theorem dIx_tup (xs : List D) (i : Int) : dIx (.tup xs) (.int i) = (atI xs i).bind fun d => some (.v d) := by
  simp [dIx, ixL, ixT, ixS, ixD]
@[simp] theorem dIx_lst (xs : List D) (i : Int) : dIx (.lst xs) (.int i) = (atI xs i).bind fun d => some (.v d) := by
  simp [dIx, ixL, ixT, ixS, ixD]
@[simp] theorem dIx_str (x : Str) (i : Int) : dIx (.str x) (.int i) = (atI x.cps.toList i).bind fun c => some (.v (.str ⟨#[c]⟩)) := by
  simp [dIx, ixL, ixT, ixS, ixD]
theorem atI_nat {α : Type} {xs : List α} {i : Nat} (h : i < xs.length) : atI xs (i : Int) = some xs[i] := by
  unfold atI ixN
  rw [if_pos (by omega), if_pos (by omega)]
  simp [h]
@[simp] theorem dIs_non : dIs false .non .non = some (.v (.bl true)) := rfl
@[simp] theorem cAll_bools (bs : List Bool) : cAll [.lst (bs.map D.bl)] = some (.v (.bl (bs.all id))) := by
  simp [cAll, lOf, dBools_map]
@[simp] theorem cAny_bools (bs : List Bool) : cAny [.lst (bs.map D.bl)] = some (.v (.bl (bs.any id))) := by
  simp [cAny, lOf, dBools_map]
@[simp] theorem cAll_rep (n : Nat) : cAll [.lst (List.replicate n (.bl true))] = some (.v (.bl true)) := by
  have : List.replicate n (D.bl true) = (List.replicate n true).map D.bl := by rw [List.map_replicate]
  rw [this, cAll_bools]
  simp
/-- _law_same of a value and itself -/
theorem same_refl : ∀ (k j : Nat) (a : D) (bx : Bx), fair k a = true → k ≤ j → frSame j [.v a, .v a] bx = some (.v (.bl true), bx)
  | 0, _, a, _, h, _ => by simp [fair] at h
  | k + 1, 0, _, _, _, hj => by omega
  | k + 1, j + 1, a, bx, h, hj => by
    have K := kits
    have seq : ∀ (xs : List D), decide (xs.length ≤ 16000000) = true → fairAll k xs = true → ∀ a, (∀ i : Nat, i < xs.length → dIx a (.int (i : Int)) = (xs[i]?).map R.v) →
        cLoop (gSet 2) mYes (mQ (mFn (frSame j) (mCons (mP (mQ (m2 dIx (mSlot 0) (mSlot 2)))) (mCons (mP (mQ (m2 dIx (mSlot 1) (mSlot 2)))) mNil)))) [2] (rangeD 0 xs.length) [] ⟨[.v a, .v a, .no], bx⟩ = some ((List.replicate xs.length true).map D.bl, ⟨[.v a, .v a, .no], bx⟩) := by
      intro xs hl hf a hix
      have := cLoop_map (tg := gSet 2) (ft := mYes) (fe := (mQ (mFn (frSame j) (mCons (mP (mQ (m2 dIx (mSlot 0) (mSlot 2)))) (mCons (mP (mQ (m2 dIx (mSlot 1) (mSlot 2)))) mNil))))) (vs := [2]) (E := ⟨[.v a, .v a, .no], bx⟩) (b := fun _ => true) (y := fun _ => .bl true) (rangeD 0 xs.length) [] (fun d hd => ?_) ⟨[.v a, .v a, .no], bx⟩ rfl
      · have e1 : (rangeD 0 xs.length).filter (fun _ => true) = rangeD 0 xs.length := List.filter_eq_self.mpr (fun _ _ => rfl)
        have e2 : (rangeD 0 xs.length).map (fun _ => D.bl true) = (List.replicate xs.length true).map D.bl := by
          rw [List.map_const', List.map_replicate, rangeD_len]
        rw [this, e1, e2]
        rfl
      · unfold rangeD at hd
        obtain ⟨i, hi, rfl⟩ := List.mem_map.mp hd
        have hi := List.mem_range.mp hi
        have e := hix i hi
        rw [List.getElem?_eq_getElem hi] at e
        have fm := fairAll_mem hf xs[i] (List.getElem_mem hi)
        have ih := same_refl k j xs[i] bx fm (by omega)
        refine ⟨(), ⟨[.v a, .v a, .v (.int (i : Int))], bx⟩, ⟨[.v a, .v a, .v (.int (i : Int))], bx⟩, by simp [wE], rfl, fun _ => ⟨⟨[.v a, .v a, .v (.int (i : Int))], bx⟩, ?_, by simp [wE]⟩, fun h => by cases h⟩
        simp [e_mSlot, e, e_argv, ih]
    cases a with
    | non => simp [frSame, run, mSame, e_mSlot, e_mVar, e_mOwn, K]
    | bl b => simp [frSame, run, mSame, e_mSlot, e_mVar, e_mOwn, K]
    | int b => simp [frSame, run, mSame, e_mSlot, e_mVar, e_mOwn, K]
    | str b => simp [frSame, run, mSame, e_mSlot, e_mVar, e_mOwn, K]
    | dic b => simp [fair] at h
    | st b => simp [fair] at h
    | tup xs =>
      unfold fair at h
      rw [Bool.and_eq_true] at h
      have hl : xs.length ≤ 16000000 := of_decide_eq_true h.1
      have hs : sizeLine = 16777216 := sizeLine_eq
      have := seq xs h.1 h.2 (.tup xs) fun i hi => by simp [atI_nat hi, hi]
      have g1 : rg (xs.length : Int) = some (rangeD 0 xs.length) := rg_nat (by omega)
      have g3 : xs.length ≤ sizeLine := by omega
      simp [frSame, run, mSame, e_mSlot, e_mVar, e_mOwn, K, g1, rangeD_len, g3, this, back, backS]
    | lst xs =>
      unfold fair at h
      rw [Bool.and_eq_true] at h
      have hl : xs.length ≤ 16000000 := of_decide_eq_true h.1
      have hs : sizeLine = 16777216 := sizeLine_eq
      have := seq xs h.1 h.2 (.lst xs) fun i hi => by simp [atI_nat hi, hi]
      have g1 : rg (xs.length : Int) = some (rangeD 0 xs.length) := rg_nat (by omega)
      have g3 : xs.length ≤ sizeLine := by omega
      simp [frSame, run, mSame, e_mSlot, e_mVar, e_mOwn, K, g1, rangeD_len, g3, this, back, backS]
/-! ### what is drawn -/
structure BG (bx : Bx) : Prop where
  ex : ∃ cs a st, bx = (cs, [a, st]) ∧ (∀ c ∈ cs, bits c ≤ 1048576) ∧ bits st ≤ 64
theorem bg0 {ns : List Int} (hl : ns.length ≤ 63) (h : ∀ z ∈ ns, bits z ≤ 1048576) : BG (bx0 ns) := ⟨ns, 0, 4711 + (ns.length : Int), rfl, h, bits_c (by omega)⟩
theorem load_ok {bx : Bx} (h : BG bx) : ∃ r cs a st, bxLoad bx = some (r, (cs, [a, st])) ∧ (∀ c ∈ cs, bits c ≤ 1048576) ∧ bits st ≤ 64 := by
  obtain ⟨cs, a, st, rfl, hc, hs⟩ := h.ex
  cases cs with
  | nil => exact ⟨finR st, [], a, fin3 st, by simp [bxLoad, hs], by simp, fin3_bits _⟩
  | cons c cs =>
    have hcc := hc c List.mem_cons_self
    by_cases z : (1000000000000000000 : Int) ≤ sizeC c
    · exact ⟨_, cs, a, st, by simp [bxLoad, hs, hcc, z]; rfl, fun x hx => hc x (List.mem_cons_of_mem _ hx), hs⟩
    · exact ⟨_, cs, a, fin3 (stepS st (sizeC c)), by simp [bxLoad, hs, hcc, z]; rfl, fun x hx => hc x (List.mem_cons_of_mem _ hx), fin3_bits _⟩
theorem draw_ok {bx : Bx} {m : Int} (h : BG bx) (h0 : 0 < m) (h1 : m ≤ 2 ^ 100) : ∃ r bx', fnDraw [.bx, .v (.int m)] bx = some (.v (.int r), bx') ∧ BG bx' ∧ 0 ≤ r ∧ r < m := by
  have hm : m.natAbs.log2 < 9000 := by
    have : m.natAbs < 2 ^ 101 := by omega
    have := PySem.Flt.log2_lt_of (by decide : 0 < 101) this
    omega
  obtain ⟨cs, a, st, rfl, hc, hs⟩ := h.ex
  have l0 : ∀ x : Int, 0 ≤ x % m ∧ x % m < m := fun x => ⟨Int.emod_nonneg x (by omega), Int.emod_lt_of_pos x h0⟩
  by_cases z : a < m
  · obtain ⟨r, cs2, a2, st2, e, g1, g2⟩ := load_ok h
    refine ⟨r % m, (cs2, [r / m, st2]), ?_, ⟨cs2, _, _, rfl, g1, g2⟩, (l0 r).1, (l0 r).2⟩
    simp [fnDraw, bxDraw, h0, hm, z, e]
  · refine ⟨a % m, (cs, [a / m, st]), ?_, ⟨cs, _, _, rfl, hc, hs⟩, (l0 a).1, (l0 a).2⟩
    simp [fnDraw, bxDraw, h0, hm, z]
end PV

namespace PV
open PySem L2 PyProof.Rows
/-! ### texts as lists of signs -/
def tx (cs : List Nat) : Str := ⟨cs.toArray⟩
def T (cs : List Nat) : D := .str (tx cs)
@[simp] theorem tx_list (cs : List Nat) : (tx cs).cps.toList = cs := rfl
@[simp] theorem tx_len (cs : List Nat) : (tx cs).length = cs.length := by simp [tx, Str.length]
theorem tx_inj {a b : List Nat} : tx a = tx b ↔ a = b := by
  constructor
  · intro h
    have := congrArg (fun x : Str => x.cps.toList) h
    simpa using this
  · rintro rfl; rfl
theorem T_inj {a b : List Nat} : T a = T b ↔ a = b := by
  unfold T
  constructor
  · intro h; cases h; exact rfl
  · rintro rfl; rfl
@[simp] theorem tn_T (a : List Nat) : (T a).tn = "str" := rfl
@[simp] theorem truth_T (a : List Nat) : truth (T a) = some ((a.length : Int) != 0) := by
  show some (((tx a).length : Int) != 0) = _
  rw [tx_len]
@[simp] theorem cLen_T (cs : List Nat) : cLenA [T cs] = some (.v (.int cs.length)) := by
  show cLenA [.str (tx cs)] = _
  rw [cLen_str, tx_len]
@[simp] theorem dEq_T (a b : List Nat) : dEq (T a) (T b) = some (.v (.bl (decide (a = b)))) := by
  show dEq (.str (tx a)) (.str (tx b)) = _
  rw [dEq_str]
  simp [tx_inj]
@[simp] theorem dNe_T (a b : List Nat) : dNe (T a) (T b) = some (.v (.bl (!decide (a = b)))) := by
  show dNe (.str (tx a)) (.str (tx b)) = _
  rw [dNe_str]
  simp [tx_inj]
theorem dIx_T {cs : List Nat} {p : Nat} (h : p < cs.length) : dIx (T cs) (.int (p : Int)) = some (.v (T [cs[p]])) := by
  show dIx (.str (tx cs)) _ = _
  rw [dIx_str, tx_list, atI_nat h]
  rfl
theorem dAdd_T {a b : List Nat} (h : a.length + b.length ≤ 16777216) : dAdd (T a) (T b) = some (.v (T (a ++ b))) := by
  have e : dAdd (T a) (T b) = dAddT (.str (tx a)) (.str (tx b)) := by
    simp only [dAdd, T, dII, dAddL, dAddU]
    simp
  rw [e]
  show (if (tx a).length + (tx b).length ≤ sizeLine then some (R.v (D.str (tx a ++ tx b))) else none) = _
  rw [if_pos (by rw [tx_len, tx_len, sizeLine_eq]; exact h)]
  have : tx a ++ tx b = tx (a ++ b) := by
    show (⟨(tx a).cps ++ (tx b).cps⟩ : Str) = tx (a ++ b)
    simp [tx]
  rw [this]; rfl
theorem dSl_T (cs : List Nat) (lo hi : Option Int) : dSl (T cs) lo hi = some (.v (T (cutD cs lo hi))) := by
  show dSl (.str (tx cs)) lo hi = _
  simp only [dSl, slL, slT, slS, cutT, tx_list]
  rfl
theorem cut_to {α : Type} {cs : List α} {p : Nat} (h : p ≤ cs.length) : cutD cs none (some (p : Int)) = cs.take p := by
  unfold cutD
  rw [HT.sIx_none, HT.sIx_nat, List.drop_zero, Nat.sub_zero, Nat.min_eq_left h]
theorem cut_from {α : Type} {cs : List α} {p : Nat} (h : p ≤ cs.length) : cutD cs (some (p : Int)) none = cs.drop p := by
  unfold cutD
  rw [HT.sIx_none, HT.sIx_nat, Nat.min_eq_left h]
  rw [List.take_of_length_le]
  rw [List.length_drop]
  exact Nat.le_refl _
@[simp] theorem items_T (cs : List Nat) : items (T cs) = some (cs.map fun c => T [c]) := rfl
@[simp] theorem items_lst (ds : List D) : items (.lst ds) = some ds := rfl
@[simp] theorem items_tup (ds : List D) : items (.tup ds) = some ds := rfl
@[simp] theorem cList_T (cs : List Nat) : cList [T cs] = some (.f (.lst (cs.map fun c => T [c]))) := rfl
/-- signs 0 to 9 -/
def dig (c : Nat) : Prop := 48 ≤ c ∧ c ≤ 57
instance (c : Nat) : Decidable (dig c) := inferInstanceAs (Decidable (_ ∧ _))
theorem cInt_T {cs : List Nat} (h : ∀ c ∈ cs, dig c) (h0 : cs ≠ []) (hl : cs.length ≤ 640) : cIntA [T cs] = some (.v (.int ((PySem.NumText.digitsVal cs : Nat) : Int))) := by
  show (cInt [.str (tx cs)]).or (cIntT [.str (tx cs)]) = _
  have h1 : PySem.intText? (tx cs) = some ((PySem.NumText.digitsVal cs : Nat) : Int) := PySem.intText_digits (x := tx cs) h h0 (by rw [tx_len]; omega)
  have e : cIntT [.str (tx cs)] = some (.v (.int ((PySem.NumText.digitsVal cs : Nat) : Int))) := by
    show (if (tx cs).length ≤ 640 then (PySem.intText? (tx cs)).bind fun n => some (R.v (D.int n)) else none) = _
    rw [if_pos (by rw [tx_len]; exact hl), h1]; rfl
  rw [e]; rfl
theorem tT {x : Str} {cs : List Nat} (h : x = tx cs) : D.str x = T cs := by rw [h]; rfl
@[simp] theorem dAdd_int (i j : Int) : dAdd (.int i) (.int j) = some (.v (.int (i + j))) := rfl
@[simp] theorem dSub_int (i j : Int) : dSub (.int i) (.int j) = some (.v (.int (i - j))) := rfl
@[simp] theorem dLt_int' (i j : Int) : dLtI (.int i) (.int j) = some (.v (.bl (decide (i < j)))) := rfl
@[simp] theorem dLe_int' (i j : Int) : dLeI (.int i) (.int j) = some (.v (.bl (decide (i ≤ j)))) := rfl
@[simp] theorem dGt_int' (i j : Int) : dGtI (.int i) (.int j) = some (.v (.bl (decide (j < i)))) := rfl
@[simp] theorem dGe_int' (i j : Int) : dGeI (.int i) (.int j) = some (.v (.bl (decide (j ≤ i)))) := rfl
theorem dMod_int {i j : Int} (h : 0 < j) : dII modI (.int i) (.int j) = some (.v (.int (i % j))) := by simp [dII, modI, h]
theorem dFdiv_int {i j : Int} (h : 0 < j) (h2 : j < 2 ^ 100) : dII fdivI (.int i) (.int j) = some (.v (.int (i / j))) := by
  have : j.natAbs.log2 < 9000 := by
    have h3 : j.natAbs < 2 ^ 101 := by omega
    have := PySem.Flt.log2_lt_of (by decide : 0 < 101) h3
    omega
  simp [dII, fdivI, h, this]
theorem log2_small {i : Int} (h : i.natAbs < 2 ^ 400000) : i.natAbs.log2 < 400000 := PySem.Flt.log2_lt_of (by decide) h
theorem dMul_int {i j : Int} (hi : i.natAbs.log2 + j.natAbs.log2 < 1000000) : dMul (.int i) (.int j) = some (.v (.int (i * j))) := by
  unfold dMul
  simp [dII, mulI, hi]
theorem lg {i : Int} {n : Nat} (h0 : 0 < n) (h : i.natAbs < 2 ^ n) : i.natAbs.log2 < n := PySem.Flt.log2_lt_of h0 h
@[simp] theorem cAll_cons (ds : List D) : cAll [.lst ds] = (dBools ds).bind fun bs => some (.v (.bl (bs.all id))) := rfl
end PV

namespace PV
open PySem L2 PyProof.Rows
/-! ### slots, evaluated -/
def sP (i : Nat) (E : En) : Option Sl → Option (P × En)
  | some (.v d) => some (.v d, E)
  | some .no => none
  | some _ => some (.s i, E)
  | none => none
def sV (i : Nat) (E : En) : Option Sl → Option (D × En)
  | some (.v d) => some (d, E)
  | some (.o false (.lst ds)) => some (.lst ds, { E with sl := E.sl.set i (.v (.lst ds)) })
  | _ => none
def sW (i : Nat) (E : En) : Option Sl → Option (R × En)
  | some (.v d) => some (.v d, E)
  | some (.o false d) => some (.f d, { E with sl := E.sl.set i .no })
  | _ => none
def sG : Option Sl → Option D
  | some (.v d) => some d
  | some (.o _ d) => some d
  | some (.b d) => some d
  | _ => none
def sA : Option Sl → Option Sl
  | some (.v d) => some (.v d)
  | some (.o _ d) => some (.b d)
  | some (.b d) => some (.b d)
  | some .bx => some .bx
  | _ => none
def sM {α : Type} (o : Option Sl) (x : Option α) : Option α := match o with
  | some (.o false (.lst _)) => x
  | _ => none
section
variable {i : Nat} {E : En} {d : D} {l : Bool} {ds : List D} {α : Type} {x : Option α}
@[simp] theorem e_slot (i : Nat) (E : En) : mSlot i E = sP i E E.sl[i]? := rfl
@[simp] theorem e_var (i : Nat) (E : En) : mVar i E = sV i E E.sl[i]? := rfl
@[simp] theorem e_own (i : Nat) (E : En) : mOwn i E = sW i E E.sl[i]? := rfl
@[simp] theorem e_sget (i : Nat) (E : En) : (P.s i).get E = sG E.sl[i]? := rfl
@[simp] theorem e_varg (d : D) (E : En) : (P.v d).arg E = some (.v d) := rfl
@[simp] theorem e_sarg (i : Nat) (E : En) : (P.s i).arg E = sA E.sl[i]? := rfl
@[simp] theorem e_mu (g : D → List D → Option (D × D)) (i : Nat) (fa : EF (List D)) (E : En) : mMu g i fa E = sM E.sl[i]? ((fa E).bind fun x => (isO x.2.sl[i]?).bind fun d => (g d x.1).bind fun y => some (.v y.1, { x.2 with sl := x.2.sl.set i (.o false y.2) })) := by
  cases h : E.sl[i]? with
  | none => unfold mMu sM; rw [h]
  | some s =>
    cases s with
    | o l d =>
      cases l with
      | true => unfold mMu sM; rw [h]
      | false =>
        cases d with
        | lst ds => exact e_mMu h
        | _ => unfold mMu sM; rw [h]
    | _ => unfold mMu sM; rw [h]
@[simp] theorem sP_v : sP i E (some (.v d)) = some (.v d, E) := rfl
@[simp] theorem sP_o : sP i E (some (.o l d)) = some (.s i, E) := rfl
@[simp] theorem sP_b : sP i E (some (.b d)) = some (.s i, E) := rfl
@[simp] theorem sP_x : sP i E (some .bx) = some (.s i, E) := rfl
@[simp] theorem sV_v : sV i E (some (.v d)) = some (d, E) := rfl
@[simp] theorem sV_o : sV i E (some (.o false (.lst ds))) = some (.lst ds, { E with sl := E.sl.set i (.v (.lst ds)) }) := rfl
@[simp] theorem sW_v : sW i E (some (.v d)) = some (.v d, E) := rfl
@[simp] theorem sW_o : sW i E (some (.o false d)) = some (.f d, { E with sl := E.sl.set i .no }) := rfl
@[simp] theorem sG_v : sG (some (.v d)) = some d := rfl
@[simp] theorem sG_o : sG (some (.o l d)) = some d := rfl
@[simp] theorem sG_b : sG (some (.b d)) = some d := rfl
@[simp] theorem sA_v : sA (some (.v d)) = some (.v d) := rfl
@[simp] theorem sA_o : sA (some (.o l d)) = some (.b d) := rfl
@[simp] theorem sA_b : sA (some (.b d)) = some (.b d) := rfl
@[simp] theorem sA_x : sA (some .bx) = some .bx := rfl
@[simp] theorem sM_o : sM (some (.o false (.lst ds))) x = x := rfl
end
/-- one turn that goes on -/
def bStep (tg : D → EF Unit) (fb : EF Fl) (d : D) (E : En) : Option En := (tg d E).bind fun e => (fb e.2).bind fun y => match y.1 with
  | .nx => some y.2
  | .ct => some y.2
  | _ => none
theorem bst {p : Option En} {Q : En → Prop} {E2 : En} (h : p = some E2) (q : Q E2) : ∃ E2, p = some E2 ∧ Q E2 := ⟨E2, h, q⟩
/-- a loop is a fold -/
theorem bLoop_fold {S α : Type} {g : α → D} {st : S → α → S} {I : S → En → Prop} {tg : D → EF Unit} {fb : EF Fl} : ∀ (xs : List α) (s : S) (E : En), I s E →
    (∀ x ∈ xs, ∀ s E, I s E → ∃ E2, bStep tg fb (g x) E = some E2 ∧ I (st s x) E2) → ∃ E', bLoop tg fb (xs.map g) E = some (.nx, E') ∧ I (xs.foldl st s) E'
  | [], s, E, h0, _ => ⟨E, rfl, h0⟩
  | x :: xs, s, E, h0, hs => by
    obtain ⟨E2, h2, h3⟩ := hs x List.mem_cons_self s E h0
    obtain ⟨E', h4, h5⟩ := bLoop_fold xs (st s x) E2 h3 fun y hy => hs y (List.mem_cons_of_mem _ hy)
    refine ⟨E', ?_, h5⟩
    rw [List.map_cons]
    unfold bLoop
    unfold bStep at h2
    obtain ⟨e, h6, h2⟩ := bsome h2
    obtain ⟨⟨fl, E3⟩, h7, h2⟩ := bsome h2
    rw [h6]
    show (fb e.2).bind _ = _
    rw [h7]
    cases fl with
    | nx => cases h2; exact h4
    | ct => cases h2; exact h4
    | bk => cases h2
    | rt r => cases h2
/-- a comprehension is a filter and a map -/
theorem mLc_map {α : Type} {g : α → D} {b : α → Bool} {y : α → D} {fi : EF (List D × Option Nat)} {tg : D → EF Unit} {ft : EF Bool} {fe : EF D} {vs : List Nat} {E E1 E' : En} {lk : Option Nat} (xs : List α)
    (h1 : fi E = some ((xs.map g, lk), E1)) (hl : xs.length ≤ sizeLine) (hb : unlk lk (back vs E1 (wE vs E1)) = E')
    (step : ∀ x ∈ xs, ∃ E2 E3, tg (g x) (wE vs E1) = some ((), E2) ∧ ft E2 = some (b x, E3) ∧ (b x = true → ∃ E4, fe E3 = some (y x, E4) ∧ wE vs E4 = wE vs E1) ∧ (b x = false → wE vs E3 = wE vs E1)) :
    mLc fi tg ft fe vs E = some (.f (.lst ((xs.filter b).map y)), E') := by
  have go : ∀ (xs : List α) (acc : List D) (E0 : En), (∀ x ∈ xs, ∃ E2 E3, tg (g x) (wE vs E1) = some ((), E2) ∧ ft E2 = some (b x, E3) ∧ (b x = true → ∃ E4, fe E3 = some (y x, E4) ∧ wE vs E4 = wE vs E1) ∧ (b x = false → wE vs E3 = wE vs E1)) →
      wE vs E0 = wE vs E1 → cLoop tg ft fe vs (xs.map g) acc E0 = some (acc ++ (xs.filter b).map y, wE vs E1) := by
    intro xs
    induction xs with
    | nil => intro acc E0 _ h0; unfold cLoop; simp [h0]
    | cons x xs ih =>
      intro acc E0 h h0
      obtain ⟨E2, E3, q1, q2, q3, q4⟩ := h x List.mem_cons_self
      rw [List.map_cons]
      unfold cLoop
      rw [h0, q1]
      show (ft E2).bind _ = _
      rw [q2]
      cases hbx : b x with
      | true =>
        obtain ⟨E4, q5, q6⟩ := q3 hbx
        show (fe E3).bind _ = _
        rw [q5]
        show cLoop tg ft fe vs (xs.map g) (acc ++ [y x]) E4 = _
        rw [ih _ _ (fun z hz => h z (List.mem_cons_of_mem _ hz)) q6, List.filter_cons_of_pos hbx, List.map_cons, List.append_assoc]
        rfl
      | false =>
        show cLoop tg ft fe vs (xs.map g) acc E3 = _
        rw [ih _ _ (fun z hz => h z (List.mem_cons_of_mem _ hz)) (q4 hbx), List.filter_cons_of_neg (by simp [hbx])]
  rw [e_mLc, h1]
  show (if (xs.map g).length ≤ sizeLine then _ else _) = _
  rw [if_pos (by rw [List.length_map]; exact hl)]
  show ((cLoop tg ft fe vs (xs.map g) [] E1).bind _) = _
  rw [go xs [] E1 step rfl]
  show some (R.f (D.lst ([] ++ (xs.filter b).map y)), unlk lk (back vs E1 (wE vs E1))) = _
  rw [hb, List.nil_append]
theorem rangeD0 (n : Nat) : rangeD 0 n = (List.range n).map fun (i : Nat) => D.int (i : Int) := by
  unfold rangeD
  exact List.map_congr_left fun i _ => by simp
/-! ### dicts from ints to ints -/
def eI (kvs : List (Int × Int)) : List (D × D) := kvs.map fun x => (.int x.1, .int x.2)
def look (kvs : List (Int × Int)) (k : Int) : Option Int := (kvs.find? fun x => decide (x.1 = k)).map (·.2)
def put (kvs : List (Int × Int)) (k v : Int) : List (Int × Int) := if (kvs.any fun x => decide (x.1 = k)) = true then kvs.map (fun x => if x.1 = k then (x.1, v) else x) else kvs ++ [(k, v)]
theorem isK_int (i k : Int) : (D.int i).isK (.inl k) = decide (i = k) := by
  simp [D.isK, eq_comm]
theorem eI_look (kvs : List (Int × Int)) (k : Int) : dLook (eI kvs) (.inl k) = (look kvs k).map D.int := by
  unfold dLook look eI
  induction kvs with
  | nil => rfl
  | cons x xs ih =>
    rw [List.map_cons, List.find?_cons, List.find?_cons, isK_int]
    cases decide (x.1 = k) with
    | true => rfl
    | false => exact ih
theorem eI_put (kvs : List (Int × Int)) (k v : Int) : dPut (eI kvs) (.inl k) (.int v) = eI (put kvs k v) := by
  unfold dPut put eI
  have e : ((kvs.map fun x => (D.int x.1, D.int x.2)).any fun kv => kv.1.isK (.inl k)) = kvs.any fun x => decide (x.1 = k) := by
    rw [List.any_map]
    congr 1
    funext x
    exact isK_int _ _
  rw [e]
  by_cases h : (kvs.any fun x => decide (x.1 = k)) = true
  · rw [if_pos h, if_pos h, List.map_map, List.map_map]
    refine List.map_congr_left fun x _ => ?_
    simp only [Function.comp, isK_int, decide_eq_true_eq]
    by_cases z : x.1 = k
    · rw [if_pos z, if_pos z]
    · rw [if_neg z, if_neg z]
  · rw [if_neg h, if_neg h, List.map_append]
    rfl
@[simp] theorem eI_len (kvs : List (Int × Int)) : (eI kvs).length = kvs.length := List.length_map _
theorem eI_get (kvs : List (Int × Int)) (k c : Int) : dGet (eI kvs) (.int k) (.int c) = some (.int ((look kvs k).getD c)) := by
  show some ((dLook (eI kvs) (.inl k)).getD (.int c)) = _
  rw [eI_look]
  cases look kvs k <;> rfl
theorem eI_su {kvs : List (Int × Int)} (k v : Int) (h : kvs.length < 16777216) : suD (.dic (eI kvs)) (.int k) (.int v) = some (.dic (eI (put kvs k v))) := by
  have : suK (.dic (eI kvs)) (.int k) (.int v) = some (.dic (eI (put kvs k v))) := by
    show (if (eI kvs).length < sizeLine then some (D.dic (dPut (eI kvs) (.inl k) (.int v))) else none) = _
    rw [if_pos (by rw [eI_len, sizeLine_eq]; exact h), eI_put]
  unfold suD
  rw [this]
  rfl
theorem put_keys {kvs : List (Int × Int)} {k v j : Int} : j ∈ (put kvs k v).map (·.1) ↔ j ∈ kvs.map (·.1) ∨ j = k := by
  unfold put
  by_cases h : (kvs.any fun x => decide (x.1 = k)) = true
  · rw [if_pos h]
    have keys : (kvs.map (fun x => if x.1 = k then (x.1, v) else x)).map (·.1) = kvs.map (·.1) := by
      rw [List.map_map]
      refine List.map_congr_left fun x _ => ?_
      simp only [Function.comp]
      split <;> rfl
    rw [keys]
    refine ⟨.inl, fun z => z.elim id fun e => ?_⟩
    obtain ⟨x, hx, q⟩ := List.any_eq_true.mp h
    subst e
    exact List.mem_map.mpr ⟨x, hx, by simpa using q⟩
  · rw [if_neg h]
    simp
theorem put_nodup {kvs : List (Int × Int)} {k v : Int} (nd : (kvs.map (·.1)).Nodup) : ((put kvs k v).map (·.1)).Nodup := by
  unfold put
  by_cases h : (kvs.any fun x => decide (x.1 = k)) = true
  · rw [if_pos h]
    have keys : (kvs.map (fun x => if x.1 = k then (x.1, v) else x)).map (·.1) = kvs.map (·.1) := by
      rw [List.map_map]
      refine List.map_congr_left fun x _ => ?_
      simp only [Function.comp]
      split <;> rfl
    rw [keys]; exact nd
  · rw [if_neg h, List.map_append, List.nodup_append]
    refine ⟨nd, by simp, fun a ha b hb => ?_⟩
    simp at hb; subst hb
    rintro rfl
    obtain ⟨x, hx, q⟩ := List.mem_map.mp ha
    exact h (List.any_eq_true.mpr ⟨x, hx, by simpa using q⟩)
/-- keys once each, all in [0, n) -/
structure KB (n : Int) (kvs : List (Int × Int)) : Prop where
  nd : (kvs.map (·.1)).Nodup
  rg : ∀ x ∈ kvs, 0 ≤ x.1 ∧ x.1 < n
theorem KB.len {n : Int} {kvs : List (Int × Int)} (h : KB n kvs) : kvs.length ≤ n.toNat := by
  have : kvs.map (·.1) ⊆ (List.range n.toNat).map fun (i : Nat) => (i : Int) := fun x hx => by
    obtain ⟨y, hy, rfl⟩ := List.mem_map.mp hx
    have := h.rg y hy
    exact List.mem_map.mpr ⟨y.1.toNat, List.mem_range.mpr (by omega), by omega⟩
  have := List.Nodup.length_le_of_subset h.nd this
  simpa using this
theorem KB.put {n : Int} {kvs : List (Int × Int)} {k v : Int} (h : KB n kvs) (h0 : 0 ≤ k) (h1 : k < n) : KB n (put kvs k v) := by
  refine ⟨put_nodup h.nd, fun x hx => ?_⟩
  have := put_keys.mp (List.mem_map.mpr ⟨x, hx, rfl⟩ : x.1 ∈ (PV.put kvs k v).map (·.1))
  rcases this with q | q
  · obtain ⟨y, hy, e⟩ := List.mem_map.mp q
    rw [← e]; exact h.rg y hy
  · rw [q]; exact ⟨h0, h1⟩
/-! ### sorted -/
theorem sortI_eq {a b : List Int} (h : a.Perm b) (hs : b.Pairwise (· ≤ ·)) : sortI a = b :=
  List.Perm.eq_of_pairwise (le := (· ≤ ·)) (fun x y _ _ h1 h2 => Int.le_antisymm h1 h2) (sortI_sorted a) hs ((sortI_perm a).trans h)
theorem mem_sortI {a : List Int} {x : Int} : x ∈ sortI a ↔ x ∈ a := (sortI_perm a).mem_iff
theorem sortI_nodup {a : List Int} (h : a.Nodup) : (sortI a).Nodup := (sortI_perm a).symm.nodup h
/-- pairs of ints, in order -/
def le2 (a b : Int × Int) : Bool := decide (a.1 < b.1 ∨ a.1 = b.1 ∧ a.2 ≤ b.2)
def e2 (a : Int × Int) : D := .tup [.int a.1, .int a.2]
theorem dLt_pair (a b : Int × Int) : (!dLt (e2 b) (e2 a)) = le2 a b := by
  have h : dLt (e2 b) (e2 a) = PySem.W.DatumOrd.lt b a := PySem.W.DatumOrd.lt_eq b a
  have h2 : PySem.W.DatumOrd.lt b a = if b.1 = a.1 then decide (b.2 < a.2) else decide (b.1 < a.1) := rfl
  rw [h, h2]
  unfold le2
  by_cases z : b.1 = a.1
  · rw [if_pos z, Bool.eq_iff_iff]
    simp [z]
  · rw [if_neg z, Bool.eq_iff_iff]
    simp
    omega
theorem eI_pairs (kvs : List (Int × Int)) : (eI kvs).map pairD = kvs.map e2 := by
  unfold eI
  rw [List.map_map]
  rfl
theorem dSort_pairs (kvs : List (Int × Int)) : dSort (kvs.map e2) = (kvs.mergeSort le2).map e2 := by
  unfold dSort
  exact (List.map_mergeSort fun a _ b _ => (dLt_pair a b).symm).symm
theorem sortOk_pairs (kvs : List (Int × Int)) : sortOk (kvs.map e2) = true := by
  unfold sortOk
  simp [List.all_map, D.nd, D.py, pys, e2, PySem.W.alike, PySem.W.alikeAll, PyData.depth, PyData.depthAll, Function.comp_def]
theorem le2_eq {a b : List (Int × Int)} (h : a.Perm b) (hs : b.Pairwise fun x y => le2 x y = true) : a.mergeSort le2 = b := by
  have s1 : (a.mergeSort le2).Pairwise fun x y => le2 x y = true := List.pairwise_mergeSort (fun x y z h1 h2 => by
      unfold le2 at *
      simp only [decide_eq_true_eq] at *
      omega) (fun x y => by
      unfold le2
      simp only [Bool.or_eq_true, decide_eq_true_eq]
      omega) a
  refine List.Perm.eq_of_pairwise (le := fun x y => le2 x y = true) (fun x y _ _ h1 h2 => ?_) s1 hs ((List.mergeSort_perm a le2).trans h)
  unfold le2 at *
  simp only [decide_eq_true_eq] at *
  exact Prod.ext (by omega) (by omega)
/-- the items of a dict from ints, in order -/
theorem sItems_eI {kvs : List (Int × Int)} (nd : (kvs.map (·.1)).Nodup) {f : Int → Int} (hf : ∀ x ∈ kvs, x.2 = f x.1) (hl : kvs.length ≤ 16777216) : sItems (.dic (eI kvs)) = some (.f (.lst ((sortI (kvs.map (·.1))).map fun k => e2 (k, f k)))) := by
  show (if sortOk ((eI kvs).map pairD) = true ∧ (eI kvs).length ≤ sizeLine then some (R.f (D.lst (dSort ((eI kvs).map pairD)))) else none) = _
  rw [if_pos ⟨by rw [eI_pairs]; exact sortOk_pairs kvs, by rw [eI_len, sizeLine_eq]; exact hl⟩, eI_pairs, dSort_pairs]
  have e : kvs = (kvs.map (·.1)).map fun k => (k, f k) := by
    rw [List.map_map]
    conv => lhs; rw [← List.map_id kvs]
    exact List.map_congr_left fun x hx => Prod.ext rfl (hf x hx)
  have p : kvs.Perm ((sortI (kvs.map (·.1))).map fun k => (k, f k)) := by
    conv => lhs; rw [e]
    exact (sortI_perm _).symm.map _
  have ps : ((sortI (kvs.map (·.1))).map fun k => (k, f k)).Pairwise fun x y => le2 x y = true := by
    rw [List.pairwise_map]
    refine (List.Pairwise.and (sortI_sorted (kvs.map (·.1))) (sortI_nodup nd)).imp fun h => ?_
    unfold le2
    simp only [decide_eq_true_eq]
    have := h.1
    have := h.2
    omega
  rw [le2_eq p ps, List.map_map]
  rfl
theorem cSorted_eI {kvs : List (Int × Int)} (hl : kvs.length ≤ 16777216) : cSorted [.dic (eI kvs)] = some (.f (.lst ((sortI (kvs.map (·.1))).map D.int))) := by
  have e : dKeys (eI kvs) = (kvs.map (·.1)).map D.int := by
    unfold dKeys eI
    rw [List.map_map, List.map_map]
    rfl
  have : cSortD [.dic (eI kvs)] = some (.f (.lst ((sortI (kvs.map (·.1))).map D.int))) := by
    show (if sortOk (dKeys (eI kvs)) = true ∧ (eI kvs).length ≤ sizeLine then some (R.f (D.lst (dSort (dKeys (eI kvs))))) else none) = _
    rw [e, if_pos ⟨sortOk_ints _, by rw [eI_len, sizeLine_eq]; exact hl⟩, dSort_ints]
  unfold cSorted
  simp [cSort, lOf, this]
theorem joinL_nil : ∀ xs : List (List Nat), TL.joinL [] xs = xs.flatten
  | [] => rfl
  | [p] => by simp [TL.joinL]
  | p :: q :: r => by
    show p ++ ([] ++ TL.joinL [] (q :: r)) = _
    rw [joinL_nil (q :: r)]
    simp
theorem join_T (xs : List (List Nat)) : Txt.join (tx []) (xs.map tx) = tx xs.flatten := by
  have h : Txt.join (tx []) (xs.map tx) = Str.join (tx []) (xs.map tx) := StrLaws.glued_eq_join _ _
  have h2 := TL.tl_join (tx []) (xs.map tx)
  rw [← h] at h2
  rw [List.map_map] at h2
  have h3 : (xs.map (TL.tl ∘ tx)) = xs := by
    conv => rhs; rw [← List.map_id xs]
    exact List.map_congr_left fun x _ => rfl
  rw [h3] at h2
  have h4 : (Txt.join (tx []) (xs.map tx)).cps.toList = xs.flatten := h2.trans (joinL_nil xs)
  generalize Txt.join (tx []) (xs.map tx) = y at h4
  obtain ⟨⟨z⟩⟩ := y
  have h5 : z = xs.flatten := h4
  rw [h5]
  rfl
@[simp] theorem atI_zero {α : Type} (x : α) (xs : List α) : atI (x :: xs) 0 = some x := by
  have := atI_nat (xs := x :: xs) (i := 0) (by simp)
  exact this
theorem dStrs_T (xs : List (List Nat)) : dStrs (xs.map T) = some (xs.map tx) := by
  rw [← dStrs_map (xs.map tx), List.map_map]
  rfl
theorem tJoin_T {xs : List (List Nat)} (h : ∀ x ∈ xs, ∀ c ∈ x, c < 0x110000) (hl : xs.flatten.length ≤ 16777216) : tJoin (T []) [.lst (xs.map T)] = some (.v (T xs.flatten)) := by
  have hs : sizeLine = 16777216 := sizeLine_eq
  show ((dStrs (xs.map T)).bind fun ys => if (ys.map (·.length)).sum + ys.length * (tx []).length ≤ 16777216 ∧ sOk (Txt.join (tx []) ys) = true then some (R.v (.str (Txt.join (tx []) ys))) else none) = _
  rw [dStrs_T]
  show (if ((xs.map tx).map (·.length)).sum + (xs.map tx).length * (tx []).length ≤ 16777216 ∧ sOk (Txt.join (tx []) (xs.map tx)) = true then some (R.v (.str (Txt.join (tx []) (xs.map tx)))) else none) = _
  have c1 : ((xs.map tx).map (·.length)).sum + (xs.map tx).length * (tx []).length ≤ 16777216 := by
    rw [List.map_map]
    have : (xs.map ((fun x => x.length) ∘ tx)) = xs.map List.length := List.map_congr_left fun x _ => tx_len x
    rw [this, ← List.length_flatten]
    simpa using hl
  have c2 : sOk (tx xs.flatten) = true := by
    unfold sOk
    rw [Bool.and_eq_true, decide_eq_true_eq, tx_len, hs]
    refine ⟨hl, ?_⟩
    show (xs.flatten.toArray).all _ = true
    rw [List.all_toArray, List.all_eq_true]
    intro c hc
    obtain ⟨l, hl, hc⟩ := List.mem_flatten.mp hc
    exact decide_eq_true (h l hl c hc)
  rw [join_T, if_pos ⟨c1, c2⟩]
  rfl
@[simp] theorem tyD_T (a : List Nat) : tyD "str" (T a) = true := rfl
@[simp] theorem tyD_lst (a : List D) : tyD "list" (.lst a) = true := rfl
theorem dIn_T1 (neg : Bool) (c : Nat) (cs : List Nat) : dIn neg (T [c]) (T cs) = some (.v (.bl (neg ^^ decide (c ∈ cs)))) := by
  have h : subS (tx [c]) (tx cs) = decide (c ∈ cs) := by
    exact PySem.StrLaws.found_one (tx cs) c
  show ((none : Option R).or (some (.v (.bl (neg ^^ subS (tx [c]) (tx cs)))))).or _ = _
  rw [h]
  rfl
theorem bSeq_nx {f g : EF Fl} {E E1 : En} {y : Option (Fl × En)} (h1 : f E = some (.nx, E1)) (h2 : g E1 = y) : bSeq f g E = y := by
  rw [e_bSeq, h1]; exact h2
theorem bst2 {tg : D → EF Unit} {fb : EF Fl} {d : D} {E E1 E2 : En} {e : Unit} {Q : En → Prop} (h1 : tg d E = some (e, E1)) (h2 : fb E1 = some (.nx, E2)) (h3 : Q E2) : ∃ E2, bStep tg fb d E = some E2 ∧ Q E2 := by
  refine ⟨E2, ?_, h3⟩
  unfold bStep
  rw [h1]
  show (fb E1).bind _ = _
  rw [h2]
  rfl
theorem same_eq (k : Nat) {a b : D} (bx : Bx) (e : a = b) (h : fair k a = true) (hk : k ≤ 20) : frSame 20 [.v a, .v b] bx = some (.v (.bl true), bx) := by
  rw [← e]; exact same_refl k 20 a bx h hk
@[simp] theorem dIsT : dIs true (.bl true) (.bl true) = some (.v (.bl false)) := rfl
theorem setKL_ints {l : List Int} (h : (uniq l).length < 4000) : setKL (.lst (l.map D.int)) = some (.i l) := by
  show ((match dInts (l.map D.int) with | some ns => some (KL.i ns) | none => (dStrs (l.map D.int)).map KL.s).bind fun k => if k.size + 1 < scanBound then some k else none) = _
  rw [dInts_map]
  show (if (uniq l).length + 1 < scanBound then some (KL.i l) else none) = _
  rw [if_pos (by unfold scanBound; omega)]
theorem dInts_T {x : List Nat} {l : List D} : dInts (T x :: l) = none := rfl
/-- one sign texts, each once, in order -/
def srt (l : List Nat) : List Nat := (uniq l).mergeSort fun a b => leS (tx [a]) (tx [b])
theorem srt_perm (l : List Nat) : (srt l).Perm (uniq l) := List.mergeSort_perm _ _
theorem setKL_ones (l : List Nat) (h : (uniq l).length < 4000) : ∃ k, setKL (.lst (l.map fun c => T [c])) = some k ∧ k.set = (srt l).map fun c => T [c] := by
  cases l with
  | nil => exact ⟨.i [], rfl, by simp [KL.set, srt, uniq, sortI]⟩
  | cons c l =>
    have e1 : ((c :: l).map fun c => T [c]) = ((c :: l).map fun c => tx [c]).map D.str := by
      rw [List.map_map]; rfl
    have inj : ∀ a b : Nat, tx [a] = tx [b] → a = b := fun a b h => by
      have := tx_inj.mp h
      simpa using this
    have e2 : uniq ((c :: l).map fun c => tx [c]) = (uniq (c :: l)).map fun c => tx [c] := uniq_map inj _
    refine ⟨.s ((c :: l).map fun c => tx [c]), ?_, ?_⟩
    · show ((match (none : Option (List Int)) with | some ns => some (KL.i ns) | none => (dStrs ((c :: l).map fun c => T [c])).map KL.s).bind fun k => if k.size + 1 < scanBound then some k else none) = _
      rw [e1, dStrs_map]
      show (if (uniq ((c :: l).map fun c => tx [c])).length + 1 < scanBound then some (KL.s ((c :: l).map fun c => tx [c])) else none) = _
      rw [if_pos (by rw [e2, List.length_map]; unfold scanBound; omega)]
    · show (sortS (uniq ((c :: l).map fun c => tx [c]))).map D.str = _
      rw [e2]
      unfold sortS srt
      rw [← List.map_mergeSort (r := fun a b => leS (tx [a]) (tx [b])) (fun _ _ _ _ => rfl), List.map_map]
      rfl
theorem dNe_nil {xs : List D} (hn : nds xs = true) : dNe (.lst xs) (.lst []) = some (.v (.bl (!xs.isEmpty))) := by
  have h1 : eqOk (.lst xs) (.lst []) = true := by
    unfold eqOk
    simp [hn, D.py, pys, PyData.depth, PyData.depthAll]
  unfold dNe
  rw [if_pos h1]
  have : deqv (.lst xs) (.lst []) = xs.isEmpty := by
    unfold deqv
    cases xs with
    | nil => simp [D.py, pys, PyData.eqv, PyData.eqvAll]
    | cons x xs => simp [D.py, pys, PyData.eqv, PyData.eqvAll]
  rw [this]
theorem bSet_ok {i : Nat} {f : EF R} {E E1 : En} {r : R} (h : f E = some (r, E1)) (hi : i < E1.sl.length) : bSet i f E = some (.nx, { E1 with sl := E1.sl.set i r.sl }) := by
  rw [e_bSet, h]
  show (if i < E1.sl.length then _ else _) = _
  rw [if_pos hi]
theorem bFor_ok {fi : EF (List D × Option Nat)} {tg : D → EF Unit} {fb : EF Fl} {E E1 E2 : En} {ds : List D} {lk : Option Nat} (h1 : fi E = some ((ds, lk), E1)) (h2 : bLoop tg fb ds E1 = some (.nx, E2)) : bFor fi tg fb E = some (.nx, unlk lk E2) := by
  rw [e_bFor, h1]
  show (bLoop tg fb ds E1).bind _ = _
  rw [h2]
  rfl
theorem bSet_to {i : Nat} {f : EF R} {E E1 E2 : En} {r : R} (h : f E = some (r, E1)) (hi : i < E1.sl.length) (he : ({ E1 with sl := E1.sl.set i r.sl } : En) = E2) : bSet i f E = some (.nx, E2) := by
  rw [← he]; exact bSet_ok h hi
end PV

namespace PV
open PySem L2
/-! ### comprehensions with two fors -/
section
variable {X : Cx} {tg iter tg1 iter1 : Expr} {pos : Pos} {K : PySem.W.Frag}
theorem LkR.hs {W W' : FP} {o : Option Nat} {h : List (Addr × D)} (l : LkR W W' o) (nh : ∀ x ∈ h, ∀ y : Addr, (∀ z ∈ W.hs, z.1 ≠ y) → x.1 ≠ y) : LkR { W with hs := h } { W' with hs := h } o := by
  cases o with
  | none => cases l; rfl
  | some i =>
    obtain ⟨p, d, rfl, h1, h2⟩ := l
    exact ⟨p, d, rfl, h1, fun y hy => nh y hy p h2⟩
theorem LkR.same {W W' : FP} {o : Option Nat} (l : LkR W W' o) : W'.σ = W.σ ∧ W'.hs = W.hs ∧ ∀ y : Addr, (∀ x ∈ W.ls, x.2.1 ≠ y) → (∃ z ∈ W.hs, z.1 = y) → ∀ x ∈ W'.ls, x.2.1 ≠ y := by
  cases o with
  | none => cases l; exact ⟨rfl, rfl, fun y h _ => h⟩
  | some i =>
    obtain ⟨p, d, rfl, h1, h2⟩ := l
    refine ⟨rfl, rfl, fun y h ⟨z, hz, e⟩ x hx => ?_⟩
    rcases List.mem_cons.mp hx with rfl | hx
    · exact fun q => h2 z hz (e.trans q.symm)
    · exact h x hx
def cLoop2 (tg : D → EF Unit) (ft : EF Bool) (fi1 : EF (List D × Option Nat)) (tg1 : D → EF Unit) (ft1 : EF Bool) (fe : EF D) (vs vs1 : List Nat) : List D → List D → En → Option (List D × En)
  | [], acc, E => some (acc, wE vs E)
  | d :: ds, acc, E => (tg d (wE vs E)).bind fun e => (ft e.2).bind fun b => if b.1 = true then (fi1 b.2).bind fun x => if acc.length + x.1.1.length ≤ sizeLine then (cLoop tg1 ft1 fe vs1 x.1.1 acc x.2).bind fun y => cLoop2 tg ft fi1 tg1 ft1 fe vs vs1 ds y.1 (unlk x.1.2 y.2) else none else cLoop2 tg ft fi1 tg1 ft1 fe vs vs1 ds acc b.2
def mLc2 (fi : EF (List D × Option Nat)) (tg : D → EF Unit) (ft : EF Bool) (fi1 : EF (List D × Option Nat)) (tg1 : D → EF Unit) (ft1 : EF Bool) (fe : EF D) (vs vs1 : List Nat) : EF R := fun E => (fi E).bind fun x => (cLoop2 tg ft fi1 tg1 ft1 fe vs vs1 x.1.1 [] x.2).bind fun y => some (.f (.lst y.1), unlk x.1.2 (back vs x.2 y.2))
variable {elt : Expr} {ifs ifs1 : List Expr} {scope : Scope} {own : List (Str × Nat)} {wr wr1 vs1 : List Nat}
theorem dc_lc2 {fi fi1 : EF (List D × Option Nat)} {ft ft1 : D → EF Unit} {fc fc1 : EF Bool} {fe : EF D} (hc : X.calm = true) (hN : X.N.Nodup) (hi : DI X tg iter fi) (ok : BlkOk X.N X.env.scope scope own)
    (hg : ∀ (s : Shared) (H : Hp) (C : Addr) (cl : List (Str × Addr)) (fp : List Addr), DG (X.blk s H scope (compEnvC scope cl C X.env) fp) tg ft wr)
    (ht : ∀ (s : Shared) (H : Hp) (C : Addr) (cl : List (Str × Addr)) (fp : List Addr), DTs (X.blk s H scope (compEnvC scope cl C X.env) fp) ifs fc)
    (hi1 : ∀ (s : Shared) (H : Hp) (C : Addr) (cl : List (Str × Addr)) (fp : List Addr), DI (X.blk s H scope (compEnvC scope cl C X.env) fp) tg1 iter1 fi1)
    (hg1 : ∀ (s : Shared) (H : Hp) (C : Addr) (cl : List (Str × Addr)) (fp : List Addr), DG (X.blk s H scope (compEnvC scope cl C X.env) fp) tg1 ft1 wr1)
    (ht1 : ∀ (s : Shared) (H : Hp) (C : Addr) (cl : List (Str × Addr)) (fp : List Addr), DTs (X.blk s H scope (compEnvC scope cl C X.env) fp) ifs1 fc1)
    (he : ∀ (s : Shared) (H : Hp) (C : Addr) (cl : List (Str × Addr)) (fp : List Addr), DQ (X.blk s H scope (compEnvC scope cl C X.env) fp) elt fe)
    (hw : ∀ j ∈ wr, j ∈ own.map (·.2) := by decide) (hw1 : ∀ j ∈ wr1, j ∈ vs1 := by decide) (hv : ∀ i ∈ vs1, i ∈ own.map (·.2) := by decide) (hs : ∀ x, foldedSetIterable iter X.env x = pure x := by intro _; rfl) (hs1 : ∀ env x, foldedSetIterable iter1 env x = pure x := by intro _ _; rfl) :
    DC X (.ListComp elt [⟨tg, iter, ifs, 0⟩, ⟨tg1, iter1, ifs1, 0⟩] scope pos) (mLc2 fi ft fc fi1 ft1 fc1 fe (own.map (·.2)) vs1) := by
  refine ⟨tLc2 (tId X.K fi) (tGd X.K ft wr) (tTs X.K fc) (tId X.K fi1) (tGd X.K ft1 wr1) (tTs X.K fc1) (tD X.K fe) (own.map (·.2)) vs1,
    pe_lc2 hc hN hi.pi ok hv (fun s H C cl fp => (hg s H C cl fp).pg) (fun s H C cl fp => (ht s H C cl fp).pts) (fun s H C cl fp => (hi1 s H C cl fp).pi) (fun s H C cl fp => (hg1 s H C cl fp).pg) (fun s H C cl fp => (ht1 s H C cl fp).pts) (fun s H C cl fp => (he s H C cl fp).pe) hs hs1,
    fun i y py spos hy hyl hsw => ps_setLc2 hc hN hy hyl hsw hi.pi ok hv (fun s H C cl fp => (hg s H C cl fp).pg) (fun s H C cl fp => (ht s H C cl fp).pts) (fun s H C cl fp => (hi1 s H C cl fp).pi) (fun s H C cl fp => (hg1 s H C cl fp).pg) (fun s H C cl fp => (ht1 s H C cl fp).pts) (fun s H C cl fp => (he s H C cl fp).pe) hs hs1,
    fun W F H E r E' Q I hf k => ?_⟩
  generalize own.map (·.2) = vs at *
  unfold mLc2 at hf
  obtain ⟨⟨⟨its, o⟩, E1⟩, h1, hf⟩ := bsome hf
  obtain ⟨⟨out, E2⟩, h2, hf⟩ := bsome hf
  cases hf
  refine ⟨W, F, E, its, o, E1, rfl, I, h1, fun J W' F1 H1 lk I1 e1 wk => ?_⟩
  intro Dp hD
  have hσ : W'.σ = W.σ := lk.same.1
  -- the new list is held
  have held0 : FI X.K { W' with hs := (Dp, .lst []) :: W'.hs } E1 F1 (upd H1 Dp (.lst [])) := by
    have ou : Ou X.K F1 H1 (.ref Dp) (upd H1 Dp (.lst [])) (.f (.lst [])) := Ou.newL hD .nil (Nat.zero_le _)
    obtain ⟨p, o', n, hh, hv, ct, wrh⟩ := ou
    cases hv
    refine (I1.step (Ex.refl F1) (fun _ => .inl rfl) (Ex.new hD) (I1.FH.trans (Ex.new hD))).hold ⟨Dp, rfl, ⟨ct, I1.FH.none hD, I1.no0 hD, I1.nob hD⟩, wrh, I1.noo hD⟩
  have nd : (∀ y ∈ W'.hs, y.1 ≠ Dp) ∧ ∀ y ∈ W'.ls, y.2.1 ≠ Dp := (I1.noo hD).2
  refine ⟨fun i m H => m = its.length - i ∧ i ≤ its.length ∧ ∃ E F acc, FI X.K ({ W' with hs := (Dp, .lst acc) :: W'.hs }.at (L2.wipe W.σ vs)) (wE vs E) F H ∧ Ex F1 F ∧ cLoop2 ft fc fi1 ft1 fc1 fe vs vs1 (its.drop i) acc E = some (out, E2), ⟨its.length, by simp, Nat.zero_le _, E1, F1, [], ?_, Ex.refl F1, by simpa using h2⟩, ?_⟩
  · have := held0.wipes vs
    rw [show ({ W' with hs := (Dp, D.lst []) :: W'.hs } : FP).σ = W.σ from hσ] at this
    exact this
  rintro i m H2 ⟨rfl, hil, E3, F3, acc, I3, e3, hl⟩
  obtain ⟨stop, go⟩ := wk ({ W' with hs := (Dp, .lst acc) :: W'.hs }.at (L2.wipe W.σ vs)) _ F3 H2 ⟨rfl, rfl, rfl, rfl⟩ I3 e3
  by_cases hlt : i < its.length
  · obtain ⟨d, hd, hdr⟩ := drop_cons hlt
    rw [hdr] at hl
    unfold cLoop2 at hl
    obtain ⟨⟨x, E4⟩, g1, hl⟩ := bsome hl
    obtain ⟨⟨b, E5⟩, g2, hl⟩ := bsome hl
    obtain ⟨gi, gy⟩ := go i d hd
    refine .inr ⟨gi, fun H' => ∃ E F acc, FI X.K ({ W' with hs := (Dp, .lst acc) :: W'.hs }.at (L2.wipe W.σ vs)) (wE vs E) F H' ∧ Ex F1 F ∧ cLoop2 ft fc fi1 ft1 fc1 fe vs vs1 (its.drop (i + 1)) acc E = some (out, E2), fun H' ⟨E, F, acc, a, b, d⟩ => ⟨its.length - (i + 1), by omega, rfl, hlt, E, F, acc, a, b, d⟩, fun x H3 hy => ?_⟩
    obtain ⟨F4, I4, e4, rx⟩ := gy x H3 hy
    refine ⟨{ W' with hs := (Dp, .lst acc) :: W'.hs }.at (L2.wipe W.σ vs), F4, _, d, _, E4, rfl, I4, rx, g1, fun σ2 o2 I5 => ⟨wipe_only o2 hw, ?_⟩⟩
    refine ⟨_, F4, E4, b, E5, rfl, I5, g2, fun F6 H6 I6 e6 => ?_⟩
    have e7 : Ex F1 F6 := (e3.trans e4).trans e6
    have wp : L2.wipe σ2 vs = L2.wipe W.σ vs := by
      have := wipe_only o2 hw
      exact this
    cases b with
    | true =>
      obtain ⟨⟨⟨its1, o1⟩, E8⟩, g3, hl⟩ := bsome hl
      obtain ⟨hlen, hl⟩ := Option.ite_none_right_eq_some.mp hl
      obtain ⟨⟨out1, E9⟩, g4, hl⟩ := bsome hl
      have hlen : acc.length + its1.length ≤ sizeLine := hlen
      show tId X.K fi1 σ2 H6 _
      refine ⟨_, F6, E5, its1, o1, E8, rfl, I6, g3, fun J1 W1' F8 H8 lk1 I8 e8 wk1 => ?_⟩
      obtain ⟨hσ1, hhs1, hls1⟩ := lk1.same
      have hσ1 : W1'.σ = σ2 := hσ1
      have hhs1 : W1'.hs = (Dp, D.lst acc) :: W'.hs := hhs1
      have nd1 : (∀ y ∈ W'.hs, y.1 ≠ Dp) ∧ ∀ y ∈ W1'.ls, y.2.1 ≠ Dp := ⟨nd.1, hls1 Dp nd.2 ⟨_, List.mem_cons_self, rfl⟩⟩
      have lkh : ∀ acc1 : List D, LkR (({ W' with hs := (Dp, D.lst acc1) :: W'.hs } : FP).at σ2) { W1' with hs := (Dp, D.lst acc1) :: W'.hs } o1 := fun acc1 => by
        refine lk1.hs (h := (Dp, D.lst acc1) :: W'.hs) fun x hx y hy => ?_
        rcases List.mem_cons.mp hx with rfl | hx
        · exact hy (Dp, D.lst acc) List.mem_cons_self
        · exact hy x (List.mem_cons_of_mem _ hx)
      refine ⟨fun j k H => k = its1.length - j ∧ j ≤ its1.length ∧ ∃ E F acc1, FI X.K ({ W1' with hs := (Dp, .lst acc1) :: W'.hs }.at (L2.wipe σ2 vs1)) (wE vs1 E) F H ∧ Ex F8 F ∧ acc1.length ≤ acc.length + j ∧ cLoop ft1 fc1 fe vs1 (its1.drop j) acc1 E = some (out1, E9), ⟨its1.length, by simp, Nat.zero_le _, E8, F8, acc, ?_, Ex.refl F8, Nat.le_refl _, by simpa using g4⟩, ?_⟩
      · have := I8.wipes vs1
        rw [hσ1] at this
        have hW : W1' = { W1' with hs := (Dp, D.lst acc) :: W'.hs } := by
          cases W1'; cases hhs1; rfl
        rw [hW] at this
        exact this
      rintro j k9 H9 ⟨rfl, hjl, Ea, Fa, acc1, Ia, ea, hacc1, hla⟩
      obtain ⟨stop1, go1⟩ := wk1 ({ W1' with hs := (Dp, .lst acc1) :: W'.hs }.at (L2.wipe σ2 vs1)) _ Fa H9 ⟨rfl, rfl, rfl, rfl⟩ Ia ea
      by_cases hlt1 : j < its1.length
      · obtain ⟨d1, hd1, hdr1⟩ := drop_cons hlt1
        rw [hdr1] at hla
        unfold cLoop at hla
        obtain ⟨⟨x1, Eb⟩, p1, hla⟩ := bsome hla
        obtain ⟨⟨b1, Ec⟩, p2, hla⟩ := bsome hla
        obtain ⟨gi1, gy1⟩ := go1 j d1 hd1
        refine .inr ⟨gi1, fun H' => ∃ E F acc1, FI X.K ({ W1' with hs := (Dp, .lst acc1) :: W'.hs }.at (L2.wipe σ2 vs1)) (wE vs1 E) F H' ∧ Ex F8 F ∧ acc1.length ≤ acc.length + (j + 1) ∧ cLoop ft1 fc1 fe vs1 (its1.drop (j + 1)) acc1 E = some (out1, E9), fun H' ⟨E, F, acc1, a, b, c, d⟩ => ⟨its1.length - (j + 1), by omega, rfl, hlt1, E, F, acc1, a, b, c, d⟩, fun x H10 hy1 => ?_⟩
        obtain ⟨Fb, Ib, eb, rx1⟩ := gy1 x H10 hy1
        refine ⟨{ W1' with hs := (Dp, .lst acc1) :: W'.hs }.at (L2.wipe σ2 vs1), Fb, _, d1, _, Eb, rfl, Ib, rx1, p1, fun σ3 o3 Ic => ⟨wipe_only o3 hw1, ?_⟩⟩
        refine ⟨_, Fb, Eb, b1, Ec, rfl, Ic, p2, fun Fc Hc Id ec => ?_⟩
        have ed : Ex F8 Fc := (ea.trans eb).trans ec
        have wp1 : L2.wipe σ3 vs1 = L2.wipe σ2 vs1 := by
          have := wipe_only o3 hw1
          exact this
        cases b1 with
        | true =>
          obtain ⟨⟨y, Ee⟩, p3, hla⟩ := bsome hla
          show tD X.K fe σ3 Hc _
          refine ⟨_, Fc, Ec, y, Ee, rfl, Id, p3, fun v Fe He Ie ee rv => ?_⟩
          obtain ⟨ow, wrh, _⟩ := Ie.ho (Dp, .lst acc1) List.mem_cons_self
          obtain ⟨vs', hvs, ra, hle⟩ := ow.ct
          have hla2 : acc1.length < sizeLine := by omega
          refine ⟨vs', hvs, by rw [ra.length]; exact hla2, Ee, Fe, acc1 ++ [y], ?_, ed.trans ee, by simp; omega, hla⟩
          obtain ⟨If, rf⟩ := FI.unhold (W := { W1' with hs := W'.hs }.at σ3) (x := (Dp, .lst acc1)) Ie nd1
          obtain ⟨p, hp, owf, _, nof⟩ := rf
          cases hp
          have grown : FI X.K ({ W1' with hs := (Dp, .lst (acc1 ++ [y])) :: W'.hs }.at σ3) Ee Fe (upd He Dp (.lst (vs' ++ [v]))) :=
            (If.write owf.nf owf.n0 owf.nb nof (fun x hx z => by
              have := (If.lo x hx).1
              rw [z, hvs] at this; cases this)).hold ⟨Dp, rfl, ⟨⟨_, upd_same, ra.append (.cons rv .nil), by simp; omega⟩, owf.nf, owf.n0, owf.nb⟩, wr_same (fun _ _ e => (nomatch e)), nof⟩
          have := grown.wipes vs1
          rw [show (({ W1' with hs := (Dp, D.lst (acc1 ++ [y])) :: W'.hs } : FP).at σ3).σ = σ3 from rfl, wp1] at this
          exact this
        | false =>
          show ∃ E F acc1, _
          refine ⟨Ec, Fc, acc1, ?_, ed, by omega, hla⟩
          have := Id.wipes vs1
          rw [show (({ W1' with hs := (Dp, D.lst acc1) :: W'.hs } : FP).at σ3).σ = σ3 from rfl, wp1] at this
          exact this
      · have e : j = its1.length := by omega
        subst e
        rw [List.drop_length] at hla
        cases hla
        refine .inl ⟨stop1, ?_⟩
        have Ib := Ia.unwipe (σ := σ2)
        have Ic := FI.unlock (σ := σ2) (lkh out1) Ib
        refine ⟨_, Fa, out1, ?_, e7.trans (e8.trans ea), hl⟩
        have := Ic.wipes vs
        rw [show ((({ W' with hs := (Dp, D.lst out1) :: W'.hs } : FP).at σ2).at σ2).σ = σ2 from rfl, wp] at this
        exact this
    | false =>
      show ∃ E F acc, _
      refine ⟨E5, F6, acc, ?_, e7, hl⟩
      have := I6.wipes vs
      rw [show (({ W' with hs := (Dp, D.lst acc) :: W'.hs } : FP).at σ2).σ = σ2 from rfl, wp] at this
      exact this
  · have e : i = its.length := by omega
    subst e
    rw [List.drop_length] at hl
    cases hl
    refine .inl ⟨stop, ?_⟩
    have I4 := I3.unwipe (σ := W.σ)
    obtain ⟨I5, r5⟩ := FI.unhold (W := W'.at W.σ) (x := (Dp, .lst out)) I4 nd
    have h0 : ∀ (i : Nat) d, E1.sl[i]? = some (.v d) → ∃ v, (W'.at W.σ).σ[i]? = some (some v) ∧ Rp X.K F3 v d := fun i d q => by
      obtain ⟨v, e, r⟩ := I1.sl i _ q
      rw [hσ] at e
      exact ⟨v, e, r.mono e3⟩
    have I6 := FI.backs (F0 := F3) h0 vs I5
    refine k (.ref Dp) F3 H2 (FI.unlock (σ := W.σ) lk I6) (e1.trans e3) (LkR.rr (σ := W.σ) lk I6 ?_)
    obtain ⟨p, hp, ow, wrh, no⟩ := r5
    cases hp
    exact ⟨Dp, rfl, ow, wrh, fun j l c e => no.1 j l c (backS_o vs e), no.2⟩
end
end PV

namespace PV
open PySem L2 PyProof.Rows
/-! ### x[::-1] -/
def revT (z : Str) : Str := ⟨z.cps.toList.reverse.toArray⟩
def dRev : D → Option R
  | .lst xs => some (.f (.lst xs.reverse))
  | .tup xs => some (.v (.tup xs.reverse))
  | .str z => some (.v (.str (revT z)))
  | _ => none
theorem strIndices_rev (n : Nat) : Builtin.Str.strSliceIndices none none (-1) n = (List.range n).reverse := by
  show PySem.sliceRange ((n : Int) - 1) (-1) (-1) = _
  rw [PySem.W.krv_sliceRange, PySem.W.krv_range]
section
variable {prog : Program} {w : World} {A : Around} {E : Value → Shared → Prop} {s : Shared}
theorem sliceApplied_rev {sl : Addr} {vs : Value} {n : Nat} {Q : Int × Int × Nat → Shared → Prop} (hs : s.heap.IsSliceOf sl .none .none vs) (ps : IsPart vs (some (-1)))
    (h : Q ((n : Int) - 1, -1, n) s) : wpAny (model prog w) A (Builtin.Slice.sliceApplied (.ref sl) (pure (n : Int))) Q E s := by
  obtain ⟨os, hos, hcs, hds⟩ := id hs
  unfold Builtin.Slice.sliceApplied Builtin.Slice.sliceFields
  refine wpAny_bind (wpAny_bind (wpAny_field hos hds (x := .none) rfl (wpAny_bind (wpAny_field hos hds (x := .none) rfl (wpAny_bind (wpAny_field hos hds (x := vs) rfl (wpAny_pure ?_)))))))
  refine wpAny_bind (HT.slicePart_ ps ?_)
  show wpAny _ _ (if ((-1 : Int) == 0) = true then _ else _) _ _ s
  rw [if_neg (by decide)]
  refine wpAny_bind (PyProof.Rows.slicePart_none (wpAny_bind (PyProof.Rows.slicePart_none (wpAny_bind (wpAny_pure ?_)))))
  have e : Builtin.Slice.slicePlaces ((n : Int) - 1) (-1) (-1) = n := by
    unfold Builtin.Slice.slicePlaces
    simp
    split <;> omega
  show wpAny _ _ (pure ((n : Int) - 1, (-1 : Int), Builtin.Slice.slicePlaces ((n : Int) - 1) (-1) (-1))) _ _ s
  rw [e]
  exact wpAny_pure h
theorem pick_rev (xs : Array Value) : ((List.range xs.size).filterMap fun (m : Nat) => xs[((xs.size : Int) - 1 + (m : Int) * (-1)).toNat]?).toArray = xs.toList.reverse.toArray := by
  have e : ((List.range xs.size).filterMap fun (m : Nat) => xs[((xs.size : Int) - 1 + (m : Int) * (-1)).toNat]?) = ((List.range xs.size).map fun k => xs.size - 1 - k).filterMap (xs[·]?) := by
    rw [List.filterMap_map]
    have : ∀ l : List Nat, (∀ m ∈ l, m < xs.size) → (l.filterMap fun (m : Nat) => xs[((xs.size : Int) - 1 + (m : Int) * (-1)).toNat]?) = l.filterMap ((fun x => xs[x]?) ∘ fun k => xs.size - 1 - k) := by
      intro l
      induction l with
      | nil => intro _; rfl
      | cons m l ih =>
        intro hl
        have hm := hl m List.mem_cons_self
        have e : ((xs.size : Int) - 1 + (m : Int) * (-1)).toNat = xs.size - 1 - m := by omega
        rw [List.filterMap_cons, List.filterMap_cons, ih fun y hy => hl y (List.mem_cons_of_mem _ hy), e]
        rfl
    exact this _ fun m hm => List.mem_range.mp hm
  rw [e, PySem.W.krv_range, List.filterMap_reverse, PySem.W.krv_all]
theorem getItem_tuple_rev {t sl : Addr} {items : Array Value} {vs : Value} {Q : Value → Shared → Prop} (ht : IsTup s.heap t items) (hs : s.heap.IsSliceOf sl .none .none vs) (ps : IsPart vs (some (-1)))
    (h : Q (.ref s.heap.objs.size) { s with heap := s.heap.push { cls := .type "tuple", data := .seq items.toList.reverse.toArray } })
    (hsz : items.size ≤ sizeLine) : wpAny (model prog w) A (getItem (.ref t) (.ref sl)) Q E s := by
  have htake : sizeOk (.seq items.toList.reverse.toArray) := by
    show items.toList.reverse.toArray.size ≤ sizeLine
    simpa using hsz
  obtain ⟨os, hos, hcs, hds⟩ := id hs
  have hTs : s.TypeIs (.ref sl) "slice" := ⟨os, hos, hcs⟩
  unfold getItem
  try with_reducible refine wpAny_holding ?_
  first | refine wpAny_bind (wpAny_pure ?_) | skip
  refine wpAny_bind (wpAny_sequenceKey ht.typeIs (by decide) ?_)
  refine wpAny_bind (wpAny_callSpecial?_slot (name := Str.ofString "__getitem__") ht.typeIs PyProof.Rows.slot_tuple_getitem
    (wpAny_call_entry PyProof.Rows.slot_tuple_getitem ht.typeIs entry_tuple_getitem ?_ (args_tuple_getitem _ _)))
  show wpAny _ _ (Builtin.Tuple.tupleItemsOf (.ref t) >>= _) _ _ s
  refine wpAny_bind (PyProof.Rows.tupleItemsOf_ ht ?_)
  refine wpAny_bind (wpAny_typeOf hTs ?_)
  rw [if_pos (by decide)]
  refine wpAny_bind (sliceApplied_rev hs ps ?_)
  show wpAny _ _ (if (((items.size : Int) - 1) == 0 && (-1 : Int) == 1 && items.size == items.size) = true then _ else _) _ _ s
  have hno : ¬ ((((items.size : Int) - 1) == 0 && (-1 : Int) == 1 && items.size == items.size) = true) := by
    intro q
    rw [Bool.and_eq_true, Bool.and_eq_true] at q
    exact absurd q.1.2 (by decide)
  rw [if_neg hno, pick_rev]
  first
    | exact wpAny_bind (m := Builtin.Tuple.tupleExact _) (wpAny_newObj_type (wpAny_pure ⟨_, rfl, wpAny_pure h⟩) htake)
    | exact wpAny_bind (m := Builtin.Tuple.tupleExact _) (wpAny_newObj_type (wpAny_bind (wpAny_pure (wpAny_pure ⟨_, rfl, wpAny_pure h⟩))) htake)
    | exact wpAny_bind (wpAny_bind (m := Builtin.Tuple.tupleExact _) (wpAny_newObj_type (wpAny_pure (wpAny_pure ⟨_, rfl, wpAny_pure h⟩)) htake))
    | exact wpAny_bind (wpAny_bind (m := Builtin.Tuple.tupleExact _) (wpAny_newObj_type (wpAny_pure ⟨_, rfl, wpAny_pure h⟩) htake))
end
def rRev (K : PySem.W.Frag) (x : V) (H : Hp) (Q : VK) : Prop :=
  (∃ a xs, x = .ref a ∧ SqL K H a xs ∧ ∀ p, H p = none → Q (.ref p) (upd H p (.lst xs.reverse))) ∨ (∃ a xs, x = .ref a ∧ SqT K H a xs ∧ ∀ p, H p = none → Q (.ref p) (upd H p (.tup xs.reverse))) ∨
  (∃ z : Str, x = .str z ∧ z.length ≤ sizeLine ∧ Q (.str (revT z)) H)
section
variable {X : Cx} {e : Expr} {te : TE} {k : Nat} {p1 p2 p3 pos : Pos}
theorem pe_revA (he : PE X e te) : PE X (.Subscript e (.Slice none none (some (.UnaryOp .USub (.Constant (.int 1) k p1) p2)) p3) pos) (fun σ H Q => te σ H fun x H1 => rRev X.K x H1 Q) := by
  refine ⟨fun pins s σ H Q I h => ?_⟩
  refine Subscript_ (thn (he.run pins s σ H _ I h) fun v s1 ⟨x, H1, I1, r1, q1⟩ => ?_)
  have hst : PO X (some (.UnaryOp .USub (.Constant (.int 1) k p1) p2)) (tPart (tUn (rU fun i => .int (-i)) (tC (.int 1)))) := po_some (pe_un un_neg pe_int)
  refine wpAny_Slice (thn (po_none.run pins s1 σ H1 (fun o H2 => o = none ∧ H2 = H1) I1 ⟨rfl, rfl⟩) fun vl s2 ⟨l, H2, I2, pl, el, e2⟩ => ?_)
  subst el e2
  refine thn (po_none.run pins s2 σ H2 (fun o H3 => o = none ∧ H3 = H2) I2 ⟨rfl, rfl⟩) fun vu s3 ⟨u, H3, I3, pu, eu, e3⟩ => ?_
  subst eu e3
  refine thn (hst.run pins s3 σ H3 (fun o H4 => o = some (-1) ∧ H4 = H3) I3 ⟨1, rfl, -1, rfl, rfl, rfl⟩) fun vs s4 ⟨o, H4, I4, ps, eo, e4⟩ => ?_
  subst eo e4
  cases pl
  cases pu
  have I5 : Inv X pins σ H4 { s4 with heap := s4.heap.push { cls := .type "slice", data := .fields #[.none, .none, vs] } } := I4.kept (t' := s4.toks) fun b ob q => Heap.get?_push_of_some _ q
  show wpAny (model X.prog X.w) X.A (subscriptTail e (.Slice none none (some (.UnaryOp .USub (.Constant (.int 1) k p1) p2)) p3) v (.ref s4.heap.objs.size)) (EP X pins σ Q) X.xe { s4 with heap := s4.heap.push { cls := .type "slice", data := .fields #[.none, .none, vs] } }
  rcases q1 with ⟨a, xs, rfl, hx, q⟩ | ⟨a, xs, rfl, hx, q⟩ | ⟨z, rfl, hz, q⟩
  · cases r1
    obtain ⟨its, r, ht, hz⟩ := I5.list hx
    have hlen := r.length
    refine tail_any (ops := [.ref a, .ref s4.heap.objs.size]) ht.isList.typeIs (PySem.slot_list_getitem.lookup) ?_ (by with_unfolding_all rfl)
    refine wpAny_getItem_list_slice ht.isList (Heap.IsSliceOf.new _ .none .none vs) .none .none ps (by decide) ?_ (by rw [List.size_toArray]; omega)
    rw [PySem.W.krv_pick]
    refine ⟨.ref _, _, I5.laid (t' := s4.toks) (o := .lst xs.reverse) (fun b ob q => Heap.get?_push_of_some _ q) (Nat.le_refl _) ?_, rfl, q _ (I5.hok.fresh (Nat.le_refl _))⟩
    exact ⟨by rw [List.length_reverse]; exact hz, _, 0, r.reverse, Heap.get?_push_size _ rfl⟩
  · cases r1
    obtain ⟨its, r, ht, hz⟩ := I5.tuple hx
    have hlen := r.length
    refine tail_any (ops := [.ref a, .ref s4.heap.objs.size]) ht.typeIs (PyProof.Rows.slot_tuple_getitem.lookup) ?_ (by with_unfolding_all rfl)
    refine getItem_tuple_rev ht (Heap.IsSliceOf.new _ .none .none vs) ps ?_ (by rw [List.size_toArray]; omega)
    refine ⟨.ref _, _, I5.laid (t' := s4.toks) (o := .tup xs.reverse) (fun b ob q => Heap.get?_push_of_some _ q) (Nat.le_refl _) ?_, rfl, q _ (I5.hok.fresh (Nat.le_refl _))⟩
    exact ⟨by rw [List.length_reverse]; exact hz, _, r.reverse, IsTup.new _ _⟩
  · obtain ⟨t, rfl⟩ := r1
    have hi := Heap.IsSliceOf.new s4.heap .none .none vs
    obtain ⟨os, hos, hcs, hds⟩ := hi
    obtain ⟨l, e1, e2⟩ := IsPart.raw ps
    refine tail_any (ops := [.str z t, .ref s4.heap.objs.size]) (typeIs_str _ _ _) (F.slot_str_getitem.lookup) ?_ (by with_unfolding_all rfl)
    subst e1
    have e3 : (l.map (·.1)).getD 1 = -1 := by rw [e2]; rfl
    refine wpAny_getItem_str_slice (l := none) (u := none) (st := l) ⟨os, hos, hcs, hds⟩ (by rw [e3]; rfl) ?_
    unfold sliceMade slicePicked
    rw [e3]
    show Made.post (if ((-1 : Int) == 1 && (Builtin.Str.strSliceIndices none none (-1) z.length).length == z.length) = true then Made.val (.str z t)
      else Made.str ⟨((Builtin.Str.strSliceIndices none none (-1) z.length).filterMap (z.cps[·]?)).toArray⟩) (EP X pins σ Q) _
    rw [if_neg (by intro q; rw [Bool.and_eq_true] at q; exact absurd q.1 (by decide)), strIndices_rev]
    have e4 : (⟨((List.range z.length).reverse.filterMap (z.cps[·]?)).toArray⟩ : Str) = revT z := by
      rw [List.filterMap_reverse]
      show (⟨((List.range z.cps.size).filterMap (z.cps[·]?)).reverse.toArray⟩ : Str) = _
      rw [PySem.W.krv_all]
      rfl
    rw [e4]
    refine ⟨?_, .str _, H4, I5.tok _, ⟨_, rfl⟩, q⟩
    show (z.cps.toList.reverse.toArray).size ≤ sizeLine
    simpa [Str.length] using hz
theorem de_rev {f : EF P} (he : DP X e f) : DE X (.Subscript e (.Slice none none (some (.UnaryOp .USub (.Constant (.int 1) k p1) p2)) p3) pos) (m1 dRev f) := by
  obtain ⟨t, pe, h⟩ := he.ex
  refine ⟨_, pe_revA pe, fun W F H E r E' Q I hf k => ?_⟩
  unfold m1 at hf
  obtain ⟨⟨p, E1⟩, h1, hf⟩ := bsome hf
  obtain ⟨d, h2, hf⟩ := bsome hf
  obtain ⟨res, h3, hf⟩ := bsome hf
  cases hf
  refine h W F H E p E1 _ I h1 fun v F1 H1 I1 e1 r1 => ?_
  have va := I1.vr r1 h2
  match d, h3 with
  | .lst xs, h3 =>
    cases h3
    obtain ⟨a, us, rfl, s, r, l⟩ := va.lst I1.FH
    refine .inl ⟨a, us, rfl, .inl (.inl s), fun p n => ?_⟩
    obtain ⟨F3, I3, e3, rr⟩ := I1.ou (Ou.newL n r.reverse (by rw [List.length_reverse]; exact l))
    exact k _ F3 _ I3 (e1.trans e3) rr
  | .tup xs, h3 =>
    cases h3
    obtain ⟨a, us, rfl, s, r, l⟩ := va.tup I1.FH
    refine .inr (.inl ⟨a, us, rfl, s, fun p n => ?_⟩)
    obtain ⟨F3, I3, e3, rr⟩ := I1.ou (Ou.newT I1.FH n r.reverse (by rw [List.length_reverse]; exact l))
    exact k _ F3 _ I3 (e1.trans e3) rr
  | .str z, h3 =>
    cases h3
    obtain ⟨rfl, hz⟩ := va.str
    refine .inr (.inr ⟨z, rfl, hz.1, k _ F1 H1 I1 e1 (.str _ ⟨?_, ?_⟩)⟩)
    · show (z.cps.toList.reverse.toArray).size ≤ sizeLine
      have := hz.1
      simpa [Str.length] using this
    · have h2 := hz.2
      rw [← Array.all_toList, List.all_eq_true] at h2
      show (z.cps.toList.reverse.toArray).all _ = true
      rw [List.all_toArray, List.all_eq_true]
      exact fun c hc => h2 c (List.mem_reverse.mp hc)
end
end PV

namespace PV
open PySem L2 PyProof.Rows
open Sem (wp)
/-! ### enumerate(v): a list, a tuple, a text -/
set_option maxHeartbeats 1000000 in
theorem meets_enum1 {v : Value} {o : Obj} {H : Heap → Prop} (B : Begins v o H) :
    Meets (Builtin.«enumerate.__new__» ⟨[.type "enumerate", v], []⟩) (fun _ R s => H s.heap ∧
      R (.ok (.ret (.ref (s.heap.push o).objs.size))) { s with heap := (s.heap.push o).push { cls := .type "enumerate", data := .fields #[.none, .bool false, .ref s.heap.objs.size, rawInt 0, .none, .none] } }) :=
  .of_wp fun prog w A R s h => by
    obtain ⟨hp, g, d, tk, os⟩ := s; obtain ⟨h1, h⟩ := h
    have hsub := sub_enumerate
    have q1 : ∀ {A' : Around} {E : Value → Shared → Prop} {Q : Value → Shared → Prop}, Q (.ref hp.objs.size) ⟨hp.push o, g, d, tk, os⟩ → wpAny (model prog w) A' (pyIter v) Q E ⟨hp, g, d, tk, os⟩ :=
      fun q => B.iter prog w _ _ ⟨hp, g, d, tk, os⟩ _ h1 q
    wp_walk using q1
    refine wpAny_stack_any fun st => wpAny_pure ?_
    split
    · rename_i c _ _ _ _ _
      cases (c == Value.type "enumerate")
      · wp_walk using q1
        exact ⟨_, rfl, h⟩
      · wp_walk using q1
        exact ⟨_, rfl, h⟩
    · wp_walk using q1
      exact ⟨_, rfl, h⟩
section
variable {prog : Program} {w : World} {A : Around} {E : Value → Shared → Prop} {s : Shared}
theorem call_enum1 {v : Value} {o : Obj} {H : Heap → Prop} {Q : Value → Shared → Prop} (B : Begins v o H) (h1 : H s.heap)
    (h : ∀ h', IsEnum h' (s.heap.objs.size + 1) s.heap.objs.size 0 .none → h'.get? s.heap.objs.size = some o → h'.objs.size = s.heap.objs.size + 2 →
      (∀ b o, s.heap.get? b = some o → h'.get? b = some o) → Q (.ref (s.heap.objs.size + 1)) { s with heap := h' }) :
    wpAny (model prog w) A (call (.type "enumerate") [v]) Q E s := by
  refine callType_new F.called_enumerate (by decide) (F.typeCall_enumerate_1 _) (F.newCall_enumerate_1 _) (fun obj => F.args_object_init_2 obj _) F.entry_enumerate_new
    (meets_enum1 B) ⟨h1, ?_⟩
  have hz : (s.heap.push o).objs.size = s.heap.objs.size + 1 := Heap.size_push ..
  show _ ∧ _
  rw [hz]
  have he : IsEnum ((s.heap.push o).push { cls := .type "enumerate", data := .fields #[.none, .bool false, .ref s.heap.objs.size, rawInt 0, .none, .none] }) (s.heap.objs.size + 1) s.heap.objs.size 0 .none := by
    have := Heap.get?_push_size (s.heap.push o) (o := { cls := .type "enumerate", data := .fields #[.none, .bool false, .ref s.heap.objs.size, rawInt 0, .none, .none] }) rfl
    rw [hz] at this; exact this
  refine ⟨⟨_, he, rfl⟩, h _ he (Heap.get?_push_of_some _ (Heap.get?_push_size _ B.free)) (by rw [Heap.size_push, hz]) fun b o x => Heap.get?_push_of_some _ (Heap.get?_push_of_some _ x)⟩
end
/-- what is walked in turn -/
inductive Src where
  | l (a : Addr) | t (a : Addr) | s (z : Str)
def Src.at (K : PySem.W.Frag) (H : Hp) : Src → List V → Prop
  | .l a, xs => SqL K H a xs
  | .t a, xs => SqT K H a xs
  | .s z, xs => xs = z.cps.toList.map fun c => V.str ⟨#[c]⟩
/-- its iterator -/
def Src.iter (it : Addr) (i : Nat) (h : Heap) : Src → Prop
  | .l a => h.IsListIter it a i
  | .t a => h.IsTupleIter it a i
  | .s z => ∃ t, h.IsStrIter it (strIterType z) z t i
def Src.v : Src → V
  | .l a => .ref a
  | .t a => .ref a
  | .s z => .str z
theorem Src.obj {src : Src} {it : Addr} {i : Nat} {h : Heap} (st : src.iter it i h) : ∃ o, h.get? it = some o ∧ (∀ v, o.data ≠ .cell v) ∧ o.cls ≠ .type "list" ∧ o.cls ≠ .type "tuple" ∧ o.cls ≠ .type "enumerate" := by
  cases src with
  | l a =>
    obtain ⟨o, ho, hc, hd⟩ := st
    exact ⟨o, ho, (fun v q => by rw [hd] at q; cases q), (by rw [hc]; decide), (by rw [hc]; decide), (by rw [hc]; decide)⟩
  | t a =>
    obtain ⟨o, ho, hc, hd⟩ := st
    exact ⟨o, ho, (fun v q => by rw [hd] at q; cases q), (by rw [hc]; decide), (by rw [hc]; decide), (by rw [hc]; decide)⟩
  | s z =>
    obtain ⟨t, o, ho, hc, hd⟩ := st
    refine ⟨o, ho, (fun v q => by rw [hd] at q; cases q), ?_, ?_, ?_⟩ <;> (rw [hc]; unfold strIterType; split <;> decide)
theorem Src.keep {src : Src} {it : Addr} {i : Nat} {h h' : Heap} (st : src.iter it i h) (k : ∀ o, h.get? it = some o → h'.get? it = some o) : src.iter it i h' := by
  cases src with
  | l a => obtain ⟨o, ho, r⟩ := st; exact ⟨o, k o ho, r⟩
  | t a => obtain ⟨o, ho, r⟩ := st; exact ⟨o, k o ho, r⟩
  | s z => obtain ⟨t, o, ho, r⟩ := st; exact ⟨t, o, k o ho, r⟩
section
variable {X : Cx} {pins : List (Addr × Obj)} {σ : L2.St} {H : Hp} {s : Shared}
theorem Src.inj {src : Src} {xs ys : List V} (I : Inv X pins σ H s) (h : src.at X.K H xs) (h' : src.at X.K H ys) : xs = ys := by
  cases src with
  | l a => exact I.list_inj h h'
  | t a => exact I.tuple_inj h h'
  | s z => exact h.trans h'.symm
theorem Src.draws {src : Src} {it : Addr} {xs : List V} {i : Nat} (A : Around) (hh : A.handled = none) (I : Inv X pins σ H s) (h : src.at X.K H xs) (st : src.iter it i s.heap) :
    ∃ fp Pv St, Draws X.prog X.w A it fp xs.length Pv St ∧ St i s.heap ∧ (∀ j v, Pv j v → ∃ x, xs[j]? = some x ∧ RelV x v) ∧ (∀ j h, St j h → src.iter it j h) ∧ (∀ b ∈ fp, b = it ∨ ∃ o, s.heap.get? b = some o ∧ (o.cls = .type "list" ∨ o.cls = .type "tuple")) ∧ it ∈ fp ∧ ∀ b ∈ fp, b = it ∨ src.v = .ref b := by
  obtain ⟨oi, hoi, _, nl, nt, _⟩ := Src.obj st
  cases src with
  | l a =>
    obtain ⟨its, rv, p, _⟩ := I.list h
    obtain ⟨o, ho, hc, r⟩ := p.isList
    have hne : a ≠ it := fun e => by rw [e] at ho; rw [hoi] at ho; cases ho; exact nl hc
    have D := Draws.list (prog := X.prog) (w := X.w) (A := A) hh it a hne its.toArray
    rw [List.size_toArray, ← rv.length] at D
    refine ⟨_, _, _, D, ⟨st, p.isList⟩, fun j v e => ?_, fun j h q => q.1, fun b hb => ?_, by simp, fun b hb => ?_⟩
    · have e : its[j]? = some v := by simpa using e
      exact paired_get rv e
    · have hb : b = it ∨ b = a := by simpa using hb
      exact hb.imp id fun z => ⟨o, by rw [z]; exact ho, .inl hc⟩
    · have hb : b = it ∨ b = a := by simpa using hb
      exact hb.imp id fun z => by rw [z]; rfl
  | t a =>
    obtain ⟨its, rv, p, _⟩ := I.tuple h
    obtain ⟨o, ho, hc, r⟩ := (show s.heap.IsTuple a its.toArray from p)
    have hne : a ≠ it := fun e => by rw [e] at ho; rw [hoi] at ho; cases ho; exact nt hc
    have D := Draws.tuple (prog := X.prog) (w := X.w) (A := A) hh it a hne its.toArray
    rw [List.size_toArray, ← rv.length] at D
    refine ⟨_, _, _, D, ⟨st, p⟩, fun j v e => ?_, fun j h q => q.1, fun b hb => ?_, by simp, fun b hb => ?_⟩
    · have e : its[j]? = some v := by simpa using e
      exact paired_get rv e
    · have hb : b = it ∨ b = a := by simpa using hb
      exact hb.imp id fun z => ⟨o, by rw [z]; exact ho, .inr hc⟩
    · have hb : b = it ∨ b = a := by simpa using hb
      exact hb.imp id fun z => by rw [z]; rfl
  | s z =>
    obtain ⟨t, st⟩ := st
    have hx : xs = z.cps.toList.map fun c => V.str ⟨#[c]⟩ := h
    have D := Draws.text (prog := X.prog) (w := X.w) (A := A) hh it z t
    have hl : z.cps.size = xs.length := by rw [hx]; simp
    rw [hl] at D
    refine ⟨_, _, _, D, st, fun j v ⟨c, u, e1, e2⟩ => ⟨.str ⟨#[c]⟩, ?_, u, e2⟩, fun j h q => ⟨t, q⟩, fun b hb => .inl (by simpa using hb), by simp, fun b hb => .inl (by simpa using hb)⟩
    rw [hx, List.getElem?_map]
    have : z.cps.toList[j]? = some c := by simpa using e1
    rw [this]; rfl
/-- enumerate: the source as it stands at each turn, each item in a new pair -/
def IteG (K : PySem.W.Frag) (src : Src) : It :=
  ⟨fun i H => ∃ (xs : List V) (x : V), src.at K H xs ∧ xs[i]? = some x, fun i H v H' => ∃ T x, v = .ref T ∧ H T = none ∧ H' = upd H T (.tup [.int (i : Nat), x]) ∧ ∀ xs, src.at K H xs → xs[i]? = some x, fun i H => ∃ xs : List V, src.at K H xs ∧ xs.length = i⟩
theorem turn_enumG {P : Program} {w : World} {K : PySem.W.Frag} {elts : List Expr} {kk : Nat} {tpos : Pos} (src : Src) (e it : Addr) :
    Turn P w K (.Tuple elts kk tpos) (IteG K src) [e, it] e (fun i h => (∃ old, IsEnum h e it ((i : Nat) : Int) old) ∧ src.iter it i h ∧ e ≠ it) where
  mem := by simp
  obj := fun i h st b hb => by
    obtain ⟨⟨old, he⟩, hi, _⟩ := st
    obtain ⟨o, ho, hd, _⟩ := Src.obj hi
    have e' : b = e ∨ b = it := by simpa using hb
    rcases e' with z | z
    · rw [z]; exact ⟨_, he, fun v q => nomatch q⟩
    · rw [z]; exact ⟨o, ho, hd⟩
  keep := fun i h h' st k => let ⟨⟨old, he⟩, hi, hne⟩ := st; ⟨⟨old, k e (by simp) _ he⟩, Src.keep hi fun o q => k it (by simp) o q, hne⟩
  item := by
    intro X hP hw hK hc i pins s σ H E I hf st hg
    subst hP hw hK
    obtain ⟨⟨old, he⟩, hit, hne⟩ := st
    obtain ⟨xs, x, hq, hx⟩ := hg
    obtain ⟨fp, Pv, St, D, st0, hPv, hSt, hfp, _, _⟩ := Src.draws X.A.in1 (show X.A.in1.handled = none by simp [I.ok.hd hc]) I hq hit
    have hel : e < s.heap.objs.size := Heap.lt_size he
    have hil : it < s.heap.objs.size := by obtain ⟨_, q, _⟩ := Src.obj hit; exact Heap.lt_size q
    have hef : e ∉ fp := fun h => by
      rcases hfp e h with z | ⟨o, ho, z⟩
      · exact hne z
      · have he : s.heap.get? e = _ := he
        rw [he] at ho; cases ho
        rcases z with z | z
        · have z : Value.type "enumerate" = Value.type "list" := z
          exact absurd z (by decide)
        · have z : Value.type "enumerate" = Value.type "tuple" := z
          exact absurd z (by decide)
    have hlt : i < xs.length := (List.getElem?_eq_some_iff.mp hx).1
    refine wpAny_pyNext_enum_itemD D he st0 hlt hne hef fun u h' tk hPu ho hst' hT hsz hk => ?_
    obtain ⟨x', hx', ru⟩ := hPv i u hPu
    rw [hx] at hx'; cases hx'
    have hit' := hSt _ _ hst'
    refine ⟨_, rfl, wpAny_letOwnedTupleGo_enum (s := { s with heap := h', toks := tk + 1 }) ho fun h'' he' sb => ?_⟩
    have hT2 : h''.get? s.heap.objs.size = some { cls := .type "tuple", data := .seq #[.int i tk, u] } := (sb.2 _ (Nat.ne_of_gt hel)).trans hT
    have new : ObjOk X.prog X.w (upd H s.heap.objs.size (.tup [.int (i : Nat), x])) h'' s.heap.objs.size (.tup [.int (i : Nat), x]) :=
      ⟨by show 2 ≤ sizeLine; decide, [.int i tk, u], .cons ⟨_, rfl⟩ (.cons ru .nil), ⟨_, hT2, rfl, _, rfl⟩⟩
    have I1 : Inv X pins σ (upd H s.heap.objs.size (.tup [.int (i : Nat), x])) { s with heap := h'', toks := tk + 1 } :=
      I.turnedNew (ch := [e, it]) (fun b ob hb q => (sb.2 b (fun z => hb (by simp [z]))).trans (hk b ob (fun z => hb (by simp [z])) (fun z => hb (by simp [z])) q)) hf (Nat.le_refl _) new
    refine ⟨.ref s.heap.objs.size, _, I1, rfl, ⟨_, x, rfl, I.hok.fresh (Nat.le_refl _), rfl, fun ys hy => by rw [Src.inj I hy hq]; exact hx⟩, ⟨⟨u, ?_⟩, Src.keep hit' fun o q => (sb.2 it (Ne.symm hne)).trans q, hne⟩, fun b hb => ?_⟩
    · have e1 : ((i + 1 : Nat) : Int) = (i : Int) + 1 := by omega
      rw [e1]; exact he'
    · have hb' : b < s.heap.objs.size := by
        have e' : b = e ∨ b = it := by simpa using hb
        rcases e' with z | z
        · rw [z]; exact hel
        · rw [z]; exact hil
      rw [upd_ne (Nat.ne_of_lt hb')]
      exact (hf b hb).1
  done := by
    intro X hP hw hK hc i pins s σ H E I hf st hg
    subst hP hw hK
    obtain ⟨⟨old, he⟩, hit, hne⟩ := st
    obtain ⟨xs, hq, rfl⟩ := hg
    obtain ⟨fp, Pv, St, D, st0, hPv, hSt, hfp, _, _⟩ := Src.draws X.A.in1 (show X.A.in1.handled = none by simp [I.ok.hd hc]) I hq hit
    obtain ⟨f0, f1, f2, f3, f4, f5⟩ := hf it (by simp)
    exact wpAny_pyNext_enum_endD D he st0 fun h' eb => ⟨rfl, I.turned (t' := s.toks) (fun b o hb q => eb b o hb q) f0 f1 f3 f4 f5⟩
  self := fun A i s Q E st h => let ⟨⟨_, he⟩, _⟩ := st; wpAny_pyIter_enum he h
end
section
variable {X : Cx} {e : Expr} {p pos tpos : Pos} {elts : List Expr} {kk : Nat}
/-- enumerate(v) -/
def tEnum (K : PySem.W.Frag) (te : TE) : TI := fun σ H R => te σ H fun v H1 => ∃ (src : Src) (xs : List V), v = src.v ∧ src.at K H1 xs ∧ R (IteG K src) H1
theorem pi_enumG {te : TE} (hg : Gl X "enumerate") (hm : X.mg "enumerate" = none) (he : PE X e te) (hs : starEach [e] X.env = [(false, eval e X.env)] := by rfl) :
    PI X (.Tuple elts kk tpos) (.Call (.Name "enumerate" p) [e] [] pos) (tEnum X.K te) := by
  refine ⟨fun pins s σ H R I h => ?_⟩
  refine Call_ (ld_blt I hg hm boot_enumerate (PyProof.Rows.callWith_type1 (one_arg he I h (fun v s1 x H1 I1 r q => ?_) hs) hs rfl))
  obtain ⟨src, xs, rfl, hq, q⟩ := q
  have fin : ∀ h' : Heap, IsEnum h' (s1.heap.objs.size + 1) s1.heap.objs.size 0 .none → src.iter s1.heap.objs.size 0 h' → (∀ b o, s1.heap.get? b = some o → h'.get? b = some o) →
      wpAny (model X.prog X.w) X.A (pyIter (.ref (s1.heap.objs.size + 1))) (PIE X pins σ (.Tuple elts kk tpos) R) X.xe { s1 with heap := h' } := fun h' he hit hk => by
    refine wpAny_pyIter_enum he ?_
    have I2 : Inv X pins σ H1 { s1 with heap := h' } := I1.kept (t' := s1.toks) hk
    refine ⟨s1.heap.objs.size + 1, [s1.heap.objs.size + 1, s1.heap.objs.size], _, _, H1, rfl, I2, turn_enumG src (s1.heap.objs.size + 1) s1.heap.objs.size, ⟨⟨.none, he⟩, hit, Nat.succ_ne_self _⟩, fun b hb => ?_, q⟩
    have e' : b = s1.heap.objs.size + 1 ∨ b = s1.heap.objs.size := by simpa using hb
    have hle : s1.heap.objs.size ≤ b := by
      rcases e' with z | z
      · rw [z]; exact Nat.le_add_right _ _
      · rw [z]; exact Nat.le_refl _
    exact I1.fpOk hle (I1.hok.fresh hle)
  cases src with
  | l a =>
    cases r
    obtain ⟨its, rv, p', hz⟩ := I1.list hq
    exact call_enum1 (begins_list a its.toArray) p'.isList fun h' he hg hsz hk => fin h' he ⟨_, hg, rfl, rfl⟩ hk
  | t a =>
    cases r
    obtain ⟨its, rv, p', hz⟩ := I1.tuple hq
    exact call_enum1 (begins_tuple a its.toArray) p' fun h' he hg hsz hk => fin h' he ⟨_, hg, rfl, rfl⟩ hk
  | s z =>
    obtain ⟨t, rfl⟩ := r
    exact call_enum1 (begins_text z t) trivial fun h' he hg hsz hk => fin h' he ⟨t, _, hg, rfl, rfl⟩ hk
end
end PV

namespace PV
open PySem L2 PyProof.Rows
/-- the items of an operand; a list of one's own is locked -/
def srcD (p : P) : EF (List D × Option Nat) := fun E => match p with
  | .v d => (items d).bind fun ds => some ((ds, none), E)
  | .s i => match E.sl[i]? with
    | some (.o false (.lst ds)) => some ((ds, some i), { E with sl := E.sl.set i (.o true (.lst ds)) })
    | some (.o true (.lst ds)) => some ((ds, none), E)
    | some (.b (.lst ds)) => some ((ds, none), E)
    | some (.v d) => (items d).bind fun ds => some ((ds, none), E)
    | _ => none
structure SubW (W2 W : FP) : Prop where
  ls : ∀ x ∈ W.ls, x ∈ W2.ls
  lk : W2.lk = W.lk
  H0 : W2.H0 = W.H0
  ob : W2.ob = W.ob
theorem SameW.sub {W2 W : FP} (h : SameW W2 W) : SubW W2 W := ⟨fun x hx => by rw [h.ls]; exact hx, h.lk, h.H0, h.ob⟩
/-- the source holds ds, wherever the frame stands -/
def Pers (K : PySem.W.Frag) (W : FP) (F : Hp) (src : Src) (ds : List D) : Prop :=
  ∀ W2 E2 F2 H2, SubW W2 W → FI K W2 E2 F2 H2 → Ex F F2 → ∃ xs, src.at K H2 xs ∧ RpA K F2 xs ds
section
variable {K : PySem.W.Frag} {W : FP} {E E' : En} {F H : Hp} {v : V} {p : P} {its : List D} {o : Option Nat}
theorem pers_val {d : D} (r : Rp K F v d) (h : items d = some its) : ∃ src : Src, v = src.v ∧ Pers K W F src its := by
  cases r with
  | lst s r =>
    cases h
    exact ⟨.l _, rfl, fun W2 E2 F2 H2 _ I2 e2 => ⟨_, .inl (.inl (I2.FH _ _ (e2 _ _ s))), r.mono e2⟩⟩
  | tup s r =>
    cases h
    exact ⟨.t _, rfl, fun W2 E2 F2 H2 _ I2 e2 => ⟨_, ex_t I2.FH (ex_t e2 s), r.mono e2⟩⟩
  | str x hx =>
    cases h
    refine ⟨.s x, rfl, fun W2 E2 F2 H2 _ I2 e2 => ⟨_, rfl, ?_⟩⟩
    unfold signs
    have : ∀ l : List Nat, (∀ c ∈ l, SOk ⟨#[c]⟩) → RpA K F2 (l.map fun c => V.str ⟨#[c]⟩) (l.map fun c => D.str ⟨#[c]⟩) := by
      intro l
      induction l with
      | nil => intro _; exact .nil
      | cons c l ih => intro h; exact .cons (.str _ (h c List.mem_cons_self)) (ih fun y hy => h y (List.mem_cons_of_mem _ hy))
    refine this _ fun c hc => ?_
    obtain ⟨i, hi, e⟩ := List.mem_iff_getElem.mp hc
    have : x.cps[i]? = some c := by
      have h2 : x.cps.toList[i]? = some c := by rw [List.getElem?_eq_getElem hi, e]
      simpa using h2
    exact hx.sign this
  | _ => cases h
theorem src_of (I : FI K W E F H) (r1 : PR K F W.σ v p) (hf : srcD p E = some ((its, o), E')) : ∃ (src : Src) (W' : FP), v = src.v ∧ LkR W W' o ∧ FI K W' E' F H ∧ Pers K W' F src its := by
  have val : ∀ {d : D}, Rp K F v d → ((items d).bind fun ds => some ((ds, (none : Option Nat)), E)) = some ((its, o), E') → ∃ (src : Src) (W' : FP), v = src.v ∧ LkR W W' o ∧ FI K W' E' F H ∧ Pers K W' F src its := by
    intro d r hf
    obtain ⟨ds, h2, hf⟩ := bsome hf
    cases hf
    obtain ⟨src, e, h⟩ := pers_val (W := W) r h2
    exact ⟨src, W, e, rfl, I, h⟩
  cases p with
  | v d => exact val r1 hf
  | s i =>
    have r1 : W.σ[i]? = some (some v) := r1
    unfold srcD at hf
    simp only at hf
    cases q : E.sl[i]? with
    | none => simp [q] at hf
    | some s =>
      have sk := I.sl i s q
      simp only [q] at hf
      cases s with
      | v d =>
        obtain ⟨u, e2, r⟩ := sk
        rw [r1] at e2; cases e2
        exact val r hf
      | o l d =>
        cases d with
        | lst ds =>
          obtain ⟨p, e2, ow, wr⟩ := sk
          rw [r1] at e2; cases e2
          cases l with
          | false =>
            cases hf
            obtain ⟨I2, no⟩ := I.lock q r1
            refine ⟨.l p, _, rfl, ⟨p, its, rfl, no⟩, I2, fun W2 E2 F2 H2 q1 I2 e2 => ?_⟩
            obtain ⟨ow2, _⟩ := I2.l2 (i, p, .lst its) (q1.ls _ List.mem_cons_self)
            obtain ⟨vs2, hv2, r2, _⟩ := ow2.ct
            exact ⟨vs2, .inl (.inl hv2), r2⟩
          | true =>
            cases hf
            have lm := lookup_mem (I.l1 i _ p q r1)
            refine ⟨.l p, W, rfl, rfl, I, fun W2 E2 F2 H2 q1 I2 e2 => ?_⟩
            obtain ⟨ow2, _⟩ := I2.l2 (i, p, .lst its) (q1.ls _ lm)
            obtain ⟨vs2, hv2, r2, _⟩ := ow2.ct
            exact ⟨vs2, .inl (.inl hv2), r2⟩
        | _ => cases l <;> simp at hf
      | b d =>
        cases d with
        | lst ds =>
          cases hf
          obtain ⟨p, e2, ct, nf, n0, nb⟩ := sk
          rw [r1] at e2; cases e2
          obtain ⟨vs, hv, r, _⟩ := id ct
          refine ⟨.l p, W, rfl, rfl, I, fun W2 E2 F2 H2 q I2 e2 => ⟨vs, .inl (.inl ?_), r.mono e2⟩⟩
          cases h0 : W.H0 p with
          | none => exact absurd h0 n0
          | some o =>
            have nl : ∀ x ∈ W.lk, x.1 ≠ p := fun x hx z => by
              have := (I.lo x hx).1
              rw [z, hv] at this; cases this
            have e1 := I.kp p o h0 nb nl
            rw [hv] at e1; cases e1
            exact I2.kp p _ (by rw [q.H0]; exact h0) (fun y hy => nb y (by rw [← q.ob]; exact hy)) (by rw [q.lk]; exact nl)
        | _ => simp at hf
      | _ => simp at hf
def enumD (ds : List D) : List D := ds.mapIdx fun i d => .tup [.int (i : Int), d]
theorem wk_enum {src : Src} {ds : List D} (h : Pers K W F src ds) : Wk K W F (enumD ds) (IteG K src) := by
  intro W2 E2 F2 H2 q1 I e
  obtain ⟨xs, s, r⟩ := h W2 E2 F2 H2 q1.sub I e
  refine ⟨⟨xs, s, by rw [r.length]; simp [enumD]⟩, fun i d hd => ?_⟩
  unfold enumD at hd
  rw [List.getElem?_mapIdx] at hd
  obtain ⟨d0, hd0, rfl⟩ := Option.map_eq_some_iff.mp hd
  obtain ⟨u, h1, h2⟩ := r.get hd0
  refine ⟨⟨xs, u, s, h1⟩, fun x H3 ⟨T, y, g1, g2, g3, g4⟩ => ?_⟩
  have := g4 xs s
  rw [h1] at this; cases this
  subst g1 g3
  have nT : F2 T = none := I.FH.none g2
  refine ⟨upd F2 T (.tup [.int (i : Nat), u]), I.know nT (I.no0 g2) (I.nob g2) (I.noo g2) fun x hx z => by (rw [← z, (I.lo x hx).1] at g2; cases g2), Ex.new nT, ?_⟩
  exact .tup (.inl (.inl upd_same)) (.cons (.int _) (.cons (h2.mono (Ex.new nT)) .nil)) (by show 2 ≤ sizeLine; decide)
end
section
variable {X : Cx} {e : Expr} {p pos tpos : Pos} {elts : List Expr} {kk : Nat}
def iEnumD (f : EF P) : EF (List D × Option Nat) := fun E => (f E).bind fun p => (srcD p.1 p.2).bind fun x => some ((enumD x.1.1, x.1.2), x.2)
theorem di_enum {f : EF P} (hg : Gl X "enumerate") (hm : X.mg "enumerate" = none) (h : DP X e f) (hs : starEach [e] X.env = [(false, eval e X.env)] := by rfl) :
    DI X (.Tuple elts kk tpos) (.Call (.Name "enumerate" p) [e] [] pos) (iEnumD f) := by
  obtain ⟨t, hp, h⟩ := h.ex
  refine ⟨_, pi_enumG hg hm hp hs, fun W F H E its o E' R I hf k => ?_⟩
  unfold iEnumD at hf
  obtain ⟨⟨q, E1⟩, h1, hf⟩ := bsome hf
  obtain ⟨⟨⟨ds, o1⟩, E2⟩, h2, hf⟩ := bsome hf
  cases hf
  refine h W F H E q E1 _ I h1 fun v F1 H1 I1 e1 r1 => ?_
  obtain ⟨src, W', rfl, lk, I2, ps⟩ := src_of I1 r1 h2
  obtain ⟨xs, s, r⟩ := ps W' _ F1 H1 ⟨fun _ h => h, rfl, rfl, rfl⟩ I2 (Ex.refl F1)
  exact ⟨src, xs, rfl, s, k _ W' F1 H1 lk I2 e1 (wk_enum ps)⟩
end
end PV

namespace PV
open PySem L2 PyProof.Rows
/-! ### zip(v, w): lists, tuples, texts -/
def ItzG (K : PySem.W.Frag) (a b : Src) : It :=
  ⟨fun i H => ∃ (xs ys : List V) (x y : V), a.at K H xs ∧ b.at K H ys ∧ xs[i]? = some x ∧ ys[i]? = some y,
    fun i H v H' => ∃ T x y, v = .ref T ∧ H T = none ∧ H' = upd H T (.tup [x, y]) ∧ (∀ xs, a.at K H xs → xs[i]? = some x) ∧ ∀ ys, b.at K H ys → ys[i]? = some y,
    fun i H => ∃ xs ys : List V, a.at K H xs ∧ b.at K H ys ∧ i ≤ xs.length ∧ i ≤ ys.length ∧ (i = xs.length ∨ i = ys.length)⟩
/-- the zip's cells stand apart, and apart from what is walked -/
structure Apart (z TI TO i1 i2 : Addr) (a b : Src) : Prop where
  TIz : TI ≠ z
  TOz : TO ≠ z
  TITO : TI ≠ TO
  TIi1 : TI ≠ i1
  TIi2 : TI ≠ i2
  TOi1 : TO ≠ i1
  TOi2 : TO ≠ i2
  z1 : z ≠ i1
  z2 : z ≠ i2
  i12 : i1 ≠ i2
  a1 : ∀ q, a.v = .ref q → q ≠ z ∧ q ≠ TO ∧ q ≠ i1 ∧ q ≠ i2
  b1 : ∀ q, b.v = .ref q → q ≠ z ∧ q ≠ TO ∧ q ≠ i1 ∧ q ≠ i2
theorem Apart.sep {z TI TO i1 i2 : Addr} {a b : Src} {fp1 fp2 : List Addr} (D : Apart z TI TO i1 i2 a b) (m1 : i1 ∈ fp1) (m2 : i2 ∈ fp2) (h1 : ∀ c ∈ fp1, c = i1 ∨ a.v = .ref c) (h2 : ∀ c ∈ fp2, c = i2 ∨ b.v = .ref c) : ZipSep2 z TI TO i1 i2 fp1 fp2 where
  TIz := D.TIz
  TOz := D.TOz
  TITO := D.TITO
  TIi1 := D.TIi1
  mem1 := m1
  zf1 := fun h => (h1 _ h).elim D.z1 fun e => (D.a1 _ e).1 rfl
  Tf1 := fun h => (h1 _ h).elim D.TOi1 fun e => (D.a1 _ e).2.1 rfl
  TIi2 := D.TIi2
  mem2 := m2
  zf2 := fun h => (h2 _ h).elim D.z2 fun e => (D.b1 _ e).1 rfl
  Tf2 := fun h => (h2 _ h).elim D.TOi2 fun e => (D.b1 _ e).2.1 rfl
  sep1_2 := fun h => (h2 _ h).elim D.i12 fun e => (D.b1 _ e).2.2.1 rfl
  sep2_1 := fun h => (h1 _ h).elim (fun e => D.i12 e.symm) fun e => (D.a1 _ e).2.2.2 rfl
theorem turn_zipG {P : Program} {w : World} {K : PySem.W.Frag} {elts : List Expr} {kk : Nat} {tpos : Pos} {a b : Src} {z TI TO i1 i2 : Addr} (D : Apart z TI TO i1 i2 a b) :
    Turn P w K (.Tuple elts kk tpos) (ItzG K a b) [z, TI, TO, i1, i2] z (fun i h => IsZip h z TI TO .none ∧ IsTupOf2 h TI (.ref i1) (.ref i2) ∧ (∃ x y, IsTupOf2 h TO x y) ∧ a.iter i1 i h ∧ b.iter i2 i h) where
  mem := by simp
  obj := fun i h st c hc => by
    obtain ⟨hz, hTI, ⟨x, y, hTO⟩, h1, h2⟩ := st
    obtain ⟨o1, e1, d1, _⟩ := Src.obj h1
    obtain ⟨o2, e2, d2, _⟩ := Src.obj h2
    have e' : c = z ∨ c = TI ∨ c = TO ∨ c = i1 ∨ c = i2 := by simpa using hc
    rcases e' with q | q | q | q | q
    · rw [q]; exact ⟨_, hz, fun v q => nomatch q⟩
    · rw [q]; exact ⟨_, hTI, fun v q => nomatch q⟩
    · rw [q]; exact ⟨_, hTO, fun v q => nomatch q⟩
    · rw [q]; exact ⟨o1, e1, d1⟩
    · rw [q]; exact ⟨o2, e2, d2⟩
  keep := fun i h h' st k => by
    obtain ⟨hz, hTI, ⟨x, y, hTO⟩, h1, h2⟩ := st
    exact ⟨k z (by simp) _ hz, k TI (by simp) _ hTI, ⟨x, y, k TO (by simp) _ hTO⟩, Src.keep h1 fun o q => k i1 (by simp) o q, Src.keep h2 fun o q => k i2 (by simp) o q⟩
  item := by
    intro X hP hw hK hc i pins s σ H E I hf st hg
    subst hP hw hK
    obtain ⟨hz, hTI, ⟨x0, y0, hTO⟩, h1, h2⟩ := st
    obtain ⟨xs, ys, x, y, hqx, hqy, hx, hy⟩ := hg
    have hh : X.A.in1.handled = none := by simp [I.ok.hd hc]
    obtain ⟨fp1, P1, St1, D1, st1, hP1, hS1, _, m1, f1⟩ := Src.draws X.A.in1 hh I hqx h1
    obtain ⟨fp2, P2, St2, D2, st2, hP2, hS2, _, m2, f2⟩ := Src.draws X.A.in1 hh I hqy h2
    have hzl : z < s.heap.objs.size := Heap.lt_size hz
    refine wpAny_pyNext_zipD2_item (D.sep m1 m2 f1 f2) D1 D2 hz hTI hTO st1 st2 (List.getElem?_eq_some_iff.mp hx).1 (List.getElem?_eq_some_iff.mp hy).1 fun u u2 h' tk p1 p2 z' TO' s1' s2' hT hsz hk => ?_
    obtain ⟨x', hx', ru⟩ := hP1 i u p1
    obtain ⟨y', hy', ru2⟩ := hP2 i u2 p2
    rw [hx] at hx'; cases hx'
    rw [hy] at hy'; cases hy'
    have h1' := hS1 _ _ s1'
    have h2' := hS2 _ _ s2'
    refine ⟨_, rfl, wpAny_letOwnedTupleGo_zip (s := { s with heap := h', toks := tk }) z' fun h'' z'' sb => ?_⟩
    have hT2 : h''.get? s.heap.objs.size = some { cls := .type "tuple", data := .seq #[u, u2] } := (sb.2 _ (Nat.ne_of_gt hzl)).trans hT
    have new : ObjOk X.prog X.w (upd H s.heap.objs.size (.tup [x, y])) h'' s.heap.objs.size (.tup [x, y]) :=
      ⟨by show 2 ≤ sizeLine; decide, [u, u2], .cons ru (.cons ru2 .nil), ⟨_, hT2, rfl, _, rfl⟩⟩
    have I1 : Inv X pins σ (upd H s.heap.objs.size (.tup [x, y])) { s with heap := h'', toks := tk } :=
      I.turnedNew (t' := tk) (ch := [z, TI, TO, i1, i2]) (fun c o hb q => (sb.2 c (fun q' => hb (by simp [q']))).trans (hk c o (fun q' => hb (by simp [q'])) (fun q' => hb (by simp [q'])) (fun q' => hb (by simp [q'])) (fun q' => hb (by simp [q'])) q)) hf (Nat.le_refl _) new
    refine ⟨.ref s.heap.objs.size, _, I1, rfl, ⟨_, x, y, rfl, I.hok.fresh (Nat.le_refl _), rfl, fun l hl => by rw [Src.inj I hl hqx]; exact hx, fun l hl => by rw [Src.inj I hl hqy]; exact hy⟩, ⟨z'', ?_, ⟨u, u2, ?_⟩, ?_, ?_⟩, fun c hcm => ?_⟩
    · exact (sb.2 _ D.TIz).trans (hk _ _ D.TIz D.TITO D.TIi1 D.TIi2 hTI)
    · exact (sb.2 _ D.TOz).trans TO'
    · exact Src.keep h1' fun o q => (sb.2 _ D.z1.symm).trans q
    · exact Src.keep h2' fun o q => (sb.2 _ D.z2.symm).trans q
    · have hlt : c < s.heap.objs.size := by
        have e' : c = z ∨ c = TI ∨ c = TO ∨ c = i1 ∨ c = i2 := by simpa using hcm
        rcases e' with q | q | q | q | q
        · rw [q]; exact hzl
        · rw [q]; exact Heap.lt_size hTI
        · rw [q]; exact Heap.lt_size hTO
        · rw [q]; obtain ⟨_, e1, _⟩ := Src.obj h1; exact Heap.lt_size e1
        · rw [q]; obtain ⟨_, e2, _⟩ := Src.obj h2; exact Heap.lt_size e2
      rw [upd_ne (Nat.ne_of_lt hlt)]
      exact (hf c hcm).1
  done := by
    intro X hP hw hK hc i pins s σ H E I hf st hg
    subst hP hw hK
    obtain ⟨hz, hTI, ⟨x0, y0, hTO⟩, h1, h2⟩ := st
    obtain ⟨xs, ys, hqx, hqy, l1, l2, hend⟩ := hg
    have hh : X.A.in1.handled = none := by simp [I.ok.hd hc]
    obtain ⟨fp1, P1, St1, D1, st1, hP1, hS1, _, m1, f1⟩ := Src.draws X.A.in1 hh I hqx h1
    obtain ⟨fp2, P2, St2, D2, st2, hP2, hS2, _, m2, f2⟩ := Src.draws X.A.in1 hh I hqy h2
    exact wpAny_pyNext_zipD2_end (D.sep m1 m2 f1 f2) D1 D2 hz hTI hTO st1 st2 l1 l2 hend fun h' tk hk => ⟨rfl, I.turnedL (t' := tk) (ch := [z, TI, TO, i1, i2]) (fun c o hb q =>
      hk c o (fun q' => hb (by simp [q'])) (fun q' => hb (by simp [q'])) (fun q' => hb (by simp [q'])) (fun q' => hb (by simp [q'])) q) hf⟩
  self := fun A i s Q E st h => wpAny_pyIter_zip st.1 h
section
variable {X : Cx} {pins : List (Addr × Obj)} {σ : L2.St} {H : Hp} {s : Shared}
theorem src_begins {src : Src} {u : Value} {xs : List V} (I : Inv X pins σ H s) (r : RelV src.v u) (h : src.at X.K H xs) :
    ∃ (o : Obj) (Hq : Heap → Prop), Begins u o Hq ∧ Hq s.heap ∧ (∀ (it : Addr) (h' : Heap), h'.get? it = some o → src.iter it 0 h') ∧ ∀ q, src.v = .ref q → q < s.heap.objs.size := by
  cases src with
  | l a =>
    cases r
    obtain ⟨its, rv, p', hz⟩ := I.list h
    obtain ⟨o, ho, _⟩ := p'.isList
    exact ⟨_, _, begins_list a its.toArray, p'.isList, fun it h' hg => ⟨_, hg, rfl, rfl⟩, fun q e => by cases e; exact Heap.lt_size ho⟩
  | t a =>
    cases r
    obtain ⟨its, rv, p', hz⟩ := I.tuple h
    obtain ⟨o, ho, _⟩ := (show s.heap.IsTuple a its.toArray from p')
    exact ⟨_, _, begins_tuple a its.toArray, p', fun it h' hg => ⟨_, hg, rfl, rfl⟩, fun q e => by cases e; exact Heap.lt_size ho⟩
  | s z =>
    obtain ⟨t, rfl⟩ := r
    exact ⟨_, _, begins_text z t, trivial, fun it h' hg => ⟨t, _, hg, rfl, rfl⟩, fun q e => by cases e⟩
end
section
variable {X : Cx} {e e2 : Expr} {p pos tpos : Pos} {elts : List Expr} {kk : Nat}
def tZip (K : PySem.W.Frag) (ta : TA) : TI := fun σ H R => ta σ H fun vs H1 => ∃ (a b : Src) (xs ys : List V), vs = [a.v, b.v] ∧ a.at K H1 xs ∧ b.at K H1 ys ∧ R (ItzG K a b) H1
theorem pi_zipG {ta : TA} (hg : Gl X "zip") (hm : X.mg "zip" = none) (ha : PA X [e, e2] ta)
    (hs : starEach [e, e2] X.env = (false, eval e X.env) :: starEach [e2] X.env := by rfl) (hpl : (backTo pos (starEach [e2] X.env)).any (·.1) = false := by rfl) :
    PI X (.Tuple elts kk tpos) (.Call (.Name "zip" p) [e, e2] [] pos) (tZip X.K ta) := by
  refine ⟨fun pins s σ H R I h => ?_⟩
  refine Call_ (ld_blt I hg hm PyProof.Rows.boot_zip (PyProof.Rows.callWith_type1 (thn (ha.run pos pins s σ H _ I h) fun us s1 ⟨vs, H1, I1, r1, q1⟩ => ?_) hs hpl))
  obtain ⟨a, b, xs, ys, ex, hqx, hqy, q⟩ := q1
  subst ex
  cases r1 with
  | cons r rr =>
    cases rr with
    | cons r' rr =>
      cases rr
      obtain ⟨o1, Q1, B1, k1, t1, la⟩ := src_begins I1 r hqx
      obtain ⟨o2, Q2, B2, k2, t2, lb⟩ := src_begins I1 r' hqy
      refine zip_begins2 B1 B2 k1 k2 fun h' hz hTI hTO g1 g2 hsz hk => wpAny_pyIter_zip hz ?_
      have I2 : Inv X pins σ H1 { s1 with heap := h' } := I1.kept (t' := s1.toks) hk
      have D : Apart (s1.heap.objs.size + 4) (s1.heap.objs.size + 2) (s1.heap.objs.size + 3) s1.heap.objs.size (s1.heap.objs.size + 1) a b := by
        have key : ∀ (n c : Nat), c < n → c ≠ n + 4 ∧ c ≠ n + 3 ∧ c ≠ n ∧ c ≠ n + 1 := fun n c h => by omega
        have key2 : ∀ n : Nat, n + 2 ≠ n + 4 ∧ n + 3 ≠ n + 4 ∧ n + 2 ≠ n + 3 ∧ n + 2 ≠ n ∧ n + 2 ≠ n + 1 ∧ n + 3 ≠ n ∧ n + 3 ≠ n + 1 ∧ n + 4 ≠ n ∧ n + 4 ≠ n + 1 ∧ n ≠ n + 1 := fun n => by omega
        obtain ⟨z1, z2, z3, z4, z5, z6, z7, z8, z9, z10⟩ := key2 s1.heap.objs.size
        exact ⟨z1, z2, z3, z4, z5, z6, z7, z8, z9, z10, fun c e => key _ _ (la c e), fun c e => key _ _ (lb c e)⟩
      refine ⟨s1.heap.objs.size + 4, [s1.heap.objs.size + 4, s1.heap.objs.size + 2, s1.heap.objs.size + 3, s1.heap.objs.size, s1.heap.objs.size + 1], _, _, H1, rfl, I2, turn_zipG D, ⟨hz, hTI, ⟨_, _, hTO⟩, t1 _ _ g1, t2 _ _ g2⟩, fun c hcm => ?_, q⟩
      have e' : c = s1.heap.objs.size + 4 ∨ c = s1.heap.objs.size + 2 ∨ c = s1.heap.objs.size + 3 ∨ c = s1.heap.objs.size ∨ c = s1.heap.objs.size + 1 := by simpa using hcm
      have hle : s1.heap.objs.size ≤ c := by
        rcases e' with z | z | z | z | z
        · rw [z]; exact Nat.le_add_right _ _
        · rw [z]; exact Nat.le_add_right _ _
        · rw [z]; exact Nat.le_add_right _ _
        · rw [z]; exact Nat.le_refl _
        · rw [z]; exact Nat.le_add_right _ _
      exact I1.fpOk hle (I1.hok.fresh hle)
def zipD (as bs : List D) : List D := (as.zip bs).map fun x => .tup [x.1, x.2]
theorem wk_zip {K : PySem.W.Frag} {W : FP} {F : Hp} {a b : Src} {as bs : List D} (h : Pers K W F a as) (h2 : Pers K W F b bs) : Wk K W F (zipD as bs) (ItzG K a b) := by
  intro W2 E2 F2 H2 q1 I e
  obtain ⟨xs, s, r⟩ := h W2 E2 F2 H2 q1.sub I e
  obtain ⟨ys, s2, r2⟩ := h2 W2 E2 F2 H2 q1.sub I e
  have l1 := r.length
  have l2 := r2.length
  refine ⟨⟨xs, ys, s, s2, ?_, ?_, ?_⟩, fun i d hd => ?_⟩
  · simp only [zipD, List.length_map, List.length_zip]; omega
  · simp only [zipD, List.length_map, List.length_zip]; omega
  · simp only [zipD, List.length_map, List.length_zip]; omega
  · unfold zipD at hd
    rw [List.getElem?_map] at hd
    obtain ⟨⟨d1, d2⟩, hz, rfl⟩ := Option.map_eq_some_iff.mp hd
    obtain ⟨hd1, hd2⟩ := List.getElem?_zip_eq_some.mp hz
    obtain ⟨u, g1, g2⟩ := r.get hd1
    obtain ⟨u2, g3, g4⟩ := r2.get hd2
    refine ⟨⟨xs, ys, u, u2, s, s2, g1, g3⟩, fun x H3 ⟨T, y1, y2, n1, n2, n3, n4, n5⟩ => ?_⟩
    have := n4 xs s
    rw [g1] at this; cases this
    have := n5 ys s2
    rw [g3] at this; cases this
    subst n1 n3
    have nT : F2 T = none := I.FH.none n2
    refine ⟨upd F2 T (.tup [u, u2]), I.know nT (I.no0 n2) (I.nob n2) (I.noo n2) fun x hx z => by (rw [← z, (I.lo x hx).1] at n2; cases n2), Ex.new nT, ?_⟩
    exact .tup (.inl (.inl upd_same)) (.cons (g2.mono (Ex.new nT)) (.cons (g4.mono (Ex.new nT)) .nil)) (by show 2 ≤ sizeLine; decide)
/-- two operands walked side by side; at most one is a list of one's own -/
def iZipD (fa : EF (List P)) : EF (List D × Option Nat) := fun E => (fa E).bind fun ps => match ps.1 with
  | [p, q] => (srcD p ps.2).bind fun x => (srcD q x.2).bind fun y => match x.1.2, y.1.2 with
    | o, none => some ((zipD x.1.1 y.1.1, o), y.2)
    | none, o => some ((zipD x.1.1 y.1.1, o), y.2)
    | _, _ => none
  | _ => none
theorem LkR.sub {W W' : FP} {o : Option Nat} (l : LkR W W' o) : SubW W' W := by
  cases o with
  | none => cases l; exact ⟨fun _ h => h, rfl, rfl, rfl⟩
  | some i => obtain ⟨p, d, rfl, _⟩ := l; exact ⟨fun _ h => List.mem_cons_of_mem _ h, rfl, rfl, rfl⟩
theorem Pers.sub {K : PySem.W.Frag} {W W' : FP} {F F' : Hp} {src : Src} {ds : List D} (h : Pers K W F src ds) (s : SubW W' W) (e : Ex F F') : Pers K W' F' src ds :=
  fun W2 E2 F2 H2 q I2 e2 => h W2 E2 F2 H2 ⟨fun x hx => q.ls x (s.ls x hx), q.lk.trans s.lk, q.H0.trans s.H0, q.ob.trans s.ob⟩ I2 (e.trans e2)
theorem di_zip {f : EF (List P)} (hg : Gl X "zip") (hm : X.mg "zip" = none) (h : DA X [e, e2] f)
    (hs : starEach [e, e2] X.env = (false, eval e X.env) :: starEach [e2] X.env := by rfl) (hpl : (backTo pos (starEach [e2] X.env)).any (·.1) = false := by rfl) :
    DI X (.Tuple elts kk tpos) (.Call (.Name "zip" p) [e, e2] [] pos) (iZipD f) := by
  obtain ⟨t, hp, h⟩ := h.ex
  refine ⟨_, pi_zipG hg hm hp hs hpl, fun W F H E its o E' R I hf k => ?_⟩
  unfold iZipD at hf
  obtain ⟨⟨ps, E1⟩, h1, hf⟩ := bsome hf
  match ps, hf with
  | [q1, q2], hf =>
    obtain ⟨⟨⟨ds, o1⟩, E2⟩, h2, hf⟩ := bsome hf
    obtain ⟨⟨⟨ds2, o2⟩, E3⟩, h3, hf⟩ := bsome hf
    refine h W F H E [q1, q2] E1 _ I h1 fun vs F1 H1 I1 e1 r1 => ?_
    cases r1 with
    | cons ra rr =>
      cases rr with
      | cons rb rr =>
        cases rr
        obtain ⟨a, W1, rfl, lk1, I2, p1⟩ := src_of I1 ra h2
        rw [← lk1.same.1] at rb
        obtain ⟨b, W2, rfl, lk2, I3, p2⟩ := src_of I2 rb h3
        have p1' := p1.sub lk2.sub (Ex.refl F1)
        obtain ⟨xs, s1, _⟩ := p1' W2 _ F1 H1 ⟨fun _ h => h, rfl, rfl, rfl⟩ I3 (Ex.refl F1)
        obtain ⟨ys, s2, _⟩ := p2 W2 _ F1 H1 ⟨fun _ h => h, rfl, rfl, rfl⟩ I3 (Ex.refl F1)
        refine ⟨a, b, xs, ys, rfl, s1, s2, ?_⟩
        cases o2 with
        | none =>
          cases lk2
          cases hf
          exact k _ _ F1 H1 lk1 I3 e1 (wk_zip p1' p2)
        | some j =>
          cases o1 with
          | none =>
            cases lk1
            cases hf
            exact k _ _ F1 H1 lk2 I3 e1 (wk_zip p1' p2)
          | some i => cases hf
end
end PV

namespace PV
open PySem L2 PyProof.Rows
/-! ### tuples that stand at the module's top -/
theorem gl_tup {K : PySem.W.Frag} {mg : Str → Option Value} {x : Str} {a : Addr} {od : Option Addr} {its : Array Value} {n : Nat} {sl : Array (Option Value)} {xs : List V} {ds : List D} (h : mg x = some (.ref a)) (l : K.lookup a = some ⟨.type "tuple", od, .seq its n, sl⟩)
    (hv : Vals xs its.toList) (hr : ∀ F, RpA K F xs ds) (hz : ds.length ≤ sizeLine) : GlD K mg x (.tup ds) := by
  refine ⟨.ref a, .ref a, h, rfl, fun F => .tup (.inr ⟨_, its, n, l, rfl, rfl, ?_, hv⟩) (hr F) hz⟩
  rw [← Array.length_toList, ← Paired.length hv, (hr F).length]
  exact hz
section
variable {X : Cx}
/-- t * n -/
def dRepT (a b : D) : Option R := match a, b with
  | .tup xs, .int k => if xs.length ≤ 1000 ∧ 2 ≤ k ∧ k ≤ 1000 ∧ xs ≠ [] then some (.v (.tup (List.replicate k.toNat xs).flatten)) else none
  | _, _ => none
theorem od_repT : OpD X (binaryOp .Mult) dRepT := by
  refine ⟨_, op_repT, fun F H x y a b res Q e va vb hg k => ?_⟩
  match a, b, hg with
  | .tup xs, .int j, hg =>
    obtain ⟨ok, hg⟩ := Option.ite_none_right_eq_some.mp hg
    cases hg
    obtain ⟨p, vs, rfl, s, r, l⟩ := va.tup e
    have hs : sizeLine = 16777216 := sizeLine_eq
    have hne : vs ≠ [] := fun z => ok.2.2.2 (List.eq_nil_of_length_eq_zero (by rw [← r.length, z]; rfl))
    refine ⟨p, j, vs, rfl, vb.int, s, hne, ok.2.1, ok.2.2.1, by rw [r.length]; exact ok.1, fun q n => k _ _ (Ou.newT e n (r.replicate _) ?_)⟩
    simp only [List.length_flatten, List.map_replicate, List.sum_replicate_nat]
    have : j.toNat * xs.length ≤ 1000 * 1000 := Nat.mul_le_mul (by omega) ok.1
    omega
end
end PV

namespace PV
open PySem L2 PyProof.Rows
/-! ### xs.count(v), t.count(v) -/
def rCountL (K : PySem.W.Frag) : V → List V → Hp → VK → Prop := fun x xs H Q => ∃ (a : Addr) (y : V) (d : PyData) (ds : List PyData), x = .ref a ∧ xs = [y] ∧ Dp K H (.ref a) (.list ds) ∧ Dp K H y d ∧ SeqAt.shaped (.list ds) = true ∧ SeqAt.shaped d = true ∧ Q (.int ((ds.countP fun z => PyData.eqv z d : Nat))) H
theorem countP_map' {α β : Type} (f : α → β) (p : β → Bool) (l : List α) : (l.map f).countP p = l.countP fun x => p (f x) := by
  rw [List.countP_map]; rfl
theorem mt_countL {X : Cx} (hu : X.A.units + 65 < cLine) : MtR X "list.count" (rCountL X.K) := by
  intro pins s σ H x xs v us Q I rx rxs h
  obtain ⟨a, y, d, ds, rfl, rfl, hl, hy, sl, sd, q⟩ := h
  cases rx
  cases rxs with
  | cons ry rt =>
    rename_i uy ut
    cases rt
    obtain ⟨bs, r1⟩ := Dp.reads I d y uy hy ry
    have hxs : PyData.canLayAll0 ds = true := SeqAt.canLay_of_shaped sl
    have hroom : X.A.units + 1 + min (PyData.depthAll ds) d.depth < cLine := room_in_shaped sd hu
    cases hl with
    | lst hs ha =>
      obtain ⟨its, rv, ⟨⟨cls, dd, data, sls⟩, n, ho, hc, hdn, hdt⟩, hlen⟩ := I.list hs
      simp only at hc hdt
      subst hc hdt
      obtain ⟨as, h4⟩ := Dp.readsAll I ds _ its ha rv
      have hmap : its.map (SeqAt.readOf s.heap) = ds := SeqAt.readsAll_map ds its as hxs h4
      refine call_meets PySem.F.slot_list_count ⟨_, ho, rfl⟩ PySem.F.entry_list_count (PySem.F.args_list_count_2 _ _)
        (SeqAt.list_countAt a its.toArray n dd sls uy (fun u => PyData.eqv (SeqAt.readOf s.heap u) d)) ⟨ho, SeqAt.items_eqAt (vs := its.toArray) (show ReadsAll s.heap its.toArray.toList ds as from h4) r1 hxs (SeqAt.canLay_of_shaped sd) hroom, ?_⟩
      have ec : its.toArray.toList.countP (fun u => PyData.eqv (SeqAt.readOf s.heap u) d) = ds.countP fun z => PyData.eqv z d := by
        rw [← hmap, countP_map']
      refine ⟨.int (ds.countP fun z => PyData.eqv z d : Nat), H, I.tok _, ⟨s.toks, ?_⟩, q⟩
      rw [ec]
def rCountT (K : PySem.W.Frag) : V → List V → Hp → VK → Prop := fun x xs H Q => ∃ (a : Addr) (y : V) (d : PyData) (ds : List PyData), x = .ref a ∧ xs = [y] ∧ Dp K H (.ref a) (.tuple ds) ∧ Dp K H y d ∧ SeqAt.shaped (.tuple ds) = true ∧ SeqAt.shaped d = true ∧ Q (.int ((ds.countP fun z => PyData.eqv z d : Nat))) H
theorem mt_countT {X : Cx} (hu : X.A.units + 65 < cLine) : MtR X "tuple.count" (rCountT X.K) := by
  intro pins s σ H x xs v us Q I rx rxs h
  obtain ⟨a, y, d, ds, rfl, rfl, hl, hy, sl, sd, q⟩ := h
  cases rx
  cases rxs with
  | cons ry rt =>
    rename_i uy ut
    cases rt
    obtain ⟨bs, r1⟩ := Dp.reads I d y uy hy ry
    have hxs : PyData.canLayAll0 ds = true := SeqAt.canLay_of_shaped sl
    have hroom : X.A.units + 1 + min (PyData.depthAll ds) d.depth < cLine := room_in_shaped sd hu
    cases hl with
    | tup hs ha =>
      obtain ⟨its, rv, ⟨⟨cls, dd, data, sls⟩, ho, hc, n, hdt⟩, hlen⟩ := I.tuple hs
      simp only at hc hdt
      subst hc hdt
      obtain ⟨as, h4⟩ := Dp.readsAll I ds _ its ha rv
      have hmap : its.map (SeqAt.readOf s.heap) = ds := SeqAt.readsAll_map ds its as hxs h4
      refine call_meets PySem.F.slot_tuple_count ⟨_, ho, rfl⟩ PySem.F.entry_tuple_count (PySem.F.args_tuple_count_2 _ _)
        (SeqAt.tuple_countAt a its.toArray n dd sls uy (fun u => PyData.eqv (SeqAt.readOf s.heap u) d)) ⟨ho, SeqAt.items_eqAt (vs := its.toArray) (show ReadsAll s.heap its.toArray.toList ds as from h4) r1 hxs (SeqAt.canLay_of_shaped sd) hroom, ?_⟩
      have ec : its.toArray.toList.countP (fun u => PyData.eqv (SeqAt.readOf s.heap u) d) = ds.countP fun z => PyData.eqv z d := by
        rw [← hmap, countP_map']
      refine ⟨.int (ds.countP fun z => PyData.eqv z d : Nat), H, I.tok _, ⟨s.toks, ?_⟩, q⟩
      rw [ec]
end PV

namespace PV
open PySem L2 PyProof.Rows
/-! ### dicts that are never changed any more -/
/-- the reading of e, and the dict it gives may be locked for good -/
def tFz (t : TE) : TE := fun σ H Q => t σ H fun v H1 => Q v H1 ∨ ∃ d u, v = .ref d ∧ H1 d = some u ∧ Mut (some u) ∧ ∀ od, Q v (upd H1 d (.frz od u))
theorem pe_fz {X : Cx} {e : Expr} {t : TE} (h : PE X e t) : PE X e (tFz t) := by
  refine ⟨fun pins s σ H Q I hq => ?_⟩
  refine thn (h.run pins s σ H _ I hq) fun u s1 ⟨x, H1, I1, rx, q⟩ => ?_
  rcases q with q | ⟨d, u', rfl, hd, mu, q⟩
  · exact ⟨x, H1, I1, rx, q⟩
  · obtain ⟨od, I2⟩ := I1.lock hd mu
    exact ⟨.ref d, _, I2, rx, q od⟩
theorem PE.or {X : Cx} {e : Expr} {t t' : TE} (h : PE X e t) (h' : PE X e t') : PE X e (fun σ H Q => t σ H Q ∨ t' σ H Q) :=
  ⟨fun pins s σ H Q I hq => hq.elim (fun q => h.run pins s σ H Q I q) fun q => h'.run pins s σ H Q I q⟩
def R.dz : R → Option D
  | .v d => some d
  | .f (.lst ds) => some (.lst ds)
  | .f (.dic ds) => some (.dic ds)
  | .f _ => none
def mQz (f : EF R) : EF D := fun E => (f E).bind fun x => x.1.dz.bind fun d => some (d, x.2)
section
variable {X : Cx} {e : Expr} {pos : Pos}
theorem dq_fz {f : EF R} (h : DE X e f) : DQ X e (mQz f) := by
  obtain ⟨t, hp, h⟩ := h.ex
  refine ⟨_, pe_fz hp, fun W F H E r E' Q I hf k => ?_⟩
  unfold mQz at hf
  obtain ⟨⟨x, E1⟩, h1, h2⟩ := Option.bind_eq_some_iff.mp hf
  obtain ⟨d, h3, h2⟩ := Option.bind_eq_some_iff.mp h2
  cases h2
  refine h W F H E x _ _ I h1 fun v F' H' I' e' rr => ?_
  cases x with
  | v d => cases h3; exact .inl (k v F' H' I' e' rr)
  | f d =>
    cases d with
    | lst ds =>
      cases h3
      obtain ⟨F2, I2, e2, q⟩ := I'.freeze rr
      exact .inl (k v F2 H' I2 (e'.trans e2) q)
    | dic ds =>
      cases h3
      obtain ⟨p, rfl, ow, wr, no⟩ := rr
      obtain ⟨us, rd, rk⟩ := ow.ct
      have hp := Rd_mut wr rd
      refine .inr ⟨p, _, rfl, hp, True.intro, fun od => ?_⟩
      have nl : ∀ x ∈ W.lk, x.1 ≠ p := fun x hx z => wr x.2.1 x.2.2 (z ▸ (I'.lo x hx).1)
      have I2 := I'.know (o := .frz od (.dK us)) ow.nf ow.n0 ow.nb no nl
      exact k _ _ _ I2 (e'.trans (Ex.new ow.nf)) (.dic upd_same (rk.monoU ow.nf))
    | _ => cases h3
/-- a name: a dict of one's own that is handed on is never changed any more -/
def mVarz (i : Nat) : EF D := fun E => match E.sl[i]? with
  | some (.v d) => some (d, E)
  | some (.o false (.lst ds)) => some (.lst ds, { E with sl := E.sl.set i (.v (.lst ds)) })
  | some (.o false (.dic ds)) => some (.dic ds, { E with sl := E.sl.set i (.v (.dic ds)) })
  | _ => none
theorem FI.fzslot {K : PySem.W.Frag} {W : FP} {E : En} {F H : Hp} (I : FI K W E F H) {i : Nat} {ds : List (D × D)} {p : Addr} (q : E.sl[i]? = some (.o false (.dic ds))) (e1 : W.σ[i]? = some (some (.ref p))) :
    ∃ us, H p = some (.dK us) ∧ F p = none ∧ ∀ od, FI K W { E with sl := E.sl.set i (.v (.dic ds)) } (upd F p (.frz od (.dK us))) (upd H p (.frz od (.dK us))) ∧ Rp K (upd F p (.frz od (.dK us))) (.ref p) (.dic ds) := by
  obtain ⟨p', e1', ow, wr⟩ := I.sl i _ q
  rw [e1] at e1'; cases e1'
  have hi : i < E.sl.length := (List.getElem?_eq_some_iff.mp q).1
  have wr := wr rfl
  obtain ⟨us, rd, rk⟩ := id ow.ct
  have hp := Rd_mut wr rd
  have nop : NO W { E with sl := E.sl.set i .no } p := by
    refine ⟨fun j l c e z => ?_, fun x hx z => ?_, fun x hx z => ?_⟩
    · by_cases w : i = j
      · subst w; simp only [List.getElem?_set_self hi] at e; cases e
      · simp only [List.getElem?_set_ne w] at e
        exact I.ds i j _ _ _ _ p w q e e1 z
    · exact (I.ho x hx).2.2 i _ _ q (z ▸ e1)
    · exact (I.l2 x hx).2 i _ q (z ▸ e1)
  have nl : ∀ x ∈ W.lk, x.1 ≠ p := fun x hx z => wr x.2.1 x.2.2 (z ▸ (I.lo x hx).1)
  refine ⟨us, hp, ow.nf, fun od => ?_⟩
  have I2 := (I.drop i).know (o := .frz od (.dK us)) ow.nf ow.n0 ow.nb nop nl
  have r2 : Rp K (upd F p (.frz od (.dK us))) (.ref p) (.dic ds) := .dic upd_same (rk.monoU ow.nf)
  have I3 := I2.put (i := i) (s := .v (.dic ds)) ⟨_, e1, r2⟩ fun _ _ _ z => nomatch z
  simp only [List.set_set] at I3
  exact ⟨I3, r2⟩
theorem dq_varz {i : Nat} {x : Str} (hN : X.N[i]? = some x) (hv : Vis X.env.scope x) (hd : (x == ("__debug__" : Str)) = false := by decide) (hcd : (x == ("__classdict__" : Str)) = false := by decide) : DQ X (.Name x pos) (mVarz i) := by
  obtain ⟨t, hp, h⟩ := (dq_var (pos := pos) hN hv hd hcd).ex
  have hp2 := pe_var (pos := pos) hN hv hd hcd
  refine ⟨_, PE.or (pe_fz hp2) hp, fun W F H E r E' Q I hf k => ?_⟩
  unfold mVarz at hf
  cases q : E.sl[i]? with
  | none => simp [q] at hf
  | some s =>
    cases s with
    | o l d =>
      cases l with
      | true => simp [q] at hf
      | false =>
        cases d with
        | dic ds =>
          simp [q] at hf; obtain ⟨rfl, rfl⟩ := hf
          obtain ⟨p, e1, _⟩ := I.sl i _ q
          obtain ⟨us, hp, nf, h3⟩ := I.fzslot q e1
          exact .inl ⟨.ref p, e1, .inr ⟨p, _, rfl, hp, True.intro, fun od => k _ _ _ (h3 od).1 (Ex.new nf) (h3 od).2⟩⟩
        | lst ds =>
          simp [q] at hf; obtain ⟨rfl, rfl⟩ := hf
          exact .inr (h W F H E _ _ Q I (by unfold mVar; rw [q]) k)
        | _ => simp [q] at hf
    | v d =>
      simp [q] at hf; obtain ⟨rfl, rfl⟩ := hf
      exact .inr (h W F H E _ _ Q I (by unfold mVar; rw [q]) k)
    | _ => simp [q] at hf
theorem nZ {x : Str} (i : Nat) (hN : X.N[i]? = some x := by rfl) (hv : Vis X.env.scope x := by first | exact Or.inl rfl | exact Or.inr (Or.inl rfl) | exact Or.inr (Or.inr rfl)) (hd : (x == ("__debug__" : Str)) = false := by decide) (hcd : (x == ("__classdict__" : Str)) = false := by decide) : DQ X (.Name x pos) (mVarz i) := dq_varz hN hv hd hcd
/-! ### walks -/
variable {tg : Expr} {apos cpos : Pos}
def iKeysV (f : EF D) : EF (List D × Option Nat) := fun E => (f E).bind fun x => match x.1 with
  | .dic kvs => some ((dKeys kvs, none), x.2)
  | _ => none
def iItemsV (f : EF D) : EF (List D × Option Nat) := fun E => (f E).bind fun x => match x.1 with
  | .dic kvs => some ((kvs.map pairD, none), x.2)
  | _ => none
def iValsV (f : EF D) : EF (List D × Option Nat) := fun E => (f E).bind fun x => match x.1 with
  | .dic kvs => some ((kvs.map (·.2), none), x.2)
  | _ => none
theorem wk_vals {K : PySem.W.Frag} {W : FP} {F : Hp} {d : Addr} {o : Obj} {kvs : List (Key × V)} {ds : List (D × D)} (h : F d = some (.frz o (.dK kvs))) (r : RpK K F kvs ds) : Wk K W F (ds.map (·.2)) (Itd d o kvs) := by
  intro W2 E2 F2 H2 q1 I e
  have hd : H2 d = some (.frz o (.dK kvs)) := I.FH _ _ (e _ _ h)
  have hl := r.length
  refine ⟨⟨hd, by rw [List.length_map]; omega⟩, fun i x hx => ?_⟩
  rw [List.getElem?_map] at hx
  obtain ⟨kv, hkv, rfl⟩ := Option.map_eq_some_iff.mp hx
  obtain ⟨k, v, h1, h2, h3, h4⟩ := r.get hkv
  refine ⟨⟨hd, (List.getElem?_eq_some_iff.mp h1).1⟩, fun y H3 ⟨g4, k', g1⟩ => ?_⟩
  rw [h1] at g1; cases g1
  subst g4
  exact ⟨F2, I, Ex.refl _, h3.mono e⟩
theorem di_keysV {f : EF D} (h : DQ X e f) : DI X tg e (iKeysV f) := by
  obtain ⟨t, hp, h⟩ := h.ex
  refine ⟨_, pi_keys hp, fun W F H E its o E' R I hf k => ?_⟩
  unfold iKeysV at hf
  obtain ⟨⟨r, E1⟩, h1, hf⟩ := bsome hf
  match r, h1, hf with
  | .dic kvs, h1, hf =>
    cases hf
    refine h W F H E _ E1 _ I h1 fun v F1 H1 I1 e1 rr => ?_
    cases rr with
    | dic s r => exact ⟨_, _, rfl, .inl ⟨_, I1.FH _ _ s, k _ W _ _ rfl I1 e1 (wk_keys s r)⟩⟩
theorem di_keysVM {f : EF D} (h : DQ X e f) (hbase : attributeBase e "keys" X.env (eval e X.env) = eval e X.env := by rfl) (hline : (apos.endLine == cpos.line) = true := by rfl) :
    DI X tg (.Call (.Attribute e "keys" apos) [] [] cpos) (iKeysV f) := by
  obtain ⟨t, hp, h⟩ := h.ex
  refine ⟨_, pi_keysM hp hbase hline, fun W F H E its o E' R I hf k => ?_⟩
  unfold iKeysV at hf
  obtain ⟨⟨r, E1⟩, h1, hf⟩ := bsome hf
  match r, h1, hf with
  | .dic kvs, h1, hf =>
    cases hf
    refine h W F H E _ E1 _ I h1 fun v F1 H1 I1 e1 rr => ?_
    cases rr with
    | dic s r => exact ⟨_, _, _, rfl, I1.FH _ _ s, k _ W _ _ rfl I1 e1 (wk_keys s r)⟩
theorem di_valsV {f : EF D} (h : DQ X e f) (hbase : attributeBase e "values" X.env (eval e X.env) = eval e X.env := by rfl) (hline : (apos.endLine == cpos.line) = true := by rfl) :
    DI X tg (.Call (.Attribute e "values" apos) [] [] cpos) (iValsV f) := by
  obtain ⟨t, hp, h⟩ := h.ex
  refine ⟨_, pi_values hp hbase hline, fun W F H E its o E' R I hf k => ?_⟩
  unfold iValsV at hf
  obtain ⟨⟨r, E1⟩, h1, hf⟩ := bsome hf
  match r, h1, hf with
  | .dic kvs, h1, hf =>
    cases hf
    refine h W F H E _ E1 _ I h1 fun v F1 H1 I1 e1 rr => ?_
    cases rr with
    | dic s r => exact ⟨_, _, _, rfl, I1.FH _ _ s, k _ W _ _ rfl I1 e1 (wk_vals s r)⟩
theorem di_itemsV {elts : List Expr} {kk : Nat} {tpos : Pos} {f : EF D} (h : DQ X e f) (hbase : attributeBase e "items" X.env (eval e X.env) = eval e X.env := by rfl) (hline : (apos.endLine == cpos.line) = true := by rfl) :
    DI X (.Tuple elts kk tpos) (.Call (.Attribute e "items" apos) [] [] cpos) (iItemsV f) := by
  obtain ⟨t, hp, h⟩ := h.ex
  refine ⟨_, pi_items hp hbase hline, fun W F H E its o E' R I hf k => ?_⟩
  unfold iItemsV at hf
  obtain ⟨⟨r, E1⟩, h1, hf⟩ := bsome hf
  match r, h1, hf with
  | .dic kvs, h1, hf =>
    cases hf
    refine h W F H E _ E1 _ I h1 fun v F1 H1 I1 e1 rr => ?_
    cases rr with
    | dic s r => exact ⟨_, _, _, rfl, I1.FH _ _ s, k _ W _ _ rfl I1 e1 (wk_items s r)⟩
end
/-! ### evaluated -/
def sZ (i : Nat) (E : En) : Option Sl → Option (D × En)
  | some (.v d) => some (d, E)
  | some (.o false (.lst ds)) => some (.lst ds, { E with sl := E.sl.set i (.v (.lst ds)) })
  | some (.o false (.dic ds)) => some (.dic ds, { E with sl := E.sl.set i (.v (.dic ds)) })
  | _ => none
section
variable {i : Nat} {E : En} {d : D} {ds : List D} {kvs : List (D × D)}
@[simp] theorem e_varz (i : Nat) (E : En) : mVarz i E = sZ i E E.sl[i]? := rfl
@[simp] theorem sZ_v : sZ i E (some (.v d)) = some (d, E) := rfl
@[simp] theorem sZ_l : sZ i E (some (.o false (.lst ds))) = some (.lst ds, { E with sl := E.sl.set i (.v (.lst ds)) }) := rfl
@[simp] theorem sZ_d : sZ i E (some (.o false (.dic kvs))) = some (.dic kvs, { E with sl := E.sl.set i (.v (.dic kvs)) }) := rfl
@[simp] theorem e_mQz (f : EF R) (E : En) : mQz f E = (f E).bind fun x => x.1.dz.bind fun d => some (d, x.2) := rfl
@[simp] theorem dz_v : (R.v d).dz = some d := rfl
@[simp] theorem dz_l : (R.f (.lst ds)).dz = some (.lst ds) := rfl
@[simp] theorem dz_d : (R.f (.dic kvs)).dz = some (.dic kvs) := rfl
@[simp] theorem e_iKeysV (f : EF D) (E : En) : iKeysV f E = (f E).bind fun x => match x.1 with
  | .dic kvs => some ((dKeys kvs, none), x.2)
  | _ => none := rfl
@[simp] theorem e_iItemsV (f : EF D) (E : En) : iItemsV f E = (f E).bind fun x => match x.1 with
  | .dic kvs => some ((kvs.map pairD, none), x.2)
  | _ => none := rfl
@[simp] theorem e_iValsV (f : EF D) (E : En) : iValsV f E = (f E).bind fun x => match x.1 with
  | .dic kvs => some ((kvs.map (·.2), none), x.2)
  | _ => none := rfl
end
end PV

namespace PV
open PySem L2 PyProof.Rows
/-! ### _law_same of any two plain values -/
mutual
def sm : D → D → Bool
  | .non, .non => true
  | .bl a, .bl b => decide (a = b)
  | .int a, .int b => decide (a = b)
  | .str a, .str b => decide (a = b)
  | .tup xs, .tup ys => smL xs ys
  | .lst xs, .lst ys => smL xs ys
  | _, _ => false
def smL : List D → List D → Bool
  | [], [] => true
  | x :: xs, y :: ys => sm x y && smL xs ys
  | _, _ => false
end
mutual
theorem sm_eq : ∀ (a b : D), sm a b = true → a = b
  | .non, b, h => by cases b <;> simp_all [sm]
  | .bl x, b, h => by cases b <;> simp_all [sm]
  | .int x, b, h => by cases b <;> simp_all [sm]
  | .str x, b, h => by cases b <;> simp_all [sm]
  | .tup xs, b, h => by
    cases b with
    | tup ys => rw [smL_eq xs ys (by simpa [sm] using h)]
    | _ => simp [sm] at h
  | .lst xs, b, h => by
    cases b with
    | lst ys => rw [smL_eq xs ys (by simpa [sm] using h)]
    | _ => simp [sm] at h
  | .dic xs, b, h => by cases b <;> simp_all [sm]
  | .st xs, b, h => by cases b <;> simp_all [sm]
theorem smL_eq : ∀ (a b : List D), smL a b = true → a = b
  | [], [], _ => rfl
  | [], _ :: _, h => by simp [smL] at h
  | _ :: _, [], h => by simp [smL] at h
  | x :: xs, y :: ys, h => by
    unfold smL at h
    rw [Bool.and_eq_true] at h
    rw [sm_eq x y h.1, smL_eq xs ys h.2]
end
mutual
theorem sm_refl : ∀ (k : Nat) (a : D), fair k a = true → sm a a = true
  | 0, a, h => by simp [fair] at h
  | k + 1, .non, h => by simp [sm]
  | k + 1, .bl _, h => by simp [sm]
  | k + 1, .int _, h => by simp [sm]
  | k + 1, .str _, h => by simp [sm]
  | k + 1, .tup xs, h => by
    unfold fair at h
    rw [Bool.and_eq_true] at h
    unfold sm
    exact smL_refl k xs h.2
  | k + 1, .lst xs, h => by
    unfold fair at h
    rw [Bool.and_eq_true] at h
    unfold sm
    exact smL_refl k xs h.2
  | k + 1, .dic _, h => by simp [fair] at h
  | k + 1, .st _, h => by simp [fair] at h
theorem smL_refl : ∀ (k : Nat) (a : List D), fairAll k a = true → smL a a = true
  | k, [], h => by simp [smL]
  | k, x :: xs, h => by
    unfold fairAll at h
    rw [Bool.and_eq_true] at h
    unfold smL
    rw [sm_refl k x h.1, smL_refl k xs h.2]
    rfl
end
theorem smL_len : ∀ (a b : List D), smL a b = true → a.length = b.length := fun a b h => by rw [smL_eq a b h]
theorem smL_all : ∀ (xs ys : List D), xs.length = ys.length → ((List.range xs.length).all fun i => match xs[i]?, ys[i]? with | some x, some y => sm x y | _, _ => false) = smL xs ys
  | [], [], _ => by simp [smL]
  | [], _ :: _, h => by simp at h
  | _ :: _, [], h => by simp at h
  | x :: xs, y :: ys, h => by
    have ih := smL_all xs ys (by simpa using h)
    rw [List.length_cons, List.range_succ_eq_map, List.all_cons, List.all_map]
    unfold smL
    rw [← ih]
    simp [Function.comp_def]
theorem dEq_len (n m : Nat) : dEq (.int (n : Int)) (.int (m : Int)) = some (.v (.bl (decide (n = m)))) := by
  rw [dEq_int]
  have : ((n : Int) = (m : Int)) = (n = m) := by apply propext; omega
  simp only [this]
@[simp] theorem dIsN_int (n : Bool) (i : Int) : dIs n (.int i) .non = some (.v (.bl n)) := by cases n <;> rfl
@[simp] theorem dIsN_bl (n : Bool) (i : Bool) : dIs n (.bl i) .non = some (.v (.bl n)) := by cases n <;> rfl
@[simp] theorem dIsN_str (n : Bool) (i : Str) : dIs n (.str i) .non = some (.v (.bl n)) := by cases n <;> rfl
@[simp] theorem dIsN_T (n : Bool) (i : List Nat) : dIs n (T i) .non = some (.v (.bl n)) := by cases n <;> rfl
@[simp] theorem dIsN_tup (n : Bool) (i : List D) : dIs n (.tup i) .non = some (.v (.bl n)) := by cases n <;> rfl
@[simp] theorem dIsN_lst (n : Bool) (i : List D) : dIs n (.lst i) .non = some (.v (.bl n)) := by cases n <;> rfl
@[simp] theorem dIsN_non (n : Bool) : dIs n .non .non = some (.v (.bl (!n))) := by cases n <;> rfl
theorem same_gen : ∀ (k j : Nat) (a b : D) (bx : Bx), fair k a = true → fair k b = true → k ≤ j → frSame j [.v a, .v b] bx = some (.v (.bl (sm a b)), bx)
  | 0, _, a, _, _, h, _, _ => by simp [fair] at h
  | k + 1, 0, _, _, _, _, _, hj => by omega
  | k + 1, j + 1, a, b, bx, h, hb, hj => by
    have K := kits
    have seq : ∀ (A B : D) (xs ys : List D), xs.length ≤ 16000000 → fairAll k xs = true → fairAll k ys = true → xs.length = ys.length → cLenA [A] = some (.v (.int xs.length)) → 
        (∀ i : Nat, i < xs.length → dIx A (.int (i : Int)) = (xs[i]?).map R.v) → (∀ i : Nat, i < ys.length → dIx B (.int (i : Int)) = (ys[i]?).map R.v) →
        ∃ bs : List Bool, mLc (iRg1 (mCons (mP (mQ (mCall cLenA (mCons (mSlot 0) mNil)))) mNil)) (gSet 2) mYes (mQ (mFn (frSame j) (mCons (mP (mQ (m2 dIx (mSlot 0) (mSlot 2)))) (mCons (mP (mQ (m2 dIx (mSlot 1) (mSlot 2)))) mNil)))) [2] ⟨[.v A, .v B, .no], bx⟩
          = some (.f (.lst (bs.map D.bl)), ⟨[.v A, .v B, .no], bx⟩) ∧ bs.all id = smL xs ys := by
      intro A B xs ys hl hf hf2 he hlen hix hiy
      have := mLc_map (g := fun i : Nat => D.int (i : Int)) (b := fun _ => true) (y := fun i => D.bl (match xs[i]?, ys[i]? with | some x, some y => sm x y | _, _ => false)) (fi := iRg1 (mCons (mP (mQ (mCall cLenA (mCons (mSlot 0) mNil)))) mNil)) (tg := gSet 2) (ft := mYes) (fe := mQ (mFn (frSame j) (mCons (mP (mQ (m2 dIx (mSlot 0) (mSlot 2)))) (mCons (mP (mQ (m2 dIx (mSlot 1) (mSlot 2)))) mNil)))) (vs := [2]) (E := ⟨[.v A, .v B, .no], bx⟩) (E1 := ⟨[.v A, .v B, .no], bx⟩) (E' := ⟨[.v A, .v B, .no], bx⟩) (lk := none) (List.range xs.length)
        (by simp [hlen, rg_nat (show xs.length ≤ 16777216 by omega), rangeD0]) (by have hs : sizeLine = 16777216 := sizeLine_eq; rw [List.length_range]; omega) rfl fun i hi => ?_
      · have e1 : (List.range xs.length).filter (fun _ => true) = List.range xs.length := List.filter_eq_self.mpr (fun _ _ => rfl)
        rw [e1] at this
        refine ⟨(List.range xs.length).map fun i => (match xs[i]?, ys[i]? with | some x, some y => sm x y | _, _ => false), ?_, ?_⟩
        · rw [this, List.map_map]
          rfl
        · rw [List.all_map, ← smL_all xs ys he]
          rfl
      · have hi := List.mem_range.mp hi
        have e := hix i hi
        have e' := hiy i (by omega)
        have hi2 : i < ys.length := by omega
        rw [List.getElem?_eq_getElem hi] at e
        rw [List.getElem?_eq_getElem hi2] at e'
        have fm := fairAll_mem hf xs[i] (List.getElem_mem hi)
        have fm2 := fairAll_mem hf2 ys[i] (List.getElem_mem hi2)
        have ih := same_gen k j xs[i] ys[i] bx fm fm2 (by omega)
        refine ⟨⟨[.v A, .v B, .v (.int (i : Int))], bx⟩, ⟨[.v A, .v B, .v (.int (i : Int))], bx⟩, by simp [wE], rfl, fun _ => ⟨⟨[.v A, .v B, .v (.int (i : Int))], bx⟩, ?_, by simp [wE]⟩, fun h => by cases h⟩
        simp [e, e', ih, hi, hi2]
    cases a with
    | dic x => simp [fair] at h
    | st x => simp [fair] at h
    | non => cases b <;> first | (simp [fair] at hb; done) | simp [frSame, run, mSame, K, sm]
    | bl x => cases b <;> first | (simp [fair] at hb; done) | simp [frSame, run, mSame, K, sm]
    | int x => cases b <;> first | (simp [fair] at hb; done) | simp [frSame, run, mSame, K, sm]
    | str x => cases b <;> first | (simp [fair] at hb; done) | simp [frSame, run, mSame, K, sm]
    | tup xs =>
      cases b with
      | tup ys =>
        unfold fair at h hb
        rw [Bool.and_eq_true] at h hb
        have hl : xs.length ≤ 16000000 := of_decide_eq_true h.1
        by_cases he : xs.length = ys.length
        · obtain ⟨bs, t1, t2⟩ := seq (.tup xs) (.tup ys) xs ys hl h.2 hb.2 he (by simp) (fun i hi => by simp [atI_nat hi, hi]) (fun i hi => by simp [atI_nat hi, hi])
          simp [frSame, run, mSame, K, sm, he, t1, t2, -e_mLc, dBools_map]
        · have : smL xs ys = false := by
            cases q : smL xs ys with
            | false => rfl
            | true => exact absurd (smL_len _ _ q) he
          simp [frSame, run, mSame, K, sm, he, this, dEq_len, -dEq_int]
      | dic x => simp [fair] at hb
      | st x => simp [fair] at hb
      | _ => simp [frSame, run, mSame, K, sm]
    | lst xs =>
      cases b with
      | lst ys =>
        unfold fair at h hb
        rw [Bool.and_eq_true] at h hb
        have hl : xs.length ≤ 16000000 := of_decide_eq_true h.1
        by_cases he : xs.length = ys.length
        · obtain ⟨bs, t1, t2⟩ := seq (.lst xs) (.lst ys) xs ys hl h.2 hb.2 he (by simp) (fun i hi => by simp [atI_nat hi, hi]) (fun i hi => by simp [atI_nat hi, hi])
          simp [frSame, run, mSame, K, sm, he, t1, t2, -e_mLc, dBools_map]
        · have : smL xs ys = false := by
            cases q : smL xs ys with
            | false => rfl
            | true => exact absurd (smL_len _ _ q) he
          simp [frSame, run, mSame, K, sm, he, this, dEq_len, -dEq_int]
      | dic x => simp [fair] at hb
      | st x => simp [fair] at hb
      | _ => simp [frSame, run, mSame, K, sm]
end PV

namespace PV
open PySem L2 PyProof.Rows
/-! ### all(xs), any(xs) of a list of values -/
mutual
theorem nd_plain : ∀ d : D, d.nd = true → d.py.plain = true
  | .non, _ => by simp [D.py, PyData.plain]
  | .bl _, _ => by simp [D.py, PyData.plain]
  | .int _, _ => by simp [D.py, PyData.plain]
  | .str _, _ => by simp [D.py, PyData.plain]
  | .tup xs, h => by
    have := nds_plain xs (by simpa using h)
    simpa [D.py, PyData.plain] using this
  | .lst xs, h => by
    have := nds_plain xs (by simpa using h)
    simpa [D.py, PyData.plain] using this
  | .dic _, h => by simp [D.nd] at h
  | .st _, h => by simp [D.nd] at h
theorem nds_plain : ∀ ds : List D, nds ds = true → PyData.plainAll (pys ds) = true
  | [], _ => by simp [pys, PyData.plainAll]
  | x :: xs, h => by
    rw [nds_cons, Bool.and_eq_true] at h
    simp [pys, PyData.plainAll, nd_plain x h.1, nds_plain xs h.2]
end
theorem rp_fits {K : PySem.W.Frag} {F : Hp} {v : V} {d : D} (h : Rp K F v d) : d.py.fits63 := by
  have hs : sizeLine = 16777216 := sizeLine_eq
  cases h with
  | str x hx =>
    have := hx.1
    show (x.length : Int) < 2 ^ 63
    omega
  | lst _ _ hl => show ((pys _).length : Int) < 2 ^ 63; rw [pys_eq, List.length_map]; omega
  | tup _ _ hl => show ((pys _).length : Int) < 2 ^ 63; rw [pys_eq, List.length_map]; omega
  | _ => exact True.intro
theorem rpa_fits {K : PySem.W.Frag} {F : Hp} : ∀ {vs : List V} {ds : List D}, RpA K F vs ds → ∀ x ∈ pys ds, x.fits63
  | _, _, .nil, x, h => by simp [pys] at h
  | _, _, .cons r t, x, h => by
    rw [pys] at h
    rcases List.mem_cons.mp h with rfl | h
    · exact rp_fits r
    · exact rpa_fits t x h
def truB (d : D) : Bool := d.py.truthy
theorem truth_B {d : D} (h : d.nd = true) : truth d = some (truB d) := by
  cases d with
  | dic _ => simp [D.nd] at h
  | st _ => simp [D.nd] at h
  | tup xs => show some (!xs.isEmpty) = some (!(pys xs).isEmpty); cases xs <;> simp [pys]
  | lst xs => show some (!xs.isEmpty) = some (!(pys xs).isEmpty); cases xs <;> simp [pys]
  | _ => rfl
@[simp] theorem truB_tup (xs : List D) : truB (.tup xs) = !xs.isEmpty := by
  show (!(pys xs).isEmpty) = _
  cases xs <;> simp [pys]
@[simp] theorem truB_lst (xs : List D) : truB (.lst xs) = !xs.isEmpty := by
  show (!(pys xs).isEmpty) = _
  cases xs <;> simp [pys]
@[simp] theorem truB_int (i : Int) : truB (.int i) = (i != 0) := rfl
@[simp] theorem truB_bl (i : Bool) : truB (.bl i) = i := rfl
@[simp] theorem truB_non : truB .non = false := rfl
section
variable {X : Cx}
def rBag (K : PySem.W.Frag) (f : List PyData → Bool) : List V → Hp → VK → Prop := fun vs H Q => ∃ (a : Addr) (xs : List V) (pd : List PyData), vs = [.ref a] ∧ SqL K H a xs ∧ DpAll K H xs pd ∧ PyData.plainAll pd = true ∧ (∀ x ∈ pd, x.fits63) ∧ Q (.bl (f pd)) H
theorem cr_allV (hc : X.calm = true) : CallR X (.builtin "all") (rBag X.K fun pd => pd.all PyData.truthy) := by
  intro pins s σ H vs us Q I r h
  obtain ⟨a, xs, pd, rfl, hs, hd, hp, hf, q⟩ := h
  obtain ⟨its, rv, hl, _⟩ := I.list hs
  rw [Vals.ref1 r]
  obtain ⟨as, hr⟩ := Dp.readsAll I pd _ its hd rv
  refine PySem.W.all_list_data (I.ok.hd hc) hl.isList (show ReadsAll s.heap its.toArray.toList pd as from hr) hp hf fun h' tk hk => ?_
  exact ⟨.bl _, H, I.kept hk, rfl, q⟩
theorem cr_anyV (hc : X.calm = true) : CallR X (.builtin "any") (rBag X.K fun pd => pd.any PyData.truthy) := by
  intro pins s σ H vs us Q I r h
  obtain ⟨a, xs, pd, rfl, hs, hd, hp, hf, q⟩ := h
  obtain ⟨its, rv, hl, _⟩ := I.list hs
  rw [Vals.ref1 r]
  obtain ⟨as, hr⟩ := Dp.readsAll I pd _ its hd rv
  refine PySem.W.any_list_data (I.ok.hd hc) hl.isList (show ReadsAll s.heap its.toArray.toList pd as from hr) hp hf fun h' tk hk => ?_
  exact ⟨.bl _, H, I.kept hk, rfl, q⟩
def cAllV (ds : List D) : Option R := match ds with
  | [.lst xs] => if nds xs = true then some (.v (.bl (xs.all truB))) else none
  | _ => none
def cAnyV (ds : List D) : Option R := match ds with
  | [.lst xs] => if nds xs = true then some (.v (.bl (xs.any truB))) else none
  | _ => none
theorem bagV {f : List PyData → Bool} {g : List D → Bool} (hfg : ∀ ds, f (pys ds) = g ds) {F H : Hp} {xs : List V} {ds : List D} {res : R} {Q : VK} {ys : List D} (e : Ex F H) (vs : Paired (VR X.K F H) xs [.lst ys]) (hn : nds ys = true) (k : ∀ v H', Ou X.K F H v H' (.v (.bl (g ys))) → Q v H') : rBag X.K f xs H Q := by
  obtain ⟨v, rfl, r⟩ := vals1 vs
  obtain ⟨a, us, rfl, s, ra, _⟩ := r.lst e
  obtain ⟨h1, h2⟩ := ra.all (F' := H) hn fun v d _ nd q => Rp.dp e q nd
  refine ⟨a, us, pys ys, rfl, .inl (.inl s), h1, nds_plain _ hn, rpa_fits ra, k _ H (.inl ⟨rfl, ?_⟩)⟩
  rw [hfg]; exact .bl _
theorem all_pys : ∀ ds : List D, (pys ds).all PyData.truthy = ds.all truB
  | [] => rfl
  | x :: xs => by rw [pys, List.all_cons, List.all_cons, all_pys xs]; rfl
theorem any_pysT : ∀ ds : List D, (pys ds).any PyData.truthy = ds.any truB
  | [] => rfl
  | x :: xs => by rw [pys, List.any_cons, List.any_cons, any_pysT xs]; rfl
theorem cd_allV (hc : X.calm = true) : CallD X (.builtin "all") cAllV := by
  refine ⟨_, cr_allV hc, fun F H xs ds res Q e vs hg k => ?_⟩
  match ds, hg with
  | [.lst ys], hg =>
    obtain ⟨hn, hg⟩ := Option.ite_none_right_eq_some.mp hg
    cases hg
    exact bagV (ds := []) (res := .v .non) all_pys e vs hn k
theorem cd_anyV (hc : X.calm = true) : CallD X (.builtin "any") cAnyV := by
  refine ⟨_, cr_anyV hc, fun F H xs ds res Q e vs hg k => ?_⟩
  match ds, hg with
  | [.lst ys], hg =>
    obtain ⟨hn, hg⟩ := Option.ite_none_right_eq_some.mp hg
    cases hg
    exact bagV (ds := []) (res := .v .non) any_pysT e vs hn k
/-! ### * of tuples, too -/
def dMulA (a b : D) : Option R := (dMul a b).or (dRepT a b)
theorem od_mulA : OpD X (binaryOp .Mult) dMulA := od_mul.or od_repT
/-! ### s.join of a list, a tuple -/
def lOfA {α : Type} (f : List D → Option α) (ds : List D) : Option α := match ds with
  | [.lst xs] => f xs
  | [.tup xs] => f xs
  | _ => none
def tJoinA (a : D) (ds : List D) : Option R := match a with
  | .str s => (lOfA dStrs ds).bind fun ys => if (ys.map (·.length)).sum + ys.length * s.length ≤ 16777216 ∧ sOk (Txt.join s ys) = true then some (.v (.str (Txt.join s ys))) else none
  | _ => none
theorem md_joinA : MtD X "str" "str.join" tJoinA := by
  refine ⟨_, mt_join, fun F H x a xs ds res Q e va vs hg k => ?_⟩
  match a, hg with
  | .str s, hg =>
    obtain ⟨ys, h1, hg⟩ := bsome hg
    obtain ⟨ok, hg⟩ := Option.ite_none_right_eq_some.mp hg
    cases hg
    match ds, h1 with
    | [.lst ws], h3 =>
      obtain ⟨v, rfl, r⟩ := vals1 vs
      obtain ⟨a, us, rfl, st, r, _⟩ := r.lst e
      rw [dStrs_eq h3] at r
      exact ⟨s, a, ys, va.str.1, rfl, .inl (.inl (.inl (by rw [← r.ofStrs.1]; exact st))), ok.1, k _ H (.inl ⟨rfl, .str _ (sOk_iff.mp ok.2)⟩)⟩
    | [.tup ws], h3 =>
      obtain ⟨v, rfl, r⟩ := vals1 vs
      obtain ⟨a, us, rfl, st, r, _⟩ := r.tup e
      rw [dStrs_eq h3] at r
      exact ⟨s, a, ys, va.str.1, rfl, .inr (by rw [← r.ofStrs.1]; exact st), ok.1, k _ H (.inl ⟨rfl, .str _ (sOk_iff.mp ok.2)⟩)⟩
end
end PV

namespace PV
open PySem L2 PyProof.Rows
/-! ### equality of data without bools -/
mutual
def D.clean : D → Bool
  | .non => true
  | .int _ => true
  | .str _ => true
  | .tup xs => cleans xs
  | .lst xs => cleans xs
  | _ => false
def cleans : List D → Bool
  | [] => true
  | x :: xs => x.clean && cleans xs
end
@[simp] theorem cleans_nil : cleans [] = true := by simp [cleans]
@[simp] theorem cleans_cons (x : D) (xs : List D) : cleans (x :: xs) = (x.clean && cleans xs) := by simp [cleans]
@[simp] theorem clean_int (i : Int) : (D.int i).clean = true := by simp [D.clean]
@[simp] theorem clean_str (i : Str) : (D.str i).clean = true := by simp [D.clean]
@[simp] theorem clean_T (i : List Nat) : (T i).clean = true := by simp [D.clean, T]
@[simp] theorem clean_non : D.non.clean = true := by simp [D.clean]
@[simp] theorem clean_tup (xs : List D) : (D.tup xs).clean = cleans xs := by simp [D.clean]
@[simp] theorem clean_lst (xs : List D) : (D.lst xs).clean = cleans xs := by simp [D.clean]
@[simp] theorem nd_T (i : List Nat) : (T i).nd = true := by simp [T]
theorem cleans_all : ∀ xs : List D, cleans xs = xs.all D.clean
  | [] => rfl
  | x :: xs => by rw [cleans_cons, cleans_all xs, List.all_cons]
theorem cleans_map {α : Type} (f : α → D) (h : ∀ x, (f x).clean = true) (xs : List α) : cleans (xs.map f) = true := by
  rw [cleans_all, List.all_map, List.all_eq_true]
  exact fun x _ => h x
@[simp] theorem cleans_append (xs ys : List D) : cleans (xs ++ ys) = (cleans xs && cleans ys) := by rw [cleans_all, cleans_all, cleans_all, List.all_append]
mutual
theorem clean_nd : ∀ a : D, a.clean = true → a.nd = true
  | .non, _ => by simp
  | .int _, _ => by simp
  | .str _, _ => by simp
  | .tup xs, h => by simpa using clean_nds xs (by simpa using h)
  | .lst xs, h => by simpa using clean_nds xs (by simpa using h)
  | .bl _, h => by simp [D.clean] at h
  | .dic _, h => by simp [D.clean] at h
  | .st _, h => by simp [D.clean] at h
theorem clean_nds : ∀ a : List D, cleans a = true → nds a = true
  | [], _ => by simp
  | x :: xs, h => by
    rw [cleans_cons, Bool.and_eq_true] at h
    simp [clean_nd x h.1, clean_nds xs h.2]
end
mutual
theorem eqv_clean : ∀ a b : D, a.clean = true → b.clean = true → PyData.eqv a.py b.py = sm a b
  | .non, b, _, hb => by cases b <;> simp_all [D.py, PyData.eqv, sm, D.clean]
  | .int i, b, _, hb => by cases b <;> simp_all [D.py, PyData.eqv, sm, D.clean] <;> rfl
  | .str i, b, _, hb => by cases b <;> simp_all [D.py, PyData.eqv, sm, D.clean] <;> rfl
  | .tup xs, b, ha, hb => by
    cases b with
    | tup ys =>
      have := eqvAll_clean xs ys (by simpa using ha) (by simpa using hb)
      simpa [D.py, PyData.eqv, sm] using this
    | _ => simp_all [D.py, PyData.eqv, sm, D.clean]
  | .lst xs, b, ha, hb => by
    cases b with
    | lst ys =>
      have := eqvAll_clean xs ys (by simpa using ha) (by simpa using hb)
      simpa [D.py, PyData.eqv, sm] using this
    | _ => simp_all [D.py, PyData.eqv, sm, D.clean]
  | .bl _, _, h, _ => by simp [D.clean] at h
  | .dic _, _, h, _ => by simp [D.clean] at h
  | .st _, _, h, _ => by simp [D.clean] at h
theorem eqvAll_clean : ∀ a b : List D, cleans a = true → cleans b = true → PyData.eqvAll (pys a) (pys b) = smL a b
  | [], [], _, _ => by simp [pys, PyData.eqvAll, smL]
  | [], _ :: _, _, _ => by simp [pys, PyData.eqvAll, smL]
  | _ :: _, [], _, _ => by simp [pys, PyData.eqvAll, smL]
  | x :: xs, y :: ys, h, hb => by
    rw [cleans_cons, Bool.and_eq_true] at h hb
    simp [pys, PyData.eqvAll, smL, eqv_clean x y h.1 hb.1, eqvAll_clean xs ys h.2 hb.2]
end
mutual
theorem sm_self : ∀ a : D, a.clean = true → sm a a = true
  | .non, _ => by simp [sm]
  | .int _, _ => by simp [sm]
  | .str _, _ => by simp [sm]
  | .tup xs, h => by simpa [sm] using smL_self xs (by simpa using h)
  | .lst xs, h => by simpa [sm] using smL_self xs (by simpa using h)
  | .bl _, h => by simp [D.clean] at h
  | .dic _, h => by simp [D.clean] at h
  | .st _, h => by simp [D.clean] at h
theorem smL_self : ∀ a : List D, cleans a = true → smL a a = true
  | [], _ => by simp [smL]
  | x :: xs, h => by
    rw [cleans_cons, Bool.and_eq_true] at h
    simp [smL, sm_self x h.1, smL_self xs h.2]
end
theorem sm_iff {a b : D} (h : a.clean = true) : sm a b = true ↔ a = b := ⟨sm_eq a b, fun e => e ▸ sm_self a h⟩
/-- flat enough -/
def shal (a : D) : Bool := decide (a.py.depth ≤ 60)
theorem dEq_clean {a b : D} (ha : a.clean = true) (hb : b.clean = true) (hd : a.py.depth ≤ 60 ∨ b.py.depth ≤ 60) : dEq a b = some (.v (.bl (sm a b))) := by
  unfold dEq eqOk
  rw [if_pos (by simp [clean_nd a ha, clean_nd b hb]; omega), deqv, eqv_clean a b ha hb]
theorem dNe_clean {a b : D} (ha : a.clean = true) (hb : b.clean = true) (hd : a.py.depth ≤ 60 ∨ b.py.depth ≤ 60) : dNe a b = some (.v (.bl (!sm a b))) := by
  unfold dNe eqOk
  rw [if_pos (by simp [clean_nd a ha, clean_nd b hb]; omega), deqv, eqv_clean a b ha hb]
theorem depthAll_le {n : Nat} : ∀ {xs : List D}, (∀ x ∈ xs, x.py.depth ≤ n) → PyData.depthAll (pys xs) ≤ n
  | [], _ => by simp [pys, PyData.depthAll]
  | x :: xs, h => by
    have h1 := h x List.mem_cons_self
    have h2 := depthAll_le (xs := xs) fun y hy => h y (List.mem_cons_of_mem _ hy)
    simp [pys, PyData.depthAll]
    omega
theorem depth_tup {n : Nat} {xs : List D} (h : ∀ x ∈ xs, x.py.depth ≤ n) : (D.tup xs).py.depth ≤ n + 1 := by
  have := depthAll_le h
  simp [D.py, PyData.depth]
  omega
theorem depth_lst {n : Nat} {xs : List D} (h : ∀ x ∈ xs, x.py.depth ≤ n) : (D.lst xs).py.depth ≤ n + 1 := by
  have := depthAll_le h
  simp [D.py, PyData.depth]
  omega
theorem depth_int (i : Int) : (D.int i).py.depth ≤ 1 := by simp [D.py, PyData.depth]
theorem depth_T (i : List Nat) : (T i).py.depth ≤ 1 := by simp [T, D.py, PyData.depth]
/-! ### lists of indexes as tuples -/
def rT (r : List Nat) : D := .tup (r.map fun (k : Nat) => D.int (k : Int))
def shT (s : List (List Nat)) : D := .tup (s.map T)
theorem int_inj {a b : Nat} (h : D.int (a : Int) = D.int (b : Int)) : a = b := by
  cases h; rfl
theorem map_inj' {α β : Type} {f : α → β} (hf : ∀ x y, f x = f y → x = y) : ∀ {a b : List α}, a.map f = b.map f → a = b
  | [], [], _ => rfl
  | [], _ :: _, h => by simp at h
  | _ :: _, [], h => by simp at h
  | x :: xs, y :: ys, h => by
    simp only [List.map_cons, List.cons.injEq] at h
    rw [hf _ _ h.1, map_inj' hf h.2]
theorem rT_inj {a b : List Nat} : rT a = rT b ↔ a = b := by
  unfold rT
  constructor
  · intro h
    have h : a.map (fun (k : Nat) => D.int (k : Int)) = b.map fun (k : Nat) => D.int (k : Int) := by injection h
    exact map_inj' (fun x y e => int_inj e) h
  · rintro rfl; rfl
@[simp] theorem clean_rT (r : List Nat) : (rT r).clean = true := by
  unfold rT
  rw [clean_tup]
  exact cleans_map _ (fun _ => clean_int _) r
@[simp] theorem nd_rT (r : List Nat) : (rT r).nd = true := clean_nd _ (clean_rT r)
@[simp] theorem clean_shT (r : List (List Nat)) : (shT r).clean = true := by
  unfold shT
  rw [clean_tup]
  exact cleans_map _ (fun _ => clean_T _) r
theorem depth_rT (r : List Nat) : (rT r).py.depth ≤ 2 := depth_tup fun x hx => by
  obtain ⟨k, _, rfl⟩ := List.mem_map.mp hx
  exact depth_int _
theorem sm_rT (a b : List Nat) : sm (rT a) (rT b) = decide (a = b) := by
  rw [Bool.eq_iff_iff, sm_iff (clean_rT a), rT_inj, decide_eq_true_eq]
@[simp] theorem dEq_rT (a b : List Nat) : dEq (rT a) (rT b) = some (.v (.bl (decide (a = b)))) := by
  rw [dEq_clean (clean_rT a) (clean_rT b) (.inl (by have := depth_rT a; omega)), sm_rT]
@[simp] theorem dNe_rT (a b : List Nat) : dNe (rT a) (rT b) = some (.v (.bl (!decide (a = b)))) := by
  rw [dNe_clean (clean_rT a) (clean_rT b) (.inl (by have := depth_rT a; omega)), sm_rT]
@[simp] theorem items_rT (r : List Nat) : items (rT r) = some (r.map fun (k : Nat) => D.int (k : Int)) := rfl
@[simp] theorem items_shT (r : List (List Nat)) : items (shT r) = some (r.map T) := rfl
@[simp] theorem cLen_rT (r : List Nat) : cLenA [rT r] = some (.v (.int r.length)) := by
  unfold rT; rw [cLen_tup, List.length_map]
@[simp] theorem cLen_shT (r : List (List Nat)) : cLenA [shT r] = some (.v (.int r.length)) := by
  unfold shT; rw [cLen_tup, List.length_map]
theorem nat_dec (a b : Nat) : (decide ((a : Int) = (b : Int))) = decide (a = b) := by
  rw [Bool.eq_iff_iff, decide_eq_true_eq, decide_eq_true_eq]; omega
theorem dIn_rT (neg : Bool) (k : Nat) (r : List Nat) : dIn neg (.int (k : Int)) (rT r) = some (.v (.bl (neg ^^ decide (k ∈ r)))) := by
  have h : dInS neg (.int (k : Int)) (rT r) = some (.v (.bl (neg ^^ decide (k ∈ r)))) := by
    unfold rT
    show (if inOk (.int (k : Int)) _ = true then some (R.v (.bl (neg ^^ (r.map fun (k : Nat) => D.int (k : Int)).any fun y => deqv y (.int (k : Int))))) else none) = _
    have h1 : inOk (.int (k : Int)) (r.map fun (k : Nat) => D.int (k : Int)) = true := by
      unfold inOk
      have := depth_int (k : Int)
      rw [nds_map _ (fun _ => nd_int _)]
      simp
      omega
    rw [if_pos h1]
    have h2 : ((r.map fun (k : Nat) => D.int (k : Int)).any fun y => deqv y (.int (k : Int))) = decide (k ∈ r) := by
      rw [Bool.eq_iff_iff, List.any_eq_true, decide_eq_true_eq]
      constructor
      · rintro ⟨y, hy, e⟩
        obtain ⟨j, hj, rfl⟩ := List.mem_map.mp hy
        rw [deqv, eqv_clean _ _ (clean_int _) (clean_int _)] at e
        have := sm_eq _ _ e
        rw [← int_inj this]; exact hj
      · intro hk
        refine ⟨_, List.mem_map.mpr ⟨k, hk, rfl⟩, ?_⟩
        rw [deqv, eqv_clean _ _ (clean_int _) (clean_int _)]
        exact sm_self _ (clean_int _)
    rw [h2]
  unfold dIn
  rw [h]
  rfl
theorem dIx_rT {r : List Nat} {i : Nat} (h : i < r.length) : dIx (rT r) (.int (i : Int)) = some (.v (.int (r[i] : Nat))) := by
  unfold rT
  rw [dIx_tup, atI_nat (by rw [List.length_map]; exact h)]
  simp
theorem dIx_shT {r : List (List Nat)} {i : Nat} (h : i < r.length) : dIx (shT r) (.int (i : Int)) = some (.v (T r[i])) := by
  unfold shT
  rw [dIx_tup, atI_nat (by rw [List.length_map]; exact h)]
  simp
/-! ### texts -/
theorem cnt_count (c : Nat) (l : List Nat) : cnt c l = (l.count c : Nat) := by
  induction l with
  | nil => rfl
  | cons n r ih =>
    rw [cnt_cons, ih, List.count_cons]
    by_cases h : n = c
    · subst h; simp; omega
    · have : (n == c) = false := by simpa using h
      simp [h, this]
theorem tCount_T (cs : List Nat) (c : Nat) : tCount (T cs) [T [c]] = some (.v (.int (cs.count c : Nat))) := by
  show some (R.v (.int (Txt.count (tx cs) (tx [c])))) = _
  have : Txt.count (tx cs) (tx [c]) = (cs.count c : Nat) := by
    rw [← cnt_count]
    exact count_is (tx cs) c
  rw [this]
theorem tJoinA_lst {xs : List (List Nat)} (h : ∀ x ∈ xs, ∀ c ∈ x, c < 0x110000) (hl : xs.flatten.length ≤ 16777216) : tJoinA (T []) [.lst (xs.map T)] = some (.v (T xs.flatten)) := tJoin_T h hl
theorem tJoinA_tup {xs : List (List Nat)} (h : ∀ x ∈ xs, ∀ c ∈ x, c < 0x110000) (hl : xs.flatten.length ≤ 16777216) : tJoinA (T []) [shT xs] = some (.v (T xs.flatten)) := tJoin_T h hl
theorem setKL_T (l : List Nat) (h : (uniq l).length < 4000) : ∃ k, setKL (T l) = some k ∧ k.set = (srt l).map fun c => T [c] := by
  have inj : ∀ a b : Nat, tx [a] = tx [b] → a = b := fun a b h => by
    have := tx_inj.mp h
    simpa using this
  have e2 : uniq (l.map fun c => tx [c]) = (uniq l).map fun c => tx [c] := uniq_map inj _
  refine ⟨.s (l.map fun c => tx [c]), ?_, ?_⟩
  · show (if (uniq (l.map fun c => tx [c])).length + 1 < scanBound then some (KL.s (l.map fun c => tx [c])) else none) = _
    rw [if_pos (by rw [e2, List.length_map]; unfold scanBound; omega)]
  · show (sortS (uniq (l.map fun c => tx [c]))).map D.str = _
    rw [e2]
    unfold sortS srt
    rw [← List.map_mergeSort (r := fun a b => leS (tx [a]) (tx [b])) (fun _ _ _ _ => rfl), List.map_map]
    rfl
theorem mem_srt {c : Nat} {l : List Nat} : c ∈ srt l ↔ c ∈ l := by
  rw [(srt_perm l).mem_iff, mem_uniq]
/-- the keys, in order -/
theorem dSort_ones {ks l : List Nat} (nd : ks.Nodup) (h : ∀ c, c ∈ ks ↔ c ∈ l) : dSort (ks.map fun c => T [c]) = (srt l).map fun c => T [c] := by
  have p : ks.Perm (uniq l) := (List.perm_ext_iff_of_nodup nd (nodup_uniq l)).mpr fun c => by rw [h, mem_uniq]
  have e1 : (ks.map fun c => T [c]) = (ks.map fun c => tx [c]).map D.str := by rw [List.map_map]; rfl
  rw [e1, dSort_strs, sortS_of_perm (p.map _)]
  unfold sortS srt
  rw [← List.map_mergeSort (r := fun a b => leS (tx [a]) (tx [b])) (fun _ _ _ _ => rfl), List.map_map]
  rfl
/-! ### dicts from letters to numbers -/
def eC (kvs : List (Nat × Int)) : List (D × D) := kvs.map fun x => (T [x.1], .int x.2)
def lookC (kvs : List (Nat × Int)) (k : Nat) : Option Int := (kvs.find? fun x => decide (x.1 = k)).map (·.2)
def putC (kvs : List (Nat × Int)) (k : Nat) (v : Int) : List (Nat × Int) := if (kvs.any fun x => decide (x.1 = k)) = true then kvs.map (fun x => if x.1 = k then (x.1, v) else x) else kvs ++ [(k, v)]
theorem isK_C (i k : Nat) : (T [i]).isK (.inr (tx [k])) = decide (i = k) := by
  have : (tx [k] = tx [i]) ↔ i = k := by rw [tx_inj]; simp [eq_comm]
  simp [D.isK, T, this]
theorem eC_look (kvs : List (Nat × Int)) (k : Nat) : dLook (eC kvs) (.inr (tx [k])) = (lookC kvs k).map D.int := by
  unfold dLook lookC eC
  induction kvs with
  | nil => rfl
  | cons x xs ih =>
    rw [List.map_cons, List.find?_cons, List.find?_cons, isK_C]
    cases decide (x.1 = k) with
    | true => rfl
    | false => exact ih
theorem eC_put (kvs : List (Nat × Int)) (k : Nat) (v : Int) : dPut (eC kvs) (.inr (tx [k])) (.int v) = eC (putC kvs k v) := by
  unfold dPut putC eC
  have e : ((kvs.map fun x => (T [x.1], D.int x.2)).any fun kv => kv.1.isK (.inr (tx [k]))) = kvs.any fun x => decide (x.1 = k) := by
    rw [List.any_map]
    congr 1
    funext x
    exact isK_C _ _
  rw [e]
  by_cases h : (kvs.any fun x => decide (x.1 = k)) = true
  · rw [if_pos h, if_pos h, List.map_map, List.map_map]
    refine List.map_congr_left fun x _ => ?_
    simp only [Function.comp, isK_C, decide_eq_true_eq]
    by_cases z : x.1 = k
    · rw [if_pos z, if_pos z]
    · rw [if_neg z, if_neg z]
  · rw [if_neg h, if_neg h, List.map_append]
    rfl
@[simp] theorem eC_len (kvs : List (Nat × Int)) : (eC kvs).length = kvs.length := List.length_map _
theorem eC_get (kvs : List (Nat × Int)) (k : Nat) (c : Int) : dGet (eC kvs) (T [k]) (.int c) = some (.int ((lookC kvs k).getD c)) := by
  show some ((dLook (eC kvs) (.inr (tx [k]))).getD (.int c)) = _
  rw [eC_look]
  cases lookC kvs k <;> rfl
theorem eC_su {kvs : List (Nat × Int)} (k : Nat) (v : Int) (h : kvs.length < 16777216) : suD (.dic (eC kvs)) (T [k]) (.int v) = some (.dic (eC (putC kvs k v))) := by
  have : suK (.dic (eC kvs)) (T [k]) (.int v) = some (.dic (eC (putC kvs k v))) := by
    show (if (eC kvs).length < sizeLine then some (D.dic (dPut (eC kvs) (.inr (tx [k])) (.int v))) else none) = _
    rw [if_pos (by rw [eC_len, sizeLine_eq]; exact h), eC_put]
  unfold suD
  rw [this]
  rfl
theorem eC_ix {kvs : List (Nat × Int)} {k : Nat} {v : Int} (h : lookC kvs k = some v) : dIx (.dic (eC kvs)) (T [k]) = some (.v (.int v)) := by
  have : ixD (.dic (eC kvs)) (T [k]) = some (.v (.int v)) := by
    show ((dLook (eC kvs) (.inr (tx [k]))).bind fun d => some (R.v d)) = _
    rw [eC_look, h]
    rfl
  unfold dIx
  rw [this]
  rfl
theorem lookC_put (kvs : List (Nat × Int)) (k j : Nat) (v : Int) : lookC (putC kvs k v) j = if j = k then some v else lookC kvs j := by
  unfold putC lookC
  by_cases h : (kvs.any fun x => decide (x.1 = k)) = true
  · rw [if_pos h]
    induction kvs with
    | nil => simp at h
    | cons x xs ih =>
      rw [List.map_cons, List.find?_cons, List.find?_cons]
      by_cases z : x.1 = k
      · rw [if_pos z]
        by_cases w : j = k
        · subst w; simp [z]
        · have w' : ¬ k = j := fun e => w e.symm
          simp only [z, w, w', decide_false, if_false]
          have : xs.map (fun x => if x.1 = k then (x.1, v) else x) = xs.map (fun x => if x.1 = k then (x.1, v) else x) := rfl
          have gen : ∀ ys : List (Nat × Int), (List.find? (fun x => decide (x.1 = j)) (ys.map fun x => if x.1 = k then (x.1, v) else x)).map (·.2) = (List.find? (fun x => decide (x.1 = j)) ys).map (·.2) := by
            intro ys
            induction ys with
            | nil => rfl
            | cons y ys ihy =>
              rw [List.map_cons, List.find?_cons, List.find?_cons]
              by_cases q : y.1 = k
              · rw [if_pos q]
                have : ¬ y.1 = j := fun e => w' (q.symm.trans e)
                simp only [this, decide_false]
                exact ihy
              · rw [if_neg q]
                by_cases q2 : y.1 = j
                · simp [q2]
                · simp only [q2, decide_false]
                  exact ihy
          exact gen xs
      · rw [if_neg z]
        by_cases w : x.1 = j
        · have : ¬ j = k := fun e => z (w.trans e)
          simp [w, this]
        · simp only [w, decide_false]
          have h' : (xs.any fun x => decide (x.1 = k)) = true := by simpa [z] using h
          exact ih h'
  · rw [if_neg h, List.find?_append]
    have hn : ∀ x ∈ kvs, ¬ x.1 = k := fun x hx e => h (List.any_eq_true.mpr ⟨x, hx, by simpa using e⟩)
    by_cases w : j = k
    · subst w
      have : List.find? (fun x => decide (x.1 = j)) kvs = none := List.find?_eq_none.mpr fun x hx => by simpa using hn x hx
      rw [this]; simp
    · have w' : ¬ k = j := fun e => w e.symm
      rw [if_neg w]
      cases List.find? (fun x => decide (x.1 = j)) kvs <;> simp [w']
theorem putC_keys {kvs : List (Nat × Int)} {k : Nat} {v : Int} {j : Nat} : j ∈ (putC kvs k v).map (·.1) ↔ j ∈ kvs.map (·.1) ∨ j = k := by
  unfold putC
  by_cases h : (kvs.any fun x => decide (x.1 = k)) = true
  · rw [if_pos h]
    have keys : (kvs.map (fun x => if x.1 = k then (x.1, v) else x)).map (·.1) = kvs.map (·.1) := by
      rw [List.map_map]
      refine List.map_congr_left fun x _ => ?_
      simp only [Function.comp]
      split <;> rfl
    rw [keys]
    refine ⟨.inl, fun z => z.elim id fun e => ?_⟩
    obtain ⟨x, hx, q⟩ := List.any_eq_true.mp h
    subst e
    exact List.mem_map.mpr ⟨x, hx, by simpa using q⟩
  · rw [if_neg h]
    simp
theorem putC_nodup {kvs : List (Nat × Int)} {k : Nat} {v : Int} (nd : (kvs.map (·.1)).Nodup) : ((putC kvs k v).map (·.1)).Nodup := by
  unfold putC
  by_cases h : (kvs.any fun x => decide (x.1 = k)) = true
  · rw [if_pos h]
    have keys : (kvs.map (fun x => if x.1 = k then (x.1, v) else x)).map (·.1) = kvs.map (·.1) := by
      rw [List.map_map]
      refine List.map_congr_left fun x _ => ?_
      simp only [Function.comp]
      split <;> rfl
    rw [keys]; exact nd
  · rw [if_neg h, List.map_append, List.nodup_append]
    refine ⟨nd, by simp, fun a ha b hb => ?_⟩
    simp at hb; subst hb
    rintro rfl
    obtain ⟨x, hx, q⟩ := List.mem_map.mp ha
    exact h (List.any_eq_true.mpr ⟨x, hx, by simpa using q⟩)
/-- how often each letter stands in l -/
def upC (d : List (Nat × Int)) (c : Nat) : List (Nat × Int) := putC d c ((lookC d c).getD 0 + 1)
structure CntOf (d : List (Nat × Int)) (l : List Nat) : Prop where
  nd : (d.map (·.1)).Nodup
  keys : ∀ c, c ∈ d.map (·.1) ↔ c ∈ l
  look : ∀ c, (lookC d c).getD 0 = (l.count c : Nat)
  sm : ∀ c ∈ l, lookC d c = some (l.count c : Nat)
theorem cntOf_nil : CntOf [] [] := ⟨by simp, by simp, fun c => rfl, by simp⟩
theorem CntOf.up {d : List (Nat × Int)} {l : List Nat} (h : CntOf d l) (c : Nat) : CntOf (upC d c) (l ++ [c]) := by
  have lk : ∀ j, lookC (upC d c) j = if j = c then some (((l ++ [c]).count c : Nat) : Int) else lookC d j := fun j => by
    unfold upC
    rw [lookC_put, h.look]
    have : ((l.count c : Nat) : Int) + 1 = (((l ++ [c]).count c : Nat) : Int) := by
      rw [List.count_append]; simp
    rw [this]
  have ne : ∀ j, ¬ j = c → (l ++ [c]).count j = l.count j := fun j hj => by
    rw [List.count_append]
    have : List.count j [c] = 0 := List.count_eq_zero.mpr (by simpa using hj)
    omega
  refine ⟨putC_nodup h.nd, fun j => ?_, fun j => ?_, fun j hj => ?_⟩
  · unfold upC
    rw [putC_keys, h.keys]
    simp
  · rw [lk]
    by_cases e : j = c
    · subst e; simp
    · rw [if_neg e, h.look, ne j e]
  · rw [lk]
    by_cases e : j = c
    · subst e; simp
    · rw [if_neg e, ne j e]
      exact h.sm j (by simpa [e] using hj)
theorem CntOf.len {d : List (Nat × Int)} {l : List Nat} (h : CntOf d l) : d.length ≤ l.length := by
  have := List.Nodup.length_le_of_subset h.nd (fun x hx => (h.keys x).mp hx)
  simpa using this
theorem CntOf.fold {d : List (Nat × Int)} : ∀ {l m : List Nat}, CntOf d l → CntOf (m.foldl upC d) (l ++ m) := by
  intro l m
  induction m generalizing d l with
  | nil => intro h; simpa using h
  | cons c m ih =>
    intro h
    have := ih (h.up c)
    simpa using this
theorem sortedC {d : List (Nat × Int)} {l : List Nat} (h : CntOf d l) (hl : l.length ≤ 16777216) : cSorted [.dic (eC d)] = some (.f (.lst ((srt l).map fun c => T [c]))) := by
  have e : dKeys (eC d) = (d.map (·.1)).map fun c => T [c] := by
    unfold dKeys eC
    rw [List.map_map, List.map_map]
    rfl
  have ok : sortOk ((d.map (·.1)).map fun c => T [c]) = true := by
    have := sortOk_strs ((d.map (·.1)).map fun c => tx [c])
    rw [List.map_map] at this
    exact this
  have : cSortD [.dic (eC d)] = some (.f (.lst ((srt l).map fun c => T [c]))) := by
    show (if sortOk (dKeys (eC d)) = true ∧ (eC d).length ≤ sizeLine then some (R.f (D.lst (dSort (dKeys (eC d))))) else none) = _
    have := h.len
    rw [e, if_pos ⟨ok, by rw [eC_len, sizeLine_eq]; omega⟩, dSort_ones h.nd h.keys]
  unfold cSorted
  simp [cSort, lOf, this]
end PV

namespace PV
open PySem L2 PyProof.Rows
/-! ### more evaluation -/
theorem dAdd_tup {a b : List D} (h : a.length + b.length ≤ 16777216) : dAdd (.tup a) (.tup b) = some (.v (.tup (a ++ b))) := by
  have e : dAdd (.tup a) (.tup b) = dAddU (.tup a) (.tup b) := by simp [dAdd, dII, dAddT, dAddL, dAddU]
  rw [e]
  show (if a.length + b.length ≤ sizeLine then _ else _) = _
  rw [if_pos (by rw [sizeLine_eq]; exact h)]
theorem dAdd_lst {a b : List D} (h : a.length + b.length ≤ 16777216) : dAdd (.lst a) (.lst b) = some (.f (.lst (a ++ b))) := by
  have e : dAdd (.lst a) (.lst b) = dAddL (.lst a) (.lst b) := by simp [dAdd, dII, dAddT, dAddL, dAddU]
  rw [e]
  show (if a.length + b.length ≤ sizeLine then _ else _) = _
  rw [if_pos (by rw [sizeLine_eq]; exact h)]
@[simp] theorem dSl_tup (xs : List D) (lo hi : Option Int) : dSl (.tup xs) lo hi = some (.v (.tup (cutD xs lo hi))) := rfl
@[simp] theorem dSl_lst (xs : List D) (lo hi : Option Int) : dSl (.lst xs) lo hi = some (.f (.lst (cutD xs lo hi))) := rfl
@[simp] theorem dRev_tup (xs : List D) : dRev (.tup xs) = some (.v (.tup xs.reverse)) := rfl
@[simp] theorem dRev_lst (xs : List D) : dRev (.lst xs) = some (.f (.lst xs.reverse)) := rfl
@[simp] theorem dNeg_int (i : Int) : dNeg (.int i) = some (.v (.int (-i))) := rfl
theorem cutD_len {α : Type} (xs : List α) (lo hi : Option Int) : (cutD xs lo hi).length ≤ xs.length := by
  unfold cutD
  rw [List.length_take, List.length_drop]
  omega
theorem cutD_mem {α : Type} {xs : List α} {lo hi : Option Int} {x : α} (h : x ∈ cutD xs lo hi) : x ∈ xs := by
  unfold cutD at h
  exact List.mem_of_mem_drop (List.mem_of_mem_take h)
theorem pick_ok {xs : List D} {p : Int} (h0 : 0 ≤ p) (h1 : p < xs.length) : ∃ x ∈ xs, dIx (.lst xs) (.int p) = some (.v x) := by
  obtain ⟨n, rfl⟩ := Int.eq_ofNat_of_zero_le h0
  have hn : n < xs.length := by omega
  exact ⟨xs[n], List.getElem_mem hn, by rw [dIx_lst, atI_nat hn]; rfl⟩
/-! ### plain values in bounds -/
inductive Ok (n : Nat) : Nat → D → Prop
  | non {k} : Ok n (k + 1) .non
  | bl {k} (b : Bool) : Ok n (k + 1) (.bl b)
  | int {k} (i : Int) : i.natAbs ≤ 100000 * (n + 1) → Ok n (k + 1) (.int i)
  | str {k} (cs : List Nat) : cs.length ≤ 100 * (n + 1) → (∀ c ∈ cs, c < 128) → Ok n (k + 1) (T cs)
  | tup {k} (xs : List D) : xs.length ≤ 100 * (n + 1) → (∀ x ∈ xs, Ok n k x) → Ok n (k + 1) (.tup xs)
theorem Ok.mono {n m : Nat} (h : n ≤ m) : ∀ {k l : Nat} {d : D}, k ≤ l → Ok n k d → Ok m l d := by
  intro k l d hl o
  induction o generalizing l with
  | non => obtain ⟨l, rfl⟩ : ∃ l', l = l' + 1 := ⟨l - 1, by omega⟩; exact .non
  | bl b => obtain ⟨l, rfl⟩ : ∃ l', l = l' + 1 := ⟨l - 1, by omega⟩; exact .bl b
  | int i hi => obtain ⟨l, rfl⟩ : ∃ l', l = l' + 1 := ⟨l - 1, by omega⟩; exact .int i (by omega)
  | str cs h1 h2 => obtain ⟨l, rfl⟩ : ∃ l', l = l' + 1 := ⟨l - 1, by omega⟩; exact .str cs (by omega) h2
  | tup xs h1 h2 ih => obtain ⟨l, rfl⟩ : ∃ l', l = l' + 1 := ⟨l - 1, by omega⟩; exact .tup xs (by omega) fun x hx => ih x hx (by omega)
theorem ok_int {n k : Nat} {i : Int} (h : i.natAbs ≤ 100000) : Ok n (k + 1) (.int i) := .int i (by omega)
theorem sof (s : String) : D.str (Str.ofString s) = T ((Str.ofString s).cps.toList) := by
  unfold T tx
  congr
theorem ok_str_num {n k : Nat} {i : Int} (h : i.natAbs < 10 ^ 20) : cStrI [.int i] = some (.v (.str (toString i))) ∧ Ok n (k + 1) (.str (toString i)) := by
  have h1 : (Str.ofString (toString i)).length ≤ 21 := by
    rw [PySem.ofString_length]
    exact int_text_length_le10 (by decide) h
  have e0 : (Str.ofString (toString i)).cps.toList = (toString i).toList.map Char.toNat := by rw [PySem.Str.ofString_eq_toList]
  have h2 : ∀ c ∈ (Str.ofString (toString i)).cps.toList, c < 128 := fun c hc => by
    rw [e0] at hc
    obtain ⟨ch, hm, rfl⟩ := List.mem_map.mp hc
    exact int_ascii i ch hm
  have hl : i.natAbs.log2 < 1920 := by
    have : i.natAbs < 2 ^ 70 := Nat.lt_of_lt_of_le h (by decide)
    have := PySem.Flt.log2_lt_of (by decide : 0 < 70) this
    omega
  have ok : sOk (Str.ofString (toString i)) = true := by
    unfold sOk
    rw [Bool.and_eq_true, decide_eq_true_eq, sizeLine_eq]
    refine ⟨by omega, ?_⟩
    rw [← Array.all_toList, List.all_eq_true]
    intro c hc
    have := h2 c hc
    exact decide_eq_true (by omega)
  refine ⟨?_, ?_⟩
  · show (if i.natAbs.log2 < 1920 ∧ sOk (Str.ofString (toString i)) = true then _ else _) = _
    rw [if_pos ⟨hl, ok⟩]
  · have : D.str (toString i) = T ((Str.ofString (toString i)).cps.toList) := sof (toString i)
    rw [this]
    refine .str _ ?_ h2
    have : (Str.ofString (toString i)).cps.toList.length = (Str.ofString (toString i)).length := by simp [Str.length]
    omega
theorem tUpper_T {cs : List Nat} (h : ∀ c ∈ cs, c < 128) (hl : cs.length ≤ 5000000) : tUpper (T cs) [] = some (.v (T (cs.map up1))) := by
  have e : Txt.upper (tx cs) = tx (cs.map up1) := by
    rw [upper_ascii (x := tx cs) (by simpa using h)]
    simp [tx]
  show (if (tx cs).length ≤ 5592405 ∧ sOk (Txt.upper (tx cs)) = true then some (R.v (.str (Txt.upper (tx cs)))) else none) = _
  rw [e]
  have ok : sOk (tx (cs.map up1)) = true := by
    unfold sOk
    rw [Bool.and_eq_true, decide_eq_true_eq, sizeLine_eq, tx_len, List.length_map]
    refine ⟨by omega, ?_⟩
    show ((cs.map up1).toArray).all _ = true
    rw [List.all_toArray, List.all_eq_true]
    intro c hc
    obtain ⟨d, hd, rfl⟩ := List.mem_map.mp hc
    have := h d hd
    have : up1 d ≤ d := by unfold up1; split <;> omega
    exact decide_eq_true (by omega)
  rw [if_pos ⟨by rw [tx_len]; omega, ok⟩]
  rfl
theorem up1_lt {c : Nat} (h : c < 128) : up1 c < 128 := by unfold up1; split <;> omega
theorem strT {s : String} {cs : List Nat} (h : Str.ofString s = tx cs) : D.str (Str.ofString s) = T cs := by rw [h]; rfl
@[simp] theorem str_nil : D.str (Str.ofString "") = T [] := strT (by decide +kernel)
@[simp] theorem str_a : D.str (Str.ofString "a") = T [97] := strT (by decide +kernel)
@[simp] theorem str_any : D.str (Str.ofString "any") = T [97, 110, 121] := strT (by decide +kernel)
@[simp] theorem str_z0 : D.str (Str.ofString "z0z0z0z0") = T [122, 48, 122, 48, 122, 48, 122, 48] := strT (by decide +kernel)
@[simp] theorem tyD_T' (a : List Nat) : tyD "str" (T a) = true := rfl
theorem dSl_T' (cs : List Nat) (lo hi : Option Int) : dSl (T cs) lo hi = some (.v (T (cutD cs lo hi))) := dSl_T cs lo hi
theorem dAdd_Ts {a : List Nat} {s : String} (h : a.length + s.length ≤ 16777216) : dAdd (T a) (.str (Str.ofString s)) = some (.v (T (a ++ (Str.ofString s).cps.toList))) := by
  rw [sof]
  refine dAdd_T ?_
  have : (Str.ofString s).cps.toList.length = (Str.ofString s).length := by simp [Str.length]
  rw [this, PySem.ofString_length]
  exact h
/-! ### _law_bent -/
noncomputable def mBent (g : FN) : EF Fl :=
  (bSeq (bIf (mAnd (mTru (mP (mQ (mIsi "tuple" (mSlot 1))))) (mAnd (mBl (m2 dGtI (mP (mQ (mCall cLenA (mCons (mSlot 1) mNil)))) (mP (mC (.int 0))))) (mBl (m2 dGtI (mP (mQ (mFn fnDraw (mCons (mSlot 0) (mCons (mP (mC (.int 5))) mNil))))) (mP (mC (.int 0))))))) (bSeq (bSet 2 (mFn fnDraw (mCons (mSlot 0) (mCons (mP (mQ (mCall cLenA (mCons (mSlot 1) mNil)))) mNil))))
  (bRet (m2 dAdd (mP (mQ (m2 dAdd (mP (mQ (mSl dSl (mSlot 1) oNo (oSo (mSlot 2))))) (mP (mTup (mCons (mQ (mFn g (mCons (mSlot 0) (mCons (mP (mQ (m2 dIx (mSlot 1) (mSlot 2)))) mNil)))) mNil)))))) (mP (mQ (mSl dSl (mSlot 1) (oSo (mP (mQ (m2 dAdd (mSlot 2) (mP (mC (.int 1))))))) oNo)))))) bNil)
  (bSeq (bSet 3 (mFn fnDraw (mCons (mSlot 0) (mCons (mP (mC (.int 8))) mNil))))
  (bSeq (bIf (mTru (mP (mQ (mIsi "tuple" (mSlot 1))))) (bRet (m2 dIx (mP (mQ (mLst (mCons (mQ (m2 dAdd (mSlot 1) (mP (mQ (mSl dSl (mSlot 1) oNo (oSo (mP (mC (.int 1))))))))) (mCons (mQ (mSl dSl (mSlot 1) (oSo (mP (mC (.int 1)))) oNo)) (mCons (mQ (m1 dRev (mSlot 1))) (mCons (mQ (m2 dAdd (mSlot 1) (mP (mTup (mCons (mC (.int 0)) mNil))))) (mCons (mQ (m2 dAdd (mP (mQ (mSl dSl (mSlot 1) oNo (oSo (mP (mC (.int 1))))))) (mSlot 1))) (mCons (mQ (mSl dSl (mSlot 1) oNo (oSo (mP (mQ (m1 dNeg (mP (mC (.int 1))))))))) (mCons (mC .non) (mCons (mQ (mSl dSl (mSlot 1) oNo (oSo (mP (mC (.int 1)))))) mNil))))))))))) (mSlot 3))) bNil)
  (bSeq (bIf (mAnd (mTru (mP (mQ (mIsi "int" (mSlot 1))))) (mNot (mTru (mP (mQ (mIsi "bool" (mSlot 1))))))) (bRet (m2 dIx (mP (mQ (mLst (mCons (mQ (m2 dAdd (mSlot 1) (mP (mC (.int 1))))) (mCons (mQ (m2 dSub (mSlot 1) (mP (mC (.int 1))))) (mCons (mQ (m1 dNeg (mSlot 1))) (mCons (mQ (m2 dEq (mSlot 1) (mP (mC (.int 1))))) (mCons (mC .non) (mCons (mQ (mCall cStrI (mCons (mSlot 1) mNil))) (mCons (mTup (mCons (mVar 1) mNil)) (mCons (mQ (m2 dAdd (mSlot 1) (mP (mC (.int 1001))))) mNil))))))))))) (mSlot 3))) bNil)
  (bSeq (bIf (mTru (mP (mQ (mIsi "str" (mSlot 1))))) (bRet (m2 dIx (mP (mQ (mLst (mCons (mQ (m2 dAdd (mSlot 1) (mP (mC (.str (Str.ofString "a")))))) (mCons (mQ (mSl dSl (mSlot 1) (oSo (mP (mC (.int 1)))) oNo)) (mCons (mC (.str (Str.ofString "any"))) (mCons (mQ (mMt "str" tUpper (mSlot 1) mNil)) (mCons (mC (.int 0)) (mCons (mC (.str (Str.ofString ""))) (mCons (mQ (m2 dAdd (mSlot 1) (mP (mC (.str (Str.ofString "z0z0z0z0")))))) (mCons (mTup (mCons (mVar 1) mNil)) mNil))))))))))) (mSlot 3))) bNil)
  (bRet (m2 dIx (mP (mQ (mLst (mCons (mC (.int 0)) (mCons (mC (.int 1)) (mCons (mC .non) (mCons (mC (.bl true)) (mCons (mC (.bl false)) (mCons (mC (.str (Str.ofString "a"))) (mCons (mTup mNil) (mCons (mQ (m1 dNeg (mP (mC (.int 1))))) mNil))))))))))) (mSlot 3))))))))
noncomputable def frBent : Nat → FN
  | 0 => fun _ _ => none
  | k + 1 => run 4 (mBent (frBent k))
theorem frBent_succ (k : Nat) : frBent (k + 1) = run 4 (mBent (frBent k)) := rfl
theorem ok_T {n k : Nat} {cs : List Nat} (h1 : cs.length ≤ 100 * (n + 1)) (h2 : ∀ c ∈ cs, c < 128) : Ok n (k + 1) (T cs) := .str cs h1 h2
theorem bent_ok : ∀ (k j n : Nat) (v : D) (bx : Bx), BG bx → Ok n k v → n ≤ 20 → k ≤ j → ∃ w bx', frBent j [.bx, .v v] bx = some (.v w, bx') ∧ BG bx' ∧ Ok (n + 1) (k + 1) w
  | 0, _, _, _, _, _, o, _, _ => by cases o
  | k + 1, 0, _, _, _, _, _, _, h => by omega
  | k + 1, j + 1, n, v, bx, hb, o, hn, hj => by
    have K := kits
    rw [frBent_succ]
    obtain ⟨p, bx1, d1, g1, p0, p1⟩ := draw_ok hb (m := 8) (by omega) (by omega)
    cases o with
    | non =>
      obtain ⟨x, hx, e⟩ := pick_ok (xs := [.int 0, .int 1, .non, .bl true, .bl false, T [97], .tup [], .int (-1)]) p0 (by simpa using p1)
      refine ⟨x, bx1, ?_, g1, ?_⟩
      · simp [run, mBent, K, d1, -dIx_lst, e]
      · simp only [List.mem_cons, List.not_mem_nil, or_false] at hx
        rcases hx with rfl | rfl | rfl | rfl | rfl | rfl | rfl | rfl
        all_goals first | exact .non | exact .bl _ | exact ok_int (by decide) | exact ok_T (by simp <;> omega) (by simp) | exact .tup [] (by simp) (by simp)
    | bl b =>
      obtain ⟨x, hx, e⟩ := pick_ok (xs := [.int 0, .int 1, .non, .bl true, .bl false, T [97], .tup [], .int (-1)]) p0 (by simpa using p1)
      refine ⟨x, bx1, ?_, g1, ?_⟩
      · simp [run, mBent, K, d1, -dIx_lst, e]
      · simp only [List.mem_cons, List.not_mem_nil, or_false] at hx
        rcases hx with rfl | rfl | rfl | rfl | rfl | rfl | rfl | rfl
        all_goals first | exact .non | exact .bl _ | exact ok_int (by decide) | exact ok_T (by simp <;> omega) (by simp) | exact .tup [] (by simp) (by simp)
    | int i hi =>
      obtain ⟨s1, s2⟩ := ok_str_num (n := n + 1) (k := k + 1) (i := i) (Nat.lt_of_le_of_lt (m := 2100000) (by omega) (by decide))
      obtain ⟨st, hst⟩ : ∃ st, st = Str.ofString (toString i) := ⟨_, rfl⟩
      rw [← hst] at s1 s2
      obtain ⟨x, hx, e⟩ := pick_ok (xs := [.int (i + 1), .int (i - 1), .int (-i), .bl (decide (i = 1)), .non, .str st, .tup [.int i], .int (i + 1001)]) p0 (by simpa using p1)
      refine ⟨x, bx1, ?_, g1, ?_⟩
      · simp [run, mBent, K, d1, -dIx_lst, e, s1]
      · simp only [List.mem_cons, List.not_mem_nil, or_false] at hx
        rcases hx with rfl | rfl | rfl | rfl | rfl | rfl | rfl | rfl
        · exact .int _ (by omega)
        · exact .int _ (by omega)
        · exact .int _ (by omega)
        · exact .bl _
        · exact .non
        · exact s2
        · exact .tup _ (by simp <;> omega) (by simpa using (Ok.int (n := n + 1) (k := k) i (by omega)))
        · exact .int _ (by omega)
    | str cs h1 h2 =>
      obtain ⟨x, hx, e⟩ := pick_ok (xs := [T (cs ++ [97]), T (cutD cs (some 1) none), T [97, 110, 121], T (cs.map up1), .int 0, T [], T (cs ++ [122, 48, 122, 48, 122, 48, 122, 48]), .tup [T cs]]) p0 (by simpa using p1)
      have a1 : dAdd (T cs) (T [97]) = some (.v (T (cs ++ [97]))) := dAdd_T (by simp; omega)
      have a2 : dAdd (T cs) (T [122, 48, 122, 48, 122, 48, 122, 48]) = some (.v (T (cs ++ [122, 48, 122, 48, 122, 48, 122, 48]))) := dAdd_T (by simp; omega)
      have a3 := tUpper_T h2 (by omega)
      refine ⟨x, bx1, ?_, g1, ?_⟩
      · simp [run, mBent, K, d1, -dIx_lst, e, a1, a2, a3, dSl_T]
      · simp only [List.mem_cons, List.not_mem_nil, or_false] at hx
        rcases hx with rfl | rfl | rfl | rfl | rfl | rfl | rfl | rfl
        · exact ok_T (by simp; omega) (fun c hc => by rcases List.mem_append.mp hc with h | h; exact h2 c h; simp at h; omega)
        · exact ok_T (by have := cutD_len cs (some 1) none; omega) (fun c hc => h2 c (cutD_mem hc))
        · exact ok_T (by simp <;> omega) (by simp)
        · exact ok_T (by simp; omega) (fun c hc => by obtain ⟨d, hd, rfl⟩ := List.mem_map.mp hc; exact up1_lt (h2 d hd))
        · exact ok_int (by decide)
        · exact ok_T (by simp <;> omega) (by simp)
        · exact ok_T (by simp; omega) (fun c hc => by rcases List.mem_append.mp hc with h | h; exact h2 c h; simp at h; omega)
        · exact .tup _ (by simp; omega) (by simpa using ok_T (n := n + 1) (k := k) (by omega) h2)
    | tup xs hl hx =>
      have up : ∀ x ∈ xs, Ok (n + 1) (k + 1) x := fun x h => (hx x h).mono (by omega) (by omega)
      -- the plain ways
      have plain : ∀ (p : Int) (bx1 : Bx), 0 ≤ p → p < 8 → BG bx1 → ∃ w, dIx (.lst [.tup (xs ++ cutD xs none (some 1)), .tup (cutD xs (some 1) none), .tup xs.reverse, .tup (xs ++ [.int 0]), .tup (cutD xs none (some 1) ++ xs), .tup (cutD xs none (some (-1))), .non, .tup (cutD xs none (some 1))]) (.int p) = some (.v w) ∧ Ok (n + 1) (k + 1 + 1) w := by
        intro p bx1 p0 p1 g1
        obtain ⟨x, hx2, e⟩ := pick_ok (xs := [.tup (xs ++ cutD xs none (some 1)), .tup (cutD xs (some 1) none), .tup xs.reverse, .tup (xs ++ [.int 0]), .tup (cutD xs none (some 1) ++ xs), .tup (cutD xs none (some (-1))), .non, .tup (cutD xs none (some 1))]) p0 (by simpa using p1)
        refine ⟨x, e, ?_⟩
        have c1 : (cutD xs none (some 1)).length ≤ 1 := by
          unfold cutD
          rw [List.length_take]
          have : HT.sIx xs.length xs.length (some 1) ≤ 1 := by
            have := HT.sIx_nat xs.length xs.length 1
            have e : ((1 : Nat) : Int) = 1 := rfl
            rw [e] at this
            omega
          omega
        have cut : ∀ lo hi, ∀ x ∈ cutD xs lo hi, Ok (n + 1) (k + 1) x := fun lo hi x h => up x (cutD_mem h)
        simp only [List.mem_cons, List.not_mem_nil, or_false] at hx2
        rcases hx2 with rfl | rfl | rfl | rfl | rfl | rfl | rfl | rfl
        · exact .tup _ (by simp; omega) (fun x h => by rcases List.mem_append.mp h with h | h; exact up x h; exact cut _ _ x h)
        · exact .tup _ (by have := cutD_len xs (some 1) none; omega) (cut _ _)
        · exact .tup _ (by simp; omega) (fun x h => up x (List.mem_reverse.mp h))
        · exact .tup _ (by simp; omega) (fun x h => by rcases List.mem_append.mp h with h | h; exact up x h; simp at h; subst h; exact ok_int (by decide))
        · exact .tup _ (by simp; omega) (fun x h => by rcases List.mem_append.mp h with h | h; exact cut _ _ x h; exact up x h)
        · exact .tup _ (by have := cutD_len xs none (some (-1)); omega) (cut _ _)
        · exact .non
        · exact .tup _ (by have := cutD_len xs none (some 1); omega) (cut _ _)
      have a1 : dAdd (.tup xs) (.tup (cutD xs none (some 1))) = some (.v (.tup (xs ++ cutD xs none (some 1)))) := dAdd_tup (by have := cutD_len xs none (some 1); omega)
      have a2 : dAdd (.tup (cutD xs none (some 1))) (.tup xs) = some (.v (.tup (cutD xs none (some 1) ++ xs))) := dAdd_tup (by have := cutD_len xs none (some 1); omega)
      have a3 : dAdd (.tup xs) (.tup [.int 0]) = some (.v (.tup (xs ++ [.int 0]))) := dAdd_tup (by simp; omega)
      by_cases hnil : ¬ 0 < xs.length
      · obtain ⟨w, e, ow⟩ := plain p bx1 p0 p1 g1
        refine ⟨w, bx1, ?_, g1, ow⟩
        simp [run, mBent, K, d1, -dIx_lst, e, a1, a2, a3, hnil]
      · have hpos : 0 < xs.length := by omega
        obtain ⟨q, bx2, d2, g2, q0, q1⟩ := draw_ok hb (m := 5) (by omega) (by omega)
        by_cases hq : 0 < q
        · obtain ⟨r, bx3, d3, g3, r0, r1⟩ := draw_ok g2 (m := (xs.length : Int)) (by omega) (by omega)
          obtain ⟨i, rfl⟩ := Int.eq_ofNat_of_zero_le r0
          have hi : i < xs.length := by omega
          obtain ⟨w, bx4, d4, g4, ow⟩ := bent_ok k j n xs[i] bx3 g3 (hx _ (List.getElem_mem hi)) hn (by omega)
          have ei : dIx (.tup xs) (.int (i : Int)) = some (.v xs[i]) := by rw [dIx_tup, atI_nat hi]; rfl
          have l1 := cutD_len xs none (some (i : Int))
          have l2 := cutD_len xs (some ((i : Int) + 1)) none
          have b1 : dAdd (.tup (cutD xs none (some (i : Int)))) (.tup [w]) = some (.v (.tup (cutD xs none (some (i : Int)) ++ [w]))) := dAdd_tup (by simp; omega)
          have b2 : dAdd (.tup (cutD xs none (some (i : Int)) ++ [w])) (.tup (cutD xs (some ((i : Int) + 1)) none)) = some (.v (.tup (cutD xs none (some (i : Int)) ++ [w] ++ cutD xs (some ((i : Int) + 1)) none))) := dAdd_tup (by simp; omega)
          simp only [List.append_assoc] at b2
          refine ⟨.tup (cutD xs none (some (i : Int)) ++ [w] ++ cutD xs (some ((i : Int) + 1)) none), bx4, ?_, g4, ?_⟩
          · simp [run, mBent, K, d2, d3, d4, -dIx_tup, ei, hpos, hq, b1, b2]
          · refine .tup _ ?_ fun x h => ?_
            · have h1 : (cutD xs none (some (i : Int))).length ≤ i := by
                unfold cutD
                rw [List.length_take, HT.sIx_nat]
                omega
              have h2 : (cutD xs (some ((i : Int) + 1)) none).length ≤ xs.length - (i + 1) := by
                unfold cutD
                rw [List.length_take, List.length_drop]
                have e : ((i : Int) + 1) = ((i + 1 : Nat) : Int) := by omega
                rw [e, HT.sIx_nat]
                omega
              simp only [List.length_append, List.length_cons, List.length_nil]
              omega
            · rcases List.mem_append.mp h with h | h
              · rcases List.mem_append.mp h with h | h
                · exact up x (cutD_mem h)
                · simp at h; subst h; exact ow
              · exact up x (cutD_mem h)
        · obtain ⟨p, bx3, d3, g3, p0, p1⟩ := draw_ok g2 (m := 8) (by omega) (by omega)
          obtain ⟨w, e, ow⟩ := plain p bx3 p0 p1 g3
          refine ⟨w, bx3, ?_, g3, ow⟩
          simp [run, mBent, K, d2, d3, -dIx_lst, e, a1, a2, a3, hpos, hq]
end PV

namespace PV
open PySem L2 PyProof.Rows
/-! ### comprehensions that draw -/
theorem mLc_draw {α : Type} {P : D → Prop} {g : α → D} {fi : EF (List D × Option Nat)} {tg : D → EF Unit} {fe : EF D} {vs : List Nat} {E : En} {sl : List Sl} {bx0 : Bx} (xs : List α)
    (h1 : fi E = some ((xs.map g, none), ⟨sl, bx0⟩)) (hl : xs.length ≤ sizeLine) (hb : BG bx0) (hbk : ∀ bx', back vs ⟨sl, bx0⟩ (wE vs ⟨sl, bx'⟩) = ⟨sl, bx'⟩)
    (step : ∀ x ∈ xs, ∀ bx, BG bx → ∃ E2 y E4 bx', tg (g x) (wE vs ⟨sl, bx⟩) = some ((), E2) ∧ fe E2 = some (y, E4) ∧ wE vs E4 = wE vs ⟨sl, bx'⟩ ∧ BG bx' ∧ P y) :
    ∃ ds bx', mLc fi tg mYes fe vs E = some (.f (.lst ds), ⟨sl, bx'⟩) ∧ ds.length = xs.length ∧ (∀ d ∈ ds, P d) ∧ BG bx' := by
  have go : ∀ (xs : List α) (acc : List D) (E0 : En) (bx : Bx), BG bx → wE vs E0 = wE vs ⟨sl, bx⟩ →
      (∀ x ∈ xs, ∀ bx, BG bx → ∃ E2 y E4 bx', tg (g x) (wE vs ⟨sl, bx⟩) = some ((), E2) ∧ fe E2 = some (y, E4) ∧ wE vs E4 = wE vs ⟨sl, bx'⟩ ∧ BG bx' ∧ P y) →
      ∃ ds bx', cLoop tg mYes fe vs (xs.map g) acc E0 = some (acc ++ ds, wE vs ⟨sl, bx'⟩) ∧ ds.length = xs.length ∧ (∀ d ∈ ds, P d) ∧ BG bx' := by
    intro xs
    induction xs with
    | nil => intro acc E0 bx hbx h0 _; exact ⟨[], bx, by unfold cLoop; simp [h0], rfl, by simp, hbx⟩
    | cons x xs ih =>
      intro acc E0 bx hbx h0 h
      obtain ⟨E2, y, E4, bx', q1, q2, q3, q4, q5⟩ := h x List.mem_cons_self bx hbx
      obtain ⟨ds, bx2, r1, r2, r3, r4⟩ := ih (acc ++ [y]) E4 bx' q4 q3 fun z hz => h z (List.mem_cons_of_mem _ hz)
      refine ⟨y :: ds, bx2, ?_, by simp [r2], fun d hd => ?_, r4⟩
      · rw [List.map_cons]
        unfold cLoop
        rw [h0, q1]
        show (fe E2).bind _ = _
        rw [q2]
        show cLoop tg mYes fe vs (xs.map g) (acc ++ [y]) E4 = _
        rw [r1, List.append_assoc]
        rfl
      · rcases List.mem_cons.mp hd with rfl | hd
        · exact q5
        · exact r3 d hd
  obtain ⟨ds, bx', r1, r2, r3, r4⟩ := go xs [] ⟨sl, bx0⟩ bx0 hb rfl step
  refine ⟨ds, bx', ?_, r2, r3, r4⟩
  rw [e_mLc, h1]
  show (if (xs.map g).length ≤ sizeLine then _ else _) = _
  rw [if_pos (by rw [List.length_map]; exact hl)]
  show ((cLoop tg mYes fe vs (xs.map g) [] ⟨sl, bx0⟩).bind _) = _
  rw [r1]
  show some (R.f (D.lst ([] ++ ds)), unlk none (back vs ⟨sl, bx0⟩ (wE vs ⟨sl, bx'⟩))) = _
  rw [hbk, List.nil_append]
  rfl
/-- values of one form -/
theorem all_form {α : Type} {f : α → D} {P : α → Prop} : ∀ {ds : List D}, (∀ d ∈ ds, ∃ a, d = f a ∧ P a) → ∃ as : List α, ds = as.map f ∧ ∀ a ∈ as, P a
  | [], _ => ⟨[], rfl, by simp⟩
  | d :: ds, h => by
    obtain ⟨a, rfl, ha⟩ := h d List.mem_cons_self
    obtain ⟨as, rfl, q⟩ := all_form (ds := ds) fun d hd => h d (List.mem_cons_of_mem _ hd)
    exact ⟨a :: as, rfl, fun b hb => by rcases List.mem_cons.mp hb with rfl | hb; exact ha; exact q b hb⟩
@[simp] theorem cTup_lst (ds : List D) : cTup [.lst ds] = some (.v (.tup ds)) := rfl
end PV

namespace PV
open PySem L2 PyProof.Rows
/-! ### all sets of indexes, the shorter ones first -/
def subs : Nat → List (List Nat)
  | 0 => [[]]
  | k + 1 => subs k ++ (subs k).map (· ++ [k])
theorem subs_len (n : Nat) : (subs n).length = 2 ^ n := by
  induction n with
  | zero => rfl
  | succ n ih => simp [subs, ih, Nat.pow_succ]; omega
def pr (r : List Nat) : D := .tup [.int r.length, rT r]
def leR (a b : List Nat) : Bool := !dLt (pr b) (pr a)
def sets (n : Nat) : List (List Nat) := (subs n).mergeSort leR
theorem sets_perm (n : Nat) : (sets n).Perm (subs n) := List.mergeSort_perm _ _
theorem sets_len (n : Nat) : (sets n).length = 2 ^ n := by rw [(sets_perm n).length_eq, subs_len]
theorem mem_sets {n : Nat} {r : List Nat} : r ∈ sets n ↔ r ∈ subs n := (sets_perm n).mem_iff
/-- ascending, below n -/
def Asc (n : Nat) (r : List Nat) : Prop := r.Pairwise (· < ·) ∧ ∀ k ∈ r, k < n
theorem mem_subs : ∀ {n : Nat} {r : List Nat}, r ∈ subs n ↔ Asc n r
  | 0, r => by
    simp only [subs, List.mem_singleton]
    constructor
    · rintro rfl; exact ⟨.nil, by simp⟩
    · intro h
      cases r with
      | nil => rfl
      | cons k r => exact absurd (h.2 k List.mem_cons_self) (by omega)
  | n + 1, r => by
    simp only [subs, List.mem_append, List.mem_map]
    constructor
    · rintro (h | ⟨s, h, rfl⟩)
      · have := mem_subs.mp h
        exact ⟨this.1, fun k hk => Nat.lt_succ_of_lt (this.2 k hk)⟩
      · have := mem_subs.mp h
        refine ⟨List.pairwise_append.mpr ⟨this.1, by simp, fun a ha b hb => by simp at hb; subst hb; exact this.2 a ha⟩, fun k hk => ?_⟩
        rcases List.mem_append.mp hk with hk | hk
        · exact Nat.lt_succ_of_lt (this.2 k hk)
        · simp at hk; omega
    · intro h
      by_cases hn : n ∈ r
      · right
        have hne : r ≠ [] := by rintro rfl; simp at hn
        have e := List.dropLast_concat_getLast hne
        have hlast : r.getLast hne = n := by
          have h1 := h.2 _ (List.getLast_mem hne)
          rw [← e] at hn
          rcases List.mem_append.mp hn with q | q
          · have p := h.1
            rw [← e] at p
            have := (List.pairwise_append.mp p).2.2 n q (r.getLast hne) (by simp)
            omega
          · simp at q; exact q.symm
        refine ⟨r.dropLast, mem_subs.mpr ⟨?_, fun k hk => ?_⟩, by rw [← hlast]; exact e⟩
        · have p := h.1
          rw [← e] at p
          exact (List.pairwise_append.mp p).1
        · have p := h.1
          rw [← e] at p
          have := (List.pairwise_append.mp p).2.2 k hk (r.getLast hne) (by simp)
          rw [hlast] at this
          exact this
      · left
        refine mem_subs.mpr ⟨h.1, fun k hk => ?_⟩
        have := h.2 k hk
        have : k ≠ n := by rintro rfl; exact hn hk
        omega
theorem alike_ints : ∀ a b : List Nat, PySem.W.alikeAll (pys (a.map fun (k : Nat) => D.int (k : Int))) (pys (b.map fun (k : Nat) => D.int (k : Int))) = true
  | [], b => by simp [pys, PySem.W.alikeAll]
  | x :: xs, [] => by simp [pys, PySem.W.alikeAll]
  | x :: xs, y :: ys => by simp [pys, PySem.W.alikeAll, D.py, PySem.W.alike, alike_ints xs ys]
theorem depth_pr (r : List Nat) : (pr r).py.depth ≤ 3 := depth_tup fun x hx => by
  simp only [List.mem_cons, List.not_mem_nil, or_false] at hx
  rcases hx with rfl | rfl
  · have := depth_int (r.length : Int); omega
  · exact depth_rT r
theorem sortOk_pr (rs : List (List Nat)) : sortOk (rs.map pr) = true := by
  unfold sortOk
  simp only [Bool.and_eq_true, Bool.or_eq_true, List.all_map, List.all_eq_true, Function.comp, decide_eq_true_eq]
  refine ⟨⟨fun a _ => ⟨by simp [pr], fun b _ => ?_⟩, .inl fun a _ => rfl⟩, fun a _ => by have := depth_pr a; omega⟩
  have := alike_ints a b
  simp [pr, rT, D.py, pys, PySem.W.alike, PySem.W.alikeAll, this]
theorem cSorted_pr (rs : List (List Nat)) : cSorted [.lst (rs.map pr)] = some (.f (.lst ((rs.mergeSort leR).map pr))) := by
  have h : dSort (rs.map pr) = (rs.mergeSort leR).map pr := by
    unfold dSort
    exact (List.map_mergeSort (f := pr) (r := leR) (s := fun a b => !dLt b a) fun a _ b _ => rfl).symm
  have : cSort [.lst (rs.map pr)] = some (.f (.lst ((rs.mergeSort leR).map pr))) := by
    show ((if sortOk (rs.map pr) = true then some (rs.map pr) else none).bind fun xs => some (R.f (D.lst (dSort xs)))) = _
    rw [if_pos (sortOk_pr rs)]
    show some (R.f (D.lst (dSort (rs.map pr)))) = _
    rw [h]
  unfold cSorted
  simp [this]
theorem dAdd_rT {a b : List Nat} (h : a.length + b.length ≤ 16777216) : dAdd (rT a) (rT b) = some (.v (rT (a ++ b))) := by
  unfold rT
  rw [dAdd_tup (by simpa using h), List.map_append]
theorem rT_nil : D.tup [] = rT [] := rfl
theorem rT_one (k : Nat) : D.tup [.int (k : Int)] = rT [k] := rfl
theorem filt {α : Type} (xs : List α) : xs.filter (fun _ => true) = xs := List.filter_eq_self.mpr fun _ _ => rfl
theorem run_rt {n : Nat} {f : EF Fl} {as : List Sl} {bx bx' : Bx} {r : R} {E : En} (h : f ⟨as ++ List.replicate (n - as.length) .no, bx⟩ = some (.rt r, E)) (hb : E.bx = bx') : PV.run n f as bx = some (r, bx') := by
  unfold PV.run
  rw [h, ← hb]
theorem bRet_ok {f : EF R} {E E1 : En} {r : R} (h : f E = some (r, E1)) : bRet f E = some (.rt r, E1) := by
  rw [e_bRet, h]; rfl
theorem bSeq_rt {f g : EF Fl} {E E1 : En} {r : R} (h1 : f E = some (.rt r, E1)) : bSeq f g E = some (.rt r, E1) := by
  rw [e_bSeq, h1]; rfl
/-! ### who gives too few letters -/
def lackL (t w : List Nat) : List (Nat × Nat) := ((srt w).filter fun c => decide (t.count c < w.count c)).map fun c => (c, w.count c - t.count c)
def lkD (x : Nat × Nat) : D := .tup [T [x.1], .int (x.2 : Nat)]
def lacks (t w : List Nat) : List D := (lackL t w).map lkD
theorem lacks_nil {t w : List Nat} : lacks t w = [] ↔ ∀ c, w.count c ≤ t.count c := by
  unfold lacks lackL
  rw [List.map_eq_nil_iff, List.map_eq_nil_iff, List.filter_eq_nil_iff]
  constructor
  · intro h c
    by_cases hc : c ∈ w
    · have := h c (mem_srt.mpr hc)
      simpa using this
    · rw [List.count_eq_zero.mpr hc]; omega
  · intro h c _
    have := h c
    simpa using this
theorem cleans_lacks (t w : List Nat) : cleans (lacks t w) = true := cleans_map _ (fun x => by simp [lkD]) _
theorem depth_lacks (t w : List Nat) : ∀ x ∈ lacks t w, x.py.depth ≤ 2 := fun x hx => by
  obtain ⟨y, _, rfl⟩ := List.mem_map.mp hx
  refine depth_tup fun z hz => ?_
  simp only [List.mem_cons, List.not_mem_nil, or_false] at hz
  rcases hz with rfl | rfl
  · exact depth_T _
  · exact depth_int _
theorem sm_nilT (xs : List D) : sm (.tup xs) (.tup []) = xs.isEmpty := by cases xs <;> simp [sm, smL]
theorem sm_nilL (xs : List D) : sm (.lst xs) (.lst []) = xs.isEmpty := by cases xs <;> simp [sm, smL]
theorem lackT_eq (t w : List Nat) : dEq (.tup (lacks t w)) (.tup []) = some (.v (.bl (lacks t w).isEmpty)) := by
  rw [dEq_clean (by simpa using cleans_lacks t w) (by simp) (.inl (by have := depth_tup (depth_lacks t w); omega)), sm_nilT]
theorem lackL_eq (t w : List Nat) : dEq (.lst (lacks t w)) (.lst []) = some (.v (.bl (lacks t w).isEmpty)) := by
  rw [dEq_clean (by simpa using cleans_lacks t w) (by simp) (.inl (by have := depth_lst (depth_lacks t w); omega)), sm_nilL]
theorem lackL_ne (t w : List Nat) : dNe (.lst (lacks t w)) (.lst []) = some (.v (.bl (!(lacks t w).isEmpty))) := by
  rw [dNe_clean (by simpa using cleans_lacks t w) (by simp) (.inl (by have := depth_lst (depth_lacks t w); omega)), sm_nilL]
end PV

namespace PV
open PySem L2 PyProof.Rows
/-- a loop, by what is behind it -/
theorem bLoop_pre {α : Type} {g : α → D} {I : List α → En → Prop} {tg : D → EF Unit} {fb : EF Fl} (xs : List α) (E : En) (h0 : I [] E)
    (step : ∀ p x q E, xs = p ++ x :: q → I p E → ∃ E2, bStep tg fb (g x) E = some E2 ∧ I (p ++ [x]) E2) : ∃ E', bLoop tg fb (xs.map g) E = some (.nx, E') ∧ I xs E' := by
  have go : ∀ (q p : List α) (E : En), xs = p ++ q → I p E → ∃ E', bLoop tg fb (q.map g) E = some (.nx, E') ∧ I xs E' := by
    intro q
    induction q with
    | nil => intro p E e h; rw [List.append_nil] at e; subst e; exact ⟨E, rfl, h⟩
    | cons x q ih =>
      intro p E e h
      obtain ⟨E2, h2, h3⟩ := step p x q E e h
      obtain ⟨E', h4, h5⟩ := ih (p ++ [x]) E2 (by simp [e]) h3
      refine ⟨E', ?_, h5⟩
      rw [List.map_cons]
      unfold bLoop
      unfold bStep at h2
      obtain ⟨e, h6, h2⟩ := bsome h2
      obtain ⟨⟨fl, E3⟩, h7, h2⟩ := bsome h2
      rw [h6]
      show (fb e.2).bind _ = _
      rw [h7]
      cases fl with
      | nx => cases h2; exact h4
      | ct => cases h2; exact h4
      | bk => cases h2
      | rt r => cases h2
  exact go xs [] E rfl h0
/-- a loop that ends at the first good one -/
theorem bLoop_first {α : Type} {g : α → D} {b : α → Bool} {r : α → R} {I : En → Prop} {tg : D → EF Unit} {fb : EF Fl} : ∀ (xs : List α) (E : En), I E →
    (∀ x ∈ xs, ∀ E, I E → ∃ e E1 E2, tg (g x) E = some (e, E1) ∧ I E2 ∧ fb E1 = some (if b x = true then .rt (r x) else .nx, E2)) →
    ∃ E', bLoop tg fb (xs.map g) E = some (match xs.find? b with | some x => .rt (r x) | none => .nx, E') ∧ I E'
  | [], E, h, _ => ⟨E, rfl, h⟩
  | x :: xs, E, h, step => by
    obtain ⟨e, E1, E2, h1, h2, h3⟩ := step x List.mem_cons_self E h
    rw [List.map_cons]
    unfold bLoop
    rw [h1]
    cases hb : b x with
    | true =>
      rw [hb] at h3
      refine ⟨E2, ?_, h2⟩
      show (fb E1).bind _ = _
      rw [h3, List.find?_cons_of_pos hb]
      rfl
    | false =>
      rw [hb] at h3
      obtain ⟨E', h4, h5⟩ := bLoop_first xs E2 h2 fun y hy => step y (List.mem_cons_of_mem _ hy)
      refine ⟨E', ?_, h5⟩
      show (fb E1).bind _ = _
      rw [h3, List.find?_cons_of_neg (by simp [hb])]
      exact h4
/-- a comprehension whose expressions leave the frame as it is -/
theorem mLc_pure {α : Type} (Ex : α → En) (b : α → Bool) (y : α → D) {g : α → D} {fi : EF (List D × Option Nat)} {tg : D → EF Unit} {ft : EF Bool} {fe : EF D} {vs : List Nat} {E E1 E' : En} {lk : Option Nat} (xs : List α)
    (h1 : fi E = some ((xs.map g, lk), E1)) (hl : xs.length ≤ 16777216) (hb : unlk lk (back vs E1 (wE vs E1)) = E')
    (step : ∀ x ∈ xs, tg (g x) (wE vs E1) = some ((), Ex x) ∧ ft (Ex x) = some (b x, Ex x) ∧ (b x = true → fe (Ex x) = some (y x, Ex x)) ∧ wE vs (Ex x) = wE vs E1) :
    mLc fi tg ft fe vs E = some (.f (.lst ((xs.filter b).map y)), E') :=
  mLc_map xs h1 (by rw [sizeLine_eq]; exact hl) hb fun x hx => by
    obtain ⟨s1, s2, s3, s4⟩ := step x hx
    exact ⟨Ex x, Ex x, s1, s2, fun h => ⟨Ex x, s3 h, s4⟩, fun _ => s4⟩
theorem mLc_pure' {α : Type} (Ex : α → En) (y : α → D) {g : α → D} {fi : EF (List D × Option Nat)} {tg : D → EF Unit} {fe : EF D} {vs : List Nat} {E E1 E' : En} {lk : Option Nat} (xs : List α)
    (h1 : fi E = some ((xs.map g, lk), E1)) (hl : xs.length ≤ 16777216) (hb : unlk lk (back vs E1 (wE vs E1)) = E')
    (step : ∀ x ∈ xs, tg (g x) (wE vs E1) = some ((), Ex x) ∧ fe (Ex x) = some (y x, Ex x) ∧ wE vs (Ex x) = wE vs E1) :
    mLc fi tg mYes fe vs E = some (.f (.lst (xs.map y)), E') := by
  have := mLc_pure Ex (fun _ => true) y (fi := fi) (ft := mYes) xs h1 hl hb fun x hx => by
    obtain ⟨s1, s2, s3⟩ := step x hx
    exact ⟨s1, rfl, fun _ => s2, s3⟩
  rwa [filt] at this
@[simp] theorem dBools_fun {α : Type} (f : α → Bool) (xs : List α) : dBools (xs.map fun x => D.bl (f x)) = some (xs.map f) := by
  have := dBools_map (xs.map f)
  rw [List.map_map] at this
  exact this
@[simp] theorem dBools_comp {α : Type} (f : α → Bool) (xs : List α) : dBools (xs.map (D.bl ∘ f)) = some (xs.map f) := dBools_fun f xs
@[simp] theorem cAll_fun {α : Type} (f : α → Bool) (xs : List α) : cAll [.lst (xs.map fun x => D.bl (f x))] = some (.v (.bl (xs.all f))) := by
  rw [cAll_cons, dBools_fun]
  simp [List.all_map, Function.comp_def]
@[simp] theorem cAny_fun {α : Type} (f : α → Bool) (xs : List α) : cAny [.lst (xs.map fun x => D.bl (f x))] = some (.v (.bl (xs.any f))) := by
  show ((dBools _).bind fun bs => some (R.v (.bl (bs.any id)))) = _
  rw [dBools_fun]
  simp [List.any_map, Function.comp_def]
theorem mCall1_ok {g : List D → Option R} {f : EF R} {E E1 : En} {r z : R} (h : f E = some (r, E1)) (hg : g [r.dat] = some z) : mCall1 g f E = some (z, E1) := by
  rw [e_mCall1, h]
  show (g [r.dat]).bind _ = _
  rw [hg]; rfl
theorem rgOk_nat {n : Nat} (hn : n ≤ 1000) : rgOk 0 (n : Int) = true := by
  have h1 : (n : Int) < 2 ^ 62 := Int.lt_of_le_of_lt (b := 1000) (by omega) (by decide)
  have h2 : ((n : Int) - 0).toNat ≤ 2 ^ 24 := Nat.le_trans (m := 1000) (by omega) (by decide)
  have h3 : -(2 ^ 62 : Int) ≤ (n : Int) := Int.le_trans (b := 0) (by decide) (by omega)
  unfold rgOk
  rw [decide_eq_true h1, decide_eq_true h2, decide_eq_true h3]
  decide
theorem mTupRg_len {n : Nat} (hn : n ≤ 1000) {f : EF P} {E E1 : En} {p : P} (h : f E = some (p, E1)) (hp : p.get E1 = some (.int (n : Int))) : mTupRg (mRg1 f) E = some (.v (rT (List.range n)), E1) := by
  have e1 : mRg1 f E = some ((0, (n : Int)), E1) := by
    rw [e_mRg1, h, Option.bind_some]
    simp only [hp, Option.bind_some, asInt]
  have e2 : rangeD 0 ((n : Int) - 0).toNat = (List.range n).map fun (k : Nat) => D.int (k : Int) := by
    have e : ((n : Int) - 0).toNat = n := by omega
    rw [e, rangeD0]
  rw [e_mTupRg, e1, Option.bind_some]
  rw [if_pos (rgOk_nat hn), e2]
  rfl
theorem mTup_ok {f : EF (List D)} {E E1 : En} {xs : List D} (h : f E = some (xs, E1)) (hl : xs.length ≤ 1000) : mTup f E = some (.tup xs, E1) := by
  rw [e_mTup, h, Option.bind_some, if_pos hl]
theorem mLst_ok {f : EF (List D)} {E E1 : En} {xs : List D} (h : f E = some (xs, E1)) (hl : xs.length ≤ 1000) : mLst f E = some (.f (.lst xs), E1) := by
  rw [e_mLst, h, Option.bind_some, if_pos hl]
theorem mCons_ok {α : Type} {f : EF α} {g : EF (List α)} {E E1 E2 : En} {x : α} {xs : List α} (h1 : f E = some (x, E1)) (h2 : g E1 = some (xs, E2)) : mCons f g E = some (x :: xs, E2) := by
  rw [e_mCons, h1, Option.bind_some, h2, Option.bind_some]
theorem mFn_ok {g : FN} {fa : EF (List P)} {E E1 : En} {ps : List P} {as : List Sl} {r : R} {bx' : Bx} (h1 : fa E = some (ps, E1)) (h2 : argAll E1 ps = some as) (h3 : g as E1.bx = some (r, bx')) : mFn g fa E = some (r, { E1 with bx := bx' }) := by
  rw [e_mFn, h1, Option.bind_some, h2, Option.bind_some, h3, Option.bind_some]
theorem mQ_ok {f : EF R} {E E1 : En} {r : R} {d : D} (h : f E = some (r, E1)) (hd : r.d = some d) : mQ f E = some (d, E1) := by
  rw [e_mQ, h, Option.bind_some, hd, Option.bind_some]
theorem mP_ok {f : EF D} {E E1 : En} {d : D} (h : f E = some (d, E1)) : mP f E = some (.v d, E1) := by
  rw [e_mP, h, Option.bind_some]
theorem m2_ok {g : D → D → Option R} {fa fb : EF P} {E E1 E2 : En} {p q : P} {x y : D} {r : R} (h1 : fa E = some (p, E1)) (h2 : fb E1 = some (q, E2)) (hp : p.get E2 = some x) (hq : q.get E2 = some y) (hg : g x y = some r) : m2 g fa fb E = some (r, E2) := by
  rw [e_m2, h1, Option.bind_some, h2, Option.bind_some, hp, Option.bind_some, hq, Option.bind_some, hg, Option.bind_some]
theorem asc_of {s : String} (h : (Str.ofString s).cps.toList.all (fun c => decide (c < 128)) = true) : ∀ c ∈ (Str.ofString s).cps.toList, c < 128 := fun c hc => of_decide_eq_true (List.all_eq_true.mp h c hc)
theorem ok_of {n k : Nat} (s : String) (h : (Str.ofString s).cps.toList.all (fun c => decide (c < 128)) = true) (hl : s.length ≤ 100) : Ok n (k + 1) (.str (Str.ofString s)) := by
  rw [sof]
  refine .str _ ?_ (asc_of h)
  have : (Str.ofString s).cps.toList.length = (Str.ofString s).length := by simp [Str.length]
  rw [this, PySem.ofString_length]
  omega
end PV

namespace PV
open PySem L2 PyProof.Rows
/-! ### the order of sets of indexes -/
def zs (a : List Nat) : List Int := a.map fun (k : Nat) => (k : Int)
theorem pys_ints (a : List Nat) : pys (a.map fun (k : Nat) => D.int (k : Int)) = (zs a).map PyData.int := by
  rw [pys_eq, List.map_map]
  unfold zs
  rw [List.map_map]
  rfl
theorem ints_inj {a b : List Nat} (h : zs a = zs b) : a = b := map_inj' (fun x y e => by omega) h
theorem dLt_rT (a b : List Nat) : dLt (rT a) (rT b) = decide (zs a < zs b) := by
  have h := PySem.W.dataLt_ints (zs a) (zs b)
  unfold dLt rT D.py
  rw [pys_ints, pys_ints]
  exact h
theorem leR_eq (a b : List Nat) : leR a b = decide (a.length < b.length ∨ a.length = b.length ∧ ¬ zs b < zs a) := by
  unfold leR
  have e : dLt (pr b) (pr a) = PySem.W.dataLt (.tuple [.int b.length, (rT b).py]) (.tuple [.int a.length, (rT a).py]) := rfl
  have al : PySem.W.alike (rT b).py (rT a).py = true := by
    have := alike_ints b a
    unfold rT
    simpa [D.py, PySem.W.alike] using this
  rw [e, PySem.W.dataLt_pair (by simp [PySem.W.alike]) al]
  have h1 : PyData.eqv (.int (b.length : Int)) (.int (a.length : Int)) = decide (a.length = b.length) := by
    rw [Bool.eq_iff_iff, decide_eq_true_eq]
    simp [PyData.eqv]
    omega
  have h2 : PyData.eqv (rT b).py (rT a).py = decide (b = a) := by
    rw [eqv_clean _ _ (clean_rT b) (clean_rT a), sm_rT]
  have h3 : PySem.W.dataLt (rT b).py (rT a).py = decide (zs b < zs a) := dLt_rT b a
  have h4 : PySem.W.dataLt (.int (b.length : Int)) (.int (a.length : Int)) = decide (b.length < a.length) := by
    rw [PySem.W.dataLt_int, Bool.eq_iff_iff, decide_eq_true_eq, decide_eq_true_eq]
    omega
  rw [h1, h2, h3, h4]
  by_cases l : a.length = b.length
  · rw [if_pos (decide_eq_true l)]
    by_cases q : b = a
    · subst q
      have : ¬ zs b < zs b := List.lt_irrefl _
      simp [this]
    · rw [if_neg (by simp [q]), Bool.eq_iff_iff, Bool.not_eq_true', decide_eq_false_iff_not, decide_eq_true_eq]
      exact ⟨fun h => .inr ⟨l, h⟩, fun h => h.elim (fun z => by omega) fun z => z.2⟩
  · rw [if_neg (by simp [l]), Bool.eq_iff_iff]
    simp [l]
    omega
theorem leR_trans (a b c : List Nat) (h1 : leR a b = true) (h2 : leR b c = true) : leR a c = true := by
  rw [leR_eq, decide_eq_true_eq] at *
  rcases h1 with h1 | ⟨h1, q1⟩
  · rcases h2 with h2 | ⟨h2, q2⟩
    · left; omega
    · left; omega
  · rcases h2 with h2 | ⟨h2, q2⟩
    · left; omega
    · right
      exact ⟨by omega, List.not_lt.mpr (List.le_trans (List.not_lt.mp q1) (List.not_lt.mp q2))⟩
theorem leR_total (a b : List Nat) : (leR a b || leR b a) = true := by
  rw [leR_eq, leR_eq, Bool.or_eq_true, decide_eq_true_eq, decide_eq_true_eq]
  rcases Nat.lt_trichotomy a.length b.length with h | h | h
  · exact .inl (.inl h)
  · by_cases q : zs b < zs a
    · exact .inr (.inr ⟨h.symm, List.not_lt.mpr (List.le_of_lt q)⟩)
    · exact .inl (.inr ⟨h, q⟩)
  · exact .inr (.inl h)
theorem leR_anti (a b : List Nat) (h1 : leR a b = true) (h2 : leR b a = true) : a = b := by
  rw [leR_eq, decide_eq_true_eq] at *
  rcases h1 with h1 | ⟨h1, q1⟩
  · rcases h2 with h2 | ⟨h2, q2⟩ <;> omega
  · rcases h2 with h2 | ⟨h2, q2⟩
    · omega
    · exact ints_inj (List.le_antisymm (List.not_lt.mp q1) (List.not_lt.mp q2))
theorem sorted_is {l m : List (List Nat)} (p : l.Perm m) (h : m.Pairwise fun a b => leR a b = true) : l.mergeSort leR = m :=
  List.Perm.eq_of_pairwise (le := fun a b => leR a b = true) (fun a b _ _ h1 h2 => leR_anti a b h1 h2) (List.pairwise_mergeSort leR_trans leR_total l) h ((List.mergeSort_perm l leR).trans p)
theorem sets3 : sets 3 = [[], [0], [1], [2], [0, 1], [0, 2], [1, 2], [0, 1, 2]] := by
  refine sorted_is (by decide +kernel) ?_
  have : ([[], [0], [1], [2], [0, 1], [0, 2], [1, 2], [0, 1, 2]] : List (List Nat)).Pairwise fun a b => (a.length < b.length ∨ a.length = b.length ∧ ¬ zs b < zs a) := by decide +kernel
  exact this.imp fun h => by rw [leR_eq]; exact decide_eq_true h
end PV

namespace K32
open PySem L2 PyProof.Rows PV
def top (i : Nat) : Stmt := PySem.Challenge.pw_whowaswhere_k32_whole_notes_cut_freely.main.body.getD i (.Pass ⟨0, 0, 0, 0⟩)
abbrev s__law_box : Stmt := top 23
abbrev s__law_load : Stmt := top 24
abbrev s__law_draw : Stmt := top 25
abbrev s__law_sets : Stmt := top 30
abbrev s_letter_counts : Stmt := top 10
abbrev s__law_lacks : Stmt := top 29
abbrev s__law_text : Stmt := top 28
abbrev s__law_same : Stmt := top 26
abbrev s_sheet_sets : Stmt := top 13
abbrev s_too_few : Stmt := top 11
abbrev s_lacking_letters : Stmt := top 12
abbrev s_fewest_sheets : Stmt := top 15
abbrev s_is_note : Stmt := top 8
abbrev s_are_sheets : Stmt := top 9
abbrev s__law_bent : Stmt := top 27
abbrev s_without_sheet : Stmt := top 16
abbrev s_sure_sheets : Stmt := top 17
abbrev s_is_smallest : Stmt := top 18
abbrev s_spare_sheets : Stmt := top 19
abbrev s_wanted_most : Stmt := top 20
abbrev s_most_notes : Stmt := top 21
abbrev s_is_ascending : Stmt := top 2
abbrev s_is_number : Stmt := top 1
abbrev s_do_give : Stmt := top 14
abbrev s__law_is_note : Stmt := top 31
abbrev s_law : Stmt := top 32
def g_MOST_LETTERS : D := (.int 12)
def g_MOST_NOTES : D := (.int 6)
def g_MOST_SHEETS : D := (.int 8)
def g_SMALL_LETTERS : D := (.str (Str.ofString "abcdefghijklmnopqrstuvwxyz"))
structure Txt (K : PySem.W.Frag) (mg : Str → Option Value) : Prop where
  b_all : mg "all" = none
  b_any : mg "any" = none
  b_bool : mg "bool" = none
  b_int : mg "int" = none
  b_isinstance : mg "isinstance" = none
  b_len : mg "len" = none
  b_list : mg "list" = none
  b_max : mg "max" = none
  b_range : mg "range" = none
  b_set : mg "set" = none
  b_sorted : mg "sorted" = none
  b_str : mg "str" = none
  b_tuple : mg "tuple" = none
  g_MOST_LETTERS : GlD K mg "MOST_LETTERS" g_MOST_LETTERS
  g_MOST_NOTES : GlD K mg "MOST_NOTES" g_MOST_NOTES
  g_MOST_SHEETS : GlD K mg "MOST_SHEETS" g_MOST_SHEETS
  g_SMALL_LETTERS : GlD K mg "SMALL_LETTERS" g_SMALL_LETTERS
theorem sc__law_box : FnScope ["script"] ["script"] (defScope s__law_box) := ⟨rfl, rfl, rfl, by decide +kernel, rfl, by decide +kernel, by decide +kernel⟩
theorem sc__law_load : FnScope ["box", "cells", "cell", "size", "first", "second"] ["box"] (defScope s__law_load) := ⟨rfl, rfl, rfl, by decide +kernel, rfl, by decide +kernel, by decide +kernel⟩
theorem sc__law_draw : FnScope ["box", "many", "digit"] ["box", "many"] (defScope s__law_draw) := ⟨rfl, rfl, rfl, by decide +kernel, rfl, by decide +kernel, by decide +kernel⟩
abbrev N__law_sets : List Str := ["many", "rows", "k", "row", "pair"]
theorem sc__law_sets : FnScope N__law_sets ["many"] (defScope s__law_sets) := ⟨rfl, rfl, rfl, by decide +kernel, rfl, by decide +kernel, by decide +kernel⟩
abbrev N_letter_counts : List Str := ["texts", "found", "text", "letter"]
theorem sc_letter_counts : FnScope N_letter_counts ["texts"] (defScope s_letter_counts) := ⟨rfl, rfl, rfl, by decide +kernel, rfl, by decide +kernel, by decide +kernel⟩
abbrev N__law_lacks : List Str := ["texts", "notes", "there", "found", "wanted_all", "letter", "less_here"]
theorem sc__law_lacks : FnScope N__law_lacks ["texts", "notes"] (defScope s__law_lacks) := ⟨rfl, rfl, rfl, by decide +kernel, rfl, by decide +kernel, by decide +kernel⟩
abbrev N__law_text : List Str := ["box", "most", "found", "step"]
theorem sc__law_text : FnScope N__law_text ["box", "most"] (defScope s__law_text) := ⟨rfl, rfl, rfl, by decide +kernel, rfl, by decide +kernel, by decide +kernel⟩
abbrev N__law_same : List Str := ["a", "b", "k"]
theorem sc__law_same : FnScope N__law_same ["a", "b"] (defScope s__law_same) := ⟨rfl, rfl, rfl, by decide +kernel, rfl, by decide +kernel, by decide +kernel⟩
abbrev N_sheet_sets : List Str := ["sheets", "rows", "k", "row", "_"]
theorem sc_sheet_sets : FnScope N_sheet_sets ["sheets"] (defScope s_sheet_sets) := ⟨rfl, rfl, rfl, by decide +kernel, rfl, by decide +kernel, by decide +kernel⟩
abbrev N_too_few : List Str := ["there", "wanted", "rows", "letter", "row"]
theorem sc_too_few : FnScope N_too_few ["there", "wanted"] (defScope s_too_few) := ⟨rfl, rfl, rfl, by decide +kernel, rfl, by decide +kernel, by decide +kernel⟩
abbrev N_lacking_letters : List Str := ["sheets", "some", "note", "k"]
theorem sc_lacking_letters : FnScope N_lacking_letters ["sheets", "some", "note"] (defScope s_lacking_letters) := ⟨rfl, rfl, rfl, by decide +kernel, rfl, by decide +kernel, by decide +kernel⟩
abbrev N_fewest_sheets : List Str := ["sheets", "note", "row"]
theorem sc_fewest_sheets : FnScope N_fewest_sheets ["sheets", "note"] (defScope s_fewest_sheets) := ⟨rfl, rfl, rfl, by decide +kernel, rfl, by decide +kernel, by decide +kernel⟩
abbrev N_is_note : List Str := ["value", "letter"]
theorem sc_is_note : FnScope N_is_note ["value"] (defScope s_is_note) := ⟨rfl, rfl, rfl, by decide +kernel, rfl, by decide +kernel, by decide +kernel⟩
abbrev N_are_sheets : List Str := ["value", "text"]
theorem sc_are_sheets : FnScope N_are_sheets ["value"] (defScope s_are_sheets) := ⟨rfl, rfl, rfl, by decide +kernel, rfl, by decide +kernel, by decide +kernel⟩
abbrev N__law_bent : List Str := ["box", "value", "at", "pick"]
theorem sc__law_bent : FnScope N__law_bent ["box", "value"] (defScope s__law_bent) := ⟨rfl, rfl, rfl, by decide +kernel, rfl, by decide +kernel, by decide +kernel⟩
abbrev N_without_sheet : List Str := ["some", "k", "j"]
theorem sc_without_sheet : FnScope N_without_sheet ["some", "k"] (defScope s_without_sheet) := ⟨rfl, rfl, rfl, by decide +kernel, rfl, by decide +kernel, by decide +kernel⟩
abbrev N_sure_sheets : List Str := ["sheets", "note", "every", "k"]
theorem sc_sure_sheets : FnScope N_sure_sheets ["sheets", "note"] (defScope s_sure_sheets) := ⟨rfl, rfl, rfl, by decide +kernel, rfl, by decide +kernel, by decide +kernel⟩
abbrev N_is_smallest : List Str := ["sheets", "some", "note", "k"]
theorem sc_is_smallest : FnScope N_is_smallest ["sheets", "some", "note"] (defScope s_is_smallest) := ⟨rfl, rfl, rfl, by decide +kernel, rfl, by decide +kernel, by decide +kernel⟩
abbrev N_spare_sheets : List Str := ["sheets", "note", "rows", "row", "k"]
theorem sc_spare_sheets : FnScope N_spare_sheets ["sheets", "note"] (defScope s_spare_sheets) := ⟨rfl, rfl, rfl, by decide +kernel, rfl, by decide +kernel, by decide +kernel⟩
abbrev N_wanted_most : List Str := ["sheets", "notes", "rows"]
theorem sc_wanted_most : FnScope N_wanted_most ["sheets", "notes"] (defScope s_wanted_most) := ⟨rfl, rfl, rfl, by decide +kernel, rfl, by decide +kernel, by decide +kernel⟩
abbrev N_most_notes : List Str := ["sheets", "notes", "rows", "most", "row", "k"]
theorem sc_most_notes : FnScope N_most_notes ["sheets", "notes"] (defScope s_most_notes) := ⟨rfl, rfl, rfl, by decide +kernel, rfl, by decide +kernel, by decide +kernel⟩
abbrev N_is_ascending : List Str := ["rows", "k"]
theorem sc_is_ascending : FnScope N_is_ascending ["rows"] (defScope s_is_ascending) := ⟨rfl, rfl, rfl, by decide +kernel, rfl, by decide +kernel, by decide +kernel⟩
abbrev N_is_number : List Str := ["value", "least", "most"]
theorem sc_is_number : FnScope N_is_number ["value", "least", "most"] (defScope s_is_number) := ⟨rfl, rfl, rfl, by decide +kernel, rfl, by decide +kernel, by decide +kernel⟩
abbrev N_do_give : List Str := ["sheets", "note", "value", "k"]
theorem sc_do_give : FnScope N_do_give ["sheets", "note", "value"] (defScope s_do_give) := ⟨rfl, rfl, rfl, by decide +kernel, rfl, by decide +kernel, by decide +kernel⟩
abbrev N__law_is_note : List Str := ["value", "letter"]
theorem sc__law_is_note : FnScope N__law_is_note ["value"] (defScope s__law_is_note) := ⟨rfl, rfl, rfl, by decide +kernel, rfl, by decide +kernel, by decide +kernel⟩
abbrev N_law : List Str := ["script", "box", "turn", "sheets", "note", "n", "sets", "some", "good", "smallest", "sure", "spare", "due", "counts", "notes", "fits_here", "most", "lacks", "value", "k", "row", "other", "letter", "text"]
theorem sc_law : FnScope N_law ["script"] (defScope s_law) := ⟨rfl, rfl, rfl, by decide +kernel, rfl, by decide +kernel, by decide +kernel⟩
noncomputable def m__law_sets : EF Fl :=
  (bSeq (bSet 1 (mLst (mCons (mTup mNil) mNil)))
  (bSeq (bFor (iRg1 (mCons (mSlot 0) mNil)) (gSet 2) (bSet 1 (m2 dAdd (mSlot 1) (mP (mQ (mLc (iVal (mSlot 1)) (gSet 3) mYes (mQ (m2 dAdd (mSlot 3) (mP (mTup (mCons (mVar 2) mNil))))) [3]))))))
  (bRet (mLc (iVal (mP (mQ (mCall1 cSorted (mLc (iVal (mSlot 1)) (gSet 3) mYes (mTup (mCons (mQ (mCall cLenA (mCons (mSlot 3) mNil))) (mCons (mVar 3) mNil))) [3]))))) (gSet 4) mYes (mQ (m2 dIx (mSlot 4) (mP (mC (.int 1))))) [4]))))
noncomputable def fn__law_sets : FN := run 5 m__law_sets
noncomputable def m_letter_counts : EF Fl :=
  (bSeq (bSet 1 mEmp)
  (bSeq (bFor (iVal (mSlot 0)) (gSet 2) (bFor (iVal (mSlot 2)) (gSet 3) (bSub suD 1 (mQ (m2 dAdd (mP (mQ (mGet2 (mSlot 1) (mSlot 3) (mC (.int 0))))) (mP (mC (.int 1))))) (mSlot 3))))
  (bRet (mOwn 1))))
noncomputable def fn_letter_counts : FN := run 4 m_letter_counts
noncomputable def m__law_lacks : EF Fl :=
  (bSeq (bPar2 2 3 (mCons (mMt "str" tJoinA (mP (mC (.str (Str.ofString "")))) (mCons (mSlot 0) mNil)) (mCons (mLst mNil) mNil)))
  (bSeq (bSet 4 (mMt "str" tJoinA (mP (mC (.str (Str.ofString "")))) (mCons (mSlot 1) mNil)))
  (bSeq (bFor (iVal (mP (mQ (mSortSet (mSlot 4))))) (gSet 5) (bSeq (bSet 6 (m2 dSub (mP (mQ (mMt "str" tCount (mSlot 4) (mCons (mSlot 5) mNil)))) (mP (mQ (mMt "str" tCount (mSlot 2) (mCons (mSlot 5) mNil))))))
  (bSet 3 (m2 dAdd (mSlot 3) (mP (mQ (mIf (mBl (m2 dGtI (mSlot 6) (mP (mC (.int 0))))) (mLst (mCons (mTup (mCons (mVar 5) (mCons (mVar 6) mNil))) mNil)) (mLst mNil))))))))
  (bRet (mOwn 3)))))
noncomputable def fn__law_lacks : FN := run 7 m__law_lacks
noncomputable def m__law_text : EF Fl :=
  (bSeq (bSet 2 (mE (mC (.str (Str.ofString "")))))
  (bSeq (bFor (iRg1 (mCons (mP (mQ (m2 dAdd (mP (mC (.int 1))) (mP (mQ (mFn fnDraw (mCons (mSlot 0) (mCons (mSlot 1) mNil)))))))) mNil)) (gSet 3) (bSet 2 (m2 dAdd (mSlot 2) (mP (mQ (m2 dIx (mP (mC (.str (Str.ofString "aabcde")))) (mP (mQ (mFn fnDraw (mCons (mSlot 0) (mCons (mP (mC (.int 6))) mNil)))))))))))
  (bRet (mOwn 2))))
noncomputable def fn__law_text : FN := run 4 m__law_text
noncomputable abbrev m__law_same (g : FN) : EF Fl := mSame g
noncomputable abbrev fr__law_same : Nat → FN := frSame
abbrev d__law_same : Nat := 20
noncomputable abbrev fn__law_same : FN := fr__law_same d__law_same
noncomputable def m_sheet_sets : EF Fl :=
  (bSeq (bSet 1 (mLst (mCons (mTup mNil) mNil)))
  (bSeq (bFor (iRg1 (mCons (mP (mQ (mCall cLenA (mCons (mSlot 0) mNil)))) mNil)) (gSet 2) (bSet 1 (m2 dAdd (mSlot 1) (mP (mQ (mLc (iVal (mSlot 1)) (gSet 3) mYes (mQ (m2 dAdd (mSlot 3) (mP (mTup (mCons (mVar 2) mNil))))) [3]))))))
  (bRet (mLc (iVal (mP (mQ (mCall1 cSorted (mLc (iVal (mSlot 1)) (gSet 3) mYes (mTup (mCons (mQ (mCall cLenA (mCons (mSlot 3) mNil))) (mCons (mVar 3) mNil))) [3]))))) (gTupD 2 (gsCons (gSet 4) (gsCons (gSet 3) gsNil))) mYes (mVar 3) [4, 3]))))
noncomputable def fn_sheet_sets : FN := run 5 m_sheet_sets
noncomputable def m_too_few : EF Fl :=
  (bSeq (bSet 2 (mLc (iVal (mP (mQ (mCall cSorted (mCons (mSlot 1) mNil))))) (gSet 3) mYes (mTup (mCons (mVar 3) (mCons (mQ (m2 dSub (mP (mQ (m2 dIx (mSlot 1) (mSlot 3)))) (mP (mQ (mGet2 (mSlot 0) (mSlot 3) (mC (.int 0))))))) mNil))) [3]))
  (bRet (mCall1 cTup (mLc (iVal (mSlot 2)) (gSet 4) (mBl (m2 dGtI (mP (mQ (m2 dIx (mSlot 4) (mP (mC (.int 1)))))) (mP (mC (.int 0))))) (mVar 4) [4]))))
noncomputable def fn_too_few : FN := run 5 m_too_few
noncomputable def m_lacking_letters : EF Fl :=
  (bRet (mFn fn_too_few (mCons (mP (mQz (mFn fn_letter_counts (mCons (mP (mQ (mLc (iVal (mSlot 1)) (gSet 3) mYes (mQ (m2 dIx (mSlot 0) (mSlot 3))) [3]))) mNil)))) (mCons (mP (mQz (mFn fn_letter_counts (mCons (mP (mQ (mLst (mCons (mVar 2) mNil)))) mNil)))) mNil))))
noncomputable def fn_lacking_letters : FN := run 4 m_lacking_letters
noncomputable def m_fewest_sheets : EF Fl :=
  (bSeq (bFor (iVal (mP (mQ (mFn fn_sheet_sets (mCons (mSlot 0) mNil))))) (gSet 2) (bIf (mBl (m2 dEq (mP (mQ (mFn fn_lacking_letters (mCons (mSlot 0) (mCons (mSlot 2) (mCons (mSlot 1) mNil)))))) (mP (mTup mNil)))) (bRet (mOwn 2)) bNil))
  (bRet (mE (mC .non))))
noncomputable def fn_fewest_sheets : FN := run 3 m_fewest_sheets
noncomputable def m_is_note : EF Fl :=
  (bSeq (bIf (mOr (mNot (mTru (mP (mQ (mIsi "str" (mSlot 0)))))) (mNot (mBl (mChain dLeI dLeI (mP (mC (.int 1))) (mP (mQ (mCall cLenA (mCons (mSlot 0) mNil)))) (mP (mC g_MOST_LETTERS)))))) (bRet (mE (mC (.bl false)))) bNil)
  (bRet (mCall1 cAll (mLc (iVal (mSlot 0)) (gSet 1) mYes (mQ (m2 (dIn false) (mSlot 1) (mP (mC g_SMALL_LETTERS)))) [1]))))
noncomputable def fn_is_note : FN := run 2 m_is_note
noncomputable def m_are_sheets : EF Fl :=
  (bRet (mE (mAndV (mQ (mIsi "tuple" (mSlot 0))) (mAndV (mQ (m2 dLeI (mP (mQ (mCall cLenA (mCons (mSlot 0) mNil)))) (mP (mC g_MOST_SHEETS)))) (mQ (mCall1 cAll (mLc (iVal (mSlot 0)) (gSet 1) mYes (mQ (mFn fn_is_note (mCons (mSlot 1) mNil))) [1])))))))
noncomputable def fn_are_sheets : FN := run 2 m_are_sheets
noncomputable def m__law_bent (g : FN) : EF Fl :=
  (bSeq (bIf (mAnd (mTru (mP (mQ (mIsi "tuple" (mSlot 1))))) (mAnd (mBl (m2 dGtI (mP (mQ (mCall cLenA (mCons (mSlot 1) mNil)))) (mP (mC (.int 0))))) (mBl (m2 dGtI (mP (mQ (mFn fnDraw (mCons (mSlot 0) (mCons (mP (mC (.int 5))) mNil))))) (mP (mC (.int 0))))))) (bSeq (bSet 2 (mFn fnDraw (mCons (mSlot 0) (mCons (mP (mQ (mCall cLenA (mCons (mSlot 1) mNil)))) mNil))))
  (bRet (m2 dAdd (mP (mQ (m2 dAdd (mP (mQ (mSl dSl (mSlot 1) oNo (oSo (mSlot 2))))) (mP (mTup (mCons (mQ (mFn g (mCons (mSlot 0) (mCons (mP (mQ (m2 dIx (mSlot 1) (mSlot 2)))) mNil)))) mNil)))))) (mP (mQ (mSl dSl (mSlot 1) (oSo (mP (mQ (m2 dAdd (mSlot 2) (mP (mC (.int 1))))))) oNo)))))) bNil)
  (bSeq (bSet 3 (mFn fnDraw (mCons (mSlot 0) (mCons (mP (mC (.int 8))) mNil))))
  (bSeq (bIf (mTru (mP (mQ (mIsi "tuple" (mSlot 1))))) (bRet (m2 dIx (mP (mQ (mLst (mCons (mQ (m2 dAdd (mSlot 1) (mP (mQ (mSl dSl (mSlot 1) oNo (oSo (mP (mC (.int 1))))))))) (mCons (mQ (mSl dSl (mSlot 1) (oSo (mP (mC (.int 1)))) oNo)) (mCons (mQ (m1 dRev (mSlot 1))) (mCons (mQ (m2 dAdd (mSlot 1) (mP (mTup (mCons (mC (.int 0)) mNil))))) (mCons (mQ (m2 dAdd (mP (mQ (mSl dSl (mSlot 1) oNo (oSo (mP (mC (.int 1))))))) (mSlot 1))) (mCons (mQ (mSl dSl (mSlot 1) oNo (oSo (mP (mQ (m1 dNeg (mP (mC (.int 1))))))))) (mCons (mC .non) (mCons (mQ (mSl dSl (mSlot 1) oNo (oSo (mP (mC (.int 1)))))) mNil))))))))))) (mSlot 3))) bNil)
  (bSeq (bIf (mAnd (mTru (mP (mQ (mIsi "int" (mSlot 1))))) (mNot (mTru (mP (mQ (mIsi "bool" (mSlot 1))))))) (bRet (m2 dIx (mP (mQ (mLst (mCons (mQ (m2 dAdd (mSlot 1) (mP (mC (.int 1))))) (mCons (mQ (m2 dSub (mSlot 1) (mP (mC (.int 1))))) (mCons (mQ (m1 dNeg (mSlot 1))) (mCons (mQ (m2 dEq (mSlot 1) (mP (mC (.int 1))))) (mCons (mC .non) (mCons (mQ (mCall cStrI (mCons (mSlot 1) mNil))) (mCons (mTup (mCons (mVar 1) mNil)) (mCons (mQ (m2 dAdd (mSlot 1) (mP (mC (.int 1001))))) mNil))))))))))) (mSlot 3))) bNil)
  (bSeq (bIf (mTru (mP (mQ (mIsi "str" (mSlot 1))))) (bRet (m2 dIx (mP (mQ (mLst (mCons (mQ (m2 dAdd (mSlot 1) (mP (mC (.str (Str.ofString "a")))))) (mCons (mQ (mSl dSl (mSlot 1) (oSo (mP (mC (.int 1)))) oNo)) (mCons (mC (.str (Str.ofString "any"))) (mCons (mQ (mMt "str" tUpper (mSlot 1) mNil)) (mCons (mC (.int 0)) (mCons (mC (.str (Str.ofString ""))) (mCons (mQ (m2 dAdd (mSlot 1) (mP (mC (.str (Str.ofString "z0z0z0z0")))))) (mCons (mTup (mCons (mVar 1) mNil)) mNil))))))))))) (mSlot 3))) bNil)
  (bRet (m2 dIx (mP (mQ (mLst (mCons (mC (.int 0)) (mCons (mC (.int 1)) (mCons (mC .non) (mCons (mC (.bl true)) (mCons (mC (.bl false)) (mCons (mC (.str (Str.ofString "a"))) (mCons (mTup mNil) (mCons (mQ (m1 dNeg (mP (mC (.int 1))))) mNil))))))))))) (mSlot 3))))))))
noncomputable def fr__law_bent : Nat → FN
  | 0 => fun _ _ => none
  | k + 1 => run 4 (m__law_bent (fr__law_bent k))
def d__law_bent : Nat := 20
noncomputable def fn__law_bent : FN := fr__law_bent d__law_bent
noncomputable def m_without_sheet : EF Fl :=
  (bRet (mCall1 cTup (mLc (iVal (mSlot 0)) (gSet 2) (mBl (m2 dNe (mSlot 2) (mSlot 1))) (mVar 2) [2])))
noncomputable def fn_without_sheet : FN := run 3 m_without_sheet
noncomputable def m_sure_sheets : EF Fl :=
  (bSeq (bSet 2 (mTupRg (mRg1 (mP (mQ (mCall cLenA (mCons (mSlot 0) mNil)))))))
  (bSeq (bIf (mTru (mP (mQ (mFn fn_lacking_letters (mCons (mSlot 0) (mCons (mSlot 2) (mCons (mSlot 1) mNil))))))) (bRet (mE (mC .non))) bNil)
  (bRet (mCall1 cTup (mLc (iVal (mSlot 2)) (gSet 3) (mTru (mP (mQ (mFn fn_lacking_letters (mCons (mSlot 0) (mCons (mP (mQ (mFn fn_without_sheet (mCons (mSlot 2) (mCons (mSlot 3) mNil))))) (mCons (mSlot 1) mNil))))))) (mVar 3) [3])))))
noncomputable def fn_sure_sheets : FN := run 4 m_sure_sheets
noncomputable def m_is_smallest : EF Fl :=
  (bSeq (bIf (mTru (mP (mQ (mFn fn_lacking_letters (mCons (mSlot 0) (mCons (mSlot 1) (mCons (mSlot 2) mNil))))))) (bRet (mE (mC (.bl false)))) bNil)
  (bRet (mCall1 cAllV (mLc (iVal (mSlot 1)) (gSet 3) mYes (mQ (mFn fn_lacking_letters (mCons (mSlot 0) (mCons (mP (mQ (mFn fn_without_sheet (mCons (mSlot 1) (mCons (mSlot 3) mNil))))) (mCons (mSlot 2) mNil))))) [3]))))
noncomputable def fn_is_smallest : FN := run 4 m_is_smallest
noncomputable def m_spare_sheets : EF Fl :=
  (bSeq (bIf (mBl (m2 (dIs false) (mP (mQ (mFn fn_fewest_sheets (mCons (mSlot 0) (mCons (mSlot 1) mNil))))) (mP (mC .non)))) (bRet (mE (mC .non))) bNil)
  (bSeq (bSet 2 (mLc (iVal (mP (mQ (mFn fn_sheet_sets (mCons (mSlot 0) mNil))))) (gSet 3) (mTru (mP (mQ (mFn fn_is_smallest (mCons (mSlot 0) (mCons (mSlot 3) (mCons (mSlot 1) mNil))))))) (mVar 3) [3]))
  (bRet (mCall1 cTup (mLc (iRg1 (mCons (mP (mQ (mCall cLenA (mCons (mSlot 0) mNil)))) mNil)) (gSet 4) (mNot (mTru (mP (mQ (mCall1 cAny (mLc (iVal (mSlot 2)) (gSet 3) mYes (mQ (m2 (dIn false) (mSlot 4) (mSlot 3))) [3])))))) (mVar 4) [4])))))
noncomputable def fn_spare_sheets : FN := run 5 m_spare_sheets
noncomputable def m_wanted_most : EF Fl :=
  (bSeq (bSet 2 (mFn fn_too_few (mCons (mP (mQz (mFn fn_letter_counts (mCons (mSlot 0) mNil)))) (mCons (mP (mQz (mFn fn_letter_counts (mCons (mSlot 1) mNil)))) mNil))))
  (bRet (mIf (mTru (mSlot 2)) (m2 dIx (mP (mQ (m2 dIx (mSlot 2) (mP (mC (.int 0)))))) (mP (mC (.int 0)))) (mE (mC .non)))))
noncomputable def fn_wanted_most : FN := run 3 m_wanted_most
noncomputable def m_most_notes : EF Fl :=
  (bSeq (bSet 2 (mLc (iVal (mP (mQ (mFn fn_sheet_sets (mCons (mSlot 1) mNil))))) (gSet 4) (mBl (m2 (dIs false) (mP (mQ (mFn fn_wanted_most (mCons (mSlot 0) (mCons (mP (mQ (mLc (iVal (mSlot 4)) (gSet 5) mYes (mQ (m2 dIx (mSlot 1) (mSlot 5))) [5]))) mNil))))) (mP (mC .non)))) (mVar 4) [4]))
  (bSeq (bSet 3 (mCall1 cMaxA (mLc (iVal (mSlot 2)) (gSet 4) mYes (mQ (mCall cLenA (mCons (mSlot 4) mNil))) [4])))
  (bRet (m2 dIx (mP (mQ (mLc (iVal (mSlot 2)) (gSet 4) (mBl (m2 dEq (mP (mQ (mCall cLenA (mCons (mSlot 4) mNil)))) (mSlot 3))) (mVar 4) [4]))) (mP (mC (.int 0)))))))
noncomputable def fn_most_notes : FN := run 6 m_most_notes
noncomputable def m_is_ascending : EF Fl :=
  (bRet (mCall1 cAll (mLc (iRg1 (mCons (mP (mQ (m2 dSub (mP (mQ (mCall cLenA (mCons (mSlot 0) mNil)))) (mP (mC (.int 1)))))) mNil)) (gSet 1) mYes (mQ (m2 dLtI (mP (mQ (m2 dIx (mSlot 0) (mSlot 1)))) (mP (mQ (m2 dIx (mSlot 0) (mP (mQ (m2 dAdd (mSlot 1) (mP (mC (.int 1))))))))))) [1])))
noncomputable def fn_is_ascending : FN := run 2 m_is_ascending
noncomputable def m_is_number : EF Fl :=
  (bRet (mE (mAndV (mQ (mIsi "int" (mSlot 0))) (mAndV (mNotV (mQ (mIsi "bool" (mSlot 0)))) (mQ (mChain dLeI dLeI (mSlot 1) (mSlot 0) (mSlot 2)))))))
noncomputable def fn_is_number : FN := run 3 m_is_number
noncomputable def m_do_give : EF Fl :=
  (bSeq (bIf (mOr (mNot (mTru (mP (mQ (mIsi "tuple" (mSlot 2)))))) (mNot (mTru (mP (mQ (mCall1 cAll (mLc (iVal (mSlot 2)) (gSet 3) mYes (mQ (mFn fn_is_number (mCons (mSlot 3) (mCons (mP (mC (.int 0))) (mCons (mP (mQ (m2 dSub (mP (mQ (mCall cLenA (mCons (mSlot 0) mNil)))) (mP (mC (.int 1)))))) mNil))))) [3]))))))) (bRet (mE (mC (.bl false)))) bNil)
  (bRet (mE (mAndV (mQ (mFn fn_is_ascending (mCons (mSlot 2) mNil))) (mQ (m2 dEq (mP (mQ (mFn fn_lacking_letters (mCons (mSlot 0) (mCons (mSlot 2) (mCons (mSlot 1) mNil)))))) (mP (mTup mNil))))))))
noncomputable def fn_do_give : FN := run 4 m_do_give
noncomputable def m__law_is_note : EF Fl :=
  (bRet (mE (mAndV (mQ (mIsi "str" (mSlot 0))) (mAndV (mQ (mChain dLeI dLeI (mP (mC (.int 1))) (mP (mQ (mCall cLenA (mCons (mSlot 0) mNil)))) (mP (mC (.int 12))))) (mQ (mCall1 cAll (mLc (iVal (mSlot 0)) (gSet 1) mYes (mQ (m2 (dIn false) (mSlot 1) (mP (mC (.str (Str.ofString "abcdefghijklmnopqrstuvwxyz")))))) [1])))))))
noncomputable def fn__law_is_note : FN := run 2 m__law_is_note
noncomputable def m_law : EF Fl :=
  (bSeq (bIf (mBl (m2 dNe (mP (mTup (mCons (mC g_MOST_LETTERS) (mCons (mC g_MOST_NOTES) (mCons (mC g_MOST_SHEETS) mNil))))) (mP (mTup (mCons (mC (.int 12)) (mCons (mC (.int 6)) (mCons (mC (.int 8)) mNil))))))) (bRet (mE (mC (.bl false)))) bNil)
  (bSeq (bFor (iRg1 (mCons (mP (mC (.int 5))) mNil)) (gSet 2) (bSeq (bSet 3 (mCall1 cTup (mLc (iRg1 (mCons (mP (mQ (mFn fnDraw (mCons (mSlot 1) (mCons (mP (mC (.int 7))) mNil))))) mNil)) (gSet 19) mYes (mQ (mFn fn__law_text (mCons (mSlot 1) (mCons (mP (mC (.int 4))) mNil)))) [19])))
  (bSeq (bParL [4, 5] (mCons (mFn fn__law_text (mCons (mSlot 1) (mCons (mP (mC (.int 6))) mNil))) (mCons (mCall cLenA (mCons (mSlot 3) mNil)) mNil)))
  (bSeq (bIf (mOr (mBl (m2 (dIs true) (mP (mQ (mFn fn_are_sheets (mCons (mSlot 3) mNil)))) (mP (mC (.bl true))))) (mOr (mBl (m2 (dIs true) (mP (mQ (mFn fn_is_note (mCons (mSlot 4) mNil)))) (mP (mC (.bl true))))) (mNot (mTru (mP (mQ (mFn fn__law_same (mCons (mP (mQ (mFn fn_sheet_sets (mCons (mSlot 3) mNil)))) (mCons (mP (mQ (mFn fn__law_sets (mCons (mSlot 5) mNil)))) mNil))))))))) (bRet (mE (mC (.bl false)))) bNil)
  (bSeq (bSet 6 (mFn fn__law_sets (mCons (mSlot 5) mNil)))
  (bSeq (bSet 7 (m2 dIx (mSlot 6) (mP (mQ (mFn fnDraw (mCons (mSlot 1) (mCons (mP (mQ (mCall cLenA (mCons (mSlot 6) mNil)))) mNil)))))))
  (bSeq (bIf (mNot (mTru (mP (mQ (mFn fn__law_same (mCons (mP (mQ (mFn fn_lacking_letters (mCons (mSlot 3) (mCons (mSlot 7) (mCons (mSlot 4) mNil)))))) (mCons (mP (mQ (mCall1 cTup (mFn fn__law_lacks (mCons (mP (mQ (mLc (iVal (mSlot 7)) (gSet 19) mYes (mQ (m2 dIx (mSlot 3) (mSlot 19))) [19]))) (mCons (mP (mQ (mLst (mCons (mVar 4) mNil)))) mNil)))))) mNil))))))) (bRet (mE (mC (.bl false)))) bNil)
  (bSeq (bSet 8 (mLc (iVal (mSlot 6)) (gSet 20) (mBl (m2 dEq (mP (mQ (mFn fn__law_lacks (mCons (mP (mQ (mLc (iVal (mSlot 20)) (gSet 19) mYes (mQ (m2 dIx (mSlot 3) (mSlot 19))) [19]))) (mCons (mP (mQ (mLst (mCons (mVar 4) mNil)))) mNil))))) (mP (mQ (mLst mNil))))) (mVar 20) [20]))
  (bSeq (bSet 9 (mLc (iVal (mSlot 8)) (gSet 20) (mNot (mTru (mP (mQ (mCall1 cAny (mLc (iVal (mSlot 8)) (gSet 21) mYes (mAndV (mQ (m2 dNe (mSlot 21) (mSlot 20))) (mQ (mCall1 cAll (mLc (iVal (mSlot 21)) (gSet 19) mYes (mQ (m2 (dIn false) (mSlot 19) (mSlot 20))) [19])))) [21])))))) (mVar 20) [20]))
  (bSeq (bSet 10 (mCall1 cTup (mLc (iRg1 (mCons (mSlot 5) mNil)) (gSet 19) (mTru (mP (mQ (mCall1 cAll (mLc (iVal (mSlot 8)) (gSet 20) mYes (mQ (m2 (dIn false) (mSlot 19) (mSlot 20))) [20]))))) (mVar 19) [19])))
  (bSeq (bSet 11 (mCall1 cTup (mLc (iRg1 (mCons (mSlot 5) mNil)) (gSet 19) (mNot (mTru (mP (mQ (mCall1 cAny (mLc (iVal (mSlot 9)) (gSet 20) mYes (mQ (m2 (dIn false) (mSlot 19) (mSlot 20))) [20])))))) (mVar 19) [19])))
  (bSeq (bSet 12 (mIf (mBl (m2 dNe (mSlot 8) (mP (mQ (mLst mNil))))) (mE (mTup (mCons (mQ (m2 dIx (mSlot 8) (mP (mC (.int 0))))) (mCons (mVar 10) (mCons (mVar 11) mNil))))) (mE (mTup (mCons (mC .non) (mCons (mC .non) (mCons (mC .non) mNil)))))))
  (bSeq (bIf (mNot (mTru (mP (mQ (mFn fn__law_same (mCons (mP (mTup (mCons (mQ (mFn fn_fewest_sheets (mCons (mSlot 3) (mCons (mSlot 4) mNil)))) (mCons (mQ (mFn fn_sure_sheets (mCons (mSlot 3) (mCons (mSlot 4) mNil)))) (mCons (mQ (mFn fn_spare_sheets (mCons (mSlot 3) (mCons (mSlot 4) mNil)))) mNil))))) (mCons (mSlot 12) mNil))))))) (bRet (mE (mC (.bl false)))) bNil)
  (bSeq (bSet 13 (mE (mQz (mFn fn_letter_counts (mCons (mP (mQ (mLst (mCons (mVar 4) mNil)))) mNil)))))
  (bSeq (bIf (mOr (mBl (m2 dNe (mP (mQ (mCall cSorted (mCons (mSlot 13) mNil)))) (mP (mQ (mSortSet (mSlot 4)))))) (mTru (mP (mQ (mCall1 cAny (mLc (iKeysV (mVarz 13)) (gSet 22) mYes (mQ (m2 dNe (mP (mQ (m2 dIx (mSlot 13) (mSlot 22)))) (mP (mQ (mMt "str" tCount (mSlot 4) (mCons (mSlot 22) mNil)))))) [22])))))) (bRet (mE (mC (.bl false)))) bNil)
  (bSeq (bSet 14 (mCall1 cTup (mLc (iRg1 (mCons (mP (mQ (mFn fnDraw (mCons (mSlot 1) (mCons (mP (mC (.int 5))) mNil))))) mNil)) (gSet 19) mYes (mQ (mFn fn__law_text (mCons (mSlot 1) (mCons (mP (mC (.int 4))) mNil)))) [19])))
  (bSeq (bSet 15 (mLc (iVal (mP (mQ (mFn fn__law_sets (mCons (mP (mQ (mCall cLenA (mCons (mSlot 14) mNil)))) mNil))))) (gSet 20) (mBl (m2 dEq (mP (mQ (mFn fn__law_lacks (mCons (mSlot 3) (mCons (mP (mQ (mLc (iVal (mSlot 20)) (gSet 19) mYes (mQ (m2 dIx (mSlot 14) (mSlot 19))) [19]))) mNil))))) (mP (mQ (mLst mNil))))) (mVar 20) [20]))
  (bSeq (bSet 16 (mCall1 cMaxA (mLc (iVal (mSlot 15)) (gSet 20) mYes (mQ (mCall cLenA (mCons (mSlot 20) mNil))) [20])))
  (bSeq (bSet 17 (mFn fn__law_lacks (mCons (mSlot 3) (mCons (mSlot 14) mNil))))
  (bSeq (bIf (mNot (mTru (mP (mQ (mFn fn__law_same (mCons (mP (mTup (mCons (mQ (mFn fn_most_notes (mCons (mSlot 3) (mCons (mSlot 14) mNil)))) (mCons (mQ (mFn fn_wanted_most (mCons (mSlot 3) (mCons (mSlot 14) mNil)))) mNil)))) (mCons (mP (mTup (mCons (mQ (m2 dIx (mP (mQ (mLc (iVal (mSlot 15)) (gSet 20) (mBl (m2 dEq (mP (mQ (mCall cLenA (mCons (mSlot 20) mNil)))) (mSlot 16))) (mVar 20) [20]))) (mP (mC (.int 0))))) (mCons (mQ (mIf (mBl (m2 dNe (mSlot 17) (mP (mQ (mLst mNil))))) (m2 dIx (mP (mQ (m2 dIx (mSlot 17) (mP (mC (.int 0)))))) (mP (mC (.int 0)))) (mE (mC .non)))) mNil)))) mNil))))))) (bRet (mE (mC (.bl false)))) bNil)
  (bSeq (bFor (iVal (mP (mQ (m2 dAdd (mP (mQ (mLst (mCons (mVar 7) (mCons (mQ (m1 dRev (mSlot 7))) (mCons (mQ (m2 dAdd (mSlot 7) (mP (mQ (mSl dSl (mSlot 7) oNo (oSo (mP (mC (.int 1))))))))) (mCons (mQ (mTupRg (mRg1 (mSlot 5)))) (mCons (mTup (mCons (mVar 5) mNil)) (mCons (mTup (mCons (mC (.bl true)) mNil)) (mCons (mC .non) (mCons (mTup mNil) (mCons (mC (.int 0)) mNil)))))))))))) (mP (mQ (mLc (iRg1 (mCons (mP (mC (.int 3))) mNil)) (gSet 19) mYes (mQ (mFn fn__law_bent (mCons (mSlot 1) (mCons (mSlot 7) mNil)))) [19]))))))) (gSet 18) (bIf (mNot (mTru (mP (mQ (mFn fn__law_same (mCons (mP (mQ (mFn fn_do_give (mCons (mSlot 3) (mCons (mSlot 4) (mCons (mSlot 18) mNil)))))) (mCons (mP (mQ (mCall1 cAny (mLc (iVal (mSlot 8)) (gSet 20) mYes (mQ (mFn fn__law_same (mCons (mSlot 18) (mCons (mSlot 20) mNil)))) [20])))) mNil))))))) (bRet (mE (mC (.bl false)))) bNil))
  (bSeq (bFor (iVal (mP (mQ (m2 dAdd (mP (mQ (mLst (mCons (mVar 4) (mCons (mQ (m2 dMulA (mSlot 4) (mP (mC (.int 3))))) (mCons (mC (.str (Str.ofString ""))) (mCons (mC (.str (Str.ofString "A"))) (mCons (mC (.str (Str.ofString "a b"))) (mCons (mC (.str (Str.ofString "a1"))) (mCons (mC (.str (Str.ofString "abcdefghijkl"))) (mCons (mC (.str (Str.ofString "abcdefghijklm"))) (mCons (mC (.int 5)) (mCons (mC .non) (mCons (mTup (mCons (mC (.str (Str.ofString "a"))) mNil)) mNil)))))))))))))) (mP (mQ (mLc (iRg1 (mCons (mP (mC (.int 3))) mNil)) (gSet 19) mYes (mQ (mFn fn__law_bent (mCons (mSlot 1) (mCons (mSlot 4) mNil)))) [19]))))))) (gSet 18) (bIf (mNot (mTru (mP (mQ (mFn fn__law_same (mCons (mP (mQ (mFn fn_is_note (mCons (mSlot 18) mNil)))) (mCons (mP (mQ (mFn fn__law_is_note (mCons (mSlot 18) mNil)))) mNil))))))) (bRet (mE (mC (.bl false)))) bNil))
  (bFor (iVal (mP (mQ (m2 dAdd (mP (mQ (mLst (mCons (mVar 3) (mCons (mQ (m2 dAdd (mSlot 3) (mP (mTup (mCons (mC (.str (Str.ofString ""))) mNil))))) (mCons (mQ (m2 dAdd (mSlot 3) (mP (mTup (mCons (mC (.int 5)) mNil))))) (mCons (mQ (m2 dMulA (mP (mTup (mCons (mC (.str (Str.ofString "a"))) mNil))) (mP (mC (.int 8))))) (mCons (mQ (m2 dMulA (mP (mTup (mCons (mC (.str (Str.ofString "a"))) mNil))) (mP (mC (.int 9))))) (mCons (mC .non) (mCons (mTup mNil) (mCons (mC (.str (Str.ofString "ab"))) mNil))))))))))) (mP (mQ (mLc (iRg1 (mCons (mP (mC (.int 3))) mNil)) (gSet 19) mYes (mQ (mFn fn__law_bent (mCons (mSlot 1) (mCons (mSlot 3) mNil)))) [19]))))))) (gSet 18) (bIf (mNot (mTru (mP (mQ (mFn fn__law_same (mCons (mP (mQ (mFn fn_are_sheets (mCons (mSlot 18) mNil)))) (mCons (mP (mAndV (mQ (mIsi "tuple" (mSlot 18))) (mAndV (mQ (m2 dLeI (mP (mQ (mCall cLenA (mCons (mSlot 18) mNil)))) (mP (mC (.int 8))))) (mQ (mCall1 cAll (mLc (iVal (mSlot 18)) (gSet 23) mYes (mQ (mFn fn__law_is_note (mCons (mSlot 23) mNil))) [23])))))) mNil))))))) (bRet (mE (mC (.bl false)))) bNil))))))))))))))))))))))))
  (bRet (mE (mAndV (mQ (m2 dEq (mP (mQ (mFn fn_fewest_sheets (mCons (mP (mTup (mCons (mC (.str (Str.ofString "ab"))) (mCons (mC (.str (Str.ofString "cc"))) (mCons (mC (.str (Str.ofString "abc"))) mNil))))) (mCons (mP (mC (.str (Str.ofString "abc")))) mNil))))) (mP (mTup (mCons (mC (.int 2)) mNil))))) (mQ (m2 dEq (mP (mQ (mFn fn_lacking_letters (mCons (mP (mTup (mCons (mC (.str (Str.ofString "ab"))) mNil))) (mCons (mP (mTup (mCons (mC (.int 0)) mNil))) (mCons (mP (mC (.str (Str.ofString "aab")))) mNil)))))) (mP (mTup (mCons (mTup (mCons (mC (.str (Str.ofString "a"))) (mCons (mC (.int 1)) mNil))) mNil))))))))))
section
variable {P : Program} {w : World} {K : PySem.W.Frag} {mg : Str → Option Value} {base : Heap} {f : Addr} {cdv : Value} {A : Around} {outer : List Env} {s : Shared} {H : Hp} {E : XK}
theorem dBox (T : Txt K mg) : PSs (cxOf CX0 P w K mg base ["script"] "_law_box" (defScope s__law_box) f cdv A outer s H E).nox (defBody s__law_box) (tBoxT K) :=
  pss_one (ps_ret (pe_lst (pa_cons (pe_callTy call_list_of (by rfl) T.b_list PyProof.Rows.boot_list (pa_cons (pe_slice sl_list (pv 0) po_none (po_some pe_int)) pa_nil)) (pa_cons pe_int (pa_cons (pe_op op_add pe_int (pe_callB call_len (by rfl) T.b_len PySem.boot_len (pa_cons (pv 0) pa_nil))) pa_nil)))))
theorem dLoad (T : Txt K mg) : PSs (cxOf CX0 P w K mg base ["box", "cells", "cell", "size", "first", "second"] "_law_load" (defScope s__law_load) f cdv A outer s H E).nox (defBody s__law_load) (tLoadT K) :=
  pss_cons (ps_set (i := 1) sc__law_load.nd rfl (.inl rfl) (pe_ix ix_list (pv 0) pe_int fun _ _ => rfl))
    (pss_cons (ps_if (pt_cmpR op_gt (pe_callB call_len (by rfl) T.b_len PySem.boot_len (pa_cons (pv 1) pa_nil)) pe_int (nomark _))
      (pss_cons (ps_set (i := 2) sc__law_load.nd rfl (.inl rfl) (pe_callTy call_int1 (by rfl) T.b_int PyProof.Rows.boot_int (pa_cons (pe_bm PySem.F.plainAttrs_list PySem.F.slot_list_pop PySem.F.type_list_pop mt_popAt (pv 1) (pa_cons pe_int pa_nil)) pa_nil)))
      (pss_cons (ps_set (i := 3) sc__law_load.nd rfl (.inl rfl) (pe_ifExp (pt_cmpR op_ge (pv 2) pe_int (nomark _)) (pe_op op_mulX pe_int (pv 2)) (pe_op op_sub (pe_op op_mulX (pe_un un_neg pe_int) (pv 2)) pe_int)))
      (pss_cons (ps_if (pt_cmpR op_ge (pv 3) pe_int (nomark _)) (pss_one (ps_ret (pv 3))) pss_nil)
      (pss_one (ps_asg (pe_op op_mod (pe_callTy call_int1 (by rfl) T.b_int PyProof.Rows.boot_int (pa_cons (pe_op op_add (pe_op op_add (pe_op op_mulX (pe_ix ix_list (pv 0) pe_int fun _ _ => rfl) pe_int) (pe_op op_mulX (pv 3) pe_int)) pe_int) pa_nil)) pe_int) (pg_sub (pv 0) pe_int set_list))))))
      pss_nil)
    (pss_cons (ps_set (i := 4) sc__law_load.nd rfl (.inl rfl) (pe_op op_mod (pe_callTy call_int1 (by rfl) T.b_int PyProof.Rows.boot_int (pa_cons (pe_op op_add (pe_op op_mulX (pe_ix ix_list (pv 0) pe_int fun _ _ => rfl) pe_int) pe_int) pa_nil)) pe_int))
    (pss_cons (ps_set (i := 5) sc__law_load.nd rfl (.inl rfl) (pe_op op_mod (pe_callTy call_int1 (by rfl) T.b_int PyProof.Rows.boot_int (pa_cons (pe_op op_add (pe_op op_mulX (pv 4) pe_int) pe_int) pa_nil)) pe_int))
    (pss_cons (ps_asg (pe_op op_mod (pe_callTy call_int1 (by rfl) T.b_int PyProof.Rows.boot_int (pa_cons (pe_op op_add (pe_op op_mulX (pv 5) pe_int) pe_int) pa_nil)) pe_int) (pg_sub (pv 0) pe_int set_list))
    (pss_one (ps_ret (pe_op op_add (pe_op op_add (pe_op op_mulX (pv 4) pe_int) (pe_op op_mulX (pv 5) pe_int)) (pe_ix ix_list (pv 0) pe_int fun _ _ => rfl))))))))
theorem dDraw (T : Txt K mg) (hr : Room 1 (A.deeper (envOfC "_law_draw" (defScope s__law_draw) s.heap.objs.size f cdv))) (F : FnD P w K mg base "_law_load" 1 1 fnLoad) : PSs (cxOf CX0 P w K mg base ["box", "many", "digit"] "_law_draw" (defScope s__law_draw) f cdv A outer s H E).nox (defBody s__law_draw) (tDrawT K (spF K 1 fnLoad)) := by
  obtain ⟨fa, fd, ps, h1, h2, h3, h4, h5⟩ := F.ex
  exact pss_cons (ps_if (pt_cmpR op_lt (pe_ix ix_list (pv 0) pe_int fun _ _ => rfl) (pv 1) (nomark _)) (pss_one (ps_asg (pe_call h5 hr (by rfl) h1 h2 h3 .nil pass0 (pa_cons (pv 0) pa_nil)) (pg_sub (pv 0) pe_int set_list))) pss_nil)
    (pss_cons (ps_set (i := 2) sc__law_draw.nd rfl (.inl rfl) (pe_op op_mod (pe_callTy call_int1 (by rfl) T.b_int PyProof.Rows.boot_int (pa_cons (pe_ix ix_list (pv 0) pe_int fun _ _ => rfl) pa_nil)) (pv 1)))
    (pss_cons (ps_asg (pe_op op_fdivW (pe_ix ix_list (pv 0) pe_int fun _ _ => rfl) (pv 1)) (pg_sub (pv 0) pe_int set_list))
    (pss_one (ps_ret (pv 2)))))
theorem db__law_sets {k : Nat} (T : Txt K mg) (hr : Room k (A.deeper (envOfC "_law_sets" (defScope s__law_sets) s.heap.objs.size f cdv)))  : DB (cxOf CX0 P w K mg base N__law_sets "_law_sets" (defScope s__law_sets) f cdv A outer s H E).nox (defBody s__law_sets) m__law_sets :=
  have hc : (cxOf CX0 P w K mg base N__law_sets "_law_sets" (defScope s__law_sets) f cdv A outer s H E).nox.calm = true := rfl
  have hu : (A.deeper (envOfC "_law_sets" (defScope s__law_sets) s.heap.objs.size f cdv)).units + 65 < cLine := by have := hr.un; omega
  have hN : N__law_sets.Nodup := sc__law_sets.nd
  (db_cons (nSet 1 (de_lst (dv_cons (dq_tup dv_nil) dv_nil)))
  (db_cons (ds_for PassesOwn.never hc (di_rg1 (by rfl) T.b_range (da_cons (nP 0) da_nil)) (nG 2) (db_one (nSet 1 (de_op od_add (nP 1) (dp_of (dq_of (de_ofC (dc_lc (own := [((Str.ofString "row"), 3)]) hc hN (di_val (nP 1)) (blkOk_by (by rfl)) (fun _ _ _ _ _ => (nG 3)) (fun _ _ _ _ _ => dts_nil) (fun _ _ _ _ _ => (dq_of (de_op od_add (nP 3) (dp_of (dq_tup (dv_cons (nQ 2) dv_nil))))))))))))))
  (db_one (ds_ret (de_ofC (dc_lc (own := [((Str.ofString "pair"), 4)]) hc hN (di_val (dp_of (dq_of (de_call1B (cd_sorted hc hu) (by rfl) T.b_sorted PyProof.Rows.boot_sorted (de_ofC (dc_lc (own := [((Str.ofString "row"), 3)]) hc hN (di_val (nP 1)) (blkOk_by (by rfl)) (fun _ _ _ _ _ => (nG 3)) (fun _ _ _ _ _ => dts_nil) (fun _ _ _ _ _ => (dq_tup (dv_cons (dq_of (de_callB cd_len (by rfl) T.b_len PySem.boot_len (da_cons (nP 3) da_nil))) (dv_cons (nQ 3) dv_nil)))))))))) (blkOk_by (by rfl)) (fun _ _ _ _ _ => (nG 4)) (fun _ _ _ _ _ => dts_nil) (fun _ _ _ _ _ => (dq_of (de_ix (id_ix hu) (nP 4) (dp_of dq_int))))))))))
theorem db_letter_counts {k : Nat} (T : Txt K mg) (hr : Room k (A.deeper (envOfC "letter_counts" (defScope s_letter_counts) s.heap.objs.size f cdv)))  : DB (cxOf CX0 P w K mg base N_letter_counts "letter_counts" (defScope s_letter_counts) f cdv A outer s H E).nox (defBody s_letter_counts) m_letter_counts :=
  have hc : (cxOf CX0 P w K mg base N_letter_counts "letter_counts" (defScope s_letter_counts) f cdv A outer s H E).nox.calm = true := rfl
  have hu : (A.deeper (envOfC "letter_counts" (defScope s_letter_counts) s.heap.objs.size f cdv)).units + 65 < cLine := by have := hr.un; omega
  have hN : N_letter_counts.Nodup := sc_letter_counts.nd
  (db_cons (nSet 1 de_emp)
  (db_cons (ds_for PassesOwn.never hc (di_val (nP 0)) (nG 2) (db_one (ds_for PassesOwn.never hc (di_val (nP 2)) (nG 3) (db_one (nSub 1 (su_D hu) (dq_of (de_op od_add (dp_of (dq_of (de_get2 hu (nP 1) (nP 3) dq_int ⟨by rfl, by rfl, by rfl, by rfl⟩))) (dp_of dq_int))) (nP 3))))))
  (db_one (ds_ret (nO 1)))))
theorem db__law_lacks {k : Nat} (T : Txt K mg) (hr : Room k (A.deeper (envOfC "_law_lacks" (defScope s__law_lacks) s.heap.objs.size f cdv)))  : DB (cxOf CX0 P w K mg base N__law_lacks "_law_lacks" (defScope s__law_lacks) f cdv A outer s H E).nox (defBody s__law_lacks) m__law_lacks :=
  have hc : (cxOf CX0 P w K mg base N__law_lacks "_law_lacks" (defScope s__law_lacks) f cdv A outer s H E).nox.calm = true := rfl
  have hu : (A.deeper (envOfC "_law_lacks" (defScope s__law_lacks) s.heap.objs.size f cdv)).units + 65 < cLine := by have := hr.un; omega
  have hN : N__law_lacks.Nodup := sc__law_lacks.nd
  (db_cons (nPar2 2 3 (dr_cons (de_mt PySem.F.plainAttrs_str PySem.F.slot_str_join PySem.F.type_str_join md_joinA (dp_of dq_str) (da_cons (nP 0) da_nil)) (dr_cons (de_lst dv_nil) dr_nil)))
  (db_cons (nSet 4 (de_mt PySem.F.plainAttrs_str PySem.F.slot_str_join PySem.F.type_str_join md_joinA (dp_of dq_str) (da_cons (nP 1) da_nil)))
  (db_cons (ds_for PassesOwn.never hc (di_val (dp_of (dq_of (de_sortSet hc hu (by rfl) T.b_sorted (by rfl) T.b_set (nP 4))))) (nG 5) (db_cons (nSet 6 (de_op od_sub (dp_of (dq_of (de_mt PySem.F.plainAttrs_str PySem.F.slot_str_count PySem.F.type_str_count md_count (nP 4) (da_cons (nP 5) da_nil)))) (dp_of (dq_of (de_mt PySem.F.plainAttrs_str PySem.F.slot_str_count PySem.F.type_str_count md_count (nP 2) (da_cons (nP 5) da_nil))))))
  (db_one (nSet 3 (de_op od_add (nP 3) (dp_of (dq_of (de_if (dt_cmp od_gtI (nP 6) (dp_of dq_int)) (de_lst (dv_cons (dq_tup (dv_cons (nQ 5) (dv_cons (nQ 6) dv_nil))) dv_nil)) (de_lst dv_nil)))))))))
  (db_one (ds_ret (nO 3))))))
theorem db__law_text {k : Nat} (T : Txt K mg) (hr : Room k (A.deeper (envOfC "_law_text" (defScope s__law_text) s.heap.objs.size f cdv))) (F__law_draw : FnD P w K mg base "_law_draw" k 2 fnDraw) : DB (cxOf CX0 P w K mg base N__law_text "_law_text" (defScope s__law_text) f cdv A outer s H E).nox (defBody s__law_text) m__law_text :=
  have hc : (cxOf CX0 P w K mg base N__law_text "_law_text" (defScope s__law_text) f cdv A outer s H E).nox.calm = true := rfl
  have hu : (A.deeper (envOfC "_law_text" (defScope s__law_text) s.heap.objs.size f cdv)).units + 65 < cLine := by have := hr.un; omega
  have hN : N__law_text.Nodup := sc__law_text.nd
  (db_cons (nSet 2 (de_of dq_str))
  (db_cons (ds_for PassesOwn.never hc (di_rg1 (by rfl) T.b_range (da_cons (dp_of (dq_of (de_op od_add (dp_of dq_int) (dp_of (dq_of (de_call F__law_draw hr (by rfl) (da_cons (nP 0) (da_cons (nP 1) da_nil)) (mCons_len (mCons_len mNil_len)))))))) da_nil)) (nG 3) (db_one (nSet 2 (de_op od_add (nP 2) (dp_of (dq_of (de_ix (id_ix hu) (dp_of dq_str) (dp_of (dq_of (de_call F__law_draw hr (by rfl) (da_cons (nP 0) (da_cons (dp_of dq_int) da_nil)) (mCons_len (mCons_len mNil_len))))))))))))
  (db_one (ds_ret (nO 2)))))
theorem db__law_same {g : FN} {k : Nat} (T : Txt K mg) (hr : Room k (A.deeper (envOfC "_law_same" (defScope s__law_same) s.heap.objs.size f cdv))) (F__law_same : FnD P w K mg base "_law_same" k 2 g) : DB (cxOf CX0 P w K mg base N__law_same "_law_same" (defScope s__law_same) f cdv A outer s H E).nox (defBody s__law_same) (m__law_same g) :=
  have hc : (cxOf CX0 P w K mg base N__law_same "_law_same" (defScope s__law_same) f cdv A outer s H E).nox.calm = true := rfl
  have hu : (A.deeper (envOfC "_law_same" (defScope s__law_same) s.heap.objs.size f cdv)).units + 65 < cLine := by have := hr.un; omega
  have hN : N__law_same.Nodup := sc__law_same.nd
  (db_cons (ds_if (dt_of (dw_or (dt_of (dw_and (dt_truth (dp_of (dq_of (de_isi (by rfl) T.b_isinstance (by rfl) T.b_tuple PyProof.Rows.boot_tuple (nP 0))))) (dw_and1 (dt_truth (dp_of (dq_of (de_isi (by rfl) T.b_isinstance (by rfl) T.b_tuple PyProof.Rows.boot_tuple (nP 1)))))))) (dw_or1 (dt_of (dw_and (dt_truth (dp_of (dq_of (de_isi (by rfl) T.b_isinstance (by rfl) T.b_list PyProof.Rows.boot_list (nP 0))))) (dw_and1 (dt_truth (dp_of (dq_of (de_isi (by rfl) T.b_isinstance (by rfl) T.b_list PyProof.Rows.boot_list (nP 1))))))))))) (db_one (ds_ret (de_of (dq_and (dq_of (de_cmp (od_eq hu) (dp_of (dq_of (de_callB cd_len (by rfl) T.b_len PySem.boot_len (da_cons (nP 0) da_nil)))) (dp_of (dq_of (de_callB cd_len (by rfl) T.b_len PySem.boot_len (da_cons (nP 1) da_nil)))))) (dq_one (dq_of (de_call1B (cd_all hc) (by rfl) T.b_all PyProof.Rows.boot_all (de_ofC (dc_lc (own := [((Str.ofString "k"), 2)]) hc hN (di_rg1 (by rfl) T.b_range (da_cons (dp_of (dq_of (de_callB cd_len (by rfl) T.b_len PySem.boot_len (da_cons (nP 0) da_nil)))) da_nil)) (blkOk_by (by rfl)) (fun _ _ _ _ _ => (nG 2)) (fun _ _ _ _ _ => dts_nil) (fun _ _ _ _ _ => (dq_of (de_call F__law_same hr (by rfl) (da_cons (dp_of (dq_of (de_ix (id_ix hu) (nP 0) (nP 2)))) (da_cons (dp_of (dq_of (de_ix (id_ix hu) (nP 1) (nP 2)))) da_nil)) (mCons_len (mCons_len mNil_len)))))))))))))) db_nil)
  (db_cons (ds_if (dt_of (dw_or (dt_truth (dp_of (dq_of (de_isi (by rfl) T.b_isinstance (by rfl) T.b_bool PyProof.Rows.boot_bool (nP 0))))) (dw_or1 (dt_truth (dp_of (dq_of (de_isi (by rfl) T.b_isinstance (by rfl) T.b_bool PyProof.Rows.boot_bool (nP 1)))))))) (db_one (ds_ret (de_of (dq_and (dq_of (de_isi (by rfl) T.b_isinstance (by rfl) T.b_bool PyProof.Rows.boot_bool (nP 0))) (dq_and (dq_of (de_isi (by rfl) T.b_isinstance (by rfl) T.b_bool PyProof.Rows.boot_bool (nP 1))) (dq_one (dq_of (de_cmp (od_eq hu) (nP 0) (nP 1))))))))) db_nil)
  (db_cons (ds_if (dt_of (dw_or (dt_of (dw_and (dt_truth (dp_of (dq_of (de_isi (by rfl) T.b_isinstance (by rfl) T.b_int PyProof.Rows.boot_int (nP 0))))) (dw_and1 (dt_truth (dp_of (dq_of (de_isi (by rfl) T.b_isinstance (by rfl) T.b_int PyProof.Rows.boot_int (nP 1)))))))) (dw_or1 (dt_of (dw_and (dt_truth (dp_of (dq_of (de_isi (by rfl) T.b_isinstance (by rfl) T.b_str PyProof.Rows.boot_str (nP 0))))) (dw_and1 (dt_truth (dp_of (dq_of (de_isi (by rfl) T.b_isinstance (by rfl) T.b_str PyProof.Rows.boot_str (nP 1))))))))))) (db_one (ds_ret (de_cmp (od_eq hu) (nP 0) (nP 1)))) db_nil)
  (db_one (ds_ret (de_of (dq_and (dq_of (de_cmp od_is (nP 0) (dp_of dq_non))) (dq_one (dq_of (de_cmp od_is (nP 1) (dp_of dq_non)))))))))))
theorem db_sheet_sets {k : Nat} (T : Txt K mg) (hr : Room k (A.deeper (envOfC "sheet_sets" (defScope s_sheet_sets) s.heap.objs.size f cdv)))  : DB (cxOf CX0 P w K mg base N_sheet_sets "sheet_sets" (defScope s_sheet_sets) f cdv A outer s H E).nox (defBody s_sheet_sets) m_sheet_sets :=
  have hc : (cxOf CX0 P w K mg base N_sheet_sets "sheet_sets" (defScope s_sheet_sets) f cdv A outer s H E).nox.calm = true := rfl
  have hu : (A.deeper (envOfC "sheet_sets" (defScope s_sheet_sets) s.heap.objs.size f cdv)).units + 65 < cLine := by have := hr.un; omega
  have hN : N_sheet_sets.Nodup := sc_sheet_sets.nd
  (db_cons (nSet 1 (de_lst (dv_cons (dq_tup dv_nil) dv_nil)))
  (db_cons (ds_for PassesOwn.never hc (di_rg1 (by rfl) T.b_range (da_cons (dp_of (dq_of (de_callB cd_len (by rfl) T.b_len PySem.boot_len (da_cons (nP 0) da_nil)))) da_nil)) (nG 2) (db_one (nSet 1 (de_op od_add (nP 1) (dp_of (dq_of (de_ofC (dc_lc (own := [((Str.ofString "row"), 3)]) hc hN (di_val (nP 1)) (blkOk_by (by rfl)) (fun _ _ _ _ _ => (nG 3)) (fun _ _ _ _ _ => dts_nil) (fun _ _ _ _ _ => (dq_of (de_op od_add (nP 3) (dp_of (dq_tup (dv_cons (nQ 2) dv_nil))))))))))))))
  (db_one (ds_ret (de_ofC (dc_lc (own := [((Str.ofString "_"), 4), ((Str.ofString "row"), 3)]) hc hN (di_val (dp_of (dq_of (de_call1B (cd_sorted hc hu) (by rfl) T.b_sorted PyProof.Rows.boot_sorted (de_ofC (dc_lc (own := [((Str.ofString "row"), 3)]) hc hN (di_val (nP 1)) (blkOk_by (by rfl)) (fun _ _ _ _ _ => (nG 3)) (fun _ _ _ _ _ => dts_nil) (fun _ _ _ _ _ => (dq_tup (dv_cons (dq_of (de_callB cd_len (by rfl) T.b_len PySem.boot_len (da_cons (nP 3) da_nil))) (dv_cons (nQ 3) dv_nil)))))))))) (blkOk_by (by rfl)) (fun _ _ _ _ _ => (dg_tup hc (dgs_cons (nG 4) (dgs_cons (nG 3) dgs_nil)))) (fun _ _ _ _ _ => dts_nil) (fun _ _ _ _ _ => (nQ 3))))))))
theorem db_too_few {k : Nat} (T : Txt K mg) (hr : Room k (A.deeper (envOfC "too_few" (defScope s_too_few) s.heap.objs.size f cdv)))  : DB (cxOf CX0 P w K mg base N_too_few "too_few" (defScope s_too_few) f cdv A outer s H E).nox (defBody s_too_few) m_too_few :=
  have hc : (cxOf CX0 P w K mg base N_too_few "too_few" (defScope s_too_few) f cdv A outer s H E).nox.calm = true := rfl
  have hu : (A.deeper (envOfC "too_few" (defScope s_too_few) s.heap.objs.size f cdv)).units + 65 < cLine := by have := hr.un; omega
  have hN : N_too_few.Nodup := sc_too_few.nd
  (db_cons (nSetC 2 (dc_lc (own := [((Str.ofString "letter"), 3)]) hc hN (di_val (dp_of (dq_of (de_callB (cd_sorted hc hu) (by rfl) T.b_sorted PyProof.Rows.boot_sorted (da_cons (nP 1) da_nil))))) (blkOk_by (by rfl)) (fun _ _ _ _ _ => (nG 3)) (fun _ _ _ _ _ => dts_nil) (fun _ _ _ _ _ => (dq_tup (dv_cons (nQ 3) (dv_cons (dq_of (de_op od_sub (dp_of (dq_of (de_ix (id_ix hu) (nP 1) (nP 3)))) (dp_of (dq_of (de_get2 hu (nP 0) (nP 3) dq_int ⟨by rfl, by rfl, by rfl, by rfl⟩))))) dv_nil))))))
  (db_one (ds_ret (de_call1T cd_tup0 (by rfl) T.b_tuple PyProof.Rows.boot_tuple (de_ofC (dc_lc (own := [((Str.ofString "row"), 4)]) hc hN (di_val (nP 2)) (blkOk_by (by rfl)) (fun _ _ _ _ _ => (nG 4)) (fun _ _ _ _ _ => (dts_one (dt_cmp od_gtI (dp_of (dq_of (de_ix (id_ix hu) (nP 4) (dp_of dq_int)))) (dp_of dq_int)))) (fun _ _ _ _ _ => (nQ 4))))))))
theorem db_lacking_letters {k : Nat} (T : Txt K mg) (hr : Room k (A.deeper (envOfC "lacking_letters" (defScope s_lacking_letters) s.heap.objs.size f cdv))) (F_too_few : FnD P w K mg base "too_few" k 2 fn_too_few) (F_letter_counts : FnD P w K mg base "letter_counts" k 1 fn_letter_counts) : DB (cxOf CX0 P w K mg base N_lacking_letters "lacking_letters" (defScope s_lacking_letters) f cdv A outer s H E).nox (defBody s_lacking_letters) m_lacking_letters :=
  have hc : (cxOf CX0 P w K mg base N_lacking_letters "lacking_letters" (defScope s_lacking_letters) f cdv A outer s H E).nox.calm = true := rfl
  have hu : (A.deeper (envOfC "lacking_letters" (defScope s_lacking_letters) s.heap.objs.size f cdv)).units + 65 < cLine := by have := hr.un; omega
  have hN : N_lacking_letters.Nodup := sc_lacking_letters.nd
  (db_one (ds_ret (de_call F_too_few hr (by rfl) (da_cons (dp_of (dq_fz (de_call F_letter_counts hr (by rfl) (da_cons (dp_of (dq_of (de_ofC (dc_lc (own := [((Str.ofString "k"), 3)]) hc hN (di_val (nP 1)) (blkOk_by (by rfl)) (fun _ _ _ _ _ => (nG 3)) (fun _ _ _ _ _ => dts_nil) (fun _ _ _ _ _ => (dq_of (de_ix (id_ix hu) (nP 0) (nP 3)))))))) da_nil) (mCons_len mNil_len)))) (da_cons (dp_of (dq_fz (de_call F_letter_counts hr (by rfl) (da_cons (dp_of (dq_of (de_lst (dv_cons (nQ 2) dv_nil)))) da_nil) (mCons_len mNil_len)))) da_nil)) (mCons_len (mCons_len mNil_len)))))
theorem db_fewest_sheets {k : Nat} (T : Txt K mg) (hr : Room k (A.deeper (envOfC "fewest_sheets" (defScope s_fewest_sheets) s.heap.objs.size f cdv))) (F_sheet_sets : FnD P w K mg base "sheet_sets" k 1 fn_sheet_sets) (F_lacking_letters : FnD P w K mg base "lacking_letters" k 3 fn_lacking_letters) : DB (cxOf CX0 P w K mg base N_fewest_sheets "fewest_sheets" (defScope s_fewest_sheets) f cdv A outer s H E).nox (defBody s_fewest_sheets) m_fewest_sheets :=
  have hc : (cxOf CX0 P w K mg base N_fewest_sheets "fewest_sheets" (defScope s_fewest_sheets) f cdv A outer s H E).nox.calm = true := rfl
  have hu : (A.deeper (envOfC "fewest_sheets" (defScope s_fewest_sheets) s.heap.objs.size f cdv)).units + 65 < cLine := by have := hr.un; omega
  have hN : N_fewest_sheets.Nodup := sc_fewest_sheets.nd
  (db_cons (ds_for PassesOwn.never hc (di_val (dp_of (dq_of (de_call F_sheet_sets hr (by rfl) (da_cons (nP 0) da_nil) (mCons_len mNil_len))))) (nG 2) (db_one (ds_if (dt_cmp (od_eq hu) (dp_of (dq_of (de_call F_lacking_letters hr (by rfl) (da_cons (nP 0) (da_cons (nP 2) (da_cons (nP 1) da_nil))) (mCons_len (mCons_len (mCons_len mNil_len)))))) (dp_of (dq_tup dv_nil))) (db_one (ds_ret (nO 2))) db_nil)))
  (db_one (ds_ret (de_of dq_non))))
theorem db_is_note {k : Nat} (T : Txt K mg) (hr : Room k (A.deeper (envOfC "is_note" (defScope s_is_note) s.heap.objs.size f cdv)))  : DB (cxOf CX0 P w K mg base N_is_note "is_note" (defScope s_is_note) f cdv A outer s H E).nox (defBody s_is_note) m_is_note :=
  have hc : (cxOf CX0 P w K mg base N_is_note "is_note" (defScope s_is_note) f cdv A outer s H E).nox.calm = true := rfl
  have hu : (A.deeper (envOfC "is_note" (defScope s_is_note) s.heap.objs.size f cdv)).units + 65 < cLine := by have := hr.un; omega
  have hN : N_is_note.Nodup := sc_is_note.nd
  (db_cons (ds_if (dt_of (dw_or (dt_not (dt_truth (dp_of (dq_of (de_isi (by rfl) T.b_isinstance (by rfl) T.b_str PyProof.Rows.boot_str (nP 0)))))) (dw_or1 (dt_not (dt_chain od_leI od_leI (dp_of dq_int) (dp_of (dq_of (de_callB cd_len (by rfl) T.b_len PySem.boot_len (da_cons (nP 0) da_nil)))) (dp_of (dq_gl T.g_MOST_LETTERS (by rfl)))))))) (db_one (ds_ret (de_of dq_bl))) db_nil)
  (db_one (ds_ret (de_call1B (cd_all hc) (by rfl) T.b_all PyProof.Rows.boot_all (de_ofC (dc_lc (own := [((Str.ofString "letter"), 1)]) hc hN (di_val (nP 0)) (blkOk_by (by rfl)) (fun _ _ _ _ _ => (nG 1)) (fun _ _ _ _ _ => dts_nil) (fun _ _ _ _ _ => (dq_of (de_cmp (od_in hu) (nP 1) (dp_of (dq_gl T.g_SMALL_LETTERS (by rfl))))))))))))
theorem db_are_sheets {k : Nat} (T : Txt K mg) (hr : Room k (A.deeper (envOfC "are_sheets" (defScope s_are_sheets) s.heap.objs.size f cdv))) (F_is_note : FnD P w K mg base "is_note" k 1 fn_is_note) : DB (cxOf CX0 P w K mg base N_are_sheets "are_sheets" (defScope s_are_sheets) f cdv A outer s H E).nox (defBody s_are_sheets) m_are_sheets :=
  have hc : (cxOf CX0 P w K mg base N_are_sheets "are_sheets" (defScope s_are_sheets) f cdv A outer s H E).nox.calm = true := rfl
  have hu : (A.deeper (envOfC "are_sheets" (defScope s_are_sheets) s.heap.objs.size f cdv)).units + 65 < cLine := by have := hr.un; omega
  have hN : N_are_sheets.Nodup := sc_are_sheets.nd
  (db_one (ds_ret (de_of (dq_and (dq_of (de_isi (by rfl) T.b_isinstance (by rfl) T.b_tuple PyProof.Rows.boot_tuple (nP 0))) (dq_and (dq_of (de_cmp od_leI (dp_of (dq_of (de_callB cd_len (by rfl) T.b_len PySem.boot_len (da_cons (nP 0) da_nil)))) (dp_of (dq_gl T.g_MOST_SHEETS (by rfl))))) (dq_one (dq_of (de_call1B (cd_all hc) (by rfl) T.b_all PyProof.Rows.boot_all (de_ofC (dc_lc (own := [((Str.ofString "text"), 1)]) hc hN (di_val (nP 0)) (blkOk_by (by rfl)) (fun _ _ _ _ _ => (nG 1)) (fun _ _ _ _ _ => dts_nil) (fun _ _ _ _ _ => (dq_of (de_call F_is_note hr (by rfl) (da_cons (nP 1) da_nil) (mCons_len mNil_len))))))))))))))
theorem db__law_bent {g : FN} {k : Nat} (T : Txt K mg) (hr : Room k (A.deeper (envOfC "_law_bent" (defScope s__law_bent) s.heap.objs.size f cdv))) (F__law_draw : FnD P w K mg base "_law_draw" k 2 fnDraw) (F__law_bent : FnD P w K mg base "_law_bent" k 2 g) : DB (cxOf CX0 P w K mg base N__law_bent "_law_bent" (defScope s__law_bent) f cdv A outer s H E).nox (defBody s__law_bent) (m__law_bent g) :=
  have hc : (cxOf CX0 P w K mg base N__law_bent "_law_bent" (defScope s__law_bent) f cdv A outer s H E).nox.calm = true := rfl
  have hu : (A.deeper (envOfC "_law_bent" (defScope s__law_bent) s.heap.objs.size f cdv)).units + 65 < cLine := by have := hr.un; omega
  have hN : N__law_bent.Nodup := sc__law_bent.nd
  (db_cons (ds_if (dt_of (dw_and (dt_truth (dp_of (dq_of (de_isi (by rfl) T.b_isinstance (by rfl) T.b_tuple PyProof.Rows.boot_tuple (nP 1))))) (dw_and (dt_cmp od_gtI (dp_of (dq_of (de_callB cd_len (by rfl) T.b_len PySem.boot_len (da_cons (nP 1) da_nil)))) (dp_of dq_int)) (dw_and1 (dt_cmp od_gtI (dp_of (dq_of (de_call F__law_draw hr (by rfl) (da_cons (nP 0) (da_cons (dp_of dq_int) da_nil)) (mCons_len (mCons_len mNil_len))))) (dp_of dq_int)))))) (db_cons (nSet 2 (de_call F__law_draw hr (by rfl) (da_cons (nP 0) (da_cons (dp_of (dq_of (de_callB cd_len (by rfl) T.b_len PySem.boot_len (da_cons (nP 1) da_nil)))) da_nil)) (mCons_len (mCons_len mNil_len))))
  (db_one (ds_ret (de_op od_add (dp_of (dq_of (de_op od_add (dp_of (dq_of (de_sl sd_sl (nP 1) do_no (do_so (nP 2))))) (dp_of (dq_tup (dv_cons (dq_of (de_call F__law_bent hr (by rfl) (da_cons (nP 0) (da_cons (dp_of (dq_of (de_ix (id_ix hu) (nP 1) (nP 2)))) da_nil)) (mCons_len (mCons_len mNil_len)))) dv_nil)))))) (dp_of (dq_of (de_sl sd_sl (nP 1) (do_so (dp_of (dq_of (de_op od_add (nP 2) (dp_of dq_int))))) do_no))))))) db_nil)
  (db_cons (nSet 3 (de_call F__law_draw hr (by rfl) (da_cons (nP 0) (da_cons (dp_of dq_int) da_nil)) (mCons_len (mCons_len mNil_len))))
  (db_cons (ds_if (dt_truth (dp_of (dq_of (de_isi (by rfl) T.b_isinstance (by rfl) T.b_tuple PyProof.Rows.boot_tuple (nP 1))))) (db_one (ds_ret (de_ix (id_ix hu) (dp_of (dq_of (de_lst (dv_cons (dq_of (de_op od_add (nP 1) (dp_of (dq_of (de_sl sd_sl (nP 1) do_no (do_so (dp_of dq_int))))))) (dv_cons (dq_of (de_sl sd_sl (nP 1) (do_so (dp_of dq_int)) do_no)) (dv_cons (dq_of (de_rev (nP 1))) (dv_cons (dq_of (de_op od_add (nP 1) (dp_of (dq_tup (dv_cons dq_int dv_nil))))) (dv_cons (dq_of (de_op od_add (dp_of (dq_of (de_sl sd_sl (nP 1) do_no (do_so (dp_of dq_int))))) (nP 1))) (dv_cons (dq_of (de_sl sd_sl (nP 1) do_no (do_so (dp_of (dq_of (de_un ud_neg (dp_of dq_int))))))) (dv_cons dq_non (dv_cons (dq_of (de_sl sd_sl (nP 1) do_no (do_so (dp_of dq_int)))) dv_nil))))))))))) (nP 3)))) db_nil)
  (db_cons (ds_if (dt_of (dw_and (dt_truth (dp_of (dq_of (de_isi (by rfl) T.b_isinstance (by rfl) T.b_int PyProof.Rows.boot_int (nP 1))))) (dw_and1 (dt_not (dt_truth (dp_of (dq_of (de_isi (by rfl) T.b_isinstance (by rfl) T.b_bool PyProof.Rows.boot_bool (nP 1))))))))) (db_one (ds_ret (de_ix (id_ix hu) (dp_of (dq_of (de_lst (dv_cons (dq_of (de_op od_add (nP 1) (dp_of dq_int))) (dv_cons (dq_of (de_op od_sub (nP 1) (dp_of dq_int))) (dv_cons (dq_of (de_un ud_neg (nP 1))) (dv_cons (dq_of (de_cmp (od_eq hu) (nP 1) (dp_of dq_int))) (dv_cons dq_non (dv_cons (dq_of (de_callTy cd_str (by rfl) T.b_str PyProof.Rows.boot_str (da_cons (nP 1) da_nil))) (dv_cons (dq_tup (dv_cons (nQ 1) dv_nil)) (dv_cons (dq_of (de_op od_add (nP 1) (dp_of dq_int))) dv_nil))))))))))) (nP 3)))) db_nil)
  (db_cons (ds_if (dt_truth (dp_of (dq_of (de_isi (by rfl) T.b_isinstance (by rfl) T.b_str PyProof.Rows.boot_str (nP 1))))) (db_one (ds_ret (de_ix (id_ix hu) (dp_of (dq_of (de_lst (dv_cons (dq_of (de_op od_add (nP 1) (dp_of dq_str))) (dv_cons (dq_of (de_sl sd_sl (nP 1) (do_so (dp_of dq_int)) do_no)) (dv_cons dq_str (dv_cons (dq_of (de_mt0 PySem.F.plainAttrs_str PySem.F.slot_str_upper PySem.F.type_str_upper md_upper (nP 1))) (dv_cons dq_int (dv_cons dq_str (dv_cons (dq_of (de_op od_add (nP 1) (dp_of dq_str))) (dv_cons (dq_tup (dv_cons (nQ 1) dv_nil)) dv_nil))))))))))) (nP 3)))) db_nil)
  (db_one (ds_ret (de_ix (id_ix hu) (dp_of (dq_of (de_lst (dv_cons dq_int (dv_cons dq_int (dv_cons dq_non (dv_cons dq_bl (dv_cons dq_bl (dv_cons dq_str (dv_cons (dq_tup dv_nil) (dv_cons (dq_of (de_un ud_neg (dp_of dq_int))) dv_nil))))))))))) (nP 3)))))))))
theorem db_without_sheet {k : Nat} (T : Txt K mg) (hr : Room k (A.deeper (envOfC "without_sheet" (defScope s_without_sheet) s.heap.objs.size f cdv)))  : DB (cxOf CX0 P w K mg base N_without_sheet "without_sheet" (defScope s_without_sheet) f cdv A outer s H E).nox (defBody s_without_sheet) m_without_sheet :=
  have hc : (cxOf CX0 P w K mg base N_without_sheet "without_sheet" (defScope s_without_sheet) f cdv A outer s H E).nox.calm = true := rfl
  have hu : (A.deeper (envOfC "without_sheet" (defScope s_without_sheet) s.heap.objs.size f cdv)).units + 65 < cLine := by have := hr.un; omega
  have hN : N_without_sheet.Nodup := sc_without_sheet.nd
  (db_one (ds_ret (de_call1T cd_tup0 (by rfl) T.b_tuple PyProof.Rows.boot_tuple (de_ofC (dc_lc (own := [((Str.ofString "j"), 2)]) hc hN (di_val (nP 0)) (blkOk_by (by rfl)) (fun _ _ _ _ _ => (nG 2)) (fun _ _ _ _ _ => (dts_one (dt_cmp (od_ne hu) (nP 2) (nP 1)))) (fun _ _ _ _ _ => (nQ 2)))))))
theorem db_sure_sheets {k : Nat} (T : Txt K mg) (hr : Room k (A.deeper (envOfC "sure_sheets" (defScope s_sure_sheets) s.heap.objs.size f cdv))) (F_lacking_letters : FnD P w K mg base "lacking_letters" k 3 fn_lacking_letters) (F_without_sheet : FnD P w K mg base "without_sheet" k 2 fn_without_sheet) : DB (cxOf CX0 P w K mg base N_sure_sheets "sure_sheets" (defScope s_sure_sheets) f cdv A outer s H E).nox (defBody s_sure_sheets) m_sure_sheets :=
  have hc : (cxOf CX0 P w K mg base N_sure_sheets "sure_sheets" (defScope s_sure_sheets) f cdv A outer s H E).nox.calm = true := rfl
  have hu : (A.deeper (envOfC "sure_sheets" (defScope s_sure_sheets) s.heap.objs.size f cdv)).units + 65 < cLine := by have := hr.un; omega
  have hN : N_sure_sheets.Nodup := sc_sure_sheets.nd
  (db_cons (nSet 2 (de_tupRg hc (by rfl) T.b_tuple (drg_1 (by rfl) T.b_range (dp_of (dq_of (de_callB cd_len (by rfl) T.b_len PySem.boot_len (da_cons (nP 0) da_nil)))))))
  (db_cons (ds_if (dt_truth (dp_of (dq_of (de_call F_lacking_letters hr (by rfl) (da_cons (nP 0) (da_cons (nP 2) (da_cons (nP 1) da_nil))) (mCons_len (mCons_len (mCons_len mNil_len))))))) (db_one (ds_ret (de_of dq_non))) db_nil)
  (db_one (ds_ret (de_call1T cd_tup0 (by rfl) T.b_tuple PyProof.Rows.boot_tuple (de_ofC (dc_lc (own := [((Str.ofString "k"), 3)]) hc hN (di_val (nP 2)) (blkOk_by (by rfl)) (fun _ _ _ _ _ => (nG 3)) (fun _ _ _ _ _ => (dts_one (dt_truth (dp_of (dq_of (de_call F_lacking_letters hr (by rfl) (da_cons (nP 0) (da_cons (dp_of (dq_of (de_call F_without_sheet hr (by rfl) (da_cons (nP 2) (da_cons (nP 3) da_nil)) (mCons_len (mCons_len mNil_len))))) (da_cons (nP 1) da_nil))) (mCons_len (mCons_len (mCons_len mNil_len))))))))) (fun _ _ _ _ _ => (nQ 3)))))))))
theorem db_is_smallest {k : Nat} (T : Txt K mg) (hr : Room k (A.deeper (envOfC "is_smallest" (defScope s_is_smallest) s.heap.objs.size f cdv))) (F_lacking_letters : FnD P w K mg base "lacking_letters" k 3 fn_lacking_letters) (F_without_sheet : FnD P w K mg base "without_sheet" k 2 fn_without_sheet) : DB (cxOf CX0 P w K mg base N_is_smallest "is_smallest" (defScope s_is_smallest) f cdv A outer s H E).nox (defBody s_is_smallest) m_is_smallest :=
  have hc : (cxOf CX0 P w K mg base N_is_smallest "is_smallest" (defScope s_is_smallest) f cdv A outer s H E).nox.calm = true := rfl
  have hu : (A.deeper (envOfC "is_smallest" (defScope s_is_smallest) s.heap.objs.size f cdv)).units + 65 < cLine := by have := hr.un; omega
  have hN : N_is_smallest.Nodup := sc_is_smallest.nd
  (db_cons (ds_if (dt_truth (dp_of (dq_of (de_call F_lacking_letters hr (by rfl) (da_cons (nP 0) (da_cons (nP 1) (da_cons (nP 2) da_nil))) (mCons_len (mCons_len (mCons_len mNil_len))))))) (db_one (ds_ret (de_of dq_bl))) db_nil)
  (db_one (ds_ret (de_call1B (cd_allV hc) (by rfl) T.b_all PyProof.Rows.boot_all (de_ofC (dc_lc (own := [((Str.ofString "k"), 3)]) hc hN (di_val (nP 1)) (blkOk_by (by rfl)) (fun _ _ _ _ _ => (nG 3)) (fun _ _ _ _ _ => dts_nil) (fun _ _ _ _ _ => (dq_of (de_call F_lacking_letters hr (by rfl) (da_cons (nP 0) (da_cons (dp_of (dq_of (de_call F_without_sheet hr (by rfl) (da_cons (nP 1) (da_cons (nP 3) da_nil)) (mCons_len (mCons_len mNil_len))))) (da_cons (nP 2) da_nil))) (mCons_len (mCons_len (mCons_len mNil_len))))))))))))
theorem db_spare_sheets {k : Nat} (T : Txt K mg) (hr : Room k (A.deeper (envOfC "spare_sheets" (defScope s_spare_sheets) s.heap.objs.size f cdv))) (F_fewest_sheets : FnD P w K mg base "fewest_sheets" k 2 fn_fewest_sheets) (F_sheet_sets : FnD P w K mg base "sheet_sets" k 1 fn_sheet_sets) (F_is_smallest : FnD P w K mg base "is_smallest" k 3 fn_is_smallest) : DB (cxOf CX0 P w K mg base N_spare_sheets "spare_sheets" (defScope s_spare_sheets) f cdv A outer s H E).nox (defBody s_spare_sheets) m_spare_sheets :=
  have hc : (cxOf CX0 P w K mg base N_spare_sheets "spare_sheets" (defScope s_spare_sheets) f cdv A outer s H E).nox.calm = true := rfl
  have hu : (A.deeper (envOfC "spare_sheets" (defScope s_spare_sheets) s.heap.objs.size f cdv)).units + 65 < cLine := by have := hr.un; omega
  have hN : N_spare_sheets.Nodup := sc_spare_sheets.nd
  (db_cons (ds_if (dt_cmp od_is (dp_of (dq_of (de_call F_fewest_sheets hr (by rfl) (da_cons (nP 0) (da_cons (nP 1) da_nil)) (mCons_len (mCons_len mNil_len))))) (dp_of dq_non)) (db_one (ds_ret (de_of dq_non))) db_nil)
  (db_cons (nSet 2 (de_ofC (dc_lc (own := [((Str.ofString "row"), 3)]) hc hN (di_val (dp_of (dq_of (de_call F_sheet_sets hr (by rfl) (da_cons (nP 0) da_nil) (mCons_len mNil_len))))) (blkOk_by (by rfl)) (fun _ _ _ _ _ => (nG 3)) (fun _ _ _ _ _ => (dts_one (dt_truth (dp_of (dq_of (de_call F_is_smallest hr (by rfl) (da_cons (nP 0) (da_cons (nP 3) (da_cons (nP 1) da_nil))) (mCons_len (mCons_len (mCons_len mNil_len))))))))) (fun _ _ _ _ _ => (nQ 3)))))
  (db_one (ds_ret (de_call1T cd_tup0 (by rfl) T.b_tuple PyProof.Rows.boot_tuple (de_ofC (dc_lc (own := [((Str.ofString "k"), 4)]) hc hN (di_rg1 (by rfl) T.b_range (da_cons (dp_of (dq_of (de_callB cd_len (by rfl) T.b_len PySem.boot_len (da_cons (nP 0) da_nil)))) da_nil)) (blkOk_by (by rfl)) (fun _ _ _ _ _ => (nG 4)) (fun _ _ _ _ _ => (dts_one (dt_not (dt_truth (dp_of (dq_of (de_call1B (cd_any hc) (by rfl) T.b_any PyProof.Rows.boot_any (de_ofC (dc_lc (own := [((Str.ofString "row"), 3)]) hc hN (di_val (nP 2)) (blkOk_by (by rfl)) (fun _ _ _ _ _ => (nG 3)) (fun _ _ _ _ _ => dts_nil) (fun _ _ _ _ _ => (dq_of (de_cmp (od_in hu) (nP 4) (nP 3))))))))))))) (fun _ _ _ _ _ => (nQ 4)))))))))
theorem db_wanted_most {k : Nat} (T : Txt K mg) (hr : Room k (A.deeper (envOfC "wanted_most" (defScope s_wanted_most) s.heap.objs.size f cdv))) (F_too_few : FnD P w K mg base "too_few" k 2 fn_too_few) (F_letter_counts : FnD P w K mg base "letter_counts" k 1 fn_letter_counts) : DB (cxOf CX0 P w K mg base N_wanted_most "wanted_most" (defScope s_wanted_most) f cdv A outer s H E).nox (defBody s_wanted_most) m_wanted_most :=
  have hc : (cxOf CX0 P w K mg base N_wanted_most "wanted_most" (defScope s_wanted_most) f cdv A outer s H E).nox.calm = true := rfl
  have hu : (A.deeper (envOfC "wanted_most" (defScope s_wanted_most) s.heap.objs.size f cdv)).units + 65 < cLine := by have := hr.un; omega
  have hN : N_wanted_most.Nodup := sc_wanted_most.nd
  (db_cons (nSet 2 (de_call F_too_few hr (by rfl) (da_cons (dp_of (dq_fz (de_call F_letter_counts hr (by rfl) (da_cons (nP 0) da_nil) (mCons_len mNil_len)))) (da_cons (dp_of (dq_fz (de_call F_letter_counts hr (by rfl) (da_cons (nP 1) da_nil) (mCons_len mNil_len)))) da_nil)) (mCons_len (mCons_len mNil_len))))
  (db_one (ds_ret (de_if (dt_truth (nP 2)) (de_ix (id_ix hu) (dp_of (dq_of (de_ix (id_ix hu) (nP 2) (dp_of dq_int)))) (dp_of dq_int)) (de_of dq_non)))))
theorem db_most_notes {k : Nat} (T : Txt K mg) (hr : Room k (A.deeper (envOfC "most_notes" (defScope s_most_notes) s.heap.objs.size f cdv))) (F_sheet_sets : FnD P w K mg base "sheet_sets" k 1 fn_sheet_sets) (F_wanted_most : FnD P w K mg base "wanted_most" k 2 fn_wanted_most) : DB (cxOf CX0 P w K mg base N_most_notes "most_notes" (defScope s_most_notes) f cdv A outer s H E).nox (defBody s_most_notes) m_most_notes :=
  have hc : (cxOf CX0 P w K mg base N_most_notes "most_notes" (defScope s_most_notes) f cdv A outer s H E).nox.calm = true := rfl
  have hu : (A.deeper (envOfC "most_notes" (defScope s_most_notes) s.heap.objs.size f cdv)).units + 65 < cLine := by have := hr.un; omega
  have hN : N_most_notes.Nodup := sc_most_notes.nd
  (db_cons (nSetC 2 (dc_lc (own := [((Str.ofString "row"), 4)]) hc hN (di_val (dp_of (dq_of (de_call F_sheet_sets hr (by rfl) (da_cons (nP 1) da_nil) (mCons_len mNil_len))))) (blkOk_by (by rfl)) (fun _ _ _ _ _ => (nG 4)) (fun _ _ _ _ _ => (dts_one (dt_cmp od_is (dp_of (dq_of (de_call F_wanted_most hr (by rfl) (da_cons (nP 0) (da_cons (dp_of (dq_of (de_ofC (dc_lc (own := [((Str.ofString "k"), 5)]) hc hN (di_val (nP 4)) (blkOk_by (by rfl)) (fun _ _ _ _ _ => (nG 5)) (fun _ _ _ _ _ => dts_nil) (fun _ _ _ _ _ => (dq_of (de_ix (id_ix hu) (nP 1) (nP 5)))))))) da_nil)) (mCons_len (mCons_len mNil_len))))) (dp_of dq_non)))) (fun _ _ _ _ _ => (nQ 4))))
  (db_cons (nSet 3 (de_call1B (cd_max hc) (by rfl) T.b_max PyProof.Rows.boot_max (de_ofC (dc_lc (own := [((Str.ofString "row"), 4)]) hc hN (di_val (nP 2)) (blkOk_by (by rfl)) (fun _ _ _ _ _ => (nG 4)) (fun _ _ _ _ _ => dts_nil) (fun _ _ _ _ _ => (dq_of (de_callB cd_len (by rfl) T.b_len PySem.boot_len (da_cons (nP 4) da_nil))))))))
  (db_one (ds_ret (de_ix (id_ix hu) (dp_of (dq_of (de_ofC (dc_lc (own := [((Str.ofString "row"), 4)]) hc hN (di_val (nP 2)) (blkOk_by (by rfl)) (fun _ _ _ _ _ => (nG 4)) (fun _ _ _ _ _ => (dts_one (dt_cmp (od_eq hu) (dp_of (dq_of (de_callB cd_len (by rfl) T.b_len PySem.boot_len (da_cons (nP 4) da_nil)))) (nP 3)))) (fun _ _ _ _ _ => (nQ 4)))))) (dp_of dq_int))))))
theorem db_is_ascending {k : Nat} (T : Txt K mg) (hr : Room k (A.deeper (envOfC "is_ascending" (defScope s_is_ascending) s.heap.objs.size f cdv)))  : DB (cxOf CX0 P w K mg base N_is_ascending "is_ascending" (defScope s_is_ascending) f cdv A outer s H E).nox (defBody s_is_ascending) m_is_ascending :=
  have hc : (cxOf CX0 P w K mg base N_is_ascending "is_ascending" (defScope s_is_ascending) f cdv A outer s H E).nox.calm = true := rfl
  have hu : (A.deeper (envOfC "is_ascending" (defScope s_is_ascending) s.heap.objs.size f cdv)).units + 65 < cLine := by have := hr.un; omega
  have hN : N_is_ascending.Nodup := sc_is_ascending.nd
  (db_one (ds_ret (de_call1B (cd_all hc) (by rfl) T.b_all PyProof.Rows.boot_all (de_ofC (dc_lc (own := [((Str.ofString "k"), 1)]) hc hN (di_rg1 (by rfl) T.b_range (da_cons (dp_of (dq_of (de_op od_sub (dp_of (dq_of (de_callB cd_len (by rfl) T.b_len PySem.boot_len (da_cons (nP 0) da_nil)))) (dp_of dq_int)))) da_nil)) (blkOk_by (by rfl)) (fun _ _ _ _ _ => (nG 1)) (fun _ _ _ _ _ => dts_nil) (fun _ _ _ _ _ => (dq_of (de_cmp od_ltI (dp_of (dq_of (de_ix (id_ix hu) (nP 0) (nP 1)))) (dp_of (dq_of (de_ix (id_ix hu) (nP 0) (dp_of (dq_of (de_op od_add (nP 1) (dp_of dq_int)))))))))))))))
theorem db_is_number {k : Nat} (T : Txt K mg) (hr : Room k (A.deeper (envOfC "is_number" (defScope s_is_number) s.heap.objs.size f cdv)))  : DB (cxOf CX0 P w K mg base N_is_number "is_number" (defScope s_is_number) f cdv A outer s H E).nox (defBody s_is_number) m_is_number :=
  have hc : (cxOf CX0 P w K mg base N_is_number "is_number" (defScope s_is_number) f cdv A outer s H E).nox.calm = true := rfl
  have hu : (A.deeper (envOfC "is_number" (defScope s_is_number) s.heap.objs.size f cdv)).units + 65 < cLine := by have := hr.un; omega
  have hN : N_is_number.Nodup := sc_is_number.nd
  (db_one (ds_ret (de_of (dq_and (dq_of (de_isi (by rfl) T.b_isinstance (by rfl) T.b_int PyProof.Rows.boot_int (nP 0))) (dq_and (dq_not (dq_of (de_isi (by rfl) T.b_isinstance (by rfl) T.b_bool PyProof.Rows.boot_bool (nP 0)))) (dq_one (dq_of (de_chain od_leI od_leI (nP 1) (nP 0) (nP 2)))))))))
theorem db_do_give {k : Nat} (T : Txt K mg) (hr : Room k (A.deeper (envOfC "do_give" (defScope s_do_give) s.heap.objs.size f cdv))) (F_is_number : FnD P w K mg base "is_number" k 3 fn_is_number) (F_lacking_letters : FnD P w K mg base "lacking_letters" k 3 fn_lacking_letters) (F_is_ascending : FnD P w K mg base "is_ascending" k 1 fn_is_ascending) : DB (cxOf CX0 P w K mg base N_do_give "do_give" (defScope s_do_give) f cdv A outer s H E).nox (defBody s_do_give) m_do_give :=
  have hc : (cxOf CX0 P w K mg base N_do_give "do_give" (defScope s_do_give) f cdv A outer s H E).nox.calm = true := rfl
  have hu : (A.deeper (envOfC "do_give" (defScope s_do_give) s.heap.objs.size f cdv)).units + 65 < cLine := by have := hr.un; omega
  have hN : N_do_give.Nodup := sc_do_give.nd
  (db_cons (ds_if (dt_of (dw_or (dt_not (dt_truth (dp_of (dq_of (de_isi (by rfl) T.b_isinstance (by rfl) T.b_tuple PyProof.Rows.boot_tuple (nP 2)))))) (dw_or1 (dt_not (dt_truth (dp_of (dq_of (de_call1B (cd_all hc) (by rfl) T.b_all PyProof.Rows.boot_all (de_ofC (dc_lc (own := [((Str.ofString "k"), 3)]) hc hN (di_val (nP 2)) (blkOk_by (by rfl)) (fun _ _ _ _ _ => (nG 3)) (fun _ _ _ _ _ => dts_nil) (fun _ _ _ _ _ => (dq_of (de_call F_is_number hr (by rfl) (da_cons (nP 3) (da_cons (dp_of dq_int) (da_cons (dp_of (dq_of (de_op od_sub (dp_of (dq_of (de_callB cd_len (by rfl) T.b_len PySem.boot_len (da_cons (nP 0) da_nil)))) (dp_of dq_int)))) da_nil))) (mCons_len (mCons_len (mCons_len mNil_len)))))))))))))))) (db_one (ds_ret (de_of dq_bl))) db_nil)
  (db_one (ds_ret (de_of (dq_and (dq_of (de_call F_is_ascending hr (by rfl) (da_cons (nP 2) da_nil) (mCons_len mNil_len))) (dq_one (dq_of (de_cmp (od_eq hu) (dp_of (dq_of (de_call F_lacking_letters hr (by rfl) (da_cons (nP 0) (da_cons (nP 2) (da_cons (nP 1) da_nil))) (mCons_len (mCons_len (mCons_len mNil_len)))))) (dp_of (dq_tup dv_nil))))))))))
theorem db__law_is_note {k : Nat} (T : Txt K mg) (hr : Room k (A.deeper (envOfC "_law_is_note" (defScope s__law_is_note) s.heap.objs.size f cdv)))  : DB (cxOf CX0 P w K mg base N__law_is_note "_law_is_note" (defScope s__law_is_note) f cdv A outer s H E).nox (defBody s__law_is_note) m__law_is_note :=
  have hc : (cxOf CX0 P w K mg base N__law_is_note "_law_is_note" (defScope s__law_is_note) f cdv A outer s H E).nox.calm = true := rfl
  have hu : (A.deeper (envOfC "_law_is_note" (defScope s__law_is_note) s.heap.objs.size f cdv)).units + 65 < cLine := by have := hr.un; omega
  have hN : N__law_is_note.Nodup := sc__law_is_note.nd
  (db_one (ds_ret (de_of (dq_and (dq_of (de_isi (by rfl) T.b_isinstance (by rfl) T.b_str PyProof.Rows.boot_str (nP 0))) (dq_and (dq_of (de_chain od_leI od_leI (dp_of dq_int) (dp_of (dq_of (de_callB cd_len (by rfl) T.b_len PySem.boot_len (da_cons (nP 0) da_nil)))) (dp_of dq_int))) (dq_one (dq_of (de_call1B (cd_all hc) (by rfl) T.b_all PyProof.Rows.boot_all (de_ofC (dc_lc (own := [((Str.ofString "letter"), 1)]) hc hN (di_val (nP 0)) (blkOk_by (by rfl)) (fun _ _ _ _ _ => (nG 1)) (fun _ _ _ _ _ => dts_nil) (fun _ _ _ _ _ => (dq_of (de_cmp (od_in hu) (nP 1) (dp_of dq_str))))))))))))))
theorem db_law {k : Nat} (T : Txt K mg) (hr : Room k (A.deeper (envOfC "law" (defScope s_law) s.heap.objs.size f cdv))) (F__law_draw : FnD P w K mg base "_law_draw" k 2 fnDraw) (F__law_text : FnD P w K mg base "_law_text" k 2 fn__law_text) (F__law_same : FnD P w K mg base "_law_same" k 2 fn__law_same) (F__law_sets : FnD P w K mg base "_law_sets" k 1 fn__law_sets) (F_sheet_sets : FnD P w K mg base "sheet_sets" k 1 fn_sheet_sets) (F_is_note : FnD P w K mg base "is_note" k 1 fn_is_note) (F_are_sheets : FnD P w K mg base "are_sheets" k 1 fn_are_sheets) (F__law_lacks : FnD P w K mg base "_law_lacks" k 2 fn__law_lacks) (F_lacking_letters : FnD P w K mg base "lacking_letters" k 3 fn_lacking_letters) (F_spare_sheets : FnD P w K mg base "spare_sheets" k 2 fn_spare_sheets) (F_sure_sheets : FnD P w K mg base "sure_sheets" k 2 fn_sure_sheets) (F_fewest_sheets : FnD P w K mg base "fewest_sheets" k 2 fn_fewest_sheets) (F_letter_counts : FnD P w K mg base "letter_counts" k 1 fn_letter_counts) (F_wanted_most : FnD P w K mg base "wanted_most" k 2 fn_wanted_most) (F_most_notes : FnD P w K mg base "most_notes" k 2 fn_most_notes) (F__law_bent : FnD P w K mg base "_law_bent" k 2 fn__law_bent) (F_do_give : FnD P w K mg base "do_give" k 3 fn_do_give) (F__law_is_note : FnD P w K mg base "_law_is_note" k 1 fn__law_is_note) : DB (cxOf CX0 P w K mg base N_law "law" (defScope s_law) f cdv A outer s H E).nox (defBody s_law).tail m_law :=
  have hc : (cxOf CX0 P w K mg base N_law "law" (defScope s_law) f cdv A outer s H E).nox.calm = true := rfl
  have hu : (A.deeper (envOfC "law" (defScope s_law) s.heap.objs.size f cdv)).units + 65 < cLine := by have := hr.un; omega
  have hN : N_law.Nodup := sc_law.nd
  (db_cons (ds_if (dt_cmp (od_ne hu) (dp_of (dq_tup (dv_cons (dq_gl T.g_MOST_LETTERS (by rfl)) (dv_cons (dq_gl T.g_MOST_NOTES (by rfl)) (dv_cons (dq_gl T.g_MOST_SHEETS (by rfl)) dv_nil))))) (dp_of (dq_tup (dv_cons dq_int (dv_cons dq_int (dv_cons dq_int dv_nil)))))) (db_one (ds_ret (de_of dq_bl))) db_nil)
  (db_cons (ds_for PassesOwn.never hc (di_rg1 (by rfl) T.b_range (da_cons (dp_of dq_int) da_nil)) (nG 2) (db_cons (nSet 3 (de_call1T cd_tup0 (by rfl) T.b_tuple PyProof.Rows.boot_tuple (de_ofC (dc_lc (own := [((Str.ofString "k"), 19)]) hc hN (di_rg1 (by rfl) T.b_range (da_cons (dp_of (dq_of (de_call F__law_draw hr (by rfl) (da_cons (nP 1) (da_cons (dp_of dq_int) da_nil)) (mCons_len (mCons_len mNil_len))))) da_nil)) (blkOk_by (by rfl)) (fun _ _ _ _ _ => (nG 19)) (fun _ _ _ _ _ => dts_nil) (fun _ _ _ _ _ => (dq_of (de_call F__law_text hr (by rfl) (da_cons (nP 1) (da_cons (dp_of dq_int) da_nil)) (mCons_len (mCons_len mNil_len)))))))))
  (db_cons (nParL [4, 5] (ns_cons 4 (ns_cons 5 ns_nil)) (dr_cons (de_call F__law_text hr (by rfl) (da_cons (nP 1) (da_cons (dp_of dq_int) da_nil)) (mCons_len (mCons_len mNil_len))) (dr_cons (de_callB cd_len (by rfl) T.b_len PySem.boot_len (da_cons (nP 3) da_nil)) dr_nil)))
  (db_cons (ds_if (dt_of (dw_or (dt_cmp od_isNot (dp_of (dq_of (de_call F_are_sheets hr (by rfl) (da_cons (nP 3) da_nil) (mCons_len mNil_len)))) (dp_of dq_bl)) (dw_or (dt_cmp od_isNot (dp_of (dq_of (de_call F_is_note hr (by rfl) (da_cons (nP 4) da_nil) (mCons_len mNil_len)))) (dp_of dq_bl)) (dw_or1 (dt_not (dt_truth (dp_of (dq_of (de_call F__law_same hr (by rfl) (da_cons (dp_of (dq_of (de_call F_sheet_sets hr (by rfl) (da_cons (nP 3) da_nil) (mCons_len mNil_len)))) (da_cons (dp_of (dq_of (de_call F__law_sets hr (by rfl) (da_cons (nP 5) da_nil) (mCons_len mNil_len)))) da_nil)) (mCons_len (mCons_len mNil_len))))))))))) (db_one (ds_ret (de_of dq_bl))) db_nil)
  (db_cons (nSet 6 (de_call F__law_sets hr (by rfl) (da_cons (nP 5) da_nil) (mCons_len mNil_len)))
  (db_cons (nSet 7 (de_ix (id_ix hu) (nP 6) (dp_of (dq_of (de_call F__law_draw hr (by rfl) (da_cons (nP 1) (da_cons (dp_of (dq_of (de_callB cd_len (by rfl) T.b_len PySem.boot_len (da_cons (nP 6) da_nil)))) da_nil)) (mCons_len (mCons_len mNil_len)))))))
  (db_cons (ds_if (dt_not (dt_truth (dp_of (dq_of (de_call F__law_same hr (by rfl) (da_cons (dp_of (dq_of (de_call F_lacking_letters hr (by rfl) (da_cons (nP 3) (da_cons (nP 7) (da_cons (nP 4) da_nil))) (mCons_len (mCons_len (mCons_len mNil_len)))))) (da_cons (dp_of (dq_of (de_call1T cd_tup0 (by rfl) T.b_tuple PyProof.Rows.boot_tuple (de_call F__law_lacks hr (by rfl) (da_cons (dp_of (dq_of (de_ofC (dc_lc (own := [((Str.ofString "k"), 19)]) hc hN (di_val (nP 7)) (blkOk_by (by rfl)) (fun _ _ _ _ _ => (nG 19)) (fun _ _ _ _ _ => dts_nil) (fun _ _ _ _ _ => (dq_of (de_ix (id_ix hu) (nP 3) (nP 19)))))))) (da_cons (dp_of (dq_of (de_lst (dv_cons (nQ 4) dv_nil)))) da_nil)) (mCons_len (mCons_len mNil_len)))))) da_nil)) (mCons_len (mCons_len mNil_len))))))) (db_one (ds_ret (de_of dq_bl))) db_nil)
  (db_cons (nSet 8 (de_ofC (dc_lc (own := [((Str.ofString "row"), 20)]) hc hN (di_val (nP 6)) (blkOk_by (by rfl)) (fun _ _ _ _ _ => (nG 20)) (fun _ _ _ _ _ => (dts_one (dt_cmp (od_eq hu) (dp_of (dq_of (de_call F__law_lacks hr (by rfl) (da_cons (dp_of (dq_of (de_ofC (dc_lc (own := [((Str.ofString "k"), 19)]) hc hN (di_val (nP 20)) (blkOk_by (by rfl)) (fun _ _ _ _ _ => (nG 19)) (fun _ _ _ _ _ => dts_nil) (fun _ _ _ _ _ => (dq_of (de_ix (id_ix hu) (nP 3) (nP 19)))))))) (da_cons (dp_of (dq_of (de_lst (dv_cons (nQ 4) dv_nil)))) da_nil)) (mCons_len (mCons_len mNil_len))))) (dp_of (dq_of (de_lst dv_nil)))))) (fun _ _ _ _ _ => (nQ 20)))))
  (db_cons (nSet 9 (de_ofC (dc_lc (own := [((Str.ofString "row"), 20)]) hc hN (di_val (nP 8)) (blkOk_by (by rfl)) (fun _ _ _ _ _ => (nG 20)) (fun _ _ _ _ _ => (dts_one (dt_not (dt_truth (dp_of (dq_of (de_call1B (cd_any hc) (by rfl) T.b_any PyProof.Rows.boot_any (de_ofC (dc_lc (own := [((Str.ofString "other"), 21)]) hc hN (di_val (nP 8)) (blkOk_by (by rfl)) (fun _ _ _ _ _ => (nG 21)) (fun _ _ _ _ _ => dts_nil) (fun _ _ _ _ _ => (dq_and (dq_of (de_cmp (od_ne hu) (nP 21) (nP 20))) (dq_one (dq_of (de_call1B (cd_all hc) (by rfl) T.b_all PyProof.Rows.boot_all (de_ofC (dc_lc (own := [((Str.ofString "k"), 19)]) hc hN (di_val (nP 21)) (blkOk_by (by rfl)) (fun _ _ _ _ _ => (nG 19)) (fun _ _ _ _ _ => dts_nil) (fun _ _ _ _ _ => (dq_of (de_cmp (od_in hu) (nP 19) (nP 20)))))))))))))))))))) (fun _ _ _ _ _ => (nQ 20)))))
  (db_cons (nSet 10 (de_call1T cd_tup0 (by rfl) T.b_tuple PyProof.Rows.boot_tuple (de_ofC (dc_lc (own := [((Str.ofString "k"), 19)]) hc hN (di_rg1 (by rfl) T.b_range (da_cons (nP 5) da_nil)) (blkOk_by (by rfl)) (fun _ _ _ _ _ => (nG 19)) (fun _ _ _ _ _ => (dts_one (dt_truth (dp_of (dq_of (de_call1B (cd_all hc) (by rfl) T.b_all PyProof.Rows.boot_all (de_ofC (dc_lc (own := [((Str.ofString "row"), 20)]) hc hN (di_val (nP 8)) (blkOk_by (by rfl)) (fun _ _ _ _ _ => (nG 20)) (fun _ _ _ _ _ => dts_nil) (fun _ _ _ _ _ => (dq_of (de_cmp (od_in hu) (nP 19) (nP 20)))))))))))) (fun _ _ _ _ _ => (nQ 19))))))
  (db_cons (nSet 11 (de_call1T cd_tup0 (by rfl) T.b_tuple PyProof.Rows.boot_tuple (de_ofC (dc_lc (own := [((Str.ofString "k"), 19)]) hc hN (di_rg1 (by rfl) T.b_range (da_cons (nP 5) da_nil)) (blkOk_by (by rfl)) (fun _ _ _ _ _ => (nG 19)) (fun _ _ _ _ _ => (dts_one (dt_not (dt_truth (dp_of (dq_of (de_call1B (cd_any hc) (by rfl) T.b_any PyProof.Rows.boot_any (de_ofC (dc_lc (own := [((Str.ofString "row"), 20)]) hc hN (di_val (nP 9)) (blkOk_by (by rfl)) (fun _ _ _ _ _ => (nG 20)) (fun _ _ _ _ _ => dts_nil) (fun _ _ _ _ _ => (dq_of (de_cmp (od_in hu) (nP 19) (nP 20))))))))))))) (fun _ _ _ _ _ => (nQ 19))))))
  (db_cons (nSet 12 (de_if (dt_cmp (od_ne hu) (nP 8) (dp_of (dq_of (de_lst dv_nil)))) (de_of (dq_tup (dv_cons (dq_of (de_ix (id_ix hu) (nP 8) (dp_of dq_int))) (dv_cons (nQ 10) (dv_cons (nQ 11) dv_nil))))) (de_of (dq_tup (dv_cons dq_non (dv_cons dq_non (dv_cons dq_non dv_nil)))))))
  (db_cons (ds_if (dt_not (dt_truth (dp_of (dq_of (de_call F__law_same hr (by rfl) (da_cons (dp_of (dq_tup (dv_cons (dq_of (de_call F_fewest_sheets hr (by rfl) (da_cons (nP 3) (da_cons (nP 4) da_nil)) (mCons_len (mCons_len mNil_len)))) (dv_cons (dq_of (de_call F_sure_sheets hr (by rfl) (da_cons (nP 3) (da_cons (nP 4) da_nil)) (mCons_len (mCons_len mNil_len)))) (dv_cons (dq_of (de_call F_spare_sheets hr (by rfl) (da_cons (nP 3) (da_cons (nP 4) da_nil)) (mCons_len (mCons_len mNil_len)))) dv_nil))))) (da_cons (nP 12) da_nil)) (mCons_len (mCons_len mNil_len))))))) (db_one (ds_ret (de_of dq_bl))) db_nil)
  (db_cons (nSet 13 (de_of (dq_fz (de_call F_letter_counts hr (by rfl) (da_cons (dp_of (dq_of (de_lst (dv_cons (nQ 4) dv_nil)))) da_nil) (mCons_len mNil_len)))))
  (db_cons (ds_if (dt_of (dw_or (dt_cmp (od_ne hu) (dp_of (dq_of (de_callB (cd_sorted hc hu) (by rfl) T.b_sorted PyProof.Rows.boot_sorted (da_cons (nP 13) da_nil)))) (dp_of (dq_of (de_sortSet hc hu (by rfl) T.b_sorted (by rfl) T.b_set (nP 4))))) (dw_or1 (dt_truth (dp_of (dq_of (de_call1B (cd_any hc) (by rfl) T.b_any PyProof.Rows.boot_any (de_ofC (dc_lc (own := [((Str.ofString "letter"), 22)]) hc hN (di_keysV (nZ 13)) (blkOk_by (by rfl)) (fun _ _ _ _ _ => (nG 22)) (fun _ _ _ _ _ => dts_nil) (fun _ _ _ _ _ => (dq_of (de_cmp (od_ne hu) (dp_of (dq_of (de_ix (id_ix hu) (nP 13) (nP 22)))) (dp_of (dq_of (de_mt PySem.F.plainAttrs_str PySem.F.slot_str_count PySem.F.type_str_count md_count (nP 4) (da_cons (nP 22) da_nil)))))))))))))))) (db_one (ds_ret (de_of dq_bl))) db_nil)
  (db_cons (nSet 14 (de_call1T cd_tup0 (by rfl) T.b_tuple PyProof.Rows.boot_tuple (de_ofC (dc_lc (own := [((Str.ofString "k"), 19)]) hc hN (di_rg1 (by rfl) T.b_range (da_cons (dp_of (dq_of (de_call F__law_draw hr (by rfl) (da_cons (nP 1) (da_cons (dp_of dq_int) da_nil)) (mCons_len (mCons_len mNil_len))))) da_nil)) (blkOk_by (by rfl)) (fun _ _ _ _ _ => (nG 19)) (fun _ _ _ _ _ => dts_nil) (fun _ _ _ _ _ => (dq_of (de_call F__law_text hr (by rfl) (da_cons (nP 1) (da_cons (dp_of dq_int) da_nil)) (mCons_len (mCons_len mNil_len)))))))))
  (db_cons (nSetC 15 (dc_lc (own := [((Str.ofString "row"), 20)]) hc hN (di_val (dp_of (dq_of (de_call F__law_sets hr (by rfl) (da_cons (dp_of (dq_of (de_callB cd_len (by rfl) T.b_len PySem.boot_len (da_cons (nP 14) da_nil)))) da_nil) (mCons_len mNil_len))))) (blkOk_by (by rfl)) (fun _ _ _ _ _ => (nG 20)) (fun _ _ _ _ _ => (dts_one (dt_cmp (od_eq hu) (dp_of (dq_of (de_call F__law_lacks hr (by rfl) (da_cons (nP 3) (da_cons (dp_of (dq_of (de_ofC (dc_lc (own := [((Str.ofString "k"), 19)]) hc hN (di_val (nP 20)) (blkOk_by (by rfl)) (fun _ _ _ _ _ => (nG 19)) (fun _ _ _ _ _ => dts_nil) (fun _ _ _ _ _ => (dq_of (de_ix (id_ix hu) (nP 14) (nP 19)))))))) da_nil)) (mCons_len (mCons_len mNil_len))))) (dp_of (dq_of (de_lst dv_nil)))))) (fun _ _ _ _ _ => (nQ 20))))
  (db_cons (nSet 16 (de_call1B (cd_max hc) (by rfl) T.b_max PyProof.Rows.boot_max (de_ofC (dc_lc (own := [((Str.ofString "row"), 20)]) hc hN (di_val (nP 15)) (blkOk_by (by rfl)) (fun _ _ _ _ _ => (nG 20)) (fun _ _ _ _ _ => dts_nil) (fun _ _ _ _ _ => (dq_of (de_callB cd_len (by rfl) T.b_len PySem.boot_len (da_cons (nP 20) da_nil))))))))
  (db_cons (nSet 17 (de_call F__law_lacks hr (by rfl) (da_cons (nP 3) (da_cons (nP 14) da_nil)) (mCons_len (mCons_len mNil_len))))
  (db_cons (ds_if (dt_not (dt_truth (dp_of (dq_of (de_call F__law_same hr (by rfl) (da_cons (dp_of (dq_tup (dv_cons (dq_of (de_call F_most_notes hr (by rfl) (da_cons (nP 3) (da_cons (nP 14) da_nil)) (mCons_len (mCons_len mNil_len)))) (dv_cons (dq_of (de_call F_wanted_most hr (by rfl) (da_cons (nP 3) (da_cons (nP 14) da_nil)) (mCons_len (mCons_len mNil_len)))) dv_nil)))) (da_cons (dp_of (dq_tup (dv_cons (dq_of (de_ix (id_ix hu) (dp_of (dq_of (de_ofC (dc_lc (own := [((Str.ofString "row"), 20)]) hc hN (di_val (nP 15)) (blkOk_by (by rfl)) (fun _ _ _ _ _ => (nG 20)) (fun _ _ _ _ _ => (dts_one (dt_cmp (od_eq hu) (dp_of (dq_of (de_callB cd_len (by rfl) T.b_len PySem.boot_len (da_cons (nP 20) da_nil)))) (nP 16)))) (fun _ _ _ _ _ => (nQ 20)))))) (dp_of dq_int))) (dv_cons (dq_of (de_if (dt_cmp (od_ne hu) (nP 17) (dp_of (dq_of (de_lst dv_nil)))) (de_ix (id_ix hu) (dp_of (dq_of (de_ix (id_ix hu) (nP 17) (dp_of dq_int)))) (dp_of dq_int)) (de_of dq_non))) dv_nil)))) da_nil)) (mCons_len (mCons_len mNil_len))))))) (db_one (ds_ret (de_of dq_bl))) db_nil)
  (db_cons (ds_for PassesOwn.never hc (di_val (dp_of (dq_of (de_op od_add (dp_of (dq_of (de_lst (dv_cons (nQ 7) (dv_cons (dq_of (de_rev (nP 7))) (dv_cons (dq_of (de_op od_add (nP 7) (dp_of (dq_of (de_sl sd_sl (nP 7) do_no (do_so (dp_of dq_int))))))) (dv_cons (dq_of (de_tupRg hc (by rfl) T.b_tuple (drg_1 (by rfl) T.b_range (nP 5)))) (dv_cons (dq_tup (dv_cons (nQ 5) dv_nil)) (dv_cons (dq_tup (dv_cons dq_bl dv_nil)) (dv_cons dq_non (dv_cons (dq_tup dv_nil) (dv_cons dq_int dv_nil)))))))))))) (dp_of (dq_of (de_ofC (dc_lc (own := [((Str.ofString "k"), 19)]) hc hN (di_rg1 (by rfl) T.b_range (da_cons (dp_of dq_int) da_nil)) (blkOk_by (by rfl)) (fun _ _ _ _ _ => (nG 19)) (fun _ _ _ _ _ => dts_nil) (fun _ _ _ _ _ => (dq_of (de_call F__law_bent hr (by rfl) (da_cons (nP 1) (da_cons (nP 7) da_nil)) (mCons_len (mCons_len mNil_len))))))))))))) (nG 18) (db_one (ds_if (dt_not (dt_truth (dp_of (dq_of (de_call F__law_same hr (by rfl) (da_cons (dp_of (dq_of (de_call F_do_give hr (by rfl) (da_cons (nP 3) (da_cons (nP 4) (da_cons (nP 18) da_nil))) (mCons_len (mCons_len (mCons_len mNil_len)))))) (da_cons (dp_of (dq_of (de_call1B (cd_any hc) (by rfl) T.b_any PyProof.Rows.boot_any (de_ofC (dc_lc (own := [((Str.ofString "row"), 20)]) hc hN (di_val (nP 8)) (blkOk_by (by rfl)) (fun _ _ _ _ _ => (nG 20)) (fun _ _ _ _ _ => dts_nil) (fun _ _ _ _ _ => (dq_of (de_call F__law_same hr (by rfl) (da_cons (nP 18) (da_cons (nP 20) da_nil)) (mCons_len (mCons_len mNil_len)))))))))) da_nil)) (mCons_len (mCons_len mNil_len))))))) (db_one (ds_ret (de_of dq_bl))) db_nil)))
  (db_cons (ds_for PassesOwn.never hc (di_val (dp_of (dq_of (de_op od_add (dp_of (dq_of (de_lst (dv_cons (nQ 4) (dv_cons (dq_of (de_op od_mulA (nP 4) (dp_of dq_int))) (dv_cons dq_str (dv_cons dq_str (dv_cons dq_str (dv_cons dq_str (dv_cons dq_str (dv_cons dq_str (dv_cons dq_int (dv_cons dq_non (dv_cons (dq_tup (dv_cons dq_str dv_nil)) dv_nil)))))))))))))) (dp_of (dq_of (de_ofC (dc_lc (own := [((Str.ofString "k"), 19)]) hc hN (di_rg1 (by rfl) T.b_range (da_cons (dp_of dq_int) da_nil)) (blkOk_by (by rfl)) (fun _ _ _ _ _ => (nG 19)) (fun _ _ _ _ _ => dts_nil) (fun _ _ _ _ _ => (dq_of (de_call F__law_bent hr (by rfl) (da_cons (nP 1) (da_cons (nP 4) da_nil)) (mCons_len (mCons_len mNil_len))))))))))))) (nG 18) (db_one (ds_if (dt_not (dt_truth (dp_of (dq_of (de_call F__law_same hr (by rfl) (da_cons (dp_of (dq_of (de_call F_is_note hr (by rfl) (da_cons (nP 18) da_nil) (mCons_len mNil_len)))) (da_cons (dp_of (dq_of (de_call F__law_is_note hr (by rfl) (da_cons (nP 18) da_nil) (mCons_len mNil_len)))) da_nil)) (mCons_len (mCons_len mNil_len))))))) (db_one (ds_ret (de_of dq_bl))) db_nil)))
  (db_one (ds_for PassesOwn.never hc (di_val (dp_of (dq_of (de_op od_add (dp_of (dq_of (de_lst (dv_cons (nQ 3) (dv_cons (dq_of (de_op od_add (nP 3) (dp_of (dq_tup (dv_cons dq_str dv_nil))))) (dv_cons (dq_of (de_op od_add (nP 3) (dp_of (dq_tup (dv_cons dq_int dv_nil))))) (dv_cons (dq_of (de_op od_mulA (dp_of (dq_tup (dv_cons dq_str dv_nil))) (dp_of dq_int))) (dv_cons (dq_of (de_op od_mulA (dp_of (dq_tup (dv_cons dq_str dv_nil))) (dp_of dq_int))) (dv_cons dq_non (dv_cons (dq_tup dv_nil) (dv_cons dq_str dv_nil))))))))))) (dp_of (dq_of (de_ofC (dc_lc (own := [((Str.ofString "k"), 19)]) hc hN (di_rg1 (by rfl) T.b_range (da_cons (dp_of dq_int) da_nil)) (blkOk_by (by rfl)) (fun _ _ _ _ _ => (nG 19)) (fun _ _ _ _ _ => dts_nil) (fun _ _ _ _ _ => (dq_of (de_call F__law_bent hr (by rfl) (da_cons (nP 1) (da_cons (nP 3) da_nil)) (mCons_len (mCons_len mNil_len))))))))))))) (nG 18) (db_one (ds_if (dt_not (dt_truth (dp_of (dq_of (de_call F__law_same hr (by rfl) (da_cons (dp_of (dq_of (de_call F_are_sheets hr (by rfl) (da_cons (nP 18) da_nil) (mCons_len mNil_len)))) (da_cons (dp_of (dq_and (dq_of (de_isi (by rfl) T.b_isinstance (by rfl) T.b_tuple PyProof.Rows.boot_tuple (nP 18))) (dq_and (dq_of (de_cmp od_leI (dp_of (dq_of (de_callB cd_len (by rfl) T.b_len PySem.boot_len (da_cons (nP 18) da_nil)))) (dp_of dq_int))) (dq_one (dq_of (de_call1B (cd_all hc) (by rfl) T.b_all PyProof.Rows.boot_all (de_ofC (dc_lc (own := [((Str.ofString "text"), 23)]) hc hN (di_val (nP 18)) (blkOk_by (by rfl)) (fun _ _ _ _ _ => (nG 23)) (fun _ _ _ _ _ => dts_nil) (fun _ _ _ _ _ => (dq_of (de_call F__law_is_note hr (by rfl) (da_cons (nP 23) da_nil) (mCons_len mNil_len)))))))))))) da_nil)) (mCons_len (mCons_len mNil_len))))))) (db_one (ds_ret (de_of dq_bl))) db_nil))))))))))))))))))))))))))
  (db_one (ds_ret (de_of (dq_and (dq_of (de_cmp (od_eq hu) (dp_of (dq_of (de_call F_fewest_sheets hr (by rfl) (da_cons (dp_of (dq_tup (dv_cons dq_str (dv_cons dq_str (dv_cons dq_str dv_nil))))) (da_cons (dp_of dq_str) da_nil)) (mCons_len (mCons_len mNil_len))))) (dp_of (dq_tup (dv_cons dq_int dv_nil))))) (dq_one (dq_of (de_cmp (od_eq hu) (dp_of (dq_of (de_call F_lacking_letters hr (by rfl) (da_cons (dp_of (dq_tup (dv_cons dq_str dv_nil))) (da_cons (dp_of (dq_tup (dv_cons dq_int dv_nil))) (da_cons (dp_of dq_str) da_nil))) (mCons_len (mCons_len (mCons_len mNil_len)))))) (dp_of (dq_tup (dv_cons (dq_tup (dv_cons dq_str (dv_cons dq_int dv_nil))) dv_nil))))))))))))
variable {fd : FuncData}
theorem ok__law_sets {k : Nat} (Fn : Fun K "_law_sets" "_law_sets" s__law_sets f fd) (T : Txt K mg)  : FnOk P w K mg base CX0 (k + 1) f fd ["many"] (spF K 1 fn__law_sets) :=
  fn_def Fn sc__law_sets fun cdv A outer s H E hr => db__law_sets T hr 
theorem ok_letter_counts {k : Nat} (Fn : Fun K "letter_counts" "letter_counts" s_letter_counts f fd) (T : Txt K mg)  : FnOk P w K mg base CX0 (k + 1) f fd ["texts"] (spF K 1 fn_letter_counts) :=
  fn_def Fn sc_letter_counts fun cdv A outer s H E hr => db_letter_counts T hr 
theorem ok__law_lacks {k : Nat} (Fn : Fun K "_law_lacks" "_law_lacks" s__law_lacks f fd) (T : Txt K mg)  : FnOk P w K mg base CX0 (k + 1) f fd ["texts", "notes"] (spF K 2 fn__law_lacks) :=
  fn_def Fn sc__law_lacks fun cdv A outer s H E hr => db__law_lacks T hr 
theorem ok__law_text {k : Nat} (Fn : Fun K "_law_text" "_law_text" s__law_text f fd) (T : Txt K mg) (F__law_draw : FnD P w K mg base "_law_draw" k 2 fnDraw) : FnOk P w K mg base CX0 (k + 1) f fd ["box", "most"] (spF K 2 fn__law_text) :=
  fn_def Fn sc__law_text fun cdv A outer s H E hr => db__law_text T hr F__law_draw
theorem ok__law_same {k : Nat} (Fn : Fun K "_law_same" "_law_same" s__law_same f fd) (T : Txt K mg) (hm : mg "_law_same" = some (.ref f)) (hk : PySem.W.keepIn K (.ref f) = true) (hb : Binds K fd ["a", "b"] [])  : ∀ j, FnOk P w K mg base CX0 (k + 1 + j) f fd ["a", "b"] (spF K 2 (fr__law_same j))
  | 0 => Fn.ok sc__law_same (fun vs H Q E h => h.1) fun cdv A outer s H vs Q E hr hsp => (by obtain ⟨_, _, _, _, _, _, _, _, _, _, hg, _⟩ := hsp; cases hg)
  | j + 1 => fn_def Fn sc__law_same fun cdv A outer s H E hr => db__law_same T hr (FnD.mk' hm hk hb rfl (ok__law_same Fn T hm hk hb  j))
theorem ok_sheet_sets {k : Nat} (Fn : Fun K "sheet_sets" "sheet_sets" s_sheet_sets f fd) (T : Txt K mg)  : FnOk P w K mg base CX0 (k + 1) f fd ["sheets"] (spF K 1 fn_sheet_sets) :=
  fn_def Fn sc_sheet_sets fun cdv A outer s H E hr => db_sheet_sets T hr 
theorem ok_too_few {k : Nat} (Fn : Fun K "too_few" "too_few" s_too_few f fd) (T : Txt K mg)  : FnOk P w K mg base CX0 (k + 1) f fd ["there", "wanted"] (spF K 2 fn_too_few) :=
  fn_def Fn sc_too_few fun cdv A outer s H E hr => db_too_few T hr 
theorem ok_lacking_letters {k : Nat} (Fn : Fun K "lacking_letters" "lacking_letters" s_lacking_letters f fd) (T : Txt K mg) (F_too_few : FnD P w K mg base "too_few" k 2 fn_too_few) (F_letter_counts : FnD P w K mg base "letter_counts" k 1 fn_letter_counts) : FnOk P w K mg base CX0 (k + 1) f fd ["sheets", "some", "note"] (spF K 3 fn_lacking_letters) :=
  fn_def Fn sc_lacking_letters fun cdv A outer s H E hr => db_lacking_letters T hr F_too_few F_letter_counts
theorem ok_fewest_sheets {k : Nat} (Fn : Fun K "fewest_sheets" "fewest_sheets" s_fewest_sheets f fd) (T : Txt K mg) (F_sheet_sets : FnD P w K mg base "sheet_sets" k 1 fn_sheet_sets) (F_lacking_letters : FnD P w K mg base "lacking_letters" k 3 fn_lacking_letters) : FnOk P w K mg base CX0 (k + 1) f fd ["sheets", "note"] (spF K 2 fn_fewest_sheets) :=
  fn_def Fn sc_fewest_sheets fun cdv A outer s H E hr => db_fewest_sheets T hr F_sheet_sets F_lacking_letters
theorem ok_is_note {k : Nat} (Fn : Fun K "is_note" "is_note" s_is_note f fd) (T : Txt K mg)  : FnOk P w K mg base CX0 (k + 1) f fd ["value"] (spF K 1 fn_is_note) :=
  fn_def Fn sc_is_note fun cdv A outer s H E hr => db_is_note T hr 
theorem ok_are_sheets {k : Nat} (Fn : Fun K "are_sheets" "are_sheets" s_are_sheets f fd) (T : Txt K mg) (F_is_note : FnD P w K mg base "is_note" k 1 fn_is_note) : FnOk P w K mg base CX0 (k + 1) f fd ["value"] (spF K 1 fn_are_sheets) :=
  fn_def Fn sc_are_sheets fun cdv A outer s H E hr => db_are_sheets T hr F_is_note
theorem ok__law_bent {k : Nat} (Fn : Fun K "_law_bent" "_law_bent" s__law_bent f fd) (T : Txt K mg) (hm : mg "_law_bent" = some (.ref f)) (hk : PySem.W.keepIn K (.ref f) = true) (hb : Binds K fd ["box", "value"] []) (F__law_draw : FnD P w K mg base "_law_draw" k 2 fnDraw) : ∀ j, FnOk P w K mg base CX0 (k + 1 + j) f fd ["box", "value"] (spF K 2 (fr__law_bent j))
  | 0 => Fn.ok sc__law_bent (fun vs H Q E h => h.1) fun cdv A outer s H vs Q E hr hsp => (by obtain ⟨_, _, _, _, _, _, _, _, _, _, hg, _⟩ := hsp; cases hg)
  | j + 1 => fn_def Fn sc__law_bent fun cdv A outer s H E hr => db__law_bent T hr (F__law_draw.mono (by first | omega | exact Nat.le_trans (Nat.le_succ k) (Nat.le_add_right (k + 1) j))) (FnD.mk' hm hk hb rfl (ok__law_bent Fn T hm hk hb F__law_draw j))
theorem ok_without_sheet {k : Nat} (Fn : Fun K "without_sheet" "without_sheet" s_without_sheet f fd) (T : Txt K mg)  : FnOk P w K mg base CX0 (k + 1) f fd ["some", "k"] (spF K 2 fn_without_sheet) :=
  fn_def Fn sc_without_sheet fun cdv A outer s H E hr => db_without_sheet T hr 
theorem ok_sure_sheets {k : Nat} (Fn : Fun K "sure_sheets" "sure_sheets" s_sure_sheets f fd) (T : Txt K mg) (F_lacking_letters : FnD P w K mg base "lacking_letters" k 3 fn_lacking_letters) (F_without_sheet : FnD P w K mg base "without_sheet" k 2 fn_without_sheet) : FnOk P w K mg base CX0 (k + 1) f fd ["sheets", "note"] (spF K 2 fn_sure_sheets) :=
  fn_def Fn sc_sure_sheets fun cdv A outer s H E hr => db_sure_sheets T hr F_lacking_letters F_without_sheet
theorem ok_is_smallest {k : Nat} (Fn : Fun K "is_smallest" "is_smallest" s_is_smallest f fd) (T : Txt K mg) (F_lacking_letters : FnD P w K mg base "lacking_letters" k 3 fn_lacking_letters) (F_without_sheet : FnD P w K mg base "without_sheet" k 2 fn_without_sheet) : FnOk P w K mg base CX0 (k + 1) f fd ["sheets", "some", "note"] (spF K 3 fn_is_smallest) :=
  fn_def Fn sc_is_smallest fun cdv A outer s H E hr => db_is_smallest T hr F_lacking_letters F_without_sheet
theorem ok_spare_sheets {k : Nat} (Fn : Fun K "spare_sheets" "spare_sheets" s_spare_sheets f fd) (T : Txt K mg) (F_fewest_sheets : FnD P w K mg base "fewest_sheets" k 2 fn_fewest_sheets) (F_sheet_sets : FnD P w K mg base "sheet_sets" k 1 fn_sheet_sets) (F_is_smallest : FnD P w K mg base "is_smallest" k 3 fn_is_smallest) : FnOk P w K mg base CX0 (k + 1) f fd ["sheets", "note"] (spF K 2 fn_spare_sheets) :=
  fn_def Fn sc_spare_sheets fun cdv A outer s H E hr => db_spare_sheets T hr F_fewest_sheets F_sheet_sets F_is_smallest
theorem ok_wanted_most {k : Nat} (Fn : Fun K "wanted_most" "wanted_most" s_wanted_most f fd) (T : Txt K mg) (F_too_few : FnD P w K mg base "too_few" k 2 fn_too_few) (F_letter_counts : FnD P w K mg base "letter_counts" k 1 fn_letter_counts) : FnOk P w K mg base CX0 (k + 1) f fd ["sheets", "notes"] (spF K 2 fn_wanted_most) :=
  fn_def Fn sc_wanted_most fun cdv A outer s H E hr => db_wanted_most T hr F_too_few F_letter_counts
theorem ok_most_notes {k : Nat} (Fn : Fun K "most_notes" "most_notes" s_most_notes f fd) (T : Txt K mg) (F_sheet_sets : FnD P w K mg base "sheet_sets" k 1 fn_sheet_sets) (F_wanted_most : FnD P w K mg base "wanted_most" k 2 fn_wanted_most) : FnOk P w K mg base CX0 (k + 1) f fd ["sheets", "notes"] (spF K 2 fn_most_notes) :=
  fn_def Fn sc_most_notes fun cdv A outer s H E hr => db_most_notes T hr F_sheet_sets F_wanted_most
theorem ok_is_ascending {k : Nat} (Fn : Fun K "is_ascending" "is_ascending" s_is_ascending f fd) (T : Txt K mg)  : FnOk P w K mg base CX0 (k + 1) f fd ["rows"] (spF K 1 fn_is_ascending) :=
  fn_def Fn sc_is_ascending fun cdv A outer s H E hr => db_is_ascending T hr 
theorem ok_is_number {k : Nat} (Fn : Fun K "is_number" "is_number" s_is_number f fd) (T : Txt K mg)  : FnOk P w K mg base CX0 (k + 1) f fd ["value", "least", "most"] (spF K 3 fn_is_number) :=
  fn_def Fn sc_is_number fun cdv A outer s H E hr => db_is_number T hr 
theorem ok_do_give {k : Nat} (Fn : Fun K "do_give" "do_give" s_do_give f fd) (T : Txt K mg) (F_is_number : FnD P w K mg base "is_number" k 3 fn_is_number) (F_lacking_letters : FnD P w K mg base "lacking_letters" k 3 fn_lacking_letters) (F_is_ascending : FnD P w K mg base "is_ascending" k 1 fn_is_ascending) : FnOk P w K mg base CX0 (k + 1) f fd ["sheets", "note", "value"] (spF K 3 fn_do_give) :=
  fn_def Fn sc_do_give fun cdv A outer s H E hr => db_do_give T hr F_is_number F_lacking_letters F_is_ascending
theorem ok__law_is_note {k : Nat} (Fn : Fun K "_law_is_note" "_law_is_note" s__law_is_note f fd) (T : Txt K mg)  : FnOk P w K mg base CX0 (k + 1) f fd ["value"] (spF K 1 fn__law_is_note) :=
  fn_def Fn sc__law_is_note fun cdv A outer s H E hr => db__law_is_note T hr 
theorem ok_law {k : Nat} {fb : Addr} {fdb : FuncData} (Fn : Fun K "law" "law" s_law f fd) (T : Txt K mg) (hmb : mg "_law_box" = some (.ref fb)) (hkb : PySem.W.keepIn K (.ref fb) = true) (hbb : Binds K fdb ["script"] []) (Fb : FnOk P w K mg base CX0 k fb fdb ["script"] (spBox K)) (F__law_draw : FnD P w K mg base "_law_draw" k 2 fnDraw) (F__law_text : FnD P w K mg base "_law_text" k 2 fn__law_text) (F__law_same : FnD P w K mg base "_law_same" k 2 fn__law_same) (F__law_sets : FnD P w K mg base "_law_sets" k 1 fn__law_sets) (F_sheet_sets : FnD P w K mg base "sheet_sets" k 1 fn_sheet_sets) (F_is_note : FnD P w K mg base "is_note" k 1 fn_is_note) (F_are_sheets : FnD P w K mg base "are_sheets" k 1 fn_are_sheets) (F__law_lacks : FnD P w K mg base "_law_lacks" k 2 fn__law_lacks) (F_lacking_letters : FnD P w K mg base "lacking_letters" k 3 fn_lacking_letters) (F_spare_sheets : FnD P w K mg base "spare_sheets" k 2 fn_spare_sheets) (F_sure_sheets : FnD P w K mg base "sure_sheets" k 2 fn_sure_sheets) (F_fewest_sheets : FnD P w K mg base "fewest_sheets" k 2 fn_fewest_sheets) (F_letter_counts : FnD P w K mg base "letter_counts" k 1 fn_letter_counts) (F_wanted_most : FnD P w K mg base "wanted_most" k 2 fn_wanted_most) (F_most_notes : FnD P w K mg base "most_notes" k 2 fn_most_notes) (F__law_bent : FnD P w K mg base "_law_bent" k 2 fn__law_bent) (F_do_give : FnD P w K mg base "do_give" k 3 fn_do_give) (F__law_is_note : FnD P w K mg base "_law_is_note" k 1 fn__law_is_note) (sem : LawSem m_law N_law.length 1) : FnOk P w K mg base CX0 (k + 1) f fd ["script"] (spLaw K) :=
  law_ok (ib := 1) Fn sc_law rfl (fun cdv A outer s H E hr => ps_set (i := 1) sc_law.nd rfl (by first | exact Or.inl rfl | exact Or.inr rfl) (pe_call Fb hr (by rfl) hmb hkb hbb .nil pass0 (pa_cons (pv 0) pa_nil))) (fun cdv A outer s H E hr => db_law T hr F__law_draw F__law_text F__law_same F__law_sets F_sheet_sets F_is_note F_are_sheets F__law_lacks F_lacking_letters F_spare_sheets F_sure_sheets F_fewest_sheets F_letter_counts F_wanted_most F_most_notes F__law_bent F_do_give F__law_is_note) (by decide) sem
end
theorem all_mk {l : PySem.W.OpenLaw} {w : World} {K : PySem.W.Frag} {h : Heap} {mg : Str → Option Value} {fa : Addr} (sem : LawSem m_law N_law.length 1) (X : K.In h) (G : h.Ns mainGlobals mg) (hfa : mg "law" = some (.ref fa))
    {f__law_box : Addr} {od__law_box an__law_box : Option Addr} {sl__law_box : Array (Option Value)} {oc__law_box kV__law_box dc__law_box pm__law_box cd__law_box ct__law_box : Value}
    {f__law_load : Addr} {od__law_load an__law_load : Option Addr} {sl__law_load : Array (Option Value)} {oc__law_load kV__law_load dc__law_load pm__law_load cd__law_load ct__law_load : Value}
    {f__law_draw : Addr} {od__law_draw an__law_draw : Option Addr} {sl__law_draw : Array (Option Value)} {oc__law_draw kV__law_draw dc__law_draw pm__law_draw cd__law_draw ct__law_draw : Value}
    {f__law_sets : Addr} {od__law_sets an__law_sets : Option Addr} {sl__law_sets : Array (Option Value)} {oc__law_sets kV__law_sets dc__law_sets pm__law_sets cd__law_sets ct__law_sets : Value}
    {f_letter_counts : Addr} {od_letter_counts an_letter_counts : Option Addr} {sl_letter_counts : Array (Option Value)} {oc_letter_counts kV_letter_counts dc_letter_counts pm_letter_counts cd_letter_counts ct_letter_counts : Value}
    {f__law_lacks : Addr} {od__law_lacks an__law_lacks : Option Addr} {sl__law_lacks : Array (Option Value)} {oc__law_lacks kV__law_lacks dc__law_lacks pm__law_lacks cd__law_lacks ct__law_lacks : Value}
    {f__law_text : Addr} {od__law_text an__law_text : Option Addr} {sl__law_text : Array (Option Value)} {oc__law_text kV__law_text dc__law_text pm__law_text cd__law_text ct__law_text : Value}
    {f__law_same : Addr} {od__law_same an__law_same : Option Addr} {sl__law_same : Array (Option Value)} {oc__law_same kV__law_same dc__law_same pm__law_same cd__law_same ct__law_same : Value}
    {f_sheet_sets : Addr} {od_sheet_sets an_sheet_sets : Option Addr} {sl_sheet_sets : Array (Option Value)} {oc_sheet_sets kV_sheet_sets dc_sheet_sets pm_sheet_sets cd_sheet_sets ct_sheet_sets : Value}
    {f_too_few : Addr} {od_too_few an_too_few : Option Addr} {sl_too_few : Array (Option Value)} {oc_too_few kV_too_few dc_too_few pm_too_few cd_too_few ct_too_few : Value}
    {f_lacking_letters : Addr} {od_lacking_letters an_lacking_letters : Option Addr} {sl_lacking_letters : Array (Option Value)} {oc_lacking_letters kV_lacking_letters dc_lacking_letters pm_lacking_letters cd_lacking_letters ct_lacking_letters : Value}
    {f_fewest_sheets : Addr} {od_fewest_sheets an_fewest_sheets : Option Addr} {sl_fewest_sheets : Array (Option Value)} {oc_fewest_sheets kV_fewest_sheets dc_fewest_sheets pm_fewest_sheets cd_fewest_sheets ct_fewest_sheets : Value}
    {f_is_note : Addr} {od_is_note an_is_note : Option Addr} {sl_is_note : Array (Option Value)} {oc_is_note kV_is_note dc_is_note pm_is_note cd_is_note ct_is_note : Value}
    {f_are_sheets : Addr} {od_are_sheets an_are_sheets : Option Addr} {sl_are_sheets : Array (Option Value)} {oc_are_sheets kV_are_sheets dc_are_sheets pm_are_sheets cd_are_sheets ct_are_sheets : Value}
    {f__law_bent : Addr} {od__law_bent an__law_bent : Option Addr} {sl__law_bent : Array (Option Value)} {oc__law_bent kV__law_bent dc__law_bent pm__law_bent cd__law_bent ct__law_bent : Value}
    {f_without_sheet : Addr} {od_without_sheet an_without_sheet : Option Addr} {sl_without_sheet : Array (Option Value)} {oc_without_sheet kV_without_sheet dc_without_sheet pm_without_sheet cd_without_sheet ct_without_sheet : Value}
    {f_sure_sheets : Addr} {od_sure_sheets an_sure_sheets : Option Addr} {sl_sure_sheets : Array (Option Value)} {oc_sure_sheets kV_sure_sheets dc_sure_sheets pm_sure_sheets cd_sure_sheets ct_sure_sheets : Value}
    {f_is_smallest : Addr} {od_is_smallest an_is_smallest : Option Addr} {sl_is_smallest : Array (Option Value)} {oc_is_smallest kV_is_smallest dc_is_smallest pm_is_smallest cd_is_smallest ct_is_smallest : Value}
    {f_spare_sheets : Addr} {od_spare_sheets an_spare_sheets : Option Addr} {sl_spare_sheets : Array (Option Value)} {oc_spare_sheets kV_spare_sheets dc_spare_sheets pm_spare_sheets cd_spare_sheets ct_spare_sheets : Value}
    {f_wanted_most : Addr} {od_wanted_most an_wanted_most : Option Addr} {sl_wanted_most : Array (Option Value)} {oc_wanted_most kV_wanted_most dc_wanted_most pm_wanted_most cd_wanted_most ct_wanted_most : Value}
    {f_most_notes : Addr} {od_most_notes an_most_notes : Option Addr} {sl_most_notes : Array (Option Value)} {oc_most_notes kV_most_notes dc_most_notes pm_most_notes cd_most_notes ct_most_notes : Value}
    {f_is_ascending : Addr} {od_is_ascending an_is_ascending : Option Addr} {sl_is_ascending : Array (Option Value)} {oc_is_ascending kV_is_ascending dc_is_ascending pm_is_ascending cd_is_ascending ct_is_ascending : Value}
    {f_is_number : Addr} {od_is_number an_is_number : Option Addr} {sl_is_number : Array (Option Value)} {oc_is_number kV_is_number dc_is_number pm_is_number cd_is_number ct_is_number : Value}
    {f_do_give : Addr} {od_do_give an_do_give : Option Addr} {sl_do_give : Array (Option Value)} {oc_do_give kV_do_give dc_do_give pm_do_give cd_do_give ct_do_give : Value}
    {f__law_is_note : Addr} {od__law_is_note an__law_is_note : Option Addr} {sl__law_is_note : Array (Option Value)} {oc__law_is_note kV__law_is_note dc__law_is_note pm__law_is_note cd__law_is_note ct__law_is_note : Value}
    {f_law : Addr} {od_law an_law : Option Addr} {sl_law : Array (Option Value)} {oc_law kV_law dc_law pm_law cd_law ct_law : Value}
    {t_MOST_LETTERS : Tok}
    {t_MOST_NOTES : Tok}
    {t_MOST_SHEETS : Tok}
    {t_SMALL_LETTERS : Tok}
    (a__law_box : PySem.W.nsIn K mainGlobals "_law_box" = some (some (.ref f__law_box))) (l__law_box : K.lookup f__law_box = some ⟨oc__law_box, od__law_box, .func (PySem.W.fnOf "_law_box" "_law_box" (defArgs s__law_box) (defBody s__law_box) (defScope s__law_box) .none kV__law_box dc__law_box pm__law_box an__law_box cd__law_box ct__law_box), sl__law_box⟩) (c__law_box : PySem.W.codeIn K cd__law_box "_law_box" = true) (k__law_box : PySem.W.keepIn K (.ref f__law_box) = true)
    (a__law_load : PySem.W.nsIn K mainGlobals "_law_load" = some (some (.ref f__law_load))) (l__law_load : K.lookup f__law_load = some ⟨oc__law_load, od__law_load, .func (PySem.W.fnOf "_law_load" "_law_load" (defArgs s__law_load) (defBody s__law_load) (defScope s__law_load) .none kV__law_load dc__law_load pm__law_load an__law_load cd__law_load ct__law_load), sl__law_load⟩) (c__law_load : PySem.W.codeIn K cd__law_load "_law_load" = true) (k__law_load : PySem.W.keepIn K (.ref f__law_load) = true)
    (a__law_draw : PySem.W.nsIn K mainGlobals "_law_draw" = some (some (.ref f__law_draw))) (l__law_draw : K.lookup f__law_draw = some ⟨oc__law_draw, od__law_draw, .func (PySem.W.fnOf "_law_draw" "_law_draw" (defArgs s__law_draw) (defBody s__law_draw) (defScope s__law_draw) .none kV__law_draw dc__law_draw pm__law_draw an__law_draw cd__law_draw ct__law_draw), sl__law_draw⟩) (c__law_draw : PySem.W.codeIn K cd__law_draw "_law_draw" = true) (k__law_draw : PySem.W.keepIn K (.ref f__law_draw) = true)
    (a__law_sets : PySem.W.nsIn K mainGlobals "_law_sets" = some (some (.ref f__law_sets))) (l__law_sets : K.lookup f__law_sets = some ⟨oc__law_sets, od__law_sets, .func (PySem.W.fnOf "_law_sets" "_law_sets" (defArgs s__law_sets) (defBody s__law_sets) (defScope s__law_sets) .none kV__law_sets dc__law_sets pm__law_sets an__law_sets cd__law_sets ct__law_sets), sl__law_sets⟩) (c__law_sets : PySem.W.codeIn K cd__law_sets "_law_sets" = true) (k__law_sets : PySem.W.keepIn K (.ref f__law_sets) = true)
    (a_letter_counts : PySem.W.nsIn K mainGlobals "letter_counts" = some (some (.ref f_letter_counts))) (l_letter_counts : K.lookup f_letter_counts = some ⟨oc_letter_counts, od_letter_counts, .func (PySem.W.fnOf "letter_counts" "letter_counts" (defArgs s_letter_counts) (defBody s_letter_counts) (defScope s_letter_counts) .none kV_letter_counts dc_letter_counts pm_letter_counts an_letter_counts cd_letter_counts ct_letter_counts), sl_letter_counts⟩) (c_letter_counts : PySem.W.codeIn K cd_letter_counts "letter_counts" = true) (k_letter_counts : PySem.W.keepIn K (.ref f_letter_counts) = true)
    (a__law_lacks : PySem.W.nsIn K mainGlobals "_law_lacks" = some (some (.ref f__law_lacks))) (l__law_lacks : K.lookup f__law_lacks = some ⟨oc__law_lacks, od__law_lacks, .func (PySem.W.fnOf "_law_lacks" "_law_lacks" (defArgs s__law_lacks) (defBody s__law_lacks) (defScope s__law_lacks) .none kV__law_lacks dc__law_lacks pm__law_lacks an__law_lacks cd__law_lacks ct__law_lacks), sl__law_lacks⟩) (c__law_lacks : PySem.W.codeIn K cd__law_lacks "_law_lacks" = true) (k__law_lacks : PySem.W.keepIn K (.ref f__law_lacks) = true)
    (a__law_text : PySem.W.nsIn K mainGlobals "_law_text" = some (some (.ref f__law_text))) (l__law_text : K.lookup f__law_text = some ⟨oc__law_text, od__law_text, .func (PySem.W.fnOf "_law_text" "_law_text" (defArgs s__law_text) (defBody s__law_text) (defScope s__law_text) .none kV__law_text dc__law_text pm__law_text an__law_text cd__law_text ct__law_text), sl__law_text⟩) (c__law_text : PySem.W.codeIn K cd__law_text "_law_text" = true) (k__law_text : PySem.W.keepIn K (.ref f__law_text) = true)
    (a__law_same : PySem.W.nsIn K mainGlobals "_law_same" = some (some (.ref f__law_same))) (l__law_same : K.lookup f__law_same = some ⟨oc__law_same, od__law_same, .func (PySem.W.fnOf "_law_same" "_law_same" (defArgs s__law_same) (defBody s__law_same) (defScope s__law_same) .none kV__law_same dc__law_same pm__law_same an__law_same cd__law_same ct__law_same), sl__law_same⟩) (c__law_same : PySem.W.codeIn K cd__law_same "_law_same" = true) (k__law_same : PySem.W.keepIn K (.ref f__law_same) = true)
    (a_sheet_sets : PySem.W.nsIn K mainGlobals "sheet_sets" = some (some (.ref f_sheet_sets))) (l_sheet_sets : K.lookup f_sheet_sets = some ⟨oc_sheet_sets, od_sheet_sets, .func (PySem.W.fnOf "sheet_sets" "sheet_sets" (defArgs s_sheet_sets) (defBody s_sheet_sets) (defScope s_sheet_sets) .none kV_sheet_sets dc_sheet_sets pm_sheet_sets an_sheet_sets cd_sheet_sets ct_sheet_sets), sl_sheet_sets⟩) (c_sheet_sets : PySem.W.codeIn K cd_sheet_sets "sheet_sets" = true) (k_sheet_sets : PySem.W.keepIn K (.ref f_sheet_sets) = true)
    (a_too_few : PySem.W.nsIn K mainGlobals "too_few" = some (some (.ref f_too_few))) (l_too_few : K.lookup f_too_few = some ⟨oc_too_few, od_too_few, .func (PySem.W.fnOf "too_few" "too_few" (defArgs s_too_few) (defBody s_too_few) (defScope s_too_few) .none kV_too_few dc_too_few pm_too_few an_too_few cd_too_few ct_too_few), sl_too_few⟩) (c_too_few : PySem.W.codeIn K cd_too_few "too_few" = true) (k_too_few : PySem.W.keepIn K (.ref f_too_few) = true)
    (a_lacking_letters : PySem.W.nsIn K mainGlobals "lacking_letters" = some (some (.ref f_lacking_letters))) (l_lacking_letters : K.lookup f_lacking_letters = some ⟨oc_lacking_letters, od_lacking_letters, .func (PySem.W.fnOf "lacking_letters" "lacking_letters" (defArgs s_lacking_letters) (defBody s_lacking_letters) (defScope s_lacking_letters) .none kV_lacking_letters dc_lacking_letters pm_lacking_letters an_lacking_letters cd_lacking_letters ct_lacking_letters), sl_lacking_letters⟩) (c_lacking_letters : PySem.W.codeIn K cd_lacking_letters "lacking_letters" = true) (k_lacking_letters : PySem.W.keepIn K (.ref f_lacking_letters) = true)
    (a_fewest_sheets : PySem.W.nsIn K mainGlobals "fewest_sheets" = some (some (.ref f_fewest_sheets))) (l_fewest_sheets : K.lookup f_fewest_sheets = some ⟨oc_fewest_sheets, od_fewest_sheets, .func (PySem.W.fnOf "fewest_sheets" "fewest_sheets" (defArgs s_fewest_sheets) (defBody s_fewest_sheets) (defScope s_fewest_sheets) .none kV_fewest_sheets dc_fewest_sheets pm_fewest_sheets an_fewest_sheets cd_fewest_sheets ct_fewest_sheets), sl_fewest_sheets⟩) (c_fewest_sheets : PySem.W.codeIn K cd_fewest_sheets "fewest_sheets" = true) (k_fewest_sheets : PySem.W.keepIn K (.ref f_fewest_sheets) = true)
    (a_is_note : PySem.W.nsIn K mainGlobals "is_note" = some (some (.ref f_is_note))) (l_is_note : K.lookup f_is_note = some ⟨oc_is_note, od_is_note, .func (PySem.W.fnOf "is_note" "is_note" (defArgs s_is_note) (defBody s_is_note) (defScope s_is_note) .none kV_is_note dc_is_note pm_is_note an_is_note cd_is_note ct_is_note), sl_is_note⟩) (c_is_note : PySem.W.codeIn K cd_is_note "is_note" = true) (k_is_note : PySem.W.keepIn K (.ref f_is_note) = true)
    (a_are_sheets : PySem.W.nsIn K mainGlobals "are_sheets" = some (some (.ref f_are_sheets))) (l_are_sheets : K.lookup f_are_sheets = some ⟨oc_are_sheets, od_are_sheets, .func (PySem.W.fnOf "are_sheets" "are_sheets" (defArgs s_are_sheets) (defBody s_are_sheets) (defScope s_are_sheets) .none kV_are_sheets dc_are_sheets pm_are_sheets an_are_sheets cd_are_sheets ct_are_sheets), sl_are_sheets⟩) (c_are_sheets : PySem.W.codeIn K cd_are_sheets "are_sheets" = true) (k_are_sheets : PySem.W.keepIn K (.ref f_are_sheets) = true)
    (a__law_bent : PySem.W.nsIn K mainGlobals "_law_bent" = some (some (.ref f__law_bent))) (l__law_bent : K.lookup f__law_bent = some ⟨oc__law_bent, od__law_bent, .func (PySem.W.fnOf "_law_bent" "_law_bent" (defArgs s__law_bent) (defBody s__law_bent) (defScope s__law_bent) .none kV__law_bent dc__law_bent pm__law_bent an__law_bent cd__law_bent ct__law_bent), sl__law_bent⟩) (c__law_bent : PySem.W.codeIn K cd__law_bent "_law_bent" = true) (k__law_bent : PySem.W.keepIn K (.ref f__law_bent) = true)
    (a_without_sheet : PySem.W.nsIn K mainGlobals "without_sheet" = some (some (.ref f_without_sheet))) (l_without_sheet : K.lookup f_without_sheet = some ⟨oc_without_sheet, od_without_sheet, .func (PySem.W.fnOf "without_sheet" "without_sheet" (defArgs s_without_sheet) (defBody s_without_sheet) (defScope s_without_sheet) .none kV_without_sheet dc_without_sheet pm_without_sheet an_without_sheet cd_without_sheet ct_without_sheet), sl_without_sheet⟩) (c_without_sheet : PySem.W.codeIn K cd_without_sheet "without_sheet" = true) (k_without_sheet : PySem.W.keepIn K (.ref f_without_sheet) = true)
    (a_sure_sheets : PySem.W.nsIn K mainGlobals "sure_sheets" = some (some (.ref f_sure_sheets))) (l_sure_sheets : K.lookup f_sure_sheets = some ⟨oc_sure_sheets, od_sure_sheets, .func (PySem.W.fnOf "sure_sheets" "sure_sheets" (defArgs s_sure_sheets) (defBody s_sure_sheets) (defScope s_sure_sheets) .none kV_sure_sheets dc_sure_sheets pm_sure_sheets an_sure_sheets cd_sure_sheets ct_sure_sheets), sl_sure_sheets⟩) (c_sure_sheets : PySem.W.codeIn K cd_sure_sheets "sure_sheets" = true) (k_sure_sheets : PySem.W.keepIn K (.ref f_sure_sheets) = true)
    (a_is_smallest : PySem.W.nsIn K mainGlobals "is_smallest" = some (some (.ref f_is_smallest))) (l_is_smallest : K.lookup f_is_smallest = some ⟨oc_is_smallest, od_is_smallest, .func (PySem.W.fnOf "is_smallest" "is_smallest" (defArgs s_is_smallest) (defBody s_is_smallest) (defScope s_is_smallest) .none kV_is_smallest dc_is_smallest pm_is_smallest an_is_smallest cd_is_smallest ct_is_smallest), sl_is_smallest⟩) (c_is_smallest : PySem.W.codeIn K cd_is_smallest "is_smallest" = true) (k_is_smallest : PySem.W.keepIn K (.ref f_is_smallest) = true)
    (a_spare_sheets : PySem.W.nsIn K mainGlobals "spare_sheets" = some (some (.ref f_spare_sheets))) (l_spare_sheets : K.lookup f_spare_sheets = some ⟨oc_spare_sheets, od_spare_sheets, .func (PySem.W.fnOf "spare_sheets" "spare_sheets" (defArgs s_spare_sheets) (defBody s_spare_sheets) (defScope s_spare_sheets) .none kV_spare_sheets dc_spare_sheets pm_spare_sheets an_spare_sheets cd_spare_sheets ct_spare_sheets), sl_spare_sheets⟩) (c_spare_sheets : PySem.W.codeIn K cd_spare_sheets "spare_sheets" = true) (k_spare_sheets : PySem.W.keepIn K (.ref f_spare_sheets) = true)
    (a_wanted_most : PySem.W.nsIn K mainGlobals "wanted_most" = some (some (.ref f_wanted_most))) (l_wanted_most : K.lookup f_wanted_most = some ⟨oc_wanted_most, od_wanted_most, .func (PySem.W.fnOf "wanted_most" "wanted_most" (defArgs s_wanted_most) (defBody s_wanted_most) (defScope s_wanted_most) .none kV_wanted_most dc_wanted_most pm_wanted_most an_wanted_most cd_wanted_most ct_wanted_most), sl_wanted_most⟩) (c_wanted_most : PySem.W.codeIn K cd_wanted_most "wanted_most" = true) (k_wanted_most : PySem.W.keepIn K (.ref f_wanted_most) = true)
    (a_most_notes : PySem.W.nsIn K mainGlobals "most_notes" = some (some (.ref f_most_notes))) (l_most_notes : K.lookup f_most_notes = some ⟨oc_most_notes, od_most_notes, .func (PySem.W.fnOf "most_notes" "most_notes" (defArgs s_most_notes) (defBody s_most_notes) (defScope s_most_notes) .none kV_most_notes dc_most_notes pm_most_notes an_most_notes cd_most_notes ct_most_notes), sl_most_notes⟩) (c_most_notes : PySem.W.codeIn K cd_most_notes "most_notes" = true) (k_most_notes : PySem.W.keepIn K (.ref f_most_notes) = true)
    (a_is_ascending : PySem.W.nsIn K mainGlobals "is_ascending" = some (some (.ref f_is_ascending))) (l_is_ascending : K.lookup f_is_ascending = some ⟨oc_is_ascending, od_is_ascending, .func (PySem.W.fnOf "is_ascending" "is_ascending" (defArgs s_is_ascending) (defBody s_is_ascending) (defScope s_is_ascending) .none kV_is_ascending dc_is_ascending pm_is_ascending an_is_ascending cd_is_ascending ct_is_ascending), sl_is_ascending⟩) (c_is_ascending : PySem.W.codeIn K cd_is_ascending "is_ascending" = true) (k_is_ascending : PySem.W.keepIn K (.ref f_is_ascending) = true)
    (a_is_number : PySem.W.nsIn K mainGlobals "is_number" = some (some (.ref f_is_number))) (l_is_number : K.lookup f_is_number = some ⟨oc_is_number, od_is_number, .func (PySem.W.fnOf "is_number" "is_number" (defArgs s_is_number) (defBody s_is_number) (defScope s_is_number) .none kV_is_number dc_is_number pm_is_number an_is_number cd_is_number ct_is_number), sl_is_number⟩) (c_is_number : PySem.W.codeIn K cd_is_number "is_number" = true) (k_is_number : PySem.W.keepIn K (.ref f_is_number) = true)
    (a_do_give : PySem.W.nsIn K mainGlobals "do_give" = some (some (.ref f_do_give))) (l_do_give : K.lookup f_do_give = some ⟨oc_do_give, od_do_give, .func (PySem.W.fnOf "do_give" "do_give" (defArgs s_do_give) (defBody s_do_give) (defScope s_do_give) .none kV_do_give dc_do_give pm_do_give an_do_give cd_do_give ct_do_give), sl_do_give⟩) (c_do_give : PySem.W.codeIn K cd_do_give "do_give" = true) (k_do_give : PySem.W.keepIn K (.ref f_do_give) = true)
    (a__law_is_note : PySem.W.nsIn K mainGlobals "_law_is_note" = some (some (.ref f__law_is_note))) (l__law_is_note : K.lookup f__law_is_note = some ⟨oc__law_is_note, od__law_is_note, .func (PySem.W.fnOf "_law_is_note" "_law_is_note" (defArgs s__law_is_note) (defBody s__law_is_note) (defScope s__law_is_note) .none kV__law_is_note dc__law_is_note pm__law_is_note an__law_is_note cd__law_is_note ct__law_is_note), sl__law_is_note⟩) (c__law_is_note : PySem.W.codeIn K cd__law_is_note "_law_is_note" = true) (k__law_is_note : PySem.W.keepIn K (.ref f__law_is_note) = true)
    (a_law : PySem.W.nsIn K mainGlobals "law" = some (some (.ref f_law))) (l_law : K.lookup f_law = some ⟨oc_law, od_law, .func (PySem.W.fnOf "law" "law" (defArgs s_law) (defBody s_law) (defScope s_law) .none kV_law dc_law pm_law an_law cd_law ct_law), sl_law⟩) (c_law : PySem.W.codeIn K cd_law "law" = true) (k_law : PySem.W.keepIn K (.ref f_law) = true)
    (z_all : PySem.W.nsIn K mainGlobals "all" = some none)
    (z_any : PySem.W.nsIn K mainGlobals "any" = some none)
    (z_bool : PySem.W.nsIn K mainGlobals "bool" = some none)
    (z_int : PySem.W.nsIn K mainGlobals "int" = some none)
    (z_isinstance : PySem.W.nsIn K mainGlobals "isinstance" = some none)
    (z_len : PySem.W.nsIn K mainGlobals "len" = some none)
    (z_list : PySem.W.nsIn K mainGlobals "list" = some none)
    (z_max : PySem.W.nsIn K mainGlobals "max" = some none)
    (z_range : PySem.W.nsIn K mainGlobals "range" = some none)
    (z_set : PySem.W.nsIn K mainGlobals "set" = some none)
    (z_sorted : PySem.W.nsIn K mainGlobals "sorted" = some none)
    (z_str : PySem.W.nsIn K mainGlobals "str" = some none)
    (z_tuple : PySem.W.nsIn K mainGlobals "tuple" = some none)
    (y_MOST_LETTERS : PySem.W.nsIn K mainGlobals "MOST_LETTERS" = some (some (.int 12 t_MOST_LETTERS)))
    (y_MOST_NOTES : PySem.W.nsIn K mainGlobals "MOST_NOTES" = some (some (.int 6 t_MOST_NOTES)))
    (y_MOST_SHEETS : PySem.W.nsIn K mainGlobals "MOST_SHEETS" = some (some (.int 8 t_MOST_SHEETS)))
    (y_SMALL_LETTERS : PySem.W.nsIn K mainGlobals "SMALL_LETTERS" = some (some (.str (Str.ofString "abcdefghijklmnopqrstuvwxyz") t_SMALL_LETTERS)))
    : ∃ fd : FuncData, (∀ (s : Shared) (v : Value), BindsTo s fd ⟨[v], []⟩ [("script", v)]) ∧ ∀ base : Heap, K.In base → base.Ns mainGlobals mg → FnOk l.prog w K mg base CX0 24 fa fd ["script"] (spLaw K) := by
  have e := hfa.symm.trans (PySem.W.mg_of X G a_law)
  cases e
  have T : Txt K mg := ⟨PySem.W.mg_none_of X G z_all, PySem.W.mg_none_of X G z_any, PySem.W.mg_none_of X G z_bool, PySem.W.mg_none_of X G z_int, PySem.W.mg_none_of X G z_isinstance, PySem.W.mg_none_of X G z_len, PySem.W.mg_none_of X G z_list, PySem.W.mg_none_of X G z_max, PySem.W.mg_none_of X G z_range, PySem.W.mg_none_of X G z_set, PySem.W.mg_none_of X G z_sorted, PySem.W.mg_none_of X G z_str, PySem.W.mg_none_of X G z_tuple, gl_int (PySem.W.mg_of X G y_MOST_LETTERS), gl_int (PySem.W.mg_of X G y_MOST_NOTES), gl_int (PySem.W.mg_of X G y_MOST_SHEETS), gl_str (PySem.W.mg_of X G y_SMALL_LETTERS) ⟨by decide +kernel, by decide +kernel⟩⟩
  have F__law_box := fun_mk (st := s__law_box) l__law_box c__law_box k__law_box
  have b__law_box := F__law_box.binds (ps := ["script"]) fun _ _ _ _ _ _ us hl => match us, hl with | [_], _ => rfl
  have F__law_load := fun_mk (st := s__law_load) l__law_load c__law_load k__law_load
  have b__law_load := F__law_load.binds (ps := ["box"]) fun _ _ _ _ _ _ us hl => match us, hl with | [_], _ => rfl
  have F__law_draw := fun_mk (st := s__law_draw) l__law_draw c__law_draw k__law_draw
  have b__law_draw := F__law_draw.binds (ps := ["box", "many"]) fun _ _ _ _ _ _ us hl => match us, hl with | [_, _], _ => rfl
  have F__law_sets := fun_mk (st := s__law_sets) l__law_sets c__law_sets k__law_sets
  have b__law_sets := F__law_sets.binds (ps := ["many"]) fun _ _ _ _ _ _ us hl => match us, hl with | [_], _ => rfl
  have F_letter_counts := fun_mk (st := s_letter_counts) l_letter_counts c_letter_counts k_letter_counts
  have b_letter_counts := F_letter_counts.binds (ps := ["texts"]) fun _ _ _ _ _ _ us hl => match us, hl with | [_], _ => rfl
  have F__law_lacks := fun_mk (st := s__law_lacks) l__law_lacks c__law_lacks k__law_lacks
  have b__law_lacks := F__law_lacks.binds (ps := ["texts", "notes"]) fun _ _ _ _ _ _ us hl => match us, hl with | [_, _], _ => rfl
  have F__law_text := fun_mk (st := s__law_text) l__law_text c__law_text k__law_text
  have b__law_text := F__law_text.binds (ps := ["box", "most"]) fun _ _ _ _ _ _ us hl => match us, hl with | [_, _], _ => rfl
  have F__law_same := fun_mk (st := s__law_same) l__law_same c__law_same k__law_same
  have b__law_same := F__law_same.binds (ps := ["a", "b"]) fun _ _ _ _ _ _ us hl => match us, hl with | [_, _], _ => rfl
  have F_sheet_sets := fun_mk (st := s_sheet_sets) l_sheet_sets c_sheet_sets k_sheet_sets
  have b_sheet_sets := F_sheet_sets.binds (ps := ["sheets"]) fun _ _ _ _ _ _ us hl => match us, hl with | [_], _ => rfl
  have F_too_few := fun_mk (st := s_too_few) l_too_few c_too_few k_too_few
  have b_too_few := F_too_few.binds (ps := ["there", "wanted"]) fun _ _ _ _ _ _ us hl => match us, hl with | [_, _], _ => rfl
  have F_lacking_letters := fun_mk (st := s_lacking_letters) l_lacking_letters c_lacking_letters k_lacking_letters
  have b_lacking_letters := F_lacking_letters.binds (ps := ["sheets", "some", "note"]) fun _ _ _ _ _ _ us hl => match us, hl with | [_, _, _], _ => rfl
  have F_fewest_sheets := fun_mk (st := s_fewest_sheets) l_fewest_sheets c_fewest_sheets k_fewest_sheets
  have b_fewest_sheets := F_fewest_sheets.binds (ps := ["sheets", "note"]) fun _ _ _ _ _ _ us hl => match us, hl with | [_, _], _ => rfl
  have F_is_note := fun_mk (st := s_is_note) l_is_note c_is_note k_is_note
  have b_is_note := F_is_note.binds (ps := ["value"]) fun _ _ _ _ _ _ us hl => match us, hl with | [_], _ => rfl
  have F_are_sheets := fun_mk (st := s_are_sheets) l_are_sheets c_are_sheets k_are_sheets
  have b_are_sheets := F_are_sheets.binds (ps := ["value"]) fun _ _ _ _ _ _ us hl => match us, hl with | [_], _ => rfl
  have F__law_bent := fun_mk (st := s__law_bent) l__law_bent c__law_bent k__law_bent
  have b__law_bent := F__law_bent.binds (ps := ["box", "value"]) fun _ _ _ _ _ _ us hl => match us, hl with | [_, _], _ => rfl
  have F_without_sheet := fun_mk (st := s_without_sheet) l_without_sheet c_without_sheet k_without_sheet
  have b_without_sheet := F_without_sheet.binds (ps := ["some", "k"]) fun _ _ _ _ _ _ us hl => match us, hl with | [_, _], _ => rfl
  have F_sure_sheets := fun_mk (st := s_sure_sheets) l_sure_sheets c_sure_sheets k_sure_sheets
  have b_sure_sheets := F_sure_sheets.binds (ps := ["sheets", "note"]) fun _ _ _ _ _ _ us hl => match us, hl with | [_, _], _ => rfl
  have F_is_smallest := fun_mk (st := s_is_smallest) l_is_smallest c_is_smallest k_is_smallest
  have b_is_smallest := F_is_smallest.binds (ps := ["sheets", "some", "note"]) fun _ _ _ _ _ _ us hl => match us, hl with | [_, _, _], _ => rfl
  have F_spare_sheets := fun_mk (st := s_spare_sheets) l_spare_sheets c_spare_sheets k_spare_sheets
  have b_spare_sheets := F_spare_sheets.binds (ps := ["sheets", "note"]) fun _ _ _ _ _ _ us hl => match us, hl with | [_, _], _ => rfl
  have F_wanted_most := fun_mk (st := s_wanted_most) l_wanted_most c_wanted_most k_wanted_most
  have b_wanted_most := F_wanted_most.binds (ps := ["sheets", "notes"]) fun _ _ _ _ _ _ us hl => match us, hl with | [_, _], _ => rfl
  have F_most_notes := fun_mk (st := s_most_notes) l_most_notes c_most_notes k_most_notes
  have b_most_notes := F_most_notes.binds (ps := ["sheets", "notes"]) fun _ _ _ _ _ _ us hl => match us, hl with | [_, _], _ => rfl
  have F_is_ascending := fun_mk (st := s_is_ascending) l_is_ascending c_is_ascending k_is_ascending
  have b_is_ascending := F_is_ascending.binds (ps := ["rows"]) fun _ _ _ _ _ _ us hl => match us, hl with | [_], _ => rfl
  have F_is_number := fun_mk (st := s_is_number) l_is_number c_is_number k_is_number
  have b_is_number := F_is_number.binds (ps := ["value", "least", "most"]) fun _ _ _ _ _ _ us hl => match us, hl with | [_, _, _], _ => rfl
  have F_do_give := fun_mk (st := s_do_give) l_do_give c_do_give k_do_give
  have b_do_give := F_do_give.binds (ps := ["sheets", "note", "value"]) fun _ _ _ _ _ _ us hl => match us, hl with | [_, _, _], _ => rfl
  have F__law_is_note := fun_mk (st := s__law_is_note) l__law_is_note c__law_is_note k__law_is_note
  have b__law_is_note := F__law_is_note.binds (ps := ["value"]) fun _ _ _ _ _ _ us hl => match us, hl with | [_], _ => rfl
  have F_law := fun_mk (st := s_law) l_law c_law k_law
  have b_law := F_law.binds (ps := ["script"]) fun _ _ _ _ _ _ us hl => match us, hl with | [_], _ => rfl
  refine ⟨PySem.W.fnOf "law" "law" (defArgs s_law) (defBody s_law) (defScope s_law) .none kV_law dc_law pm_law an_law cd_law ct_law, fun s v => .of_eq rfl, fun base _ _ => ?_⟩
  have G__law_load : FnD l.prog w K mg base "_law_load" 1 1 fnLoad := FnD.mk' (PySem.W.mg_of X G a__law_load) k__law_load b__law_load rfl (ok_load F__law_load sc__law_load fun cdv A outer s H E => dLoad T)
  have G__law_draw : FnD l.prog w K mg base "_law_draw" 2 2 fnDraw := FnD.mk' (PySem.W.mg_of X G a__law_draw) k__law_draw b__law_draw rfl (ok_draw F__law_draw sc__law_draw fun cdv A outer s H E hr => dDraw T hr G__law_load)
  have G__law_sets : FnD l.prog w K mg base "_law_sets" 1 1 fn__law_sets := FnD.mk' (PySem.W.mg_of X G a__law_sets) k__law_sets b__law_sets rfl (ok__law_sets (k := 0) F__law_sets T )
  have G_letter_counts : FnD l.prog w K mg base "letter_counts" 1 1 fn_letter_counts := FnD.mk' (PySem.W.mg_of X G a_letter_counts) k_letter_counts b_letter_counts rfl (ok_letter_counts (k := 0) F_letter_counts T )
  have G__law_lacks : FnD l.prog w K mg base "_law_lacks" 1 2 fn__law_lacks := FnD.mk' (PySem.W.mg_of X G a__law_lacks) k__law_lacks b__law_lacks rfl (ok__law_lacks (k := 0) F__law_lacks T )
  have G__law_text : FnD l.prog w K mg base "_law_text" 3 2 fn__law_text := FnD.mk' (PySem.W.mg_of X G a__law_text) k__law_text b__law_text rfl (ok__law_text (k := 2) F__law_text T (G__law_draw.mono (by decide)))
  have G__law_same : FnD l.prog w K mg base "_law_same" 21 2 fn__law_same := FnD.mk' (PySem.W.mg_of X G a__law_same) k__law_same b__law_same rfl (ok__law_same (k := 0) F__law_same T (PySem.W.mg_of X G a__law_same) k__law_same b__law_same  d__law_same)
  have G_sheet_sets : FnD l.prog w K mg base "sheet_sets" 1 1 fn_sheet_sets := FnD.mk' (PySem.W.mg_of X G a_sheet_sets) k_sheet_sets b_sheet_sets rfl (ok_sheet_sets (k := 0) F_sheet_sets T )
  have G_too_few : FnD l.prog w K mg base "too_few" 1 2 fn_too_few := FnD.mk' (PySem.W.mg_of X G a_too_few) k_too_few b_too_few rfl (ok_too_few (k := 0) F_too_few T )
  have G_lacking_letters : FnD l.prog w K mg base "lacking_letters" 2 3 fn_lacking_letters := FnD.mk' (PySem.W.mg_of X G a_lacking_letters) k_lacking_letters b_lacking_letters rfl (ok_lacking_letters (k := 1) F_lacking_letters T (G_too_few.mono (by decide)) (G_letter_counts.mono (by decide)))
  have G_fewest_sheets : FnD l.prog w K mg base "fewest_sheets" 3 2 fn_fewest_sheets := FnD.mk' (PySem.W.mg_of X G a_fewest_sheets) k_fewest_sheets b_fewest_sheets rfl (ok_fewest_sheets (k := 2) F_fewest_sheets T (G_sheet_sets.mono (by decide)) (G_lacking_letters.mono (by decide)))
  have G_is_note : FnD l.prog w K mg base "is_note" 1 1 fn_is_note := FnD.mk' (PySem.W.mg_of X G a_is_note) k_is_note b_is_note rfl (ok_is_note (k := 0) F_is_note T )
  have G_are_sheets : FnD l.prog w K mg base "are_sheets" 2 1 fn_are_sheets := FnD.mk' (PySem.W.mg_of X G a_are_sheets) k_are_sheets b_are_sheets rfl (ok_are_sheets (k := 1) F_are_sheets T (G_is_note.mono (by decide)))
  have G__law_bent : FnD l.prog w K mg base "_law_bent" 23 2 fn__law_bent := FnD.mk' (PySem.W.mg_of X G a__law_bent) k__law_bent b__law_bent rfl (ok__law_bent (k := 2) F__law_bent T (PySem.W.mg_of X G a__law_bent) k__law_bent b__law_bent (G__law_draw.mono (by decide)) d__law_bent)
  have G_without_sheet : FnD l.prog w K mg base "without_sheet" 1 2 fn_without_sheet := FnD.mk' (PySem.W.mg_of X G a_without_sheet) k_without_sheet b_without_sheet rfl (ok_without_sheet (k := 0) F_without_sheet T )
  have G_sure_sheets : FnD l.prog w K mg base "sure_sheets" 3 2 fn_sure_sheets := FnD.mk' (PySem.W.mg_of X G a_sure_sheets) k_sure_sheets b_sure_sheets rfl (ok_sure_sheets (k := 2) F_sure_sheets T (G_lacking_letters.mono (by decide)) (G_without_sheet.mono (by decide)))
  have G_is_smallest : FnD l.prog w K mg base "is_smallest" 3 3 fn_is_smallest := FnD.mk' (PySem.W.mg_of X G a_is_smallest) k_is_smallest b_is_smallest rfl (ok_is_smallest (k := 2) F_is_smallest T (G_lacking_letters.mono (by decide)) (G_without_sheet.mono (by decide)))
  have G_spare_sheets : FnD l.prog w K mg base "spare_sheets" 4 2 fn_spare_sheets := FnD.mk' (PySem.W.mg_of X G a_spare_sheets) k_spare_sheets b_spare_sheets rfl (ok_spare_sheets (k := 3) F_spare_sheets T (G_fewest_sheets.mono (by decide)) (G_sheet_sets.mono (by decide)) (G_is_smallest.mono (by decide)))
  have G_wanted_most : FnD l.prog w K mg base "wanted_most" 2 2 fn_wanted_most := FnD.mk' (PySem.W.mg_of X G a_wanted_most) k_wanted_most b_wanted_most rfl (ok_wanted_most (k := 1) F_wanted_most T (G_too_few.mono (by decide)) (G_letter_counts.mono (by decide)))
  have G_most_notes : FnD l.prog w K mg base "most_notes" 3 2 fn_most_notes := FnD.mk' (PySem.W.mg_of X G a_most_notes) k_most_notes b_most_notes rfl (ok_most_notes (k := 2) F_most_notes T (G_sheet_sets.mono (by decide)) (G_wanted_most.mono (by decide)))
  have G_is_ascending : FnD l.prog w K mg base "is_ascending" 1 1 fn_is_ascending := FnD.mk' (PySem.W.mg_of X G a_is_ascending) k_is_ascending b_is_ascending rfl (ok_is_ascending (k := 0) F_is_ascending T )
  have G_is_number : FnD l.prog w K mg base "is_number" 1 3 fn_is_number := FnD.mk' (PySem.W.mg_of X G a_is_number) k_is_number b_is_number rfl (ok_is_number (k := 0) F_is_number T )
  have G_do_give : FnD l.prog w K mg base "do_give" 3 3 fn_do_give := FnD.mk' (PySem.W.mg_of X G a_do_give) k_do_give b_do_give rfl (ok_do_give (k := 2) F_do_give T (G_is_number.mono (by decide)) (G_lacking_letters.mono (by decide)) (G_is_ascending.mono (by decide)))
  have G__law_is_note : FnD l.prog w K mg base "_law_is_note" 1 1 fn__law_is_note := FnD.mk' (PySem.W.mg_of X G a__law_is_note) k__law_is_note b__law_is_note rfl (ok__law_is_note (k := 0) F__law_is_note T )
  exact ok_law (k := 23) F_law T (PySem.W.mg_of X G a__law_box) k__law_box b__law_box ((ok_box F__law_box sc__law_box fun cdv A outer s H E => dBox T).mono (by decide)) (G__law_draw.mono (by decide)) (G__law_text.mono (by decide)) (G__law_same.mono (by decide)) (G__law_sets.mono (by decide)) (G_sheet_sets.mono (by decide)) (G_is_note.mono (by decide)) (G_are_sheets.mono (by decide)) (G__law_lacks.mono (by decide)) (G_lacking_letters.mono (by decide)) (G_spare_sheets.mono (by decide)) (G_sure_sheets.mono (by decide)) (G_fewest_sheets.mono (by decide)) (G_letter_counts.mono (by decide)) (G_wanted_most.mono (by decide)) (G_most_notes.mono (by decide)) (G__law_bent.mono (by decide)) (G_do_give.mono (by decide)) (G__law_is_note.mono (by decide)) sem
theorem walk {l : PySem.W.OpenLaw} {q : Program} {loose : List Str} {XP : (Str → Option Value) → Heap → Prop} {YP : World → Heap → Prop} {d : DefRec} {K : Params → PySem.W.Frag} (hn : l.most = some 63) (hdf : d.params.defaults = [])
    (hY : ∀ (w : World) (h : Heap), YP w h → (K w.params).In h)
    (F : ∀ (w : World) (mg : Str → Option Value) (fa : Addr) (h : Heap), (K w.params).In h → h.Ns mainGlobals mg → mg d.name = some (.ref fa) →
      ∃ fd : FuncData, (∀ (s : Shared) (u : Value), BindsTo s fd ⟨[u], []⟩ [("script", u)]) ∧ ∀ base : Heap, (K w.params).In base → base.Ns mainGlobals mg → FnOk l.prog w (K w.params) mg base CX0 24 fa fd ["script"] (spLaw (K w.params))) :
    PySem.W.WalkO q loose XP YP l.row.toRowW d [] (fun f vs => PySem.call f vs) :=
  L2.walk_ofB (n := 63) (k := 24) (x := "script") (CX := fun _ => CX0) (sp := fun w => spLaw (K w.params)) hn (by decide) hdf ⟨rfl, by decide, by decide⟩ hY F (fun _ _ a ns hl hb _ hS => ⟨a, ns, rfl, hS, hl, hb, fun _ => rfl⟩) fun _ _ _ _ _ z => z
end K32

namespace K32
open PySem L2 PyProof.Rows PV
noncomputable abbrev q0 : EF Fl := (bIf (mBl (m2 dNe (mP (mTup (mCons (mC g_MOST_LETTERS) (mCons (mC g_MOST_NOTES) (mCons (mC g_MOST_SHEETS) mNil))))) (mP (mTup (mCons (mC (.int 12)) (mCons (mC (.int 6)) (mCons (mC (.int 8)) mNil))))))) (bRet (mE (mC (.bl false)))) bNil)
noncomputable abbrev q1b0 : EF Fl := (bSet 3 (mCall1 cTup (mLc (iRg1 (mCons (mP (mQ (mFn fnDraw (mCons (mSlot 1) (mCons (mP (mC (.int 7))) mNil))))) mNil)) (gSet 19) mYes (mQ (mFn fn__law_text (mCons (mSlot 1) (mCons (mP (mC (.int 4))) mNil)))) [19])))
noncomputable abbrev q1b1 : EF Fl := (bParL [4, 5] (mCons (mFn fn__law_text (mCons (mSlot 1) (mCons (mP (mC (.int 6))) mNil))) (mCons (mCall cLenA (mCons (mSlot 3) mNil)) mNil)))
noncomputable abbrev q1b2 : EF Fl := (bIf (mOr (mBl (m2 (dIs true) (mP (mQ (mFn fn_are_sheets (mCons (mSlot 3) mNil)))) (mP (mC (.bl true))))) (mOr (mBl (m2 (dIs true) (mP (mQ (mFn fn_is_note (mCons (mSlot 4) mNil)))) (mP (mC (.bl true))))) (mNot (mTru (mP (mQ (mFn fn__law_same (mCons (mP (mQ (mFn fn_sheet_sets (mCons (mSlot 3) mNil)))) (mCons (mP (mQ (mFn fn__law_sets (mCons (mSlot 5) mNil)))) mNil))))))))) (bRet (mE (mC (.bl false)))) bNil)
noncomputable abbrev q1b3 : EF Fl := (bSet 6 (mFn fn__law_sets (mCons (mSlot 5) mNil)))
noncomputable abbrev q1b4 : EF Fl := (bSet 7 (m2 dIx (mSlot 6) (mP (mQ (mFn fnDraw (mCons (mSlot 1) (mCons (mP (mQ (mCall cLenA (mCons (mSlot 6) mNil)))) mNil)))))))
noncomputable abbrev q1b5 : EF Fl := (bIf (mNot (mTru (mP (mQ (mFn fn__law_same (mCons (mP (mQ (mFn fn_lacking_letters (mCons (mSlot 3) (mCons (mSlot 7) (mCons (mSlot 4) mNil)))))) (mCons (mP (mQ (mCall1 cTup (mFn fn__law_lacks (mCons (mP (mQ (mLc (iVal (mSlot 7)) (gSet 19) mYes (mQ (m2 dIx (mSlot 3) (mSlot 19))) [19]))) (mCons (mP (mQ (mLst (mCons (mVar 4) mNil)))) mNil)))))) mNil))))))) (bRet (mE (mC (.bl false)))) bNil)
noncomputable abbrev q1b6 : EF Fl := (bSet 8 (mLc (iVal (mSlot 6)) (gSet 20) (mBl (m2 dEq (mP (mQ (mFn fn__law_lacks (mCons (mP (mQ (mLc (iVal (mSlot 20)) (gSet 19) mYes (mQ (m2 dIx (mSlot 3) (mSlot 19))) [19]))) (mCons (mP (mQ (mLst (mCons (mVar 4) mNil)))) mNil))))) (mP (mQ (mLst mNil))))) (mVar 20) [20]))
noncomputable abbrev q1b7 : EF Fl := (bSet 9 (mLc (iVal (mSlot 8)) (gSet 20) (mNot (mTru (mP (mQ (mCall1 cAny (mLc (iVal (mSlot 8)) (gSet 21) mYes (mAndV (mQ (m2 dNe (mSlot 21) (mSlot 20))) (mQ (mCall1 cAll (mLc (iVal (mSlot 21)) (gSet 19) mYes (mQ (m2 (dIn false) (mSlot 19) (mSlot 20))) [19])))) [21])))))) (mVar 20) [20]))
noncomputable abbrev q1b8 : EF Fl := (bSet 10 (mCall1 cTup (mLc (iRg1 (mCons (mSlot 5) mNil)) (gSet 19) (mTru (mP (mQ (mCall1 cAll (mLc (iVal (mSlot 8)) (gSet 20) mYes (mQ (m2 (dIn false) (mSlot 19) (mSlot 20))) [20]))))) (mVar 19) [19])))
noncomputable abbrev q1b9 : EF Fl := (bSet 11 (mCall1 cTup (mLc (iRg1 (mCons (mSlot 5) mNil)) (gSet 19) (mNot (mTru (mP (mQ (mCall1 cAny (mLc (iVal (mSlot 9)) (gSet 20) mYes (mQ (m2 (dIn false) (mSlot 19) (mSlot 20))) [20])))))) (mVar 19) [19])))
noncomputable abbrev q1b10 : EF Fl := (bSet 12 (mIf (mBl (m2 dNe (mSlot 8) (mP (mQ (mLst mNil))))) (mE (mTup (mCons (mQ (m2 dIx (mSlot 8) (mP (mC (.int 0))))) (mCons (mVar 10) (mCons (mVar 11) mNil))))) (mE (mTup (mCons (mC .non) (mCons (mC .non) (mCons (mC .non) mNil)))))))
noncomputable abbrev q1b11 : EF Fl := (bIf (mNot (mTru (mP (mQ (mFn fn__law_same (mCons (mP (mTup (mCons (mQ (mFn fn_fewest_sheets (mCons (mSlot 3) (mCons (mSlot 4) mNil)))) (mCons (mQ (mFn fn_sure_sheets (mCons (mSlot 3) (mCons (mSlot 4) mNil)))) (mCons (mQ (mFn fn_spare_sheets (mCons (mSlot 3) (mCons (mSlot 4) mNil)))) mNil))))) (mCons (mSlot 12) mNil))))))) (bRet (mE (mC (.bl false)))) bNil)
noncomputable abbrev q1b12 : EF Fl := (bSet 13 (mE (mQz (mFn fn_letter_counts (mCons (mP (mQ (mLst (mCons (mVar 4) mNil)))) mNil)))))
noncomputable abbrev q1b13 : EF Fl := (bIf (mOr (mBl (m2 dNe (mP (mQ (mCall cSorted (mCons (mSlot 13) mNil)))) (mP (mQ (mSortSet (mSlot 4)))))) (mTru (mP (mQ (mCall1 cAny (mLc (iKeysV (mVarz 13)) (gSet 22) mYes (mQ (m2 dNe (mP (mQ (m2 dIx (mSlot 13) (mSlot 22)))) (mP (mQ (mMt "str" tCount (mSlot 4) (mCons (mSlot 22) mNil)))))) [22])))))) (bRet (mE (mC (.bl false)))) bNil)
noncomputable abbrev q1b14 : EF Fl := (bSet 14 (mCall1 cTup (mLc (iRg1 (mCons (mP (mQ (mFn fnDraw (mCons (mSlot 1) (mCons (mP (mC (.int 5))) mNil))))) mNil)) (gSet 19) mYes (mQ (mFn fn__law_text (mCons (mSlot 1) (mCons (mP (mC (.int 4))) mNil)))) [19])))
noncomputable abbrev q1b15 : EF Fl := (bSet 15 (mLc (iVal (mP (mQ (mFn fn__law_sets (mCons (mP (mQ (mCall cLenA (mCons (mSlot 14) mNil)))) mNil))))) (gSet 20) (mBl (m2 dEq (mP (mQ (mFn fn__law_lacks (mCons (mSlot 3) (mCons (mP (mQ (mLc (iVal (mSlot 20)) (gSet 19) mYes (mQ (m2 dIx (mSlot 14) (mSlot 19))) [19]))) mNil))))) (mP (mQ (mLst mNil))))) (mVar 20) [20]))
noncomputable abbrev q1b16 : EF Fl := (bSet 16 (mCall1 cMaxA (mLc (iVal (mSlot 15)) (gSet 20) mYes (mQ (mCall cLenA (mCons (mSlot 20) mNil))) [20])))
noncomputable abbrev q1b17 : EF Fl := (bSet 17 (mFn fn__law_lacks (mCons (mSlot 3) (mCons (mSlot 14) mNil))))
noncomputable abbrev q1b18 : EF Fl := (bIf (mNot (mTru (mP (mQ (mFn fn__law_same (mCons (mP (mTup (mCons (mQ (mFn fn_most_notes (mCons (mSlot 3) (mCons (mSlot 14) mNil)))) (mCons (mQ (mFn fn_wanted_most (mCons (mSlot 3) (mCons (mSlot 14) mNil)))) mNil)))) (mCons (mP (mTup (mCons (mQ (m2 dIx (mP (mQ (mLc (iVal (mSlot 15)) (gSet 20) (mBl (m2 dEq (mP (mQ (mCall cLenA (mCons (mSlot 20) mNil)))) (mSlot 16))) (mVar 20) [20]))) (mP (mC (.int 0))))) (mCons (mQ (mIf (mBl (m2 dNe (mSlot 17) (mP (mQ (mLst mNil))))) (m2 dIx (mP (mQ (m2 dIx (mSlot 17) (mP (mC (.int 0)))))) (mP (mC (.int 0)))) (mE (mC .non)))) mNil)))) mNil))))))) (bRet (mE (mC (.bl false)))) bNil)
noncomputable abbrev q1b19b0 : EF Fl := (bIf (mNot (mTru (mP (mQ (mFn fn__law_same (mCons (mP (mQ (mFn fn_do_give (mCons (mSlot 3) (mCons (mSlot 4) (mCons (mSlot 18) mNil)))))) (mCons (mP (mQ (mCall1 cAny (mLc (iVal (mSlot 8)) (gSet 20) mYes (mQ (mFn fn__law_same (mCons (mSlot 18) (mCons (mSlot 20) mNil)))) [20])))) mNil))))))) (bRet (mE (mC (.bl false)))) bNil)
noncomputable abbrev q1b19b : EF Fl := q1b19b0
noncomputable abbrev q1b19 : EF Fl := (bFor (iVal (mP (mQ (m2 dAdd (mP (mQ (mLst (mCons (mVar 7) (mCons (mQ (m1 dRev (mSlot 7))) (mCons (mQ (m2 dAdd (mSlot 7) (mP (mQ (mSl dSl (mSlot 7) oNo (oSo (mP (mC (.int 1))))))))) (mCons (mQ (mTupRg (mRg1 (mSlot 5)))) (mCons (mTup (mCons (mVar 5) mNil)) (mCons (mTup (mCons (mC (.bl true)) mNil)) (mCons (mC .non) (mCons (mTup mNil) (mCons (mC (.int 0)) mNil)))))))))))) (mP (mQ (mLc (iRg1 (mCons (mP (mC (.int 3))) mNil)) (gSet 19) mYes (mQ (mFn fn__law_bent (mCons (mSlot 1) (mCons (mSlot 7) mNil)))) [19]))))))) (gSet 18) q1b19b)
noncomputable abbrev q1b20b0 : EF Fl := (bIf (mNot (mTru (mP (mQ (mFn fn__law_same (mCons (mP (mQ (mFn fn_is_note (mCons (mSlot 18) mNil)))) (mCons (mP (mQ (mFn fn__law_is_note (mCons (mSlot 18) mNil)))) mNil))))))) (bRet (mE (mC (.bl false)))) bNil)
noncomputable abbrev q1b20b : EF Fl := q1b20b0
noncomputable abbrev q1b20 : EF Fl := (bFor (iVal (mP (mQ (m2 dAdd (mP (mQ (mLst (mCons (mVar 4) (mCons (mQ (m2 dMulA (mSlot 4) (mP (mC (.int 3))))) (mCons (mC (.str (Str.ofString ""))) (mCons (mC (.str (Str.ofString "A"))) (mCons (mC (.str (Str.ofString "a b"))) (mCons (mC (.str (Str.ofString "a1"))) (mCons (mC (.str (Str.ofString "abcdefghijkl"))) (mCons (mC (.str (Str.ofString "abcdefghijklm"))) (mCons (mC (.int 5)) (mCons (mC .non) (mCons (mTup (mCons (mC (.str (Str.ofString "a"))) mNil)) mNil)))))))))))))) (mP (mQ (mLc (iRg1 (mCons (mP (mC (.int 3))) mNil)) (gSet 19) mYes (mQ (mFn fn__law_bent (mCons (mSlot 1) (mCons (mSlot 4) mNil)))) [19]))))))) (gSet 18) q1b20b)
noncomputable abbrev q1b21b0 : EF Fl := (bIf (mNot (mTru (mP (mQ (mFn fn__law_same (mCons (mP (mQ (mFn fn_are_sheets (mCons (mSlot 18) mNil)))) (mCons (mP (mAndV (mQ (mIsi "tuple" (mSlot 18))) (mAndV (mQ (m2 dLeI (mP (mQ (mCall cLenA (mCons (mSlot 18) mNil)))) (mP (mC (.int 8))))) (mQ (mCall1 cAll (mLc (iVal (mSlot 18)) (gSet 23) mYes (mQ (mFn fn__law_is_note (mCons (mSlot 23) mNil))) [23])))))) mNil))))))) (bRet (mE (mC (.bl false)))) bNil)
noncomputable abbrev q1b21b : EF Fl := q1b21b0
noncomputable abbrev q1b21 : EF Fl := (bFor (iVal (mP (mQ (m2 dAdd (mP (mQ (mLst (mCons (mVar 3) (mCons (mQ (m2 dAdd (mSlot 3) (mP (mTup (mCons (mC (.str (Str.ofString ""))) mNil))))) (mCons (mQ (m2 dAdd (mSlot 3) (mP (mTup (mCons (mC (.int 5)) mNil))))) (mCons (mQ (m2 dMulA (mP (mTup (mCons (mC (.str (Str.ofString "a"))) mNil))) (mP (mC (.int 8))))) (mCons (mQ (m2 dMulA (mP (mTup (mCons (mC (.str (Str.ofString "a"))) mNil))) (mP (mC (.int 9))))) (mCons (mC .non) (mCons (mTup mNil) (mCons (mC (.str (Str.ofString "ab"))) mNil))))))))))) (mP (mQ (mLc (iRg1 (mCons (mP (mC (.int 3))) mNil)) (gSet 19) mYes (mQ (mFn fn__law_bent (mCons (mSlot 1) (mCons (mSlot 3) mNil)))) [19]))))))) (gSet 18) q1b21b)
noncomputable abbrev q1b : EF Fl := (bSeq q1b0 (bSeq q1b1 (bSeq q1b2 (bSeq q1b3 (bSeq q1b4 (bSeq q1b5 (bSeq q1b6 (bSeq q1b7 (bSeq q1b8 (bSeq q1b9 (bSeq q1b10 (bSeq q1b11 (bSeq q1b12 (bSeq q1b13 (bSeq q1b14 (bSeq q1b15 (bSeq q1b16 (bSeq q1b17 (bSeq q1b18 (bSeq q1b19 (bSeq q1b20 q1b21)))))))))))))))))))))
noncomputable abbrev q1 : EF Fl := (bFor (iRg1 (mCons (mP (mC (.int 5))) mNil)) (gSet 2) q1b)
noncomputable abbrev q2 : EF Fl := (bRet (mE (mAndV (mQ (m2 dEq (mP (mQ (mFn fn_fewest_sheets (mCons (mP (mTup (mCons (mC (.str (Str.ofString "ab"))) (mCons (mC (.str (Str.ofString "cc"))) (mCons (mC (.str (Str.ofString "abc"))) mNil))))) (mCons (mP (mC (.str (Str.ofString "abc")))) mNil))))) (mP (mTup (mCons (mC (.int 2)) mNil))))) (mQ (m2 dEq (mP (mQ (mFn fn_lacking_letters (mCons (mP (mTup (mCons (mC (.str (Str.ofString "ab"))) mNil))) (mCons (mP (mTup (mCons (mC (.int 0)) mNil))) (mCons (mP (mC (.str (Str.ofString "aab")))) mNil)))))) (mP (mTup (mCons (mTup (mCons (mC (.str (Str.ofString "a"))) (mCons (mC (.int 1)) mNil))) mNil))))))))
noncomputable abbrev q : EF Fl := (bSeq q0 (bSeq q1 q2))
theorem m_law_eq : m_law = q := rfl
end K32

namespace K32
open PySem L2 PyProof.Rows PV
theorem sz : sizeLine = 16777216 := sizeLine_eq
theorem pow12 {k n : Nat} (h : k ≤ n) (hn : n ≤ 12) : 2 ^ k ≤ 4096 := Nat.le_trans (Nat.pow_le_pow_right (by decide) (Nat.le_trans h hn)) (by decide)
/-- one turn of the loop that makes all sets -/
theorem sets_step (k : Nat) (hk : k < 12) (A : Sl) (x : Sl) (bx : Bx) :
    bSet 1 (m2 dAdd (mSlot 1) (mP (mQ (mLc (iVal (mSlot 1)) (gSet 3) mYes (mQ (m2 dAdd (mSlot 3) (mP (mTup (mCons (mVar 2) mNil))))) [3])))) ⟨[A, .o false (.lst ((subs k).map rT)), .v (.int (k : Int)), .no, .no], bx⟩
      = some (.nx, ⟨[A, .o false (.lst ((subs (k + 1)).map rT)), .v (.int (k : Int)), .no, .no], bx⟩) := by
  have hp := pow12 (k := k) (n := 12) (by omega) (Nat.le_refl _)
  have hs := sz
  have hl := subs_len k
  have := mLc_map (g := rT) (b := fun _ => true) (y := fun r => rT (r ++ [k])) (fi := iVal (mSlot 1)) (tg := gSet 3) (ft := mYes) (fe := mQ (m2 dAdd (mSlot 3) (mP (mTup (mCons (mVar 2) mNil))))) (vs := [3])
    (E := ⟨[A, .o false (.lst ((subs k).map rT)), .v (.int (k : Int)), .no, .no], bx⟩) (E1 := ⟨[A, .o true (.lst ((subs k).map rT)), .v (.int (k : Int)), .no, .no], bx⟩) (E' := ⟨[A, .o false (.lst ((subs k).map rT)), .v (.int (k : Int)), .no, .no], bx⟩) (lk := some 1) (subs k)
    (by simp) (by omega) (by simp [back, backS, wE, unlk, unl]) fun r hr => ?_
  · rw [filt] at this
    have e : dAdd (.lst ((subs k).map rT)) (.lst ((subs k).map fun r => rT (r ++ [k]))) = some (.f (.lst ((subs (k + 1)).map rT))) := by
      rw [dAdd_lst (by simp; omega)]
      simp [subs, List.map_map, Function.comp_def]
    simp [this, -e_mLc, e]
  · have hr2 : r.length ≤ 12 := by
      have h := mem_subs.mp hr
      have h3 : r.Nodup := h.1.imp fun h => by omega
      have := List.Nodup.length_le_of_subset h3 (fun x hx => List.mem_range.mpr (h.2 x hx) : r ⊆ List.range k)
      simp at this
      omega
    have e : dAdd (rT r) (.tup [.int (k : Int)]) = some (.v (rT (r ++ [k]))) := by
      rw [rT_one, dAdd_rT (by simp; omega)]
    refine ⟨⟨[A, .o true (.lst ((subs k).map rT)), .v (.int (k : Int)), .v (rT r), .no], bx⟩, ⟨[A, .o true (.lst ((subs k).map rT)), .v (.int (k : Int)), .v (rT r), .no], bx⟩, by simp [wE], rfl, fun _ => ⟨⟨[A, .o true (.lst ((subs k).map rT)), .v (.int (k : Int)), .v (rT r), .no], bx⟩, ?_, by simp [wE]⟩, fun h => by cases h⟩
    simp [e]
theorem sets_loop (n : Nat) (hn : n ≤ 12) (A : Sl) (bx : Bx) : ∃ x, bLoop (gSet 2) (bSet 1 (m2 dAdd (mSlot 1) (mP (mQ (mLc (iVal (mSlot 1)) (gSet 3) mYes (mQ (m2 dAdd (mSlot 3) (mP (mTup (mCons (mVar 2) mNil))))) [3]))))) (rangeD 0 n) ⟨[A, .o false (.lst ((subs 0).map rT)), .no, .no, .no], bx⟩
      = some (.nx, ⟨[A, .o false (.lst ((subs n).map rT)), x, .no, .no], bx⟩) := by
  have LF := bLoop_inv (tg := gSet 2) (fb := bSet 1 (m2 dAdd (mSlot 1) (mP (mQ (mLc (iVal (mSlot 1)) (gSet 3) mYes (mQ (m2 dAdd (mSlot 3) (mP (mTup (mCons (mVar 2) mNil))))) [3])))))
    (I := fun k E => ∃ x, E = ⟨[A, .o false (.lst ((subs k).map rT)), x, .no, .no], bx⟩) (rangeD 0 n) 0 ⟨[A, .o false (.lst ((subs 0).map rT)), .no, .no, .no], bx⟩ ⟨.no, rfl⟩ fun i d E hd hI => ?_
  · obtain ⟨E', h1, x, rfl⟩ := LF
    rw [rangeD_len, Nat.zero_add] at h1
    exact ⟨x, h1⟩
  · obtain ⟨x, rfl⟩ := hI
    rw [rangeD0, List.getElem?_map] at hd
    obtain ⟨j, hj, rfl⟩ := Option.map_eq_some_iff.mp hd
    have hj2 := List.getElem?_eq_some_iff.mp hj
    obtain ⟨hi, hj2⟩ := hj2
    simp at hi hj2
    subst hj2
    rw [Nat.zero_add]
    exact ⟨(), ⟨[A, .o false (.lst ((subs i).map rT)), .v (.int (i : Int)), .no, .no], bx⟩, ⟨[A, .o false (.lst ((subs (i + 1)).map rT)), .v (.int (i : Int)), .no, .no], bx⟩, by simp, .inl (sets_step i (by omega) A x bx), ⟨_, rfl⟩⟩
theorem pairs_of (n : Nat) (hn : n ≤ 12) (A x : Sl) (bx : Bx) : mCall1 cSorted (mLc (iVal (mSlot 1)) (gSet 3) mYes (mTup (mCons (mQ (mCall cLenA (mCons (mSlot 3) mNil))) (mCons (mVar 3) mNil))) [3]) ⟨[A, .o false (.lst ((subs n).map rT)), x, .no, .no], bx⟩
    = some (.f (.lst ((sets n).map pr)), ⟨[A, .o false (.lst ((subs n).map rT)), x, .no, .no], bx⟩) := by
  have hp := pow12 (k := n) (n := 12) (by omega) (Nat.le_refl _)
  have hs := sz
  have hl := subs_len n
  have := mLc_map (g := rT) (b := fun _ => true) (y := pr) (fi := iVal (mSlot 1)) (tg := gSet 3) (ft := mYes) (fe := mTup (mCons (mQ (mCall cLenA (mCons (mSlot 3) mNil))) (mCons (mVar 3) mNil))) (vs := [3])
    (E := ⟨[A, .o false (.lst ((subs n).map rT)), x, .no, .no], bx⟩) (E1 := ⟨[A, .o true (.lst ((subs n).map rT)), x, .no, .no], bx⟩) (E' := ⟨[A, .o false (.lst ((subs n).map rT)), x, .no, .no], bx⟩) (lk := some 1) (subs n)
    (by simp) (by omega) (by simp [back, backS, wE, unlk, unl]) fun r hr => ?_
  · rw [filt] at this
    simp [this, -e_mLc, cSorted_pr, sets]
  · refine ⟨⟨[A, .o true (.lst ((subs n).map rT)), x, .v (rT r), .no], bx⟩, ⟨[A, .o true (.lst ((subs n).map rT)), x, .v (rT r), .no], bx⟩, by simp [wE], rfl, fun _ => ⟨⟨[A, .o true (.lst ((subs n).map rT)), x, .v (rT r), .no], bx⟩, ?_, by simp [wE]⟩, fun h => by cases h⟩
    simp [pr]
theorem law_sets (n : Nat) (hn : n ≤ 12) (bx : Bx) : fn__law_sets [.v (.int (n : Int))] bx = some (.f (.lst ((sets n).map rT)), bx) := by
  have hp := pow12 (k := n) (n := 12) (by omega) (Nat.le_refl _)
  have hs := sz
  have hl := sets_len n
  have hr : rg (n : Int) = some (rangeD 0 n) := rg_nat (by omega)
  obtain ⟨x, h1⟩ := sets_loop n hn (.v (.int (n : Int))) bx
  have h2 := pairs_of n hn (.v (.int (n : Int))) x bx
  have h3 := mLc_map (g := pr) (b := fun _ => true) (y := rT) (fi := iVal (mP (mQ (mCall1 cSorted (mLc (iVal (mSlot 1)) (gSet 3) mYes (mTup (mCons (mQ (mCall cLenA (mCons (mSlot 3) mNil))) (mCons (mVar 3) mNil))) [3]))))) (tg := gSet 4) (ft := mYes) (fe := mQ (m2 dIx (mSlot 4) (mP (mC (.int 1))))) (vs := [4])
    (E := ⟨[.v (.int (n : Int)), .o false (.lst ((subs n).map rT)), x, .no, .no], bx⟩) (E1 := ⟨[.v (.int (n : Int)), .o false (.lst ((subs n).map rT)), x, .no, .no], bx⟩) (E' := ⟨[.v (.int (n : Int)), .o false (.lst ((subs n).map rT)), x, .no, .no], bx⟩) (lk := none) (sets n)
    (by simp only [e_iVal, e_mP, e_mQ, h2]; rfl) (by omega) (by simp [back, backS, wE, unlk]) fun r hr => ?_
  · rw [filt] at h3
    have e0 : bSet 1 (mLst (mCons (mTup mNil) mNil)) ⟨[.v (.int (n : Int)), .no, .no, .no, .no], bx⟩ = some (.nx, ⟨[.v (.int (n : Int)), .o false (.lst ((subs 0).map rT)), .no, .no, .no], bx⟩) := by simp [subs, rT]
    have e1 := bFor_ok (fi := iRg1 (mCons (mSlot 0) mNil)) (lk := none) (E := ⟨[.v (.int (n : Int)), .o false (.lst ((subs 0).map rT)), .no, .no, .no], bx⟩) (by simp [hr]) h1
    exact run_rt (bSeq_nx e0 (bSeq_nx e1 (bRet_ok h3))) rfl
  · refine ⟨⟨[.v (.int (n : Int)), .o false (.lst ((subs n).map rT)), x, .no, .v (pr r)], bx⟩, ⟨[.v (.int (n : Int)), .o false (.lst ((subs n).map rT)), x, .no, .v (pr r)], bx⟩, by simp [wE], rfl, fun _ => ⟨⟨[.v (.int (n : Int)), .o false (.lst ((subs n).map rT)), x, .no, .v (pr r)], bx⟩, ?_, by simp [wE]⟩, fun h => by cases h⟩
    have : dIx (pr r) (.int 1) = some (.v (rT r)) := by
      have := atI_nat (xs := [D.int r.length, rT r]) (i := 1) (by simp)
      unfold pr
      rw [dIx_tup]
      rw [show (1 : Int) = ((1 : Nat) : Int) from rfl, this]
      rfl
    simp [this]
end K32

namespace K32
open PySem L2 PyProof.Rows PV
theorem sheet_sets (n : Nat) (hn : n ≤ 12) (d : D) (hd : cLenA [d] = some (.v (.int (n : Int)))) (bx : Bx) : fn_sheet_sets [.v d] bx = some (.f (.lst ((sets n).map rT)), bx) := by
  have hp := pow12 (k := n) (n := 12) (by omega) (Nat.le_refl _)
  have hs := sz
  have hl := sets_len n
  have hr : rg (n : Int) = some (rangeD 0 n) := rg_nat (by omega)
  obtain ⟨x, h1⟩ := sets_loop n hn (.v d) bx
  have h2 := pairs_of n hn (.v d) x bx
  have h3 := mLc_map (g := pr) (b := fun _ => true) (y := rT) (fi := iVal (mP (mQ (mCall1 cSorted (mLc (iVal (mSlot 1)) (gSet 3) mYes (mTup (mCons (mQ (mCall cLenA (mCons (mSlot 3) mNil))) (mCons (mVar 3) mNil))) [3]))))) (tg := gTupD 2 (gsCons (gSet 4) (gsCons (gSet 3) gsNil))) (ft := mYes) (fe := mVar 3) (vs := [4, 3])
    (E := ⟨[.v d, .o false (.lst ((subs n).map rT)), x, .no, .no], bx⟩) (E1 := ⟨[.v d, .o false (.lst ((subs n).map rT)), x, .no, .no], bx⟩) (E' := ⟨[.v d, .o false (.lst ((subs n).map rT)), x, .no, .no], bx⟩) (lk := none) (sets n)
    (by simp only [e_iVal, e_mP, e_mQ, h2]; rfl) (by omega) (by simp [back, backS, wE, unlk]) fun r hr => ?_
  · rw [filt] at h3
    have e0 : bSet 1 (mLst (mCons (mTup mNil) mNil)) ⟨[.v d, .no, .no, .no, .no], bx⟩ = some (.nx, ⟨[.v d, .o false (.lst ((subs 0).map rT)), .no, .no, .no], bx⟩) := by simp [subs, rT]
    have e1 := bFor_ok (fi := iRg1 (mCons (mP (mQ (mCall cLenA (mCons (mSlot 0) mNil)))) mNil)) (lk := none) (E := ⟨[.v d, .o false (.lst ((subs 0).map rT)), .no, .no, .no], bx⟩) (by simp [hr, hd]) h1
    exact run_rt (bSeq_nx e0 (bSeq_nx e1 (bRet_ok h3))) rfl
  · refine ⟨⟨[.v d, .o false (.lst ((subs n).map rT)), x, .v (rT r), .v (.int r.length)], bx⟩, ⟨[.v d, .o false (.lst ((subs n).map rT)), x, .v (rT r), .v (.int r.length)], bx⟩, by simp [wE, pr], rfl, fun _ => ⟨⟨[.v d, .o false (.lst ((subs n).map rT)), x, .v (rT r), .v (.int r.length)], bx⟩, ?_, by simp [wE]⟩, fun h => by cases h⟩
    simp
/-! ### letters -/
structure Kb (s : List (Nat × Int)) : Prop where
  nd : (s.map (·.1)).Nodup
  lt : ∀ k ∈ s.map (·.1), k < 128
theorem Kb.up {s : List (Nat × Int)} (h : Kb s) {c : Nat} (hc : c < 128) : Kb (upC s c) := ⟨putC_nodup h.nd, fun k hk => by
  rcases putC_keys.mp hk with q | q
  · exact h.lt k q
  · omega⟩
theorem Kb.len {s : List (Nat × Int)} (h : Kb s) : s.length ≤ 128 := by
  have := List.Nodup.length_le_of_subset h.nd (fun k hk => List.mem_range.mpr (h.lt k hk) : s.map (·.1) ⊆ List.range 128)
  simpa using this
theorem count_text (d : D) (cs : List Nat) (hc : ∀ c ∈ cs, c < 128) (s : List (Nat × Int)) (hs : Kb s) (y : Sl) (bx : Bx) :
    ∃ y', bFor (iVal (mSlot 2)) (gSet 3) (bSub suD 1 (mQ (m2 dAdd (mP (mQ (mGet2 (mSlot 1) (mSlot 3) (mC (.int 0))))) (mP (mC (.int 1))))) (mSlot 3)) ⟨[.v d, .o false (.dic (eC s)), .v (T cs), y], bx⟩
      = some (.nx, ⟨[.v d, .o false (.dic (eC (cs.foldl upC s))), .v (T cs), y'], bx⟩) ∧ Kb (cs.foldl upC s) := by
  have LF := bLoop_fold (g := fun c => T [c]) (st := upC) (I := fun s E => ∃ y, E = ⟨[.v d, .o false (.dic (eC s)), .v (T cs), y], bx⟩ ∧ Kb s) (tg := gSet 3)
    (fb := bSub suD 1 (mQ (m2 dAdd (mP (mQ (mGet2 (mSlot 1) (mSlot 3) (mC (.int 0))))) (mP (mC (.int 1))))) (mSlot 3)) cs s ⟨[.v d, .o false (.dic (eC s)), .v (T cs), y], bx⟩ ⟨y, rfl, hs⟩ fun c hc2 s E hI => ?_
  · obtain ⟨E', h1, y', rfl, hk⟩ := LF
    exact ⟨y', bFor_ok (lk := none) (by simp) h1, hk⟩
  · obtain ⟨y, rfl, hk⟩ := hI
    have hl := hk.len
    have e := eC_su c ((lookC s c).getD 0 + 1) (kvs := s) (by omega)
    have e2 := eC_get s c 0
    refine ⟨⟨[.v d, .o false (.dic (eC (upC s c))), .v (T cs), .v (T [c])], bx⟩, ?_, _, rfl, hk.up (hc c hc2)⟩
    simp [bStep, e2, e, upC]
theorem letter_counts (d : D) (texts : List (List Nat)) (hd : items d = some (texts.map T)) (hc : ∀ t ∈ texts, ∀ c ∈ t, c < 128) (bx : Bx) :
    fn_letter_counts [.v d] bx = some (.f (.dic (eC (texts.flatten.foldl upC []))), bx) := by
  have LF := bLoop_fold (g := T) (st := fun s t => t.foldl upC s) (I := fun s E => ∃ x y, E = ⟨[.v d, .o false (.dic (eC s)), x, y], bx⟩ ∧ Kb s) (tg := gSet 2)
    (fb := bFor (iVal (mSlot 2)) (gSet 3) (bSub suD 1 (mQ (m2 dAdd (mP (mQ (mGet2 (mSlot 1) (mSlot 3) (mC (.int 0))))) (mP (mC (.int 1))))) (mSlot 3))) texts [] ⟨[.v d, .o false (.dic (eC [])), .no, .no], bx⟩ ⟨.no, .no, rfl, ⟨by simp, by simp⟩⟩ fun t ht s E hI => ?_
  · obtain ⟨E', h1, x, y, rfl, hk⟩ := LF
    have e0 : bSet 1 mEmp ⟨[.v d, .no, .no, .no], bx⟩ = some (.nx, ⟨[.v d, .o false (.dic (eC [])), .no, .no], bx⟩) := by simp [eC]
    have e1 := bFor_ok (fi := iVal (mSlot 0)) (lk := none) (E := ⟨[.v d, .o false (.dic (eC [])), .no, .no], bx⟩) (by simp [hd]) h1
    rw [List.foldl_flatten]
    exact run_rt (bSeq_nx e0 (bSeq_nx e1 (bRet_ok (by simp [unlk]; rfl)))) rfl
  · obtain ⟨x, y, rfl, hk⟩ := hI
    obtain ⟨y', h1, h2⟩ := count_text d t (hc t ht) s hk y bx
    refine ⟨⟨[.v d, .o false (.dic (eC (t.foldl upC s))), .v (T t), y'], bx⟩, ?_, _, _, rfl, h2⟩
    unfold bStep
    simp [h1, -e_bFor]
theorem too_few (a b : List (Nat × Int)) (t w : List Nat) (ha : CntOf a t) (hb : CntOf b w) (hl : w.length ≤ 4000) (bx : Bx) :
    fn_too_few [.v (.dic (eC a)), .v (.dic (eC b))] bx = some (.v (.tup (lacks t w)), bx) := by
  have hs := sz
  have hsl : (srt w).length ≤ 4000 := by rw [(srt_perm w).length_eq]; exact Nat.le_trans (uniq_le w) hl
  have so := sortedC hb (by omega)
  have h1 := mLc_map (g := fun c => T [c]) (b := fun _ => true) (y := fun c => D.tup [T [c], .int ((w.count c : Int) - (t.count c : Int))]) (fi := iVal (mP (mQ (mCall cSorted (mCons (mSlot 1) mNil))))) (tg := gSet 3) (ft := mYes)
    (fe := mTup (mCons (mVar 3) (mCons (mQ (m2 dSub (mP (mQ (m2 dIx (mSlot 1) (mSlot 3)))) (mP (mQ (mGet2 (mSlot 0) (mSlot 3) (mC (.int 0))))))) mNil))) (vs := [3])
    (E := ⟨[.v (.dic (eC a)), .v (.dic (eC b)), .no, .no, .no], bx⟩) (E1 := ⟨[.v (.dic (eC a)), .v (.dic (eC b)), .no, .no, .no], bx⟩) (E' := ⟨[.v (.dic (eC a)), .v (.dic (eC b)), .no, .no, .no], bx⟩) (lk := none) (srt w)
    (by simp [so]) (by omega) (by simp [back, backS, wE, unlk]) fun c hc => ?_
  · rw [filt] at h1
    have h2 := mLc_map (g := fun c => D.tup [T [c], .int ((w.count c : Int) - (t.count c : Int))]) (b := fun c => decide (t.count c < w.count c)) (y := fun c => D.tup [T [c], .int ((w.count c : Int) - (t.count c : Int))]) (fi := iVal (mSlot 2)) (tg := gSet 4)
      (ft := mBl (m2 dGtI (mP (mQ (m2 dIx (mSlot 4) (mP (mC (.int 1)))))) (mP (mC (.int 0))))) (fe := mVar 4) (vs := [4])
      (E := ⟨[.v (.dic (eC a)), .v (.dic (eC b)), .o false (.lst ((srt w).map fun c => D.tup [T [c], .int ((w.count c : Int) - (t.count c : Int))])), .no, .no], bx⟩) (E1 := ⟨[.v (.dic (eC a)), .v (.dic (eC b)), .o true (.lst ((srt w).map fun c => D.tup [T [c], .int ((w.count c : Int) - (t.count c : Int))])), .no, .no], bx⟩)
      (E' := ⟨[.v (.dic (eC a)), .v (.dic (eC b)), .o false (.lst ((srt w).map fun c => D.tup [T [c], .int ((w.count c : Int) - (t.count c : Int))])), .no, .no], bx⟩) (lk := some 2) (srt w)
      (by simp) (by omega) (by simp [back, backS, wE, unlk, unl]) fun c hc => ?_
    · have e : ((srt w).filter fun c => decide (t.count c < w.count c)).map (fun c => D.tup [T [c], .int ((w.count c : Int) - (t.count c : Int))]) = lacks t w := by
        unfold lacks lackL
        rw [List.map_map]
        refine List.map_congr_left fun c hc => ?_
        have := (List.mem_filter.mp hc).2
        simp only [decide_eq_true_eq] at this
        show _ = D.tup [T [c], .int ((w.count c - t.count c : Nat) : Int)]
        have : ((w.count c - t.count c : Nat) : Int) = (w.count c : Int) - (t.count c : Int) := by omega
        rw [this]
      rw [e] at h2
      have e0 := bSet_to (i := 2) h1 (by simp) rfl
      exact run_rt (bSeq_nx e0 (bRet_ok (r := .v (.tup (lacks t w))) (by simp only [e_mCall1]; rw [show (⟨[Sl.v (.dic (eC a)), .v (.dic (eC b)), .no, .no, .no].set 2 (R.f (.lst ((srt w).map fun c => D.tup [T [c], .int ((w.count c : Int) - (t.count c : Int))]))).sl, bx⟩ : En) = ⟨[.v (.dic (eC a)), .v (.dic (eC b)), .o false (.lst ((srt w).map fun c => D.tup [T [c], .int ((w.count c : Int) - (t.count c : Int))])), .no, .no], bx⟩ from rfl, h2]; rfl))) rfl
    · have i1 : dIx (.tup [T [c], .int ((w.count c : Int) - (t.count c : Int))]) (.int 1) = some (.v (.int ((w.count c : Int) - (t.count c : Int)))) := by
        have := atI_nat (xs := [T [c], .int ((w.count c : Int) - (t.count c : Int))]) (i := 1) (by simp)
        rw [dIx_tup, show (1 : Int) = ((1 : Nat) : Int) from rfl, this]
        rfl
      have dc : decide (0 < (w.count c : Int) - (t.count c : Int)) = decide (t.count c < w.count c) := by
        rw [Bool.eq_iff_iff, decide_eq_true_eq, decide_eq_true_eq]; omega
      refine ⟨⟨[.v (.dic (eC a)), .v (.dic (eC b)), .o true (.lst ((srt w).map fun c => D.tup [T [c], .int ((w.count c : Int) - (t.count c : Int))])), .no, .v (D.tup [T [c], .int ((w.count c : Int) - (t.count c : Int))])], bx⟩, ⟨[.v (.dic (eC a)), .v (.dic (eC b)), .o true (.lst ((srt w).map fun c => D.tup [T [c], .int ((w.count c : Int) - (t.count c : Int))])), .no, .v (D.tup [T [c], .int ((w.count c : Int) - (t.count c : Int))])], bx⟩, by simp [wE], by simp [i1, dc, -dIx_tup], fun _ => ⟨⟨[.v (.dic (eC a)), .v (.dic (eC b)), .o true (.lst ((srt w).map fun c => D.tup [T [c], .int ((w.count c : Int) - (t.count c : Int))])), .no, .v (D.tup [T [c], .int ((w.count c : Int) - (t.count c : Int))])], bx⟩, by simp, by simp [wE]⟩, fun _ => by simp [wE]⟩
  · have k1 := eC_ix (hb.sm c (mem_srt.mp hc))
    have k2 := eC_get a c 0
    rw [ha.look] at k2
    refine ⟨⟨[.v (.dic (eC a)), .v (.dic (eC b)), .no, .v (T [c]), .no], bx⟩, ⟨[.v (.dic (eC a)), .v (.dic (eC b)), .no, .v (T [c]), .no], bx⟩, by simp [wE], rfl, fun _ => ⟨⟨[.v (.dic (eC a)), .v (.dic (eC b)), .no, .v (T [c]), .no], bx⟩, ?_, by simp [wE]⟩, fun h => by cases h⟩
    simp [k1, k2]
end K32

namespace K32
open PySem L2 PyProof.Rows PV
def cd (l : List Nat) : List (Nat × Int) := l.foldl upC []
theorem cd_cnt (l : List Nat) : CntOf (cd l) l := by
  have := CntOf.fold (m := l) cntOf_nil
  unfold cd
  simpa using this
/-- letters -/
def Lt (t : List Nat) : Prop := ∀ c ∈ t, c < 128
structure Fine (s : List (List Nat)) : Prop where
  lt : ∀ t ∈ s, Lt t
  n : s.length ≤ 12
  l : ∀ t ∈ s, t.length ≤ 40
theorem flat_len {n : Nat} : ∀ {s : List (List Nat)}, (∀ t ∈ s, t.length ≤ n) → s.flatten.length ≤ s.length * n
  | [], _ => by simp
  | t :: s, h => by
    have h1 := h t List.mem_cons_self
    have h2 := flat_len (s := s) fun u hu => h u (List.mem_cons_of_mem _ hu)
    simp only [List.flatten_cons, List.length_append, List.length_cons, Nat.succ_mul]
    omega
theorem flat_lt {s : List (List Nat)} (h : ∀ t ∈ s, Lt t) : Lt s.flatten := fun c hc => by
  obtain ⟨t, ht, hc⟩ := List.mem_flatten.mp hc
  exact h t ht c hc
def pick (s : List (List Nat)) (r : List Nat) : List (List Nat) := r.map fun k => s.getD k []
theorem pick_mem {s : List (List Nat)} {r : List Nat} (hr : ∀ k ∈ r, k < s.length) : ∀ t ∈ pick s r, t ∈ s := fun t ht => by
  obtain ⟨k, hk, rfl⟩ := List.mem_map.mp ht
  have h := hr k hk
  rw [List.getD_eq_getElem?_getD, List.getElem?_eq_getElem h]
  exact List.getElem_mem h
theorem ix_pick {s : List (List Nat)} {k : Nat} (h : k < s.length) : dIx (shT s) (.int (k : Int)) = some (.v (T (s.getD k []))) := by
  rw [dIx_shT h, List.getD_eq_getElem?_getD, List.getElem?_eq_getElem h]
  rfl
theorem lacking (s : List (List Nat)) (hs : Fine s) (r : List Nat) (hr : ∀ k ∈ r, k < s.length) (hl : r.length ≤ 50) (note : List Nat) (hn : Lt note) (hnl : note.length ≤ 4000) (bx : Bx) :
    fn_lacking_letters [.v (shT s), .v (rT r), .v (T note)] bx = some (.v (.tup (lacks (pick s r).flatten note)), bx) := by
  have h1 := mLc_pure' (fun k : Nat => ⟨[.v (shT s), .v (rT r), .v (T note), .v (.int (k : Int))], bx⟩) (fun k => T (s.getD k [])) (g := fun (k : Nat) => D.int (k : Int)) (fi := iVal (mSlot 1)) (tg := gSet 3) (fe := mQ (m2 dIx (mSlot 0) (mSlot 3))) (vs := [3])
    (E := ⟨[.v (shT s), .v (rT r), .v (T note), .no], bx⟩) (E1 := ⟨[.v (shT s), .v (rT r), .v (T note), .no], bx⟩) (E' := ⟨[.v (shT s), .v (rT r), .v (T note), .no], bx⟩) (lk := none) r (by simp) (by omega) (by simp [back, backS, wE, unlk]) fun k hk => ⟨by simp [wE], by simp [ix_pick (hr k hk)], by simp [wE]⟩
  have e1 : r.map (fun k => T (s.getD k [])) = (pick s r).map T := by unfold pick; rw [List.map_map]; rfl
  rw [e1] at h1
  have lt1 : ∀ t ∈ pick s r, Lt t := fun t ht => hs.lt t (pick_mem hr t ht)
  have c1 := letter_counts (.lst ((pick s r).map T)) (pick s r) rfl lt1 bx
  have c2 := letter_counts (.lst [T note]) [note] rfl (fun t ht => by rw [List.mem_singleton] at ht; subst ht; exact hn) bx
  have e2 : [note].flatten = note := by simp
  rw [e2] at c2
  have c3 := too_few _ _ _ _ (cd_cnt (pick s r).flatten) (cd_cnt note) hnl bx
  unfold cd at c3
  refine run_rt (E := ⟨[.v (shT s), .v (rT r), .v (T note), .no], bx⟩) (bRet_ok ?_) rfl
  simp [h1, c1, c2, c3, -e_mLc]
/-- the letters of texts, in one -/
def JoinsTo (A : D) (t : List Nat) : Prop := tJoinA (T []) [A] = some (.v (T t))
theorem joins_lst {xs : List (List Nat)} (h : ∀ x ∈ xs, Lt x) (hl : xs.flatten.length ≤ 16777216) : JoinsTo (.lst (xs.map T)) xs.flatten := tJoinA_lst (fun x hx c hc => by have := h x hx c hc; omega) hl
theorem joins_tup {xs : List (List Nat)} (h : ∀ x ∈ xs, Lt x) (hl : xs.flatten.length ≤ 16777216) : JoinsTo (shT xs) xs.flatten := tJoinA_tup (fun x hx c hc => by have := h x hx c hc; omega) hl
def lkp (t w p : List Nat) : List D := ((p.filter fun c => decide (t.count c < w.count c)).map fun c => (c, w.count c - t.count c)).map lkD
theorem lkp_len (t w p : List Nat) : (lkp t w p).length ≤ p.length := by
  unfold lkp
  rw [List.length_map, List.length_map]
  exact List.length_filter_le _ _
theorem lkp_snoc (t w p : List Nat) (c : Nat) : lkp t w (p ++ [c]) = lkp t w p ++ if t.count c < w.count c then [D.tup [T [c], .int ((w.count c : Int) - (t.count c : Int))]] else [] := by
  unfold lkp
  rw [List.filter_append, List.map_append, List.map_append]
  by_cases h : t.count c < w.count c
  · have e : ((w.count c - t.count c : Nat) : Int) = (w.count c : Int) - (t.count c : Int) := by omega
    simp [h, lkD, e]
  · simp [h]
theorem law_lacks (A B : D) (t w : List Nat) (ha : JoinsTo A t) (hb : JoinsTo B w) (hw : w.length ≤ 3000) (bx : Bx) :
    fn__law_lacks [.v A, .v B] bx = some (.f (.lst (lacks t w)), bx) := by
  unfold JoinsTo at ha hb
  have hs := sz
  have hsl : (srt w).length ≤ 3000 := by rw [(srt_perm w).length_eq]; exact Nat.le_trans (uniq_le w) hw
  obtain ⟨k, hk1, hk2⟩ := setKL_T w (by have := uniq_le w; omega)
  have LF := bLoop_pre (g := fun c => T [c]) (I := fun p E => ∃ x y, E = ⟨[.v A, .v B, .v (T t), .o false (.lst (lkp t w p)), .v (T w), x, y], bx⟩) (tg := gSet 5)
    (fb := bSeq (bSet 6 (m2 dSub (mP (mQ (mMt "str" tCount (mSlot 4) (mCons (mSlot 5) mNil)))) (mP (mQ (mMt "str" tCount (mSlot 2) (mCons (mSlot 5) mNil))))))
      (bSet 3 (m2 dAdd (mSlot 3) (mP (mQ (mIf (mBl (m2 dGtI (mSlot 6) (mP (mC (.int 0))))) (mLst (mCons (mTup (mCons (mVar 5) (mCons (mVar 6) mNil))) mNil)) (mLst mNil))))))) (srt w) ⟨[.v A, .v B, .v (T t), .o false (.lst []), .v (T w), .no, .no], bx⟩ ⟨.no, .no, rfl⟩ fun p c q E e hI => ?_
  · obtain ⟨E', h1, x, y, rfl⟩ := LF
    have e0 : bPar2 2 3 (mCons (mMt "str" tJoinA (mP (mC (.str (Str.ofString "")))) (mCons (mSlot 0) mNil)) (mCons (mLst mNil) mNil)) ⟨[.v A, .v B, .no, .no, .no, .no, .no], bx⟩ = some (.nx, ⟨[.v A, .v B, .v (T t), .o false (.lst []), .no, .no, .no], bx⟩) := by simp [ha]
    have e1 : bSet 4 (mMt "str" tJoinA (mP (mC (.str (Str.ofString "")))) (mCons (mSlot 1) mNil)) ⟨[.v A, .v B, .v (T t), .o false (.lst []), .no, .no, .no], bx⟩ = some (.nx, ⟨[.v A, .v B, .v (T t), .o false (.lst []), .v (T w), .no, .no], bx⟩) := by simp [hb]
    have e2 := bFor_ok (fi := iVal (mP (mQ (mSortSet (mSlot 4))))) (lk := none) (E := ⟨[.v A, .v B, .v (T t), .o false (.lst []), .v (T w), .no, .no], bx⟩) (by simp [hk1, hk2]) h1
    exact run_rt (bSeq_nx e0 (bSeq_nx e1 (bSeq_nx e2 (bRet_ok (r := .f (.lst (lacks t w))) (E1 := ⟨[.v A, .v B, .v (T t), .no, .v (T w), x, y], bx⟩) (by simp [unlk]; rfl))))) rfl
  · obtain ⟨x, y, rfl⟩ := hI
    have hpl : p.length ≤ 3000 := by
      have := congrArg List.length e
      simp at this
      omega
    have hlk := lkp_len t w p
    have t1 := tCount_T w c
    have t2 := tCount_T t c
    have dc : decide (0 < (w.count c : Int) - (t.count c : Int)) = decide (t.count c < w.count c) := by
      rw [Bool.eq_iff_iff, decide_eq_true_eq, decide_eq_true_eq]; omega
    have ad : ∀ ys : List D, ys.length ≤ 1 → dAdd (.lst (lkp t w p)) (.lst ys) = some (.f (.lst (lkp t w p ++ ys))) := fun ys hy => dAdd_lst (by omega)
    refine ⟨⟨[.v A, .v B, .v (T t), .o false (.lst (lkp t w (p ++ [c]))), .v (T w), .v (T [c]), .v (.int ((w.count c : Int) - (t.count c : Int)))], bx⟩, ?_, _, _, rfl⟩
    rw [lkp_snoc]
    unfold bStep
    by_cases h : t.count c < w.count c
    · simp [t1, t2, dc, h, ad]
    · simp [t1, t2, dc, h, ad]
/-! ### notes -/
theorem low_str : D.str (Str.ofString "abcdefghijklmnopqrstuvwxyz") = T ((List.range 26).map (· + 97)) := strT (by decide +kernel)
def low (c : Nat) : Bool := decide (c ∈ (List.range 26).map (· + 97))
theorem dIn_low (c : Nat) : dIn false (T [c]) (T ((List.range 26).map (· + 97))) = some (.v (.bl (low c))) := by
  rw [dIn_T1, Bool.false_xor]; rfl
def isNote : D → Bool
  | .str x => decide (1 ≤ x.length) && decide (x.length ≤ 12) && x.cps.toList.all low
  | _ => false
theorem isNote_T (cs : List Nat) : isNote (T cs) = (decide (1 ≤ cs.length) && decide (cs.length ≤ 12) && cs.all low) := by
  show (decide (1 ≤ (tx cs).length) && decide ((tx cs).length ≤ 12) && _) = _
  rw [tx_len]
  rfl
theorem note_lc (cs : List Nat) (hl : cs.length ≤ 12) (bx : Bx) : mLc (iVal (mSlot 0)) (gSet 1) mYes (mQ (m2 (dIn false) (mSlot 1) (mP (mC (.str (Str.ofString "abcdefghijklmnopqrstuvwxyz")))))) [1] ⟨[.v (T cs), .no], bx⟩ = some (.f (.lst (cs.map fun c => D.bl (low c))), ⟨[.v (T cs), .no], bx⟩) := by
  have h := mLc_pure' (fun c : Nat => ⟨[.v (T cs), .v (T [c])], bx⟩) (fun c => D.bl (low c)) (g := fun (k : Nat) => T [k]) (fi := iVal (mSlot 0)) (tg := gSet 1) (fe := mQ (m2 (dIn false) (mSlot 1) (mP (mC (.str (Str.ofString "abcdefghijklmnopqrstuvwxyz")))))) (vs := [1])
    (E := ⟨[.v (T cs), .no], bx⟩) (E1 := ⟨[.v (T cs), .no], bx⟩) (E' := ⟨[.v (T cs), .no], bx⟩) (lk := none) cs (by simp) (by omega) (by simp [back, backS, wE, unlk]) fun k hk => ⟨by simp [wE], by simp [low_str, dIn_low], by simp [wE]⟩
  exact h
theorem is_note (n k : Nat) (v : D) (hv : Ok n k v) (bx : Bx) : fn_is_note [.v v] bx = some (.v (.bl (isNote v)), bx) := by
  have K := kits
  cases hv with
  | str cs h1 h2 =>
    rw [isNote_T]
    by_cases a : 1 ≤ cs.length
    · by_cases b : cs.length ≤ 12
      · have h := note_lc cs b bx
        have ai : (1 : Int) ≤ (cs.length : Int) := by omega
        have bi : (cs.length : Int) ≤ 12 := by omega
        refine run_rt (E := ⟨[.v (T cs), .no], bx⟩) (bSeq_nx (E1 := ⟨[.v (T cs), .no], bx⟩) ?_ (bRet_ok (r := .v (.bl (cs.all low))) ?_)) rfl |>.trans ?_
        · simp [K, g_MOST_LETTERS, ai, bi]
        · simp only [e_mCall1, g_SMALL_LETTERS, h]
          show ((cAll [.lst (cs.map fun c => D.bl (low c))]).bind fun z => some (z, (⟨[.v (T cs), .no], bx⟩ : En))) = _
          rw [cAll_fun]
          rfl
        · simp [a, b]
      · have bi : ¬ (cs.length : Int) ≤ 12 := by omega
        refine run_rt (E := ⟨[.v (T cs), .no], bx⟩) (bSeq_rt (E1 := ⟨[.v (T cs), .no], bx⟩) (r := .v (.bl false)) ?_) rfl |>.trans ?_
        · have ai : (1 : Int) ≤ (cs.length : Int) := by omega
          simp [K, g_MOST_LETTERS, ai, bi]
        · simp [b]
    · have ai : ¬ (1 : Int) ≤ (cs.length : Int) := by omega
      refine run_rt (E := ⟨[.v (T cs), .no], bx⟩) (bSeq_rt (E1 := ⟨[.v (T cs), .no], bx⟩) (r := .v (.bl false)) ?_) rfl |>.trans ?_
      · simp [K, g_MOST_LETTERS, ai]
      · simp [a]
  | non => simp [fn_is_note, m_is_note, PV.run, K, isNote]
  | bl b => simp [fn_is_note, m_is_note, PV.run, K, isNote]
  | int b => simp [fn_is_note, m_is_note, PV.run, K, isNote]
  | tup b => simp [fn_is_note, m_is_note, PV.run, K, isNote]
theorem law_is_note (n k : Nat) (v : D) (hv : Ok n k v) (bx : Bx) : fn__law_is_note [.v v] bx = some (.v (.bl (isNote v)), bx) := by
  have K := kits
  cases hv with
  | str cs h1 h2 =>
    rw [isNote_T]
    by_cases a : 1 ≤ cs.length
    · by_cases b : cs.length ≤ 12
      · have h := note_lc cs b bx
        have ai : (1 : Int) ≤ (cs.length : Int) := by omega
        have bi : (cs.length : Int) ≤ 12 := by omega
        refine run_rt (E := ⟨[.v (T cs), .no], bx⟩) (bRet_ok (r := .v (.bl (cs.all low))) ?_) rfl |>.trans ?_
        · simp [K, ai, bi, h, -e_mLc, -cAll_cons]
        · simp [a, b]
      · have bi : ¬ (cs.length : Int) ≤ 12 := by omega
        have ai : (1 : Int) ≤ (cs.length : Int) := by omega
        refine run_rt (E := ⟨[.v (T cs), .no], bx⟩) (bRet_ok (r := .v (.bl false)) ?_) rfl |>.trans ?_
        · simp [K, ai, bi]
        · simp [b]
    · have ai : ¬ (1 : Int) ≤ (cs.length : Int) := by omega
      refine run_rt (E := ⟨[.v (T cs), .no], bx⟩) (bRet_ok (r := .v (.bl false)) ?_) rfl |>.trans ?_
      · simp [K, ai]
      · simp [a]
  | non => simp [fn__law_is_note, m__law_is_note, PV.run, K, isNote]
  | bl b => simp [fn__law_is_note, m__law_is_note, PV.run, K, isNote]
  | int b => simp [fn__law_is_note, m__law_is_note, PV.run, K, isNote]
  | tup b => simp [fn__law_is_note, m__law_is_note, PV.run, K, isNote]
end K32

namespace K32
open PySem L2 PyProof.Rows PV
theorem bFor_any {fi : EF (List D × Option Nat)} {tg : D → EF Unit} {fb : EF Fl} {E E1 E2 : En} {ds : List D} {lk : Option Nat} {fl : Fl} (h1 : fi E = some ((ds, lk), E1)) (h2 : bLoop tg fb ds E1 = some (fl, E2)) : bFor fi tg fb E = some (fl, unlk lk E2) := by
  rw [e_bFor, h1]
  show (bLoop tg fb ds E1).bind _ = _
  rw [h2]
  rfl
theorem rg_sub1 {n : Nat} (h : n ≤ 16777216) : rg ((n : Int) - 1) = some (rangeD 0 (n - 1)) := by
  have hs := sz
  unfold rg
  rw [if_pos ⟨by omega, by omega⟩]
  have : ((n : Int) - 1).toNat = n - 1 := by omega
  rw [this]
/-! ### texts drawn -/
theorem pick_T {cs : List Nat} {p : Int} (h0 : 0 ≤ p) (h1 : p < cs.length) : ∃ c ∈ cs, dIx (T cs) (.int p) = some (.v (T [c])) := by
  obtain ⟨n, rfl⟩ := Int.eq_ofNat_of_zero_le h0
  have hn : n < cs.length := by omega
  exact ⟨cs[n], List.getElem_mem hn, dIx_T hn⟩
structure Small (m : Nat) (t : List Nat) : Prop where
  l0 : 1 ≤ t.length
  l1 : t.length ≤ m
  low : ∀ c ∈ t, 97 ≤ c ∧ c ≤ 101
theorem Small.lt {m : Nat} {t : List Nat} (h : Small m t) : Lt t := fun c hc => by have := h.low c hc; omega
theorem str_aab : D.str (Str.ofString "aabcde") = T [97, 97, 98, 99, 100, 101] := strT (by decide +kernel)
theorem law_text (m : Nat) (hm : 1 ≤ m) (hm2 : m ≤ 10) (bx : Bx) (hb : BG bx) : ∃ t bx', fn__law_text [.bx, .v (.int (m : Int))] bx = some (.v (T t), bx') ∧ BG bx' ∧ Small m t := by
  obtain ⟨q, bx1, d1, g1, q0, q1⟩ := draw_ok hb (m := (m : Int)) (by omega) (by omega)
  have LF := bLoop_inv (tg := gSet 3) (fb := bSet 2 (m2 dAdd (mSlot 2) (mP (mQ (m2 dIx (mP (mC (.str (Str.ofString "aabcde")))) (mP (mQ (mFn fnDraw (mCons (mSlot 0) (mCons (mP (mC (.int 6))) mNil))))))))))
    (I := fun k E => ∃ t x bx, E = ⟨[.bx, .v (.int (m : Int)), .v (T t), x], bx⟩ ∧ BG bx ∧ t.length = k ∧ ∀ c ∈ t, 97 ≤ c ∧ c ≤ 101) (rangeD 0 (1 + q).toNat) 0 ⟨[.bx, .v (.int (m : Int)), .v (T []), .no], bx1⟩ ⟨[], .no, bx1, rfl, g1, rfl, by simp⟩ fun i d E hd hI => ?_
  · obtain ⟨E', h1, t, x, bx2, rfl, g2, hl, hc⟩ := LF
    rw [rangeD_len, Nat.zero_add] at hl
    refine ⟨t, bx2, ?_, g2, ⟨by omega, by omega, hc⟩⟩
    have hr : rg (1 + q) = some (rangeD 0 (1 + q).toNat) := rg_int (by omega) (by omega)
    have e0 : bSet 2 (mE (mC (.str (Str.ofString "")))) ⟨[.bx, .v (.int (m : Int)), .no, .no], bx⟩ = some (.nx, ⟨[.bx, .v (.int (m : Int)), .v (T []), .no], bx⟩) := by simp
    have e1 := bFor_ok (fi := iRg1 (mCons (mP (mQ (m2 dAdd (mP (mC (.int 1))) (mP (mQ (mFn fnDraw (mCons (mSlot 0) (mCons (mSlot 1) mNil)))))))) mNil)) (lk := none) (E := ⟨[.bx, .v (.int (m : Int)), .v (T []), .no], bx⟩) (by simp [d1, hr]) h1
    exact run_rt (bSeq_nx e0 (bSeq_nx e1 (bRet_ok (r := .v (T t)) (E1 := ⟨[.bx, .v (.int (m : Int)), .v (T t), x], bx2⟩) (by simp [unlk])))) rfl
  · obtain ⟨t, x, bx2, rfl, g2, hl, hc⟩ := hI
    have hi : i < (1 + q).toNat := by
      have := (List.getElem?_eq_some_iff.mp hd).1
      rwa [rangeD_len] at this
    obtain ⟨p, bx3, d3, g3, p0, p1⟩ := draw_ok g2 (m := 6) (by omega) (by omega)
    obtain ⟨c, hc2, e⟩ := pick_T (cs := [97, 97, 98, 99, 100, 101]) p0 (by simpa using p1)
    have e2 : dAdd (T t) (T [c]) = some (.v (T (t ++ [c]))) := dAdd_T (by simp; omega)
    refine ⟨(), ⟨[.bx, .v (.int (m : Int)), .v (T t), .v d], bx2⟩, ⟨[.bx, .v (.int (m : Int)), .v (T (t ++ [c])), .v d], bx3⟩, by simp, .inl (by simp [str_aab, d3, e, e2]), t ++ [c], _, _, rfl, g3, by simp; omega, fun y hy => ?_⟩
    rcases List.mem_append.mp hy with h | h
    · exact hc y h
    · simp only [List.mem_cons, List.not_mem_nil, or_false] at h hc2
      omega
/-! ### the judges -/
def isSheets : D → Bool
  | .tup xs => decide (xs.length ≤ 8) && xs.all isNote
  | _ => false
theorem ok_up {n k : Nat} {v : D} (h : Ok n k v) : Ok n (k + 1) v := h.mono (Nat.le_refl _) (by omega)
theorem are_sheets (n k : Nat) (v : D) (hv : Ok n k v) (bx : Bx) : fn_are_sheets [.v v] bx = some (.v (.bl (isSheets v)), bx) := by
  have K := kits
  cases hv with
  | tup xs h1 h2 =>
    by_cases a : xs.length ≤ 8
    · have h := mLc_pure' (fun x : D => ⟨[.v (.tup xs), .v x], bx⟩) (fun x => D.bl (isNote x)) (g := fun x => x) (fi := iVal (mSlot 0)) (tg := gSet 1) (fe := mQ (mFn fn_is_note (mCons (mSlot 1) mNil))) (vs := [1])
        (E := ⟨[.v (.tup xs), .no], bx⟩) (E1 := ⟨[.v (.tup xs), .no], bx⟩) (E' := ⟨[.v (.tup xs), .no], bx⟩) (lk := none) xs (by simp) (by omega) (by simp [back, backS, wE, unlk]) fun x hx => ⟨by simp [wE], by simp [is_note _ _ _ (h2 x hx)], by simp [wE]⟩
      have ai : (xs.length : Int) ≤ 8 := by omega
      refine run_rt (E := ⟨[.v (.tup xs), .no], bx⟩) (bRet_ok (r := .v (.bl (isSheets (.tup xs)))) ?_) rfl
      simp [K, g_MOST_SHEETS, ai, h, -e_mLc, -cAll_cons, isSheets, a]
    · have ai : ¬ (xs.length : Int) ≤ 8 := by omega
      refine run_rt (E := ⟨[.v (.tup xs), .no], bx⟩) (bRet_ok (r := .v (.bl (isSheets (.tup xs)))) ?_) rfl
      simp [K, g_MOST_SHEETS, ai, isSheets, a]
  | str cs h1 h2 => simp [fn_are_sheets, m_are_sheets, PV.run, K, isSheets, T]
  | non => simp [fn_are_sheets, m_are_sheets, PV.run, K, isSheets]
  | bl b => simp [fn_are_sheets, m_are_sheets, PV.run, K, isSheets]
  | int b => simp [fn_are_sheets, m_are_sheets, PV.run, K, isSheets]
def isNumB (hi : Int) : D → Bool
  | .int i => decide (0 ≤ i) && decide (i ≤ hi)
  | _ => false
theorem is_number (n k : Nat) (v : D) (hv : Ok n k v) (hi : Int) (bx : Bx) : fn_is_number [.v v, .v (.int 0), .v (.int hi)] bx = some (.v (.bl (isNumB hi v)), bx) := by
  have K := kits
  cases hv with
  | int i h =>
    by_cases a : 0 ≤ i
    · simp [fn_is_number, m_is_number, PV.run, K, isNumB, a]
    · simp [fn_is_number, m_is_number, PV.run, K, isNumB, a]
  | str cs h1 h2 => simp [fn_is_number, m_is_number, PV.run, K, isNumB, T]
  | non => simp [fn_is_number, m_is_number, PV.run, K, isNumB]
  | bl b => simp [fn_is_number, m_is_number, PV.run, K, isNumB]
  | tup b => simp [fn_is_number, m_is_number, PV.run, K, isNumB]
def ascB (r : List Nat) : Bool := (List.range (r.length - 1)).all fun k => decide (r.getD k 0 < r.getD (k + 1) 0)
theorem ascB_iff {r : List Nat} : ascB r = true ↔ r.Pairwise (· < ·) := by
  unfold ascB
  rw [List.all_eq_true, List.pairwise_iff_getElem]
  simp only [List.mem_range, decide_eq_true_eq]
  constructor
  · intro h i j hi hj hij
    have step : ∀ k (hk : k + 1 < r.length), r[k] < r[k + 1] := fun k hk => by
      have := h k (by omega)
      rw [List.getD_eq_getElem?_getD, List.getD_eq_getElem?_getD, List.getElem?_eq_getElem (by omega : k < r.length), List.getElem?_eq_getElem hk] at this
      exact this
    have go : ∀ d (hd : i + d + 1 < r.length), r[i] < r[i + d + 1] := by
      intro d
      induction d with
      | zero => intro hd; exact step i hd
      | succ d ih => intro hd; exact Nat.lt_trans (ih (by omega)) (step (i + d + 1) hd)
    have := go (j - i - 1) (by omega)
    have e : i + (j - i - 1) + 1 = j := by omega
    simp only [e] at this
    exact this
  · intro h k hk
    rw [List.getD_eq_getElem?_getD, List.getD_eq_getElem?_getD, List.getElem?_eq_getElem (by omega : k < r.length), List.getElem?_eq_getElem (by omega : k + 1 < r.length)]
    exact h k (k + 1) (by omega) (by omega) (by omega)
theorem is_ascending (r : List Nat) (hl : r.length ≤ 100000) (bx : Bx) : fn_is_ascending [.v (rT r)] bx = some (.v (.bl (ascB r)), bx) := by
  have hr := rg_sub1 (n := r.length) (by omega)
  have h := mLc_pure' (fun k : Nat => ⟨[.v (rT r), .v (.int (k : Int))], bx⟩) (fun k => D.bl (decide (r.getD k 0 < r.getD (k + 1) 0))) (g := fun (k : Nat) => D.int (k : Int))
    (fi := iRg1 (mCons (mP (mQ (m2 dSub (mP (mQ (mCall cLenA (mCons (mSlot 0) mNil)))) (mP (mC (.int 1)))))) mNil)) (tg := gSet 1) (fe := mQ (m2 dLtI (mP (mQ (m2 dIx (mSlot 0) (mSlot 1)))) (mP (mQ (m2 dIx (mSlot 0) (mP (mQ (m2 dAdd (mSlot 1) (mP (mC (.int 1))))))))))) (vs := [1])
    (E := ⟨[.v (rT r), .no], bx⟩) (E1 := ⟨[.v (rT r), .no], bx⟩) (E' := ⟨[.v (rT r), .no], bx⟩) (lk := none) (List.range (r.length - 1)) (by simp [hr, rangeD0]) (by rw [List.length_range]; omega) (by simp [back, backS, wE, unlk]) fun k hk => ?_
  · refine run_rt (E := ⟨[.v (rT r), .no], bx⟩) (bRet_ok (r := .v (.bl (ascB r))) ?_) rfl
    simp [h, -e_mLc, -cAll_cons, ascB]
  · have hk := List.mem_range.mp hk
    have i1 := dIx_rT (r := r) (i := k) (by omega)
    have i2 := dIx_rT (r := r) (i := k + 1) (by omega)
    have c : ((k + 1 : Nat) : Int) = (k : Int) + 1 := by omega
    rw [c] at i2
    have g1 : r.getD k 0 = r[k]'(by omega) := by rw [List.getD_eq_getElem?_getD, List.getElem?_eq_getElem (by omega : k < r.length)]; rfl
    have g2 : r.getD (k + 1) 0 = r[k + 1]'(by omega) := by rw [List.getD_eq_getElem?_getD, List.getElem?_eq_getElem (by omega : k + 1 < r.length)]; rfl
    refine ⟨by simp [wE], ?_, by simp [wE]⟩
    simp [i1, i2, g1, g2, -List.getD_eq_getElem?_getD]
end K32

namespace K32
open PySem L2 PyProof.Rows PV
/-! ### choices -/
/-- what some sheets lack -/
def lk (s : List (List Nat)) (note r : List Nat) : List D := lacks (pick s r).flatten note
def okR (s : List (List Nat)) (note r : List Nat) : Bool := (lk s note r).isEmpty
def good (s : List (List Nat)) (note : List Nat) : List (List Nat) := (sets s.length).filter (okR s note)
structure Nt (note : List Nat) : Prop where
  lt : Lt note
  l : note.length ≤ 100
theorem asc_len {n : Nat} {r : List Nat} (h : Asc n r) : r.length ≤ n := by
  have h3 : r.Nodup := h.1.imp fun h => by omega
  have := List.Nodup.length_le_of_subset h3 (fun x hx => List.mem_range.mpr (h.2 x hx) : r ⊆ List.range n)
  simpa using this
theorem lack_asc {s : List (List Nat)} (hs : Fine s) {note : List Nat} (hn : Nt note) {r : List Nat} (hr : Asc s.length r) (bx : Bx) :
    fn_lacking_letters [.v (shT s), .v (rT r), .v (T note)] bx = some (.v (.tup (lk s note r)), bx) :=
  lacking s hs r hr.2 (by have := asc_len hr; have := hs.n; omega) note hn.lt (by have := hn.l; omega) bx
theorem asc_range (n : Nat) : Asc n (List.range n) := ⟨List.pairwise_lt_range, fun k hk => List.mem_range.mp hk⟩
theorem asc_filter {n : Nat} {r : List Nat} (h : Asc n r) (p : Nat → Bool) : Asc n (r.filter p) := ⟨h.1.filter p, fun k hk => h.2 k (List.mem_filter.mp hk).1⟩
theorem sets_asc {n : Nat} {r : List Nat} (h : r ∈ sets n) : Asc n r := mem_subs.mp (mem_sets.mp h)
def without (r : List Nat) (k : Nat) : List Nat := r.filter fun j => !decide (j = k)
theorem dNe_nat (a b : Nat) : dNe (.int (a : Int)) (.int (b : Int)) = some (.v (.bl (!decide (a = b)))) := by
  rw [dNe_int, nat_dec]
theorem without_sheet (r : List Nat) (hl : r.length ≤ 1000) (k : Nat) (bx : Bx) : fn_without_sheet [.v (rT r), .v (.int (k : Int))] bx = some (.v (rT (without r k)), bx) := by
  have h := mLc_pure (fun j : Nat => ⟨[.v (rT r), .v (.int (k : Int)), .v (.int (j : Int))], bx⟩) (fun j => !decide (j = k)) (fun (j : Nat) => D.int (j : Int)) (g := fun (j : Nat) => D.int (j : Int)) (fi := iVal (mSlot 0)) (tg := gSet 2) (ft := mBl (m2 dNe (mSlot 2) (mSlot 1))) (fe := mVar 2) (vs := [2])
    (E := ⟨[.v (rT r), .v (.int (k : Int)), .no], bx⟩) (E1 := ⟨[.v (rT r), .v (.int (k : Int)), .no], bx⟩) (E' := ⟨[.v (rT r), .v (.int (k : Int)), .no], bx⟩) (lk := none) r (by simp) (by omega) (by simp [back, backS, wE, unlk]) fun j hj => ⟨by simp [wE], by simp [dNe_nat, -dNe_int], fun _ => by simp, by simp [wE]⟩
  exact run_rt (bRet_ok (mCall1_ok h rfl)) rfl
section
variable {s : List (List Nat)} (hs : Fine s) {note : List Nat} (hn : Nt note)
include hs hn
theorem lack_ok {r : List Nat} (hr : Asc s.length r) : lk s note r = [] ↔ okR s note r = true := by
  unfold okR; rw [List.isEmpty_iff]
theorem fewest_sheets (bx : Bx) : fn_fewest_sheets [.v (shT s), .v (T note)] bx = some (.v (match (good s note).head? with | some r => rT r | none => .non), bx) := by
  have h1 := sheet_sets s.length hs.n (shT s) (cLen_shT s) bx
  have LF := bLoop_first (g := rT) (b := okR s note) (r := fun r => .v (rT r)) (I := fun E => ∃ x, E = ⟨[.v (shT s), .v (T note), x], bx⟩) (tg := gSet 2)
    (fb := bIf (mBl (m2 dEq (mP (mQ (mFn fn_lacking_letters (mCons (mSlot 0) (mCons (mSlot 2) (mCons (mSlot 1) mNil)))))) (mP (mTup mNil)))) (bRet (mOwn 2)) bNil) (sets s.length) ⟨[.v (shT s), .v (T note), .no], bx⟩ ⟨.no, rfl⟩ fun r hr E hI => ?_
  · obtain ⟨E', h2, x, rfl⟩ := LF
    have h3 := bFor_any (fi := iVal (mP (mQ (mFn fn_sheet_sets (mCons (mSlot 0) mNil))))) (lk := none) (E := ⟨[.v (shT s), .v (T note), .no], bx⟩) (by simp [h1]) h2
    have e : (sets s.length).find? (okR s note) = (good s note).head? := by unfold good; rw [List.head?_filter]
    rw [e] at h3
    cases hg : (good s note).head? with
    | none =>
      rw [hg] at h3
      exact run_rt (bSeq_nx h3 (bRet_ok (r := .v .non) (E1 := ⟨[.v (shT s), .v (T note), x], bx⟩) (by simp [unlk]))) rfl
    | some r =>
      rw [hg] at h3
      exact run_rt (bSeq_rt h3) rfl
  · obtain ⟨x, rfl⟩ := hI
    have l1 := lack_asc hs hn (sets_asc hr) bx
    have l2 := lackT_eq (pick s r).flatten note
    refine ⟨(), ⟨[.v (shT s), .v (T note), .v (rT r)], bx⟩, ⟨[.v (shT s), .v (T note), .v (rT r)], bx⟩, by simp, ⟨_, rfl⟩, ?_⟩
    have l2 : dEq (.tup (lk s note r)) (.tup []) = some (.v (.bl (okR s note r))) := l2
    cases hb : okR s note r with
    | true => rw [hb] at l2; simp [l1, l2]
    | false => rw [hb] at l2; simp [l1, l2]
def sureR (s : List (List Nat)) (note : List Nat) : List Nat := (List.range s.length).filter fun k => !okR s note (without (List.range s.length) k)
omit hs hn in
theorem rT_range (n : Nat) : rangeD 0 n = (List.range n).map fun (k : Nat) => D.int (k : Int) := rangeD0 n
theorem sure_sheets (bx : Bx) : fn_sure_sheets [.v (shT s), .v (T note)] bx = some (.v (if okR s note (List.range s.length) = true then rT (sureR s note) else .non), bx) := by
  have hz := hs.n
  have e0 : bSet 2 (mTupRg (mRg1 (mP (mQ (mCall cLenA (mCons (mSlot 0) mNil)))))) ⟨[.v (shT s), .v (T note), .no, .no], bx⟩ = some (.nx, ⟨[.v (shT s), .v (T note), .v (rT (List.range s.length)), .no], bx⟩) := by
    have h := mTupRg_len (n := s.length) (by omega) (f := mP (mQ (mCall cLenA (mCons (mSlot 0) mNil)))) (E := ⟨[.v (shT s), .v (T note), .no, .no], bx⟩) (E1 := ⟨[.v (shT s), .v (T note), .no, .no], bx⟩) (p := .v (.int s.length)) (by simp) rfl
    exact bSet_to h (by simp) rfl
  have l1 := lack_asc hs hn (asc_range s.length) bx
  cases ho : okR s note (List.range s.length) with
  | false =>
    have t1 : truth (.tup (lk s note (List.range s.length))) = some true := by
      show some (!(lk s note (List.range s.length)).isEmpty) = _
      unfold okR at ho
      rw [ho]; rfl
    have e1 : bIf (mTru (mP (mQ (mFn fn_lacking_letters (mCons (mSlot 0) (mCons (mSlot 2) (mCons (mSlot 1) mNil))))))) (bRet (mE (mC .non))) bNil ⟨[.v (shT s), .v (T note), .v (rT (List.range s.length)), .no], bx⟩ = some (.rt (.v .non), ⟨[.v (shT s), .v (T note), .v (rT (List.range s.length)), .no], bx⟩) := by simp [l1, t1]
    exact run_rt (bSeq_nx e0 (bSeq_rt e1)) rfl
  | true =>
    have t1 : truth (.tup (lk s note (List.range s.length))) = some false := by
      show some (!(lk s note (List.range s.length)).isEmpty) = _
      unfold okR at ho
      rw [ho]; rfl
    have e1 : bIf (mTru (mP (mQ (mFn fn_lacking_letters (mCons (mSlot 0) (mCons (mSlot 2) (mCons (mSlot 1) mNil))))))) (bRet (mE (mC .non))) bNil ⟨[.v (shT s), .v (T note), .v (rT (List.range s.length)), .no], bx⟩ = some (.nx, ⟨[.v (shT s), .v (T note), .v (rT (List.range s.length)), .no], bx⟩) := by simp [l1, t1]
    have h := mLc_pure (fun j : Nat => ⟨[.v (shT s), .v (T note), .v (rT (List.range s.length)), .v (.int (j : Int))], bx⟩) (fun k => !okR s note (without (List.range s.length) k)) (fun (j : Nat) => D.int (j : Int)) (g := fun (j : Nat) => D.int (j : Int)) (fi := iVal (mSlot 2)) (tg := gSet 3)
      (ft := mTru (mP (mQ (mFn fn_lacking_letters (mCons (mSlot 0) (mCons (mP (mQ (mFn fn_without_sheet (mCons (mSlot 2) (mCons (mSlot 3) mNil))))) (mCons (mSlot 1) mNil))))))) (fe := mVar 3) (vs := [3])
      (E := ⟨[.v (shT s), .v (T note), .v (rT (List.range s.length)), .no], bx⟩) (E1 := ⟨[.v (shT s), .v (T note), .v (rT (List.range s.length)), .no], bx⟩) (E' := ⟨[.v (shT s), .v (T note), .v (rT (List.range s.length)), .no], bx⟩) (lk := none) (List.range s.length)
      (by simp) (by rw [List.length_range]; omega) (by simp [back, backS, wE, unlk]) fun j hj => ?_
    · refine run_rt (bSeq_nx e0 (bSeq_nx e1 (bRet_ok (r := .v (rT (sureR s note))) (E1 := ⟨[.v (shT s), .v (T note), .v (rT (List.range s.length)), .no], bx⟩) ?_))) rfl
      simp only [e_mCall1, h]
      rfl
    · have w := without_sheet (List.range s.length) (by rw [List.length_range]; omega) j bx
      have l2 := lack_asc hs hn (asc_filter (asc_range s.length) (fun i => !decide (i = j))) bx
      have t2 : truth (.tup (lk s note (without (List.range s.length) j))) = some (!okR s note (without (List.range s.length) j)) := rfl
      have l2 : fn_lacking_letters [.v (shT s), .v (rT (without (List.range s.length) j)), .v (T note)] bx = some (.v (.tup (lk s note (without (List.range s.length) j))), bx) := l2
      exact ⟨by simp [wE], by simp [w, l2, t2], fun _ => by simp, by simp [wE]⟩
def smallB (s : List (List Nat)) (note r : List Nat) : Bool := okR s note r && r.all fun k => !okR s note (without r k)
theorem is_smallest {r : List Nat} (hr : Asc s.length r) (bx : Bx) : fn_is_smallest [.v (shT s), .v (rT r), .v (T note)] bx = some (.v (.bl (smallB s note r)), bx) := by
  have hz := hs.n
  have hrl := asc_len hr
  have l1 := lack_asc hs hn hr bx
  have t1 : truth (.tup (lk s note r)) = some (!okR s note r) := rfl
  cases ho : okR s note r with
  | false =>
    rw [ho] at t1
    refine run_rt (E := ⟨[.v (shT s), .v (rT r), .v (T note), .no], bx⟩) (bSeq_rt (r := .v (.bl (smallB s note r))) ?_) rfl
    simp [l1, t1, smallB, ho]
  | true =>
    rw [ho] at t1
    have h := mLc_pure' (fun j : Nat => ⟨[.v (shT s), .v (rT r), .v (T note), .v (.int (j : Int))], bx⟩) (fun k => .tup (lk s note (without r k))) (g := fun (j : Nat) => D.int (j : Int)) (fi := iVal (mSlot 1)) (tg := gSet 3)
      (fe := mQ (mFn fn_lacking_letters (mCons (mSlot 0) (mCons (mP (mQ (mFn fn_without_sheet (mCons (mSlot 1) (mCons (mSlot 3) mNil))))) (mCons (mSlot 2) mNil))))) (vs := [3])
      (E := ⟨[.v (shT s), .v (rT r), .v (T note), .no], bx⟩) (E1 := ⟨[.v (shT s), .v (rT r), .v (T note), .no], bx⟩) (E' := ⟨[.v (shT s), .v (rT r), .v (T note), .no], bx⟩) (lk := none) r
      (by simp) (by omega) (by simp [back, backS, wE, unlk]) fun j hj => ?_
    · refine run_rt (E := ⟨[.v (shT s), .v (rT r), .v (T note), .no], bx⟩) (bSeq_nx (E1 := ⟨[.v (shT s), .v (rT r), .v (T note), .no], bx⟩) ?_ (bRet_ok (r := .v (.bl (smallB s note r))) ?_)) rfl
      · simp [l1, t1]
      · simp only [e_mCall1, h]
        have n1 : nds (r.map fun k => D.tup (lk s note (without r k))) = true := nds_map _ (fun k => by rw [nd_tup]; exact clean_nds _ (cleans_lacks _ _)) _
        show ((if nds (r.map fun k => D.tup (lk s note (without r k))) = true then some (R.v (.bl ((r.map fun k => D.tup (lk s note (without r k))).all truB))) else none).bind _) = _
        rw [if_pos n1]
        have e : (r.map fun k => D.tup (lk s note (without r k))).all truB = r.all fun k => !okR s note (without r k) := by
          rw [List.all_map]
          congr 1
          funext k
          exact truB_tup _
        rw [e]
        unfold smallB
        rw [ho]
        rfl
    · have w := without_sheet r (by omega) j bx
      have l2 : fn_lacking_letters [.v (shT s), .v (rT (without r j)), .v (T note)] bx = some (.v (.tup (lk s note (without r j))), bx) := lack_asc hs hn (asc_filter hr (fun i => !decide (i = j))) bx
      exact ⟨by simp [wE], by simp [w, l2], by simp [wE]⟩
def spareR (s : List (List Nat)) (note : List Nat) : List Nat := (List.range s.length).filter fun k => !((sets s.length).filter (smallB s note)).any fun r => decide (k ∈ r)
theorem spare_sheets (bx : Bx) : fn_spare_sheets [.v (shT s), .v (T note)] bx = some (.v (if good s note = [] then .non else rT (spareR s note)), bx) := by
  have hz := hs.n
  have hp := pow12 (k := s.length) (n := 12) hz (Nat.le_refl _)
  have hsl := sets_len s.length
  have f := fewest_sheets hs hn bx
  cases hg : good s note with
  | nil =>
    rw [hg] at f
    refine run_rt (E := ⟨[.v (shT s), .v (T note), .no, .no, .no], bx⟩) (bSeq_rt (r := .v .non) ?_) rfl |>.trans (by simp)
    simp at f
    simp [f]
  | cons r0 rs =>
    rw [hg] at f
    have f : fn_fewest_sheets [.v (shT s), .v (T note)] bx = some (.v (rT r0), bx) := f
    have i0 : dIs false (rT r0) .non = some (.v (.bl false)) := rfl
    have e0 : bIf (mBl (m2 (dIs false) (mP (mQ (mFn fn_fewest_sheets (mCons (mSlot 0) (mCons (mSlot 1) mNil))))) (mP (mC .non)))) (bRet (mE (mC .non))) bNil ⟨[.v (shT s), .v (T note), .no, .no, .no], bx⟩ = some (.nx, ⟨[.v (shT s), .v (T note), .no, .no, .no], bx⟩) := by simp [f, i0]
    have h1 := sheet_sets s.length hz (shT s) (cLen_shT s) bx
    have h2 := mLc_pure (fun r : List Nat => ⟨[.v (shT s), .v (T note), .no, .v (rT r), .no], bx⟩) (smallB s note) rT (g := rT) (fi := iVal (mP (mQ (mFn fn_sheet_sets (mCons (mSlot 0) mNil))))) (tg := gSet 3) (ft := mTru (mP (mQ (mFn fn_is_smallest (mCons (mSlot 0) (mCons (mSlot 3) (mCons (mSlot 1) mNil))))))) (fe := mVar 3) (vs := [3])
      (E := ⟨[.v (shT s), .v (T note), .no, .no, .no], bx⟩) (E1 := ⟨[.v (shT s), .v (T note), .no, .no, .no], bx⟩) (E' := ⟨[.v (shT s), .v (T note), .no, .no, .no], bx⟩) (lk := none) (sets s.length) (by simp [h1]) (by omega) (by simp [back, backS, wE, unlk]) fun r hr => ⟨by simp [wE], by simp [is_smallest hs hn (sets_asc hr) bx], fun _ => by simp, by simp [wE]⟩
    have e1 := bSet_to (i := 2) (E2 := ⟨[.v (shT s), .v (T note), .o false (.lst (((sets s.length).filter (smallB s note)).map rT)), .no, .no], bx⟩) h2 (by simp) rfl
    have hfl : ((sets s.length).filter (smallB s note)).length ≤ 4096 := Nat.le_trans (List.length_filter_le _ _) (by omega)
    have h3 := mLc_pure (fun k : Nat => ⟨[.v (shT s), .v (T note), .o false (.lst (((sets s.length).filter (smallB s note)).map rT)), .no, .v (.int (k : Int))], bx⟩) (fun k => !((sets s.length).filter (smallB s note)).any fun r => decide (k ∈ r)) (fun (k : Nat) => D.int (k : Int)) (g := fun (k : Nat) => D.int (k : Int))
      (fi := iRg1 (mCons (mP (mQ (mCall cLenA (mCons (mSlot 0) mNil)))) mNil)) (tg := gSet 4) (ft := mNot (mTru (mP (mQ (mCall1 cAny (mLc (iVal (mSlot 2)) (gSet 3) mYes (mQ (m2 (dIn false) (mSlot 4) (mSlot 3))) [3])))))) (fe := mVar 4) (vs := [4])
      (E := ⟨[.v (shT s), .v (T note), .o false (.lst (((sets s.length).filter (smallB s note)).map rT)), .no, .no], bx⟩) (E1 := ⟨[.v (shT s), .v (T note), .o false (.lst (((sets s.length).filter (smallB s note)).map rT)), .no, .no], bx⟩) (E' := ⟨[.v (shT s), .v (T note), .o false (.lst (((sets s.length).filter (smallB s note)).map rT)), .no, .no], bx⟩) (lk := none) (List.range s.length)
      (by simp [rg_nat (show s.length ≤ 16777216 by omega), rangeD0]) (by rw [List.length_range]; omega) (by simp [back, backS, wE, unlk]) fun k hk => ?_
    · refine run_rt (bSeq_nx e0 (bSeq_nx e1 (bRet_ok (r := .v (rT (spareR s note))) (E1 := ⟨[.v (shT s), .v (T note), .o false (.lst (((sets s.length).filter (smallB s note)).map rT)), .no, .no], bx⟩) ?_))) rfl |>.trans (by simp)
      simp only [e_mCall1, h3]
      rfl
    · have h4 := mLc_pure' (fun r : List Nat => ⟨[.v (shT s), .v (T note), .o true (.lst (((sets s.length).filter (smallB s note)).map rT)), .v (rT r), .v (.int (k : Int))], bx⟩) (fun r => D.bl (decide (k ∈ r))) (g := rT) (fi := iVal (mSlot 2)) (tg := gSet 3) (fe := mQ (m2 (dIn false) (mSlot 4) (mSlot 3))) (vs := [3])
        (E := ⟨[.v (shT s), .v (T note), .o false (.lst (((sets s.length).filter (smallB s note)).map rT)), .no, .v (.int (k : Int))], bx⟩) (E1 := ⟨[.v (shT s), .v (T note), .o true (.lst (((sets s.length).filter (smallB s note)).map rT)), .no, .v (.int (k : Int))], bx⟩) (E' := ⟨[.v (shT s), .v (T note), .o false (.lst (((sets s.length).filter (smallB s note)).map rT)), .no, .v (.int (k : Int))], bx⟩) (lk := some 2) ((sets s.length).filter (smallB s note))
        (by simp) (by omega) (by simp [back, backS, wE, unlk, unl]) fun r hr => ⟨by simp [wE], by simp [dIn_rT], by simp [wE]⟩
      refine ⟨by simp [wE], ?_, fun _ => by simp, by simp [wE]⟩
      simp only [e_mNot, e_mTru, e_mP, e_mQ, e_mCall1, h4]
      show ((((((cAny [.lst (((sets s.length).filter (smallB s note)).map fun r => D.bl (decide (k ∈ r)))]).bind _).bind _).bind _).bind _).bind _) = _
      rw [cAny_fun]
      rfl
end
end K32

namespace K32
open PySem L2 PyProof.Rows PV
/-! ### more or fewer sheets -/
theorem sum_perm {f : Nat → Nat} {a b : List Nat} (h : a.Perm b) : (a.map f).sum = (b.map f).sum := (h.map f).sum_nat
theorem sum_le {f : Nat → Nat} : ∀ {r r' : List Nat}, r.Nodup → r ⊆ r' → (r.map f).sum ≤ (r'.map f).sum
  | [], _, _, _ => by simp
  | a :: t, r', nd, h => by
    have ha := h List.mem_cons_self
    have p := List.perm_cons_erase ha
    rw [sum_perm p]
    have nd2 := List.nodup_cons.mp nd
    have : t ⊆ r'.erase a := fun x hx => by
      have hx2 := h (List.mem_cons_of_mem _ hx)
      rw [List.mem_erase_of_ne (by rintro rfl; exact nd2.1 hx)]
      exact hx2
    have := sum_le (f := f) nd2.2 this
    simp only [List.map_cons, List.sum_cons]
    omega
theorem okR_iff {s : List (List Nat)} {note r : List Nat} : okR s note r = true ↔ ∀ c, note.count c ≤ (r.map fun k => (s.getD k []).count c).sum := by
  unfold okR lk
  rw [List.isEmpty_iff, lacks_nil]
  have : ∀ c, (pick s r).flatten.count c = (r.map fun k => (s.getD k []).count c).sum := fun c => by
    unfold pick
    rw [List.count_flatten, List.map_map]
    rfl
  simp only [this]
theorem okR_mono {s : List (List Nat)} {note r r' : List Nat} (nd : r.Nodup) (h : r ⊆ r') (ho : okR s note r = true) : okR s note r' = true := by
  rw [okR_iff] at ho ⊢
  exact fun c => Nat.le_trans (ho c) (sum_le nd h)
theorem asc_nd {n : Nat} {r : List Nat} (h : Asc n r) : r.Nodup := h.1.imp fun h => by omega
theorem mem_good {s : List (List Nat)} {note r : List Nat} : r ∈ good s note ↔ Asc s.length r ∧ okR s note r = true := by
  unfold good
  rw [List.mem_filter, mem_sets, mem_subs]
theorem good_nil {s : List (List Nat)} {note : List Nat} : good s note = [] ↔ okR s note (List.range s.length) = false := by
  constructor
  · intro h
    cases ho : okR s note (List.range s.length) with
    | false => rfl
    | true =>
      have := mem_good.mpr ⟨asc_range s.length, ho⟩
      rw [h] at this; cases this
  · intro h
    cases hg : good s note with
    | nil => rfl
    | cons r rs =>
      have hr := mem_good.mp (by rw [hg]; exact List.mem_cons_self : r ∈ good s note)
      have := okR_mono (asc_nd hr.1) (fun k hk => List.mem_range.mpr (hr.1.2 k hk) : r ⊆ List.range s.length) hr.2
      rw [h] at this; cases this
theorem mem_without {r : List Nat} {k j : Nat} : j ∈ without r k ↔ j ∈ r ∧ j ≠ k := by
  unfold without
  rw [List.mem_filter]
  simp
/-- what is in all choices -/
theorem sure_law {s : List (List Nat)} {note : List Nat} : ((List.range s.length).filter fun k => (good s note).all fun r => decide (k ∈ r)) = sureR s note := by
  unfold sureR
  refine List.filter_congr fun k hk => ?_
  rw [Bool.eq_iff_iff, List.all_eq_true, Bool.not_eq_true']
  constructor
  · intro h
    cases ho : okR s note (without (List.range s.length) k) with
    | false => rfl
    | true =>
      have := h _ (mem_good.mpr ⟨asc_filter (asc_range s.length) _, ho⟩)
      simp only [decide_eq_true_eq] at this
      exact absurd rfl (mem_without.mp this).2
  · intro h r hr
    have hr := mem_good.mp hr
    rw [decide_eq_true_eq]
    by_cases hkr : k ∈ r
    · exact hkr
    · exfalso
      have := okR_mono (asc_nd hr.1) (fun j hj => mem_without.mpr ⟨List.mem_range.mpr (hr.1.2 j hj), by rintro rfl; exact hkr hj⟩ : r ⊆ without (List.range s.length) k) hr.2
      rw [h] at this; cases this
/-- the smallest choices -/
def lessB (s : List (List Nat)) (note r : List Nat) : Bool := (good s note).any fun o => !decide (o = r) && o.all fun k => decide (k ∈ r)
theorem asc_ext {n : Nat} : ∀ {a b : List Nat}, a.Pairwise (· < ·) → b.Pairwise (· < ·) → (∀ x, x ∈ a ↔ x ∈ b) → a = b := fun {a b} ha hb h =>
  List.Perm.eq_of_pairwise (le := (· < ·)) (fun x y _ _ h1 h2 => by omega) ha hb ((List.perm_ext_iff_of_nodup (ha.imp fun h => by omega) (hb.imp fun h => by omega)).mpr h)
theorem small_law {s : List (List Nat)} {note : List Nat} : ((good s note).filter fun r => !lessB s note r) = (sets s.length).filter (smallB s note) := by
  unfold good
  rw [List.filter_filter]
  refine List.filter_congr fun r hr => ?_
  have ha := sets_asc hr
  unfold smallB
  cases ho : okR s note r with
  | false => simp
  | true =>
    simp only [Bool.true_and, Bool.and_true]
    rw [Bool.eq_iff_iff, Bool.not_eq_true', List.all_eq_true]
    unfold lessB
    constructor
    · intro h k hk
      rw [Bool.not_eq_true']
      cases hw : okR s note (without r k) with
      | false => rfl
      | true =>
        exfalso
        have : ((good s note).any fun o => !decide (o = r) && o.all fun k => decide (k ∈ r)) = true := by
          refine List.any_eq_true.mpr ⟨without r k, mem_good.mpr ⟨asc_filter ha _, hw⟩, ?_⟩
          rw [Bool.and_eq_true, Bool.not_eq_true', decide_eq_false_iff_not, List.all_eq_true]
          refine ⟨fun e => ?_, fun j hj => decide_eq_true (mem_without.mp hj).1⟩
          rw [← e] at hk
          exact (mem_without.mp hk).2 rfl
        rw [h] at this; cases this
    · intro h
      cases hl : (good s note).any fun o => !decide (o = r) && o.all fun k => decide (k ∈ r) with
      | false => rfl
      | true =>
        exfalso
        obtain ⟨o, ho1, ho2⟩ := List.any_eq_true.mp hl
        rw [Bool.and_eq_true, Bool.not_eq_true', decide_eq_false_iff_not, List.all_eq_true] at ho2
        have hg := mem_good.mp ho1
        -- some index of r is not in o
        have : ∃ k ∈ r, k ∉ o := by
          by_cases hex : ∃ k ∈ r, k ∉ o
          · exact hex
          · exfalso
            refine ho2.1 (asc_ext (n := 0) hg.1.1 ha.1 fun x => ⟨fun hx => of_decide_eq_true (ho2.2 x hx), fun hx => ?_⟩)
            by_cases hxo : x ∈ o
            · exact hxo
            · exact absurd ⟨x, hx, hxo⟩ hex
        obtain ⟨k, hk, hko⟩ := this
        have hk2 := h k hk
        have := okR_mono (asc_nd hg.1) (fun j hj => mem_without.mpr ⟨of_decide_eq_true (ho2.2 j hj), by rintro rfl; exact hko hj⟩ : o ⊆ without r k) hg.2
        rw [this] at hk2; cases hk2
/-! ### the judge of sheets that do -/
theorem give_rows {xs : List D} {m : Nat} (h : xs.all (isNumB ((m : Int) - 1)) = true) : ∃ r : List Nat, xs = r.map (fun (k : Nat) => D.int (k : Int)) ∧ ∀ k ∈ r, k < m := by
  refine all_form (f := fun (k : Nat) => D.int (k : Int)) (P := fun k => k < m) fun d hd => ?_
  have := List.all_eq_true.mp h d hd
  cases d with
  | int i =>
    simp only [isNumB, Bool.and_eq_true, decide_eq_true_eq] at this
    exact ⟨i.toNat, by congr 1; omega, by omega⟩
  | _ => simp [isNumB] at this
theorem sm_rT_isNum {xs : List D} {r : List Nat} {m : Nat} (h : sm (.tup xs) (rT r) = true) (hr : ∀ k ∈ r, k < m) : xs.all (isNumB ((m : Int) - 1)) = true := by
  have e := sm_eq _ _ h
  unfold rT at e
  have e : xs = r.map fun (k : Nat) => D.int (k : Int) := by injection e
  rw [e, List.all_map, List.all_eq_true]
  intro k hk
  have := hr k hk
  simp only [Function.comp, isNumB, Bool.and_eq_true, decide_eq_true_eq]
  omega
theorem any_false {α : Type} {f : α → Bool} {xs : List α} (h : ∀ x ∈ xs, f x = false) : xs.any f = false := by
  cases e : xs.any f with
  | false => rfl
  | true =>
    obtain ⟨x, hx, q⟩ := List.any_eq_true.mp e
    rw [h x hx] at q; cases q
theorem do_give {s : List (List Nat)} (hs : Fine s) {note : List Nat} (hn : Nt note) {n k : Nat} (hnn : n ≤ 20) (v : D) (hv : Ok n k v) (bx : Bx) :
    fn_do_give [.v (shT s), .v (T note), .v v] bx = some (.v (.bl ((good s note).any fun r => sm v (rT r))), bx) := by
  have K := kits
  have hz := hs.n
  cases hv with
  | tup xs h1 h2 =>
    have h := mLc_pure' (fun x : D => ⟨[.v (shT s), .v (T note), .v (.tup xs), .v x], bx⟩) (fun x => D.bl (isNumB ((s.length : Int) - 1) x)) (g := fun x => x) (fi := iVal (mSlot 2)) (tg := gSet 3)
      (fe := mQ (mFn fn_is_number (mCons (mSlot 3) (mCons (mP (mC (.int 0))) (mCons (mP (mQ (m2 dSub (mP (mQ (mCall cLenA (mCons (mSlot 0) mNil)))) (mP (mC (.int 1)))))) mNil))))) (vs := [3])
      (E := ⟨[.v (shT s), .v (T note), .v (.tup xs), .no], bx⟩) (E1 := ⟨[.v (shT s), .v (T note), .v (.tup xs), .no], bx⟩) (E' := ⟨[.v (shT s), .v (T note), .v (.tup xs), .no], bx⟩) (lk := none) xs (by simp) (by omega) (by simp [back, backS, wE, unlk]) fun x hx => ⟨by simp [wE], by simp [is_number _ _ _ (h2 x hx)], by simp [wE]⟩
    have ha : mCall1 cAll (mLc (iVal (mSlot 2)) (gSet 3) mYes (mQ (mFn fn_is_number (mCons (mSlot 3) (mCons (mP (mC (.int 0))) (mCons (mP (mQ (m2 dSub (mP (mQ (mCall cLenA (mCons (mSlot 0) mNil)))) (mP (mC (.int 1)))))) mNil))))) [3]) ⟨[.v (shT s), .v (T note), .v (.tup xs), .no], bx⟩
        = some (.v (.bl (xs.all (isNumB ((s.length : Int) - 1)))), ⟨[.v (shT s), .v (T note), .v (.tup xs), .no], bx⟩) := mCall1_ok h (cAll_fun _ _)
    cases hq : xs.all (isNumB ((s.length : Int) - 1)) with
    | false =>
      rw [hq] at ha
      have e : ((good s note).any fun r => sm (.tup xs) (rT r)) = false := any_false fun r hr => by
        cases hsm : sm (.tup xs) (rT r) with
        | false => rfl
        | true =>
          have := sm_rT_isNum hsm (mem_good.mp hr).1.2
          rw [hq] at this; cases this
      rw [e]
      refine run_rt (E := ⟨[.v (shT s), .v (T note), .v (.tup xs), .no], bx⟩) (bSeq_rt ?_) rfl
      simp [K, ha, -e_mCall1]
    | true =>
      rw [hq] at ha
      obtain ⟨r, rfl, hr⟩ := give_rows hq
      have e0 : bIf (mOr (mNot (mTru (mP (mQ (mIsi "tuple" (mSlot 2)))))) (mNot (mTru (mP (mQ (mCall1 cAll (mLc (iVal (mSlot 2)) (gSet 3) mYes (mQ (mFn fn_is_number (mCons (mSlot 3) (mCons (mP (mC (.int 0))) (mCons (mP (mQ (m2 dSub (mP (mQ (mCall cLenA (mCons (mSlot 0) mNil)))) (mP (mC (.int 1)))))) mNil))))) [3]))))))) (bRet (mE (mC (.bl false)))) bNil ⟨[.v (shT s), .v (T note), .v (rT r), .no], bx⟩ = some (.nx, ⟨[.v (shT s), .v (T note), .v (rT r), .no], bx⟩) := by
        have ha : mCall1 cAll _ ⟨[.v (shT s), .v (T note), .v (rT r), .no], bx⟩ = some (.v (.bl true), ⟨[.v (shT s), .v (T note), .v (rT r), .no], bx⟩) := ha
        have tn : (rT r).tn = "tuple" := rfl
        simp [K, tn, ha, -e_mCall1]
      have hl : r.length ≤ 100000 := by
        rw [List.length_map] at h1
        omega
      have ia := is_ascending r hl bx
      cases hb : ascB r with
      | false =>
        rw [hb] at ia
        have e : ((good s note).any fun r' => sm (.tup (r.map fun (k : Nat) => D.int (k : Int))) (rT r')) = false := any_false fun r' hr' => by
          have := sm_rT r r'
          unfold rT at this
          have hne : ¬ r = r' := by
            rintro rfl
            have := ascB_iff.mpr (mem_good.mp hr').1.1
            rw [hb] at this; cases this
          show sm (rT r) (rT r') = false
          rw [sm_rT, decide_eq_false hne]
        rw [e]
        refine run_rt (E := ⟨[.v (shT s), .v (T note), .v (rT r), .no], bx⟩) (bSeq_nx e0 (bRet_ok ?_)) rfl
        simp [ia]
      | true =>
        rw [hb] at ia
        have asc : Asc s.length r := ⟨ascB_iff.mp hb, hr⟩
        have l1 := lack_asc hs hn asc bx
        have l2 : dEq (.tup (lk s note r)) (.tup []) = some (.v (.bl (okR s note r))) := lackT_eq _ _
        have e : ((good s note).any fun r' => sm (.tup (r.map fun (k : Nat) => D.int (k : Int))) (rT r')) = okR s note r := by
          rw [Bool.eq_iff_iff, List.any_eq_true]
          constructor
          · rintro ⟨r', h1, h2⟩
            have h2 : sm (rT r) (rT r') = true := h2
            rw [sm_rT, decide_eq_true_eq] at h2
            subst h2
            exact (mem_good.mp h1).2
          · intro ho
            exact ⟨r, mem_good.mpr ⟨asc, ho⟩, by show sm (rT r) (rT r) = true; rw [sm_rT]; simp⟩
        rw [e]
        refine run_rt (E := ⟨[.v (shT s), .v (T note), .v (rT r), .no], bx⟩) (bSeq_nx e0 (bRet_ok ?_)) rfl
        simp [ia, l1, l2]
  | str cs h1 h2 =>
    rw [any_false fun r hr => (by simp [T, rT, sm])]
    simp [fn_do_give, m_do_give, PV.run, K]
  | non =>
    rw [any_false fun r hr => (by simp [rT, sm])]
    simp [fn_do_give, m_do_give, PV.run, K]
  | bl b =>
    rw [any_false fun r hr => (by simp [rT, sm])]
    simp [fn_do_give, m_do_give, PV.run, K]
  | int b =>
    rw [any_false fun r hr => (by simp [rT, sm])]
    simp [fn_do_give, m_do_give, PV.run, K]
end K32

namespace K32
open PySem L2 PyProof.Rows PV
/-! ### notes of the same sheets -/
def wantD (t w : List Nat) : D := match lackL t w with
  | [] => .non
  | x :: _ => T [x.1]
theorem wanted_most (A B : D) (ta tb : List (List Nat)) (ha : items A = some (ta.map T)) (hb : items B = some (tb.map T)) (la : ∀ t ∈ ta, Lt t) (lb : ∀ t ∈ tb, Lt t) (hl : tb.flatten.length ≤ 4000) (bx : Bx) :
    fn_wanted_most [.v A, .v B] bx = some (.v (wantD ta.flatten tb.flatten), bx) := by
  have c1 := letter_counts A ta ha la bx
  have c2 := letter_counts B tb hb lb bx
  have c3 := too_few _ _ _ _ (cd_cnt ta.flatten) (cd_cnt tb.flatten) hl bx
  unfold cd at c3
  have e0 : bSet 2 (mFn fn_too_few (mCons (mP (mQz (mFn fn_letter_counts (mCons (mSlot 0) mNil)))) (mCons (mP (mQz (mFn fn_letter_counts (mCons (mSlot 1) mNil)))) mNil))) ⟨[.v A, .v B, .no], bx⟩ = some (.nx, ⟨[.v A, .v B, .v (.tup (lacks ta.flatten tb.flatten))], bx⟩) := by
    simp [c1, c2, c3]
  refine run_rt (E := ⟨[.v A, .v B, .v (.tup (lacks ta.flatten tb.flatten))], bx⟩) (bSeq_nx e0 (bRet_ok ?_)) rfl
  unfold wantD
  cases h : lackL ta.flatten tb.flatten with
  | nil =>
    have e : lacks ta.flatten tb.flatten = [] := by unfold lacks; rw [h]; rfl
    have t0 : truth (.tup []) = some false := rfl
    simp [e, t0]
  | cons x xs =>
    have e : lacks ta.flatten tb.flatten = lkD x :: xs.map lkD := by unfold lacks; rw [h]; rfl
    have t0 : truth (.tup (lkD x :: xs.map lkD)) = some true := rfl
    have i1 : dIx (.tup (lkD x :: xs.map lkD)) (.int 0) = some (.v (lkD x)) := by simp
    have i2 : dIx (lkD x) (.int 0) = some (.v (T [x.1])) := by simp [lkD]
    rw [e]
    simp [t0, i1, i2, -dIx_tup]
theorem want_is (t w : List Nat) : dIs false (wantD t w) .non = some (.v (.bl (lacks t w).isEmpty)) := by
  unfold wantD lacks
  cases lackL t w with
  | nil => rfl
  | cons x xs => rfl
def fits (s ns : List (List Nat)) : List (List Nat) := (sets ns.length).filter fun r => (lacks s.flatten (pick ns r).flatten).isEmpty
theorem fits_ne (s ns : List (List Nat)) : [] ∈ fits s ns := by
  unfold fits
  refine List.mem_filter.mpr ⟨mem_sets.mpr (mem_subs.mpr ⟨.nil, by simp⟩), ?_⟩
  rw [List.isEmpty_iff, lacks_nil]
  intro c
  simp [pick]
def lens (rows : List (List Nat)) : List Int := rows.map fun r => (r.length : Int)
def mostI (rows : List (List Nat)) : Int := (maxI (lens rows)).getD 0
def bestR (rows : List (List Nat)) : List Nat := (rows.filter fun r => decide ((r.length : Int) = mostI rows)).headD []
theorem mostI_some {rows : List (List Nat)} (h : rows ≠ []) : maxI (lens rows) = some (mostI rows) ∧ ∃ r ∈ rows, (r.length : Int) = mostI rows := by
  cases rows with
  | nil => exact absurd rfl h
  | cons r rs =>
    unfold mostI lens
    have := (maxI_spec (rs.map fun r => (r.length : Int)) (r.length : Int)).1
    refine ⟨rfl, ?_⟩
    have e : ((maxI ((r :: rs).map fun r => (r.length : Int))).getD 0) = (rs.map fun r => (r.length : Int)).foldl max (r.length : Int) := rfl
    rw [e]
    rcases List.mem_cons.mp this with q | q
    · exact ⟨r, List.mem_cons_self, q.symm⟩
    · obtain ⟨r', h1, h2⟩ := List.mem_map.mp q
      exact ⟨r', List.mem_cons_of_mem _ h1, h2⟩
theorem cMaxA_lens (rows : List (List Nat)) (h : rows ≠ []) : cMaxA [.lst (rows.map fun r => D.int (r.length : Int))] = some (.v (.int (mostI rows))) := by
  have e : (rows.map fun r => D.int (r.length : Int)) = (lens rows).map D.int := by unfold lens; rw [List.map_map]; rfl
  rw [e]
  have : cMax [.lst ((lens rows).map D.int)] = some (.v (.int (mostI rows))) := by
    show ((dInts ((lens rows).map D.int)).bind fun ns => (maxI ns).bind fun m => some (R.v (.int m))) = _
    rw [dInts_map]
    show ((maxI (lens rows)).bind fun m => some (R.v (.int m))) = _
    rw [(mostI_some h).1]
    rfl
  unfold cMaxA
  rw [this]
  rfl
theorem best_ix (rows : List (List Nat)) (h : rows ≠ []) : dIx (.lst ((rows.filter fun r => decide ((r.length : Int) = mostI rows)).map rT)) (.int 0) = some (.v (rT (bestR rows))) := by
  unfold bestR
  obtain ⟨r, hr, e⟩ := (mostI_some h).2
  have hm : r ∈ rows.filter fun r => decide ((r.length : Int) = mostI rows) := List.mem_filter.mpr ⟨hr, decide_eq_true e⟩
  cases hf : rows.filter fun r => decide ((r.length : Int) = mostI rows) with
  | nil => rw [hf] at hm; cases hm
  | cons x xs => simp
theorem pick_len {s : List (List Nat)} (hs : Fine s) {r : List Nat} (hr : Asc s.length r) : (pick s r).flatten.length ≤ 480 := by
  have h1 := flat_len (n := 40) (s := pick s r) fun t ht => hs.l t (pick_mem hr.2 t ht)
  have h2 : (pick s r).length = r.length := by unfold pick; rw [List.length_map]
  have h3 := asc_len hr
  have h4 := hs.n
  have : (pick s r).length * 40 ≤ 12 * 40 := Nat.mul_le_mul_right 40 (by omega)
  omega
theorem pick_lt {s : List (List Nat)} (hs : Fine s) {r : List Nat} (hr : Asc s.length r) : ∀ t ∈ pick s r, Lt t := fun t ht => hs.lt t (pick_mem hr.2 t ht)
theorem most_notes {s ns : List (List Nat)} (hs : Fine s) (hn : Fine ns) (bx : Bx) : fn_most_notes [.v (shT s), .v (shT ns)] bx = some (.v (rT (bestR (fits s ns))), bx) := by
  have hz := hn.n
  have hp := pow12 (k := ns.length) (n := 12) hz (Nat.le_refl _)
  have hsl := sets_len ns.length
  have hne : fits s ns ≠ [] := fun z => by have := fits_ne s ns; rw [z] at this; cases this
  have h1 := sheet_sets ns.length hz (shT ns) (cLen_shT ns) bx
  have hfl : (fits s ns).length ≤ 4096 := Nat.le_trans (List.length_filter_le _ _) (by omega)
  have h2 := mLc_pure (fun r : List Nat => ⟨[.v (shT s), .v (shT ns), .no, .no, .v (rT r), .no], bx⟩) (fun r => (lacks s.flatten (pick ns r).flatten).isEmpty) rT (g := rT) (fi := iVal (mP (mQ (mFn fn_sheet_sets (mCons (mSlot 1) mNil))))) (tg := gSet 4)
    (ft := mBl (m2 (dIs false) (mP (mQ (mFn fn_wanted_most (mCons (mSlot 0) (mCons (mP (mQ (mLc (iVal (mSlot 4)) (gSet 5) mYes (mQ (m2 dIx (mSlot 1) (mSlot 5))) [5]))) mNil))))) (mP (mC .non)))) (fe := mVar 4) (vs := [4])
    (E := ⟨[.v (shT s), .v (shT ns), .no, .no, .no, .no], bx⟩) (E1 := ⟨[.v (shT s), .v (shT ns), .no, .no, .no, .no], bx⟩) (E' := ⟨[.v (shT s), .v (shT ns), .no, .no, .no, .no], bx⟩) (lk := none) (sets ns.length) (by simp [h1]) (by omega) (by simp [back, backS, wE, unlk]) fun r hr => ?_
  · have e1 := bSet_to (i := 2) (E2 := ⟨[.v (shT s), .v (shT ns), .o false (.lst ((fits s ns).map rT)), .no, .no, .no], bx⟩) h2 (by simp) rfl
    have h3 := mLc_pure' (fun r : List Nat => ⟨[.v (shT s), .v (shT ns), .o true (.lst ((fits s ns).map rT)), .no, .v (rT r), .no], bx⟩) (fun r => D.int (r.length : Int)) (g := rT) (fi := iVal (mSlot 2)) (tg := gSet 4) (fe := mQ (mCall cLenA (mCons (mSlot 4) mNil))) (vs := [4])
      (E := ⟨[.v (shT s), .v (shT ns), .o false (.lst ((fits s ns).map rT)), .no, .no, .no], bx⟩) (E1 := ⟨[.v (shT s), .v (shT ns), .o true (.lst ((fits s ns).map rT)), .no, .no, .no], bx⟩) (E' := ⟨[.v (shT s), .v (shT ns), .o false (.lst ((fits s ns).map rT)), .no, .no, .no], bx⟩) (lk := some 2) (fits s ns) (by simp) (by omega) (by simp [back, backS, wE, unlk, unl]) fun r hr => ⟨by simp [wE], by simp, by simp [wE]⟩
    have e2 := bSet_to (i := 3) (E2 := ⟨[.v (shT s), .v (shT ns), .o false (.lst ((fits s ns).map rT)), .v (.int (mostI (fits s ns))), .no, .no], bx⟩) (mCall1_ok h3 (cMaxA_lens _ hne)) (by simp) rfl
    have h4 := mLc_pure (fun r : List Nat => ⟨[.v (shT s), .v (shT ns), .o true (.lst ((fits s ns).map rT)), .v (.int (mostI (fits s ns))), .v (rT r), .no], bx⟩) (fun r => decide ((r.length : Int) = mostI (fits s ns))) rT (g := rT) (fi := iVal (mSlot 2)) (tg := gSet 4) (ft := mBl (m2 dEq (mP (mQ (mCall cLenA (mCons (mSlot 4) mNil)))) (mSlot 3))) (fe := mVar 4) (vs := [4])
      (E := ⟨[.v (shT s), .v (shT ns), .o false (.lst ((fits s ns).map rT)), .v (.int (mostI (fits s ns))), .no, .no], bx⟩) (E1 := ⟨[.v (shT s), .v (shT ns), .o true (.lst ((fits s ns).map rT)), .v (.int (mostI (fits s ns))), .no, .no], bx⟩) (E' := ⟨[.v (shT s), .v (shT ns), .o false (.lst ((fits s ns).map rT)), .v (.int (mostI (fits s ns))), .no, .no], bx⟩) (lk := some 2) (fits s ns) (by simp) (by omega) (by simp [back, backS, wE, unlk, unl]) fun r hr => ⟨by simp [wE], by simp, fun _ => by simp, by simp [wE]⟩
    have i0 := best_ix _ hne
    refine run_rt (bSeq_nx e1 (bSeq_nx e2 (bRet_ok (r := .v (rT (bestR (fits s ns)))) (E1 := ⟨[.v (shT s), .v (shT ns), .o false (.lst ((fits s ns).map rT)), .v (.int (mostI (fits s ns))), .no, .no], bx⟩) ?_))) rfl
    simp [h4, -e_mLc, i0, -dIx_lst]
  · have ha := sets_asc hr
    have h3 := mLc_pure' (fun k : Nat => ⟨[.v (shT s), .v (shT ns), .no, .no, .v (rT r), .v (.int (k : Int))], bx⟩) (fun k => T (ns.getD k [])) (g := fun (k : Nat) => D.int (k : Int)) (fi := iVal (mSlot 4)) (tg := gSet 5) (fe := mQ (m2 dIx (mSlot 1) (mSlot 5))) (vs := [5])
      (E := ⟨[.v (shT s), .v (shT ns), .no, .no, .v (rT r), .no], bx⟩) (E1 := ⟨[.v (shT s), .v (shT ns), .no, .no, .v (rT r), .no], bx⟩) (E' := ⟨[.v (shT s), .v (shT ns), .no, .no, .v (rT r), .no], bx⟩) (lk := none) r (by simp) (by have := asc_len ha; omega) (by simp [back, backS, wE, unlk]) fun k hk => ⟨by simp [wE], by simp [ix_pick (ha.2 k hk)], by simp [wE]⟩
    have ep : (r.map fun k => T (ns.getD k [])) = (pick ns r).map T := by unfold pick; rw [List.map_map]; rfl
    rw [ep] at h3
    have w := wanted_most (shT s) (.lst ((pick ns r).map T)) s (pick ns r) rfl rfl hs.lt (pick_lt hn ha) (by have := pick_len hn ha; omega) bx
    have i := want_is s.flatten (pick ns r).flatten
    refine ⟨by simp [wE], ?_, fun _ => by simp, by simp [wE]⟩
    simp [h3, -e_mLc, w, i]
end K32

namespace K32
open PySem L2 PyProof.Rows PV
theorem fairAll_of {k : Nat} : ∀ {xs : List D}, (∀ x ∈ xs, fair k x = true) → fairAll k xs = true
  | [], _ => by simp [fairAll]
  | x :: xs, h => by
    unfold fairAll
    rw [h x List.mem_cons_self, fairAll_of fun y hy => h y (List.mem_cons_of_mem _ hy)]
    rfl
theorem fair_tup {k : Nat} {xs : List D} (hl : xs.length ≤ 16000000) (h : ∀ x ∈ xs, fair k x = true) : fair (k + 1) (.tup xs) = true := by
  unfold fair
  rw [fairAll_of h, decide_eq_true hl]; rfl
theorem fair_lst {k : Nat} {xs : List D} (hl : xs.length ≤ 16000000) (h : ∀ x ∈ xs, fair k x = true) : fair (k + 1) (.lst xs) = true := by
  unfold fair
  rw [fairAll_of h, decide_eq_true hl]; rfl
theorem fair_rT {k : Nat} {r : List Nat} (hl : r.length ≤ 16000000) : fair (k + 2) (rT r) = true := fair_tup (by simpa using hl) fun x hx => by
  obtain ⟨j, _, rfl⟩ := List.mem_map.mp hx
  rfl
theorem fair_lacks {k : Nat} (t w : List Nat) (hw : w.length ≤ 4000) : fair (k + 3) (.tup (lacks t w)) = true := by
  refine fair_tup ?_ fun x hx => ?_
  · unfold lacks lackL
    rw [List.length_map, List.length_map]
    have h1 := List.length_filter_le (fun c => decide (t.count c < w.count c)) (srt w)
    have h2 : (srt w).length ≤ w.length := by rw [(srt_perm w).length_eq]; exact uniq_le w
    omega
  · obtain ⟨y, _, rfl⟩ := List.mem_map.mp hx
    refine fair_tup (by simp) fun z hz => ?_
    simp only [List.mem_cons, List.not_mem_nil, or_false] at hz
    rcases hz with rfl | rfl <;> rfl
theorem fair_ok {n : Nat} (hn : n ≤ 20) : ∀ {k : Nat} {v : D}, Ok n k v → fair k v = true := by
  intro k v o
  induction o with
  | non => rfl
  | bl b => rfl
  | int i h => rfl
  | str cs h1 h2 => rfl
  | tup xs h1 h2 ih => exact fair_tup (by omega) ih
theorem skip_same {fa fb : EF P} {E E1 E2 : En} {a b : D} {x : EF Fl} (h1 : fa E = some (.v a, E1)) (h2 : fb E1 = some (.v b, E2)) (h3 : fn__law_same [.v a, .v b] E2.bx = some (.v (.bl true), E2.bx)) :
    bIf (mNot (mTru (mP (mQ (mFn fn__law_same (mCons fa (mCons fb mNil))))))) x bNil E = some (.nx, E2) := by
  simp [h1, h2, h3]
theorem same_it (k : Nat) {a b : D} (bx : Bx) (e : a = b) (h : fair k a = true) (hk : k ≤ 20) : fn__law_same [.v a, .v b] bx = some (.v (.bl true), bx) := same_eq k bx e h hk
abbrev mk (a2 a3 a4 a5 a6 a7 a8 a9 a10 a11 a12 a13 a14 a15 a16 a17 a18 : Sl) (bx : Bx) : En :=
  ⟨[.no, .bx, a2, a3, a4, a5, a6, a7, a8, a9, a10, a11, a12, a13, a14, a15, a16, a17, a18, .no, .no, .no, .no, .no], bx⟩
section
variable {a2 a3 a4 a5 a6 a7 a8 a9 a10 a11 a12 a13 a14 a15 a16 a17 a18 : Sl} {bx : Bx}
structure Sh (m l : Nat) (s : List (List Nat)) : Prop where
  n : s.length ≤ m
  t : ∀ t ∈ s, Small l t
theorem Sh.fine {m l : Nat} {s : List (List Nat)} (h : Sh m l s) (hm : m ≤ 12) (hl : l ≤ 40) : Fine s := ⟨fun t ht => (h.t t ht).lt, by have := h.n; omega, fun t ht => by have := (h.t t ht).l1; omega⟩
theorem Small.nt {m : Nat} {t : List Nat} (h : Small m t) (hm : m ≤ 100) : Nt t := ⟨h.lt, by have := h.l1; omega⟩
theorem texts_drawn {E : En} {sl : List Sl} {most : Nat} (h0 : 1 ≤ most) (h1 : most ≤ 8) (l : Nat) (hl0 : 1 ≤ l) (hl : l ≤ 10) (g : BG bx) (he : E = ⟨sl, bx⟩) (hbx : sl[1]? = some .bx) (h19 : 19 < sl.length) (hno : sl[19]? = some .no) :
    ∃ s bx', mCall1 cTup (mLc (iRg1 (mCons (mP (mQ (mFn fnDraw (mCons (mSlot 1) (mCons (mP (mC (.int (most : Int)))) mNil))))) mNil)) (gSet 19) mYes (mQ (mFn fn__law_text (mCons (mSlot 1) (mCons (mP (mC (.int (l : Int)))) mNil)))) [19]) E = some (.v (shT s), ⟨sl, bx'⟩) ∧ BG bx' ∧ Sh (most - 1) l s := by
  subst he
  obtain ⟨q, bx1, d1, g1, q0, q1⟩ := draw_ok g (m := (most : Int)) (by omega) (by omega)
  have hs := sz
  have w19 : ∀ b : Bx, wE [19] ⟨sl, b⟩ = ⟨sl, b⟩ := fun b => by
    unfold wE
    simp only [List.foldr]
    have : sl.set 19 Sl.no = sl := by
      apply List.ext_getElem?
      intro i
      by_cases e : 19 = i
      · subst e; rw [List.getElem?_set_self h19, hno]
      · rw [List.getElem?_set_ne e]
    rw [this]
  obtain ⟨ds, bx2, r1, r2, r3, r4⟩ := mLc_draw (P := fun d => ∃ t, d = T t ∧ Small l t) (g := fun (k : Nat) => D.int (k : Int)) (fi := iRg1 (mCons (mP (mQ (mFn fnDraw (mCons (mSlot 1) (mCons (mP (mC (.int (most : Int)))) mNil))))) mNil)) (tg := gSet 19) (fe := mQ (mFn fn__law_text (mCons (mSlot 1) (mCons (mP (mC (.int (l : Int)))) mNil)))) (vs := [19]) (E := ⟨sl, bx⟩) (sl := sl) (bx0 := bx1) (List.range q.toNat)
    (by simp [hbx, d1, rg_int q0 (show q ≤ 16777216 by omega), rangeD0]) (by rw [List.length_range]; omega) g1 (fun b => by rw [w19]; unfold back; simp [backS, hno])
    (fun k hk b gb => by
      obtain ⟨t, b', e1, e2, e3⟩ := law_text l hl0 hl b gb
      refine ⟨⟨sl.set 19 (.v (.int (k : Int))), b⟩, T t, ⟨sl.set 19 (.v (.int (k : Int))), b'⟩, b', ?_, ?_, ?_, e2, t, rfl, e3⟩
      · rw [w19]; simp [h19]
      · simp [hbx, e1]
      · rw [w19]
        unfold wE
        simp only [List.foldr, List.set_set]
        have := w19 b'
        unfold wE at this
        simpa using this)
  obtain ⟨s, rfl, hP⟩ := all_form (f := T) (P := Small l) r3
  refine ⟨s, bx2, mCall1_ok r1 rfl, r4, ⟨?_, hP⟩⟩
  rw [List.length_map, List.length_range] at r2
  omega
theorem l0 (g : BG bx) : ∃ s bx', q1b0 (mk a2 a3 a4 a5 a6 a7 a8 a9 a10 a11 a12 a13 a14 a15 a16 a17 a18 bx) = some (.nx, mk a2 (.v (shT s)) a4 a5 a6 a7 a8 a9 a10 a11 a12 a13 a14 a15 a16 a17 a18 bx') ∧ BG bx' ∧ Sh 6 4 s := by
  obtain ⟨s, bx', h1, h2, h3⟩ := texts_drawn (most := 7) (E := mk a2 a3 a4 a5 a6 a7 a8 a9 a10 a11 a12 a13 a14 a15 a16 a17 a18 bx) (by omega) (by omega) 4 (by omega) (by omega) g rfl rfl (by simp) rfl
  exact ⟨s, bx', bSet_to h1 (by simp) rfl, h2, h3⟩
theorem l1 {s : List (List Nat)} (g : BG bx) : ∃ note bx', q1b1 (mk a2 (.v (shT s)) a4 a5 a6 a7 a8 a9 a10 a11 a12 a13 a14 a15 a16 a17 a18 bx) = some (.nx, mk a2 (.v (shT s)) (.v (T note)) (.v (.int (s.length : Int))) a6 a7 a8 a9 a10 a11 a12 a13 a14 a15 a16 a17 a18 bx') ∧ BG bx' ∧ Small 6 note := by
  obtain ⟨t, b', e1, e2, e3⟩ := law_text 6 (by omega) (by omega) bx g
  refine ⟨t, b', ?_, e2, e3⟩
  have e1 : fn__law_text [.bx, .v (.int 6)] bx = some (.v (T t), b') := e1
  simp [e1, setAll]

/-! the values that stand in a turn -/
theorem small_isNote {m : Nat} {t : List Nat} (h : Small m t) (hm : m ≤ 12) : isNote (T t) = true := by
  rw [isNote_T, Bool.and_eq_true, Bool.and_eq_true, decide_eq_true_eq, decide_eq_true_eq, List.all_eq_true]
  refine ⟨⟨h.l0, by have := h.l1; omega⟩, fun c hc => ?_⟩
  have := h.low c hc
  unfold low
  rw [decide_eq_true_eq]
  exact List.mem_map.mpr ⟨c - 97, List.mem_range.mpr (by omega), by omega⟩
theorem ok_shT {m l : Nat} {s : List (List Nat)} (h : Sh m l s) (hm : m ≤ 12) (hl : l ≤ 40) : Ok 0 2 (shT s) :=
  .tup _ (by rw [List.length_map]; have := h.n; omega) fun x hx => by
    obtain ⟨t, ht, rfl⟩ := List.mem_map.mp hx
    exact .str t (by have := (h.t t ht).l1; omega) fun c hc => by have := (h.t t ht).low c hc; omega
theorem ok_note {m : Nat} {t : List Nat} (h : Small m t) (hm : m ≤ 40) : Ok 0 1 (T t) := .str t (by have := h.l1; omega) fun c hc => by have := h.low c hc; omega
theorem dIsT' (b : Bool) : dIs true (.bl b) (.bl true) = some (.v (.bl (!b))) := by cases b <;> rfl
theorem fair_rows {rows : List (List Nat)} {n : Nat} (hl : rows.length ≤ 16000000) (h : ∀ r ∈ rows, Asc n r) (hn : n ≤ 100) : fair 3 (.lst (rows.map rT)) = true :=
  fair_lst (by simpa using hl) fun x hx => by
    obtain ⟨r, hr, rfl⟩ := List.mem_map.mp hx
    exact fair_rT (by have := asc_len (h r hr); omega)
variable {s : List (List Nat)} {note : List Nat} (hs : Sh 6 4 s) (hn : Small 6 note)
include hs hn
theorem sN : s.length ≤ 6 := hs.n
theorem l2 : q1b2 (mk a2 (.v (shT s)) (.v (T note)) (.v (.int (s.length : Int))) a6 a7 a8 a9 a10 a11 a12 a13 a14 a15 a16 a17 a18 bx) = some (.nx, mk a2 (.v (shT s)) (.v (T note)) (.v (.int (s.length : Int))) a6 a7 a8 a9 a10 a11 a12 a13 a14 a15 a16 a17 a18 bx) := by
  have f := hs.fine (by omega) (by omega)
  have hz := hs.n
  have hp := pow12 (k := s.length) (n := 12) (by omega) (Nat.le_refl _)
  have hsl := sets_len s.length
  have h1 := are_sheets 0 2 (shT s) (ok_shT hs (by omega) (by omega)) bx
  have h1b : isSheets (shT s) = true := by
    show (decide ((s.map T).length ≤ 8) && (s.map T).all isNote) = true
    rw [List.length_map, decide_eq_true (show s.length ≤ 8 by omega), List.all_map, Bool.true_and, List.all_eq_true]
    exact fun t ht => small_isNote (hs.t t ht) (by omega)
  have h2 := is_note 0 1 (T note) (ok_note hn (by omega)) bx
  have h2b := small_isNote hn (by omega)
  have h3 := sheet_sets s.length (by omega) (shT s) (cLen_shT s) bx
  have h4 := law_sets s.length (by omega) bx
  have h5 := same_it 3 (a := .lst ((sets s.length).map rT)) bx rfl (fair_rows (by omega) (fun r hr => sets_asc hr) (by omega)) (by omega)
  rw [h1b] at h1
  rw [h2b] at h2
  simp [h1, h2, h3, h4, h5, dIsT']
theorem l3 : q1b3 (mk a2 (.v (shT s)) (.v (T note)) (.v (.int (s.length : Int))) a6 a7 a8 a9 a10 a11 a12 a13 a14 a15 a16 a17 a18 bx) = some (.nx, mk a2 (.v (shT s)) (.v (T note)) (.v (.int (s.length : Int))) (.o false (.lst ((sets s.length).map rT))) a7 a8 a9 a10 a11 a12 a13 a14 a15 a16 a17 a18 bx) := by
  have hz := hs.n
  have h4 := law_sets s.length (by omega) bx
  simp [h4]
omit hn in
theorem l4 (g : BG bx) : ∃ r bx', q1b4 (mk a2 (.v (shT s)) (.v (T note)) (.v (.int (s.length : Int))) (.o false (.lst ((sets s.length).map rT))) a7 a8 a9 a10 a11 a12 a13 a14 a15 a16 a17 a18 bx) = some (.nx, mk a2 (.v (shT s)) (.v (T note)) (.v (.int (s.length : Int))) (.o false (.lst ((sets s.length).map rT))) (.v (rT r)) a8 a9 a10 a11 a12 a13 a14 a15 a16 a17 a18 bx') ∧ BG bx' ∧ Asc s.length r := by
  have hz := hs.n
  have hp := pow12 (k := s.length) (n := 12) (by omega) (Nat.le_refl _)
  have hsl := sets_len s.length
  have hpos : 0 < (sets s.length).length := by rw [hsl]; exact Nat.two_pow_pos _
  obtain ⟨q, bx1, d1, g1, q0, q1⟩ := draw_ok g (m := ((sets s.length).length : Int)) (by omega) (by omega)
  obtain ⟨j, rfl⟩ := Int.eq_ofNat_of_zero_le q0
  have hj : j < (sets s.length).length := by omega
  refine ⟨(sets s.length)[j], bx1, ?_, g1, sets_asc (List.getElem_mem hj)⟩
  have e : dIx (.lst ((sets s.length).map rT)) (.int (j : Int)) = some (.v (rT (sets s.length)[j])) := by
    rw [dIx_lst, atI_nat (by rw [List.length_map]; exact hj)]
    simp
  simp [d1, e, -dIx_lst]
omit hs hn in
/-- [sheets[k] for k in row], whatever the frame is -/
theorem pick_lc {E : En} {sl : List Sl} {i : Nat} {r : List Nat} (he : E = ⟨sl, bx⟩) (h3 : sl[3]? = some (.v (shT s))) (hi : sl[i]? = some (.v (rT r))) (h19 : sl[19]? = some .no) (hi19 : i ≠ 19) (hr : Asc s.length r) (hn : s.length ≤ 12) :
    mLc (iVal (mSlot i)) (gSet 19) mYes (mQ (m2 dIx (mSlot 3) (mSlot 19))) [19] E = some (.f (.lst ((pick s r).map T)), E) := by
  subst he
  have hl := (List.getElem?_eq_some_iff.mp h19).1
  have set19 : sl.set 19 Sl.no = sl := by
    apply List.ext_getElem?
    intro i
    by_cases e : 19 = i
    · subst e; rw [List.getElem?_set_self hl, h19]
    · rw [List.getElem?_set_ne e]
  have w19 : wE [19] ⟨sl, bx⟩ = ⟨sl, bx⟩ := by
    unfold wE
    simp only [List.foldr, set19]
  have := mLc_pure' (fun k : Nat => ⟨sl.set 19 (.v (.int (k : Int))), bx⟩) (fun k => T (s.getD k [])) (g := fun (k : Nat) => D.int (k : Int)) (fi := iVal (mSlot i)) (tg := gSet 19) (fe := mQ (m2 dIx (mSlot 3) (mSlot 19))) (vs := [19])
    (E := ⟨sl, bx⟩) (E1 := ⟨sl, bx⟩) (E' := ⟨sl, bx⟩) (lk := none) r (by simp [hi]) (by have := asc_len hr; omega) (by rw [w19]; unfold back; simp [backS, h19, unlk]) fun k hk => ?_
  · rw [this]
    unfold pick
    rw [List.map_map]
    rfl
  · refine ⟨by rw [w19]; simp [hl], ?_, ?_⟩
    · have i1 := ix_pick (hr.2 k hk)
      have e3 : (sl.set 19 (.v (.int (k : Int))))[3]? = some (.v (shT s)) := by rw [List.getElem?_set_ne (by decide), h3]
      have e19 : (sl.set 19 (.v (.int (k : Int))))[19]? = some (.v (.int (k : Int))) := by rw [List.getElem?_set_self hl]
      simp only [e_mQ, e_m2, e_slot, e3, sP_v, Option.bind_some, e19, e_Pv, i1, e_Rv]
    · rw [w19]
      unfold wE
      simp only [List.foldr, List.set_set, set19]
theorem joins_pick {r : List Nat} (hr : Asc s.length r) : JoinsTo (.lst ((pick s r).map T)) (pick s r).flatten := by
  have f := hs.fine (by omega) (by omega)
  exact joins_lst (pick_lt f hr) (by have := pick_len f hr; omega)
omit hs in
theorem joins_note : JoinsTo (.lst [T note]) note := by
  have := joins_lst (xs := [note]) (fun x hx => by rw [List.mem_singleton] at hx; subst hx; exact hn.lt) (by have := hn.l1; simp; omega)
  simpa using this
theorem lacks_pick {r : List Nat} (hr : Asc s.length r) : fn__law_lacks [.v (.lst ((pick s r).map T)), .v (.lst [T note])] bx = some (.f (.lst (lk s note r)), bx) :=
  law_lacks _ _ _ _ (joins_pick hs hn hr) (joins_note hn) (by have := hn.l1; omega) bx
theorem l5 {r : List Nat} (hr : Asc s.length r) : q1b5 (mk a2 (.v (shT s)) (.v (T note)) a5 a6 (.v (rT r)) a8 a9 a10 a11 a12 a13 a14 a15 a16 a17 a18 bx) = some (.nx, mk a2 (.v (shT s)) (.v (T note)) a5 a6 (.v (rT r)) a8 a9 a10 a11 a12 a13 a14 a15 a16 a17 a18 bx) := by
  have f := hs.fine (by omega) (by omega)
  have h1 := lack_asc f (hn.nt (by omega)) hr bx
  have h2 := pick_lc (s := s) (bx := bx) (E := mk a2 (.v (shT s)) (.v (T note)) a5 a6 (.v (rT r)) a8 a9 a10 a11 a12 a13 a14 a15 a16 a17 a18 bx) (i := 7) rfl rfl rfl rfl (by decide) hr (by have := hs.n; omega)
  have h3 := lacks_pick hs hn (bx := bx) hr
  have h5 := same_it 3 (a := .tup (lk s note r)) bx rfl (fair_lacks _ _ (by have := hn.l1; omega)) (by omega)
  refine skip_same (a := .tup (lk s note r)) (b := .tup (lk s note r)) (E1 := mk a2 (.v (shT s)) (.v (T note)) a5 a6 (.v (rT r)) a8 a9 a10 a11 a12 a13 a14 a15 a16 a17 a18 bx) ?_ ?_ h5
  · simp [h1]
  · simp [h2, h3, -e_mLc]
end
end K32

namespace K32
open PySem L2 PyProof.Rows PV
abbrev mkx (a2 a3 a4 a5 a6 a7 a8 a9 a10 a11 a12 a13 a14 a15 a16 a17 a18 a19 a20 a21 a22 a23 : Sl) (bx : Bx) : En :=
  ⟨[.no, .bx, a2, a3, a4, a5, a6, a7, a8, a9, a10, a11, a12, a13, a14, a15, a16, a17, a18, a19, a20, a21, a22, a23], bx⟩
section
variable {a2 a3 a4 a5 a6 a7 a8 a9 a10 a11 a12 a13 a14 a15 a16 a17 a18 : Sl} {bx : Bx}
variable {s : List (List Nat)} {note : List Nat} (hs : Sh 6 4 s) (hn : Small 6 note)
include hs hn
theorem good_len : (good s note).length ≤ 4096 := by
  have hz := hs.n
  have hp := pow12 (k := s.length) (n := 12) (by omega) (Nat.le_refl _)
  have hsl := sets_len s.length
  exact Nat.le_trans (List.length_filter_le _ _) (by omega)
theorem l6 : q1b6 (mk a2 (.v (shT s)) (.v (T note)) a5 (.o false (.lst ((sets s.length).map rT))) a7 a8 a9 a10 a11 a12 a13 a14 a15 a16 a17 a18 bx) = some (.nx, mk a2 (.v (shT s)) (.v (T note)) a5 (.o false (.lst ((sets s.length).map rT))) a7 (.o false (.lst ((good s note).map rT))) a9 a10 a11 a12 a13 a14 a15 a16 a17 a18 bx) := by
  have hz := hs.n
  have hp := pow12 (k := s.length) (n := 12) (by omega) (Nat.le_refl _)
  have hsl := sets_len s.length
  have h := mLc_pure (fun r : List Nat => mkx a2 (.v (shT s)) (.v (T note)) a5 (.o true (.lst ((sets s.length).map rT))) a7 a8 a9 a10 a11 a12 a13 a14 a15 a16 a17 a18 .no (.v (rT r)) .no .no .no bx) (okR s note) rT (g := rT) (fi := iVal (mSlot 6)) (tg := gSet 20)
    (ft := mBl (m2 dEq (mP (mQ (mFn fn__law_lacks (mCons (mP (mQ (mLc (iVal (mSlot 20)) (gSet 19) mYes (mQ (m2 dIx (mSlot 3) (mSlot 19))) [19]))) (mCons (mP (mQ (mLst (mCons (mVar 4) mNil)))) mNil))))) (mP (mQ (mLst mNil))))) (fe := mVar 20) (vs := [20])
    (E := mk a2 (.v (shT s)) (.v (T note)) a5 (.o false (.lst ((sets s.length).map rT))) a7 a8 a9 a10 a11 a12 a13 a14 a15 a16 a17 a18 bx) (E1 := mk a2 (.v (shT s)) (.v (T note)) a5 (.o true (.lst ((sets s.length).map rT))) a7 a8 a9 a10 a11 a12 a13 a14 a15 a16 a17 a18 bx) (E' := mk a2 (.v (shT s)) (.v (T note)) a5 (.o false (.lst ((sets s.length).map rT))) a7 a8 a9 a10 a11 a12 a13 a14 a15 a16 a17 a18 bx) (lk := some 6) (sets s.length)
    (by simp) (by omega) (by simp [back, backS, wE, unlk, unl]) fun r hr => ?_
  · exact bSet_to h (by simp) rfl
  · have ha := sets_asc hr
    have h2 := pick_lc (s := s) (bx := bx) (E := mkx a2 (.v (shT s)) (.v (T note)) a5 (.o true (.lst ((sets s.length).map rT))) a7 a8 a9 a10 a11 a12 a13 a14 a15 a16 a17 a18 .no (.v (rT r)) .no .no .no bx) (i := 20) rfl rfl rfl rfl (by decide) ha (by omega)
    have h3 := lacks_pick hs hn (bx := bx) ha
    have h4 : dEq (.lst (lk s note r)) (.lst []) = some (.v (.bl (okR s note r))) := lackL_eq _ _
    refine ⟨by simp [wE], ?_, fun _ => by simp, by simp [wE]⟩
    simp [h2, h3, h4, -e_mLc]
omit hs hn in
theorem in_lc {E : En} {sl : List Sl} {o r : List Nat} (he : E = ⟨sl, bx⟩) (h21 : sl[21]? = some (.v (rT o))) (h20 : sl[20]? = some (.v (rT r))) (h19 : sl[19]? = some .no) (hl : o.length ≤ 10000) :
    mCall1 cAll (mLc (iVal (mSlot 21)) (gSet 19) mYes (mQ (m2 (dIn false) (mSlot 19) (mSlot 20))) [19]) E = some (.v (.bl (o.all fun k => decide (k ∈ r))), E) := by
  subst he
  have hlt := (List.getElem?_eq_some_iff.mp h19).1
  have set19 : sl.set 19 Sl.no = sl := by
    apply List.ext_getElem?
    intro i
    by_cases e : 19 = i
    · subst e; rw [List.getElem?_set_self hlt, h19]
    · rw [List.getElem?_set_ne e]
  have w19 : wE [19] ⟨sl, bx⟩ = ⟨sl, bx⟩ := by
    unfold wE
    simp only [List.foldr, set19]
  have := mLc_pure' (fun k : Nat => ⟨sl.set 19 (.v (.int (k : Int))), bx⟩) (fun k => D.bl (decide (k ∈ r))) (g := fun (k : Nat) => D.int (k : Int)) (fi := iVal (mSlot 21)) (tg := gSet 19) (fe := mQ (m2 (dIn false) (mSlot 19) (mSlot 20))) (vs := [19])
    (E := ⟨sl, bx⟩) (E1 := ⟨sl, bx⟩) (E' := ⟨sl, bx⟩) (lk := none) o (by simp [h21]) (by omega) (by rw [w19]; unfold back; simp [backS, h19, unlk]) fun k hk => ?_
  · exact mCall1_ok this (cAll_fun _ _)
  · refine ⟨by rw [w19]; simp [hlt], ?_, ?_⟩
    · have e3 : (sl.set 19 (.v (.int (k : Int))))[20]? = some (.v (rT r)) := by rw [List.getElem?_set_ne (by decide), h20]
      have e19 : (sl.set 19 (.v (.int (k : Int))))[19]? = some (.v (.int (k : Int))) := by rw [List.getElem?_set_self hlt]
      have i1 := dIn_rT false k r
      simp only [e_mQ, e_m2, e_slot, e19, sP_v, Option.bind_some, e3, e_Pv, i1, e_Rv, Bool.false_xor]
    · rw [w19]
      unfold wE
      simp only [List.foldr, List.set_set, set19]
theorem l7 : q1b7 (mk a2 a3 a4 a5 a6 a7 (.o false (.lst ((good s note).map rT))) a9 a10 a11 a12 a13 a14 a15 a16 a17 a18 bx) = some (.nx, mk a2 a3 a4 a5 a6 a7 (.o false (.lst ((good s note).map rT))) (.o false (.lst (((sets s.length).filter (smallB s note)).map rT))) a10 a11 a12 a13 a14 a15 a16 a17 a18 bx) := by
  have hz := hs.n
  have hgl := good_len hs hn
  have h := mLc_pure (fun r : List Nat => mkx a2 a3 a4 a5 a6 a7 (.o true (.lst ((good s note).map rT))) a9 a10 a11 a12 a13 a14 a15 a16 a17 a18 .no (.v (rT r)) .no .no .no bx) (fun r => !lessB s note r) rT (g := rT) (fi := iVal (mSlot 8)) (tg := gSet 20)
    (ft := mNot (mTru (mP (mQ (mCall1 cAny (mLc (iVal (mSlot 8)) (gSet 21) mYes (mAndV (mQ (m2 dNe (mSlot 21) (mSlot 20))) (mQ (mCall1 cAll (mLc (iVal (mSlot 21)) (gSet 19) mYes (mQ (m2 (dIn false) (mSlot 19) (mSlot 20))) [19])))) [21])))))) (fe := mVar 20) (vs := [20])
    (E := mk a2 a3 a4 a5 a6 a7 (.o false (.lst ((good s note).map rT))) a9 a10 a11 a12 a13 a14 a15 a16 a17 a18 bx) (E1 := mk a2 a3 a4 a5 a6 a7 (.o true (.lst ((good s note).map rT))) a9 a10 a11 a12 a13 a14 a15 a16 a17 a18 bx) (E' := mk a2 a3 a4 a5 a6 a7 (.o false (.lst ((good s note).map rT))) a9 a10 a11 a12 a13 a14 a15 a16 a17 a18 bx) (lk := some 8) (good s note)
    (by simp) (by omega) (by simp [back, backS, wE, unlk, unl]) fun r hr => ?_
  · rw [small_law] at h
    exact bSet_to h (by simp) rfl
  · have hi := mLc_pure' (fun o : List Nat => mkx a2 a3 a4 a5 a6 a7 (.o true (.lst ((good s note).map rT))) a9 a10 a11 a12 a13 a14 a15 a16 a17 a18 .no (.v (rT r)) (.v (rT o)) .no .no bx) (fun o => D.bl (!decide (o = r) && o.all fun k => decide (k ∈ r))) (g := rT) (fi := iVal (mSlot 8)) (tg := gSet 21)
      (fe := mAndV (mQ (m2 dNe (mSlot 21) (mSlot 20))) (mQ (mCall1 cAll (mLc (iVal (mSlot 21)) (gSet 19) mYes (mQ (m2 (dIn false) (mSlot 19) (mSlot 20))) [19])))) (vs := [21])
      (E := mkx a2 a3 a4 a5 a6 a7 (.o true (.lst ((good s note).map rT))) a9 a10 a11 a12 a13 a14 a15 a16 a17 a18 .no (.v (rT r)) .no .no .no bx) (E1 := mkx a2 a3 a4 a5 a6 a7 (.o true (.lst ((good s note).map rT))) a9 a10 a11 a12 a13 a14 a15 a16 a17 a18 .no (.v (rT r)) .no .no .no bx) (E' := mkx a2 a3 a4 a5 a6 a7 (.o true (.lst ((good s note).map rT))) a9 a10 a11 a12 a13 a14 a15 a16 a17 a18 .no (.v (rT r)) .no .no .no bx) (lk := none) (good s note)
      (by simp) (by omega) (by simp [back, backS, wE, unlk]) fun o ho => ?_
    · have hc := mCall1_ok hi (cAny_fun _ _)
      refine ⟨by simp [wE], ?_, fun _ => by simp, by simp [wE]⟩
      simp [hc, -e_mCall1, lessB]
    · have ha := (mem_good.mp ho).1
      have hin := in_lc (bx := bx) (E := mkx a2 a3 a4 a5 a6 a7 (.o true (.lst ((good s note).map rT))) a9 a10 a11 a12 a13 a14 a15 a16 a17 a18 .no (.v (rT r)) (.v (rT o)) .no .no bx) (o := o) (r := r) rfl rfl rfl rfl (by have := asc_len ha; omega)
      refine ⟨by simp [wE], ?_, by simp [wE]⟩
      by_cases e : o = r
      · simp [e]
      · simp [e, hin, -e_mCall1]
theorem l8 : q1b8 (mk a2 a3 a4 (.v (.int (s.length : Int))) a6 a7 (.o false (.lst ((good s note).map rT))) a9 a10 a11 a12 a13 a14 a15 a16 a17 a18 bx) = some (.nx, mk a2 a3 a4 (.v (.int (s.length : Int))) a6 a7 (.o false (.lst ((good s note).map rT))) a9 (.v (rT (sureR s note))) a11 a12 a13 a14 a15 a16 a17 a18 bx) := by
  have hz := hs.n
  have hgl := good_len hs hn
  have h := mLc_pure (fun k : Nat => mkx a2 a3 a4 (.v (.int (s.length : Int))) a6 a7 (.o false (.lst ((good s note).map rT))) a9 a10 a11 a12 a13 a14 a15 a16 a17 a18 (.v (.int (k : Int))) .no .no .no .no bx) (fun k => (good s note).all fun r => decide (k ∈ r)) (fun (k : Nat) => D.int (k : Int)) (g := fun (k : Nat) => D.int (k : Int)) (fi := iRg1 (mCons (mSlot 5) mNil)) (tg := gSet 19)
    (ft := mTru (mP (mQ (mCall1 cAll (mLc (iVal (mSlot 8)) (gSet 20) mYes (mQ (m2 (dIn false) (mSlot 19) (mSlot 20))) [20]))))) (fe := mVar 19) (vs := [19])
    (E := mk a2 a3 a4 (.v (.int (s.length : Int))) a6 a7 (.o false (.lst ((good s note).map rT))) a9 a10 a11 a12 a13 a14 a15 a16 a17 a18 bx) (E1 := mk a2 a3 a4 (.v (.int (s.length : Int))) a6 a7 (.o false (.lst ((good s note).map rT))) a9 a10 a11 a12 a13 a14 a15 a16 a17 a18 bx) (E' := mk a2 a3 a4 (.v (.int (s.length : Int))) a6 a7 (.o false (.lst ((good s note).map rT))) a9 a10 a11 a12 a13 a14 a15 a16 a17 a18 bx) (lk := none) (List.range s.length)
    (by simp [rg_nat (show s.length ≤ 16777216 by omega), rangeD0]) (by rw [List.length_range]; omega) (by simp [back, backS, wE, unlk]) fun k hk => ?_
  · rw [sure_law] at h
    exact bSet_to (mCall1_ok h rfl) (by simp) rfl
  · have hi := mLc_pure' (fun r : List Nat => mkx a2 a3 a4 (.v (.int (s.length : Int))) a6 a7 (.o true (.lst ((good s note).map rT))) a9 a10 a11 a12 a13 a14 a15 a16 a17 a18 (.v (.int (k : Int))) (.v (rT r)) .no .no .no bx) (fun r => D.bl (decide (k ∈ r))) (g := rT) (fi := iVal (mSlot 8)) (tg := gSet 20) (fe := mQ (m2 (dIn false) (mSlot 19) (mSlot 20))) (vs := [20])
      (E := mkx a2 a3 a4 (.v (.int (s.length : Int))) a6 a7 (.o false (.lst ((good s note).map rT))) a9 a10 a11 a12 a13 a14 a15 a16 a17 a18 (.v (.int (k : Int))) .no .no .no .no bx) (E1 := mkx a2 a3 a4 (.v (.int (s.length : Int))) a6 a7 (.o true (.lst ((good s note).map rT))) a9 a10 a11 a12 a13 a14 a15 a16 a17 a18 (.v (.int (k : Int))) .no .no .no .no bx) (E' := mkx a2 a3 a4 (.v (.int (s.length : Int))) a6 a7 (.o false (.lst ((good s note).map rT))) a9 a10 a11 a12 a13 a14 a15 a16 a17 a18 (.v (.int (k : Int))) .no .no .no .no bx) (lk := some 8) (good s note)
      (by simp) (by omega) (by simp [back, backS, wE, unlk, unl]) fun r hr => ⟨by simp [wE], by simp [dIn_rT], by simp [wE]⟩
    have hc := mCall1_ok hi (cAll_fun _ _)
    refine ⟨by simp [wE], ?_, fun _ => by simp, by simp [wE]⟩
    simp [hc, -e_mCall1]
theorem l9 : q1b9 (mk a2 a3 a4 (.v (.int (s.length : Int))) a6 a7 a8 (.o false (.lst (((sets s.length).filter (smallB s note)).map rT))) a10 a11 a12 a13 a14 a15 a16 a17 a18 bx) = some (.nx, mk a2 a3 a4 (.v (.int (s.length : Int))) a6 a7 a8 (.o false (.lst (((sets s.length).filter (smallB s note)).map rT))) a10 (.v (rT (spareR s note))) a12 a13 a14 a15 a16 a17 a18 bx) := by
  have hz := hs.n
  have hp := pow12 (k := s.length) (n := 12) (by omega) (Nat.le_refl _)
  have hsl := sets_len s.length
  have hgl : ((sets s.length).filter (smallB s note)).length ≤ 4096 := Nat.le_trans (List.length_filter_le _ _) (by omega)
  have h := mLc_pure (fun k : Nat => mkx a2 a3 a4 (.v (.int (s.length : Int))) a6 a7 a8 (.o false (.lst (((sets s.length).filter (smallB s note)).map rT))) a10 a11 a12 a13 a14 a15 a16 a17 a18 (.v (.int (k : Int))) .no .no .no .no bx) (fun k => !((sets s.length).filter (smallB s note)).any fun r => decide (k ∈ r)) (fun (k : Nat) => D.int (k : Int)) (g := fun (k : Nat) => D.int (k : Int)) (fi := iRg1 (mCons (mSlot 5) mNil)) (tg := gSet 19)
    (ft := mNot (mTru (mP (mQ (mCall1 cAny (mLc (iVal (mSlot 9)) (gSet 20) mYes (mQ (m2 (dIn false) (mSlot 19) (mSlot 20))) [20])))))) (fe := mVar 19) (vs := [19])
    (E := mk a2 a3 a4 (.v (.int (s.length : Int))) a6 a7 a8 (.o false (.lst (((sets s.length).filter (smallB s note)).map rT))) a10 a11 a12 a13 a14 a15 a16 a17 a18 bx) (E1 := mk a2 a3 a4 (.v (.int (s.length : Int))) a6 a7 a8 (.o false (.lst (((sets s.length).filter (smallB s note)).map rT))) a10 a11 a12 a13 a14 a15 a16 a17 a18 bx) (E' := mk a2 a3 a4 (.v (.int (s.length : Int))) a6 a7 a8 (.o false (.lst (((sets s.length).filter (smallB s note)).map rT))) a10 a11 a12 a13 a14 a15 a16 a17 a18 bx) (lk := none) (List.range s.length)
    (by simp [rg_nat (show s.length ≤ 16777216 by omega), rangeD0]) (by rw [List.length_range]; omega) (by simp [back, backS, wE, unlk]) fun k hk => ?_
  · exact bSet_to (mCall1_ok h rfl) (by simp) rfl
  · have hi := mLc_pure' (fun r : List Nat => mkx a2 a3 a4 (.v (.int (s.length : Int))) a6 a7 a8 (.o true (.lst (((sets s.length).filter (smallB s note)).map rT))) a10 a11 a12 a13 a14 a15 a16 a17 a18 (.v (.int (k : Int))) (.v (rT r)) .no .no .no bx) (fun r => D.bl (decide (k ∈ r))) (g := rT) (fi := iVal (mSlot 9)) (tg := gSet 20) (fe := mQ (m2 (dIn false) (mSlot 19) (mSlot 20))) (vs := [20])
      (E := mkx a2 a3 a4 (.v (.int (s.length : Int))) a6 a7 a8 (.o false (.lst (((sets s.length).filter (smallB s note)).map rT))) a10 a11 a12 a13 a14 a15 a16 a17 a18 (.v (.int (k : Int))) .no .no .no .no bx) (E1 := mkx a2 a3 a4 (.v (.int (s.length : Int))) a6 a7 a8 (.o true (.lst (((sets s.length).filter (smallB s note)).map rT))) a10 a11 a12 a13 a14 a15 a16 a17 a18 (.v (.int (k : Int))) .no .no .no .no bx) (E' := mkx a2 a3 a4 (.v (.int (s.length : Int))) a6 a7 a8 (.o false (.lst (((sets s.length).filter (smallB s note)).map rT))) a10 a11 a12 a13 a14 a15 a16 a17 a18 (.v (.int (k : Int))) .no .no .no .no bx) (lk := some 9) ((sets s.length).filter (smallB s note))
      (by simp) (by omega) (by simp [back, backS, wE, unlk, unl]) fun r hr => ⟨by simp [wE], by simp [dIn_rT], by simp [wE]⟩
    have hc := mCall1_ok hi (cAny_fun _ _)
    refine ⟨by simp [wE], ?_, fun _ => by simp, by simp [wE]⟩
    simp [hc, -e_mCall1]
def dueD (s : List (List Nat)) (note : List Nat) : D := match good s note with
  | [] => .tup [.non, .non, .non]
  | r :: _ => .tup [rT r, rT (sureR s note), rT (spareR s note)]
theorem l10 : q1b10 (mk a2 a3 a4 a5 a6 a7 (.o false (.lst ((good s note).map rT))) a9 (.v (rT (sureR s note))) (.v (rT (spareR s note))) a12 a13 a14 a15 a16 a17 a18 bx) = some (.nx, mk a2 a3 a4 a5 a6 a7 (.o false (.lst ((good s note).map rT))) a9 (.v (rT (sureR s note))) (.v (rT (spareR s note))) (.v (dueD s note)) a13 a14 a15 a16 a17 a18 bx) := by
  have hne := dNe_nil (xs := (good s note).map rT) (nds_map _ nd_rT _)
  unfold dueD
  cases hg : good s note with
  | nil =>
    rw [hg] at hne
    simp at hne
    simp [hne]
  | cons r rs =>
    rw [hg] at hne
    simp at hne
    simp [hne]
end
end K32

namespace K32
open PySem L2 PyProof.Rows PV
section
variable {a2 a3 a4 a5 a6 a7 a8 a9 a10 a11 a12 a13 a14 a15 a16 a17 a18 : Sl} {bx : Bx}
variable {s : List (List Nat)} {note : List Nat} (hs : Sh 6 4 s) (hn : Small 6 note)
include hs hn
theorem l11k : ∃ x y z, (D.tup [x, y, z]) = dueD s note ∧ fair 3 (.tup [x, y, z]) = true ∧ fn_fewest_sheets [.v (shT s), .v (T note)] bx = some (.v x, bx) ∧ fn_sure_sheets [.v (shT s), .v (T note)] bx = some (.v y, bx) ∧ fn_spare_sheets [.v (shT s), .v (T note)] bx = some (.v z, bx) := by
  have f := hs.fine (by omega) (by omega)
  have nt := hn.nt (by omega)
  have hz := hs.n
  have h1 := fewest_sheets f nt bx
  have h2 := sure_sheets f nt bx
  have h3 := spare_sheets f nt bx
  have ls : (sureR s note).length ≤ 16000000 := by
    unfold sureR
    have := List.length_filter_le (fun k => !okR s note (without (List.range s.length) k)) (List.range s.length)
    rw [List.length_range] at this
    omega
  have lp : (spareR s note).length ≤ 16000000 := by
    unfold spareR
    have := List.length_filter_le (fun k => !((sets s.length).filter (smallB s note)).any fun r => decide (k ∈ r)) (List.range s.length)
    rw [List.length_range] at this
    omega
  unfold dueD
  cases hg : good s note with
  | nil =>
    rw [hg] at h1
    rw [if_pos hg] at h3
    rw [good_nil.mp hg, if_neg (by decide)] at h2
    refine ⟨.non, .non, .non, rfl, fair_tup (by simp) fun x hx => ?_, h1, h2, h3⟩
    simp only [List.mem_cons, List.not_mem_nil, or_false] at hx
    rcases hx with rfl | rfl | rfl <;> rfl
  | cons r rs =>
    have ho : okR s note (List.range s.length) = true := by
      cases e : okR s note (List.range s.length) with
      | true => rfl
      | false => rw [good_nil.mpr e] at hg; cases hg
    have ha := (mem_good.mp (by rw [hg]; exact List.mem_cons_self : r ∈ good s note)).1
    rw [if_neg (by rw [hg]; exact fun z => nomatch z)] at h3
    rw [hg] at h1
    rw [ho, if_pos rfl] at h2
    refine ⟨rT r, rT (sureR s note), rT (spareR s note), rfl, ?_, h1, h2, h3⟩
    refine fair_tup (by simp) fun x hx => ?_
    simp only [List.mem_cons, List.not_mem_nil, or_false] at hx
    rcases hx with rfl | rfl | rfl
    · exact fair_rT (by have := asc_len ha; omega)
    · exact fair_rT ls
    · exact fair_rT lp

theorem l11 : q1b11 (mk a2 (.v (shT s)) (.v (T note)) a5 a6 a7 a8 a9 a10 a11 (.v (dueD s note)) a13 a14 a15 a16 a17 a18 bx) = some (.nx, mk a2 (.v (shT s)) (.v (T note)) a5 a6 a7 a8 a9 a10 a11 (.v (dueD s note)) a13 a14 a15 a16 a17 a18 bx) := by
  have key := l11k (bx := bx) hs hn
  obtain ⟨x, y, z, e, fr, g1, g2, g3⟩ := key
  have h5 := same_it 3 bx e fr (by omega)
  refine skip_same (a := .tup [x, y, z]) (b := dueD s note) (E1 := mk a2 (.v (shT s)) (.v (T note)) a5 a6 a7 a8 a9 a10 a11 (.v (dueD s note)) a13 a14 a15 a16 a17 a18 bx) ?_ ?_ h5
  · have f1 : mQ (mFn fn_fewest_sheets (mCons (mSlot 3) (mCons (mSlot 4) mNil))) (mk a2 (.v (shT s)) (.v (T note)) a5 a6 a7 a8 a9 a10 a11 (.v (dueD s note)) a13 a14 a15 a16 a17 a18 bx) = some (x, (mk a2 (.v (shT s)) (.v (T note)) a5 a6 a7 a8 a9 a10 a11 (.v (dueD s note)) a13 a14 a15 a16 a17 a18 bx)) := mQ_ok (mFn_ok (ps := [.v (shT s), .v (T note)]) (E1 := (mk a2 (.v (shT s)) (.v (T note)) a5 a6 a7 a8 a9 a10 a11 (.v (dueD s note)) a13 a14 a15 a16 a17 a18 bx)) (by simp) (by simp) g1) rfl
    have f2 : mQ (mFn fn_sure_sheets (mCons (mSlot 3) (mCons (mSlot 4) mNil))) (mk a2 (.v (shT s)) (.v (T note)) a5 a6 a7 a8 a9 a10 a11 (.v (dueD s note)) a13 a14 a15 a16 a17 a18 bx) = some (y, (mk a2 (.v (shT s)) (.v (T note)) a5 a6 a7 a8 a9 a10 a11 (.v (dueD s note)) a13 a14 a15 a16 a17 a18 bx)) := mQ_ok (mFn_ok (ps := [.v (shT s), .v (T note)]) (E1 := (mk a2 (.v (shT s)) (.v (T note)) a5 a6 a7 a8 a9 a10 a11 (.v (dueD s note)) a13 a14 a15 a16 a17 a18 bx)) (by simp) (by simp) g2) rfl
    have f3 : mQ (mFn fn_spare_sheets (mCons (mSlot 3) (mCons (mSlot 4) mNil))) (mk a2 (.v (shT s)) (.v (T note)) a5 a6 a7 a8 a9 a10 a11 (.v (dueD s note)) a13 a14 a15 a16 a17 a18 bx) = some (z, (mk a2 (.v (shT s)) (.v (T note)) a5 a6 a7 a8 a9 a10 a11 (.v (dueD s note)) a13 a14 a15 a16 a17 a18 bx)) := mQ_ok (mFn_ok (ps := [.v (shT s), .v (T note)]) (E1 := (mk a2 (.v (shT s)) (.v (T note)) a5 a6 a7 a8 a9 a10 a11 (.v (dueD s note)) a13 a14 a15 a16 a17 a18 bx)) (by simp) (by simp) g3) rfl
    exact mP_ok (mTup_ok (mCons_ok f1 (mCons_ok f2 (mCons_ok f3 rfl))) (by simp))
  · simp
end
end K32

namespace K32
open PySem L2 PyProof.Rows PV
section
variable {a2 a3 a4 a5 a6 a7 a8 a9 a10 a11 a12 a13 a14 a15 a16 a17 a18 : Sl} {bx : Bx}
variable {s ns : List (List Nat)} {note : List Nat}
theorem l12 (hn : Small 6 note) : q1b12 (mk a2 a3 (.v (T note)) a5 a6 a7 a8 a9 a10 a11 a12 a13 a14 a15 a16 a17 a18 bx) = some (.nx, mk a2 a3 (.v (T note)) a5 a6 a7 a8 a9 a10 a11 a12 (.v (.dic (eC (cd note)))) a14 a15 a16 a17 a18 bx) := by
  have c2 := letter_counts (.lst [T note]) [note] rfl (fun t ht => by rw [List.mem_singleton] at ht; subst ht; exact hn.lt) bx
  have e2 : [note].flatten = note := by simp
  rw [e2] at c2
  unfold cd
  simp [c2]
theorem depth_ones (l : List Nat) : (D.lst (l.map fun c => T [c])).py.depth ≤ 2 := depth_lst fun x hx => by
  obtain ⟨c, _, rfl⟩ := List.mem_map.mp hx
  exact depth_T _
theorem clean_ones (l : List Nat) : (D.lst (l.map fun c => T [c])).clean = true := by
  rw [clean_lst]
  exact cleans_map _ (fun _ => clean_T _) _
theorem l13 (hn : Small 6 note) : q1b13 (mk a2 a3 (.v (T note)) a5 a6 a7 a8 a9 a10 a11 a12 (.v (.dic (eC (cd note)))) a14 a15 a16 a17 a18 bx) = some (.nx, mk a2 a3 (.v (T note)) a5 a6 a7 a8 a9 a10 a11 a12 (.v (.dic (eC (cd note)))) a14 a15 a16 a17 a18 bx) := by
  have hl := hn.l1
  have hc := cd_cnt note
  have so := sortedC hc (by omega)
  obtain ⟨k, hk1, hk2⟩ := setKL_T note (by have := uniq_le note; omega)
  have ne : dNe (.lst ((srt note).map fun c => T [c])) (.lst ((srt note).map fun c => T [c])) = some (.v (.bl false)) := by
    rw [dNe_clean (clean_ones _) (clean_ones _) (.inl (by have := depth_ones (srt note); omega)), sm_self _ (clean_ones _)]
    rfl
  have hkeys : dKeys (eC (cd note)) = ((cd note).map (·.1)).map fun c => T [c] := by
    unfold dKeys eC
    rw [List.map_map, List.map_map]
    rfl
  have hlen := hc.len
  have h := mLc_pure' (fun c : Nat => mkx a2 a3 (.v (T note)) a5 a6 a7 a8 a9 a10 a11 a12 (.v (.dic (eC (cd note)))) a14 a15 a16 a17 a18 .no .no .no (.v (T [c])) .no bx) (fun _ => D.bl false) (g := fun (c : Nat) => T [c]) (fi := iKeysV (mVarz 13)) (tg := gSet 22) (fe := mQ (m2 dNe (mP (mQ (m2 dIx (mSlot 13) (mSlot 22)))) (mP (mQ (mMt "str" tCount (mSlot 4) (mCons (mSlot 22) mNil)))))) (vs := [22])
    (E := mk a2 a3 (.v (T note)) a5 a6 a7 a8 a9 a10 a11 a12 (.v (.dic (eC (cd note)))) a14 a15 a16 a17 a18 bx) (E1 := mk a2 a3 (.v (T note)) a5 a6 a7 a8 a9 a10 a11 a12 (.v (.dic (eC (cd note)))) a14 a15 a16 a17 a18 bx) (E' := mk a2 a3 (.v (T note)) a5 a6 a7 a8 a9 a10 a11 a12 (.v (.dic (eC (cd note)))) a14 a15 a16 a17 a18 bx) (lk := none) ((cd note).map (·.1))
    (by simp [hkeys]) (by rw [List.length_map]; omega) (by simp [back, backS, wE, unlk]) fun c hcm => ?_
  · have ha := mCall1_ok h (cAny_fun (fun _ : Nat => false) _)
    have hf : ((cd note).map (·.1)).any (fun _ => false) = false := any_false fun _ _ => rfl
    rw [hf] at ha
    simp [so, hk1, hk2, ne, ha, -e_mCall1]
  · have i1 := eC_ix (hc.sm c ((hc.keys c).mp hcm))
    have i2 := tCount_T note c
    refine ⟨by simp [wE], by simp [i1, i2], by simp [wE]⟩
theorem l14 (g : BG bx) : ∃ ns bx', q1b14 (mk a2 a3 a4 a5 a6 a7 a8 a9 a10 a11 a12 a13 a14 a15 a16 a17 a18 bx) = some (.nx, mk a2 a3 a4 a5 a6 a7 a8 a9 a10 a11 a12 a13 (.v (shT ns)) a15 a16 a17 a18 bx') ∧ BG bx' ∧ Sh 4 4 ns := by
  obtain ⟨s, bx', h1, h2, h3⟩ := texts_drawn (most := 5) (E := mk a2 a3 a4 a5 a6 a7 a8 a9 a10 a11 a12 a13 a14 a15 a16 a17 a18 bx) (by omega) (by omega) 4 (by omega) (by omega) g rfl rfl (by simp) rfl
  exact ⟨s, bx', bSet_to h1 (by simp) rfl, h2, h3⟩
theorem pick_lcJ {E : En} {sl : List Sl} {i j : Nat} {r : List Nat} (he : E = ⟨sl, bx⟩) (hj : sl[j]? = some (.v (shT s))) (hi : sl[i]? = some (.v (rT r))) (h19 : sl[19]? = some .no) (hj19 : 19 ≠ j) (hr : Asc s.length r) (hn : s.length ≤ 12) :
    mLc (iVal (mSlot i)) (gSet 19) mYes (mQ (m2 dIx (mSlot j) (mSlot 19))) [19] E = some (.f (.lst ((pick s r).map T)), E) := by
  subst he
  have hl := (List.getElem?_eq_some_iff.mp h19).1
  have set19 : sl.set 19 Sl.no = sl := by
    apply List.ext_getElem?
    intro i
    by_cases e : 19 = i
    · subst e; rw [List.getElem?_set_self hl, h19]
    · rw [List.getElem?_set_ne e]
  have w19 : wE [19] ⟨sl, bx⟩ = ⟨sl, bx⟩ := by
    unfold wE
    simp only [List.foldr, set19]
  have := mLc_pure' (fun k : Nat => ⟨sl.set 19 (.v (.int (k : Int))), bx⟩) (fun k => T (s.getD k [])) (g := fun (k : Nat) => D.int (k : Int)) (fi := iVal (mSlot i)) (tg := gSet 19) (fe := mQ (m2 dIx (mSlot j) (mSlot 19))) (vs := [19])
    (E := ⟨sl, bx⟩) (E1 := ⟨sl, bx⟩) (E' := ⟨sl, bx⟩) (lk := none) r (by simp [hi]) (by have := asc_len hr; omega) (by rw [w19]; unfold back; simp [backS, h19, unlk]) fun k hk => ?_
  · rw [this]
    unfold pick
    rw [List.map_map]
    rfl
  · refine ⟨by rw [w19]; simp [hl], ?_, ?_⟩
    · have i1 := ix_pick (hr.2 k hk)
      have e3 : (sl.set 19 (.v (.int (k : Int))))[j]? = some (.v (shT s)) := by rw [List.getElem?_set_ne hj19, hj]
      have e19 : (sl.set 19 (.v (.int (k : Int))))[19]? = some (.v (.int (k : Int))) := by rw [List.getElem?_set_self hl]
      simp only [e_mQ, e_m2, e_slot, e3, sP_v, Option.bind_some, e19, e_Pv, i1, e_Rv]
    · rw [w19]
      unfold wE
      simp only [List.foldr, List.set_set, set19]
variable (hs : Sh 6 4 s) (hn : Sh 4 4 ns)
include hs hn
theorem flat_s : s.flatten.length ≤ 480 ∧ ns.flatten.length ≤ 480 := by
  have h1 := flat_len (n := 4) (s := s) fun t ht => (hs.t t ht).l1
  have h2 := flat_len (n := 4) (s := ns) fun t ht => (hn.t t ht).l1
  have := hs.n
  have := hn.n
  omega
theorem l15 : q1b15 (mk a2 (.v (shT s)) a4 a5 a6 a7 a8 a9 a10 a11 a12 a13 (.v (shT ns)) a15 a16 a17 a18 bx) = some (.nx, mk a2 (.v (shT s)) a4 a5 a6 a7 a8 a9 a10 a11 a12 a13 (.v (shT ns)) (.o false (.lst ((fits s ns).map rT))) a16 a17 a18 bx) := by
  have f := hs.fine (by omega) (by omega)
  have fn := hn.fine (by omega) (by omega)
  have hz := hn.n
  have fl := flat_s hs hn
  have hp := pow12 (k := ns.length) (n := 12) (by omega) (Nat.le_refl _)
  have hsl := sets_len ns.length
  have h4 := law_sets ns.length (by omega) bx
  have h := mLc_pure (fun r : List Nat => mkx a2 (.v (shT s)) a4 a5 a6 a7 a8 a9 a10 a11 a12 a13 (.v (shT ns)) a15 a16 a17 a18 .no (.v (rT r)) .no .no .no bx) (fun r => (lacks s.flatten (pick ns r).flatten).isEmpty) rT (g := rT) (fi := iVal (mP (mQ (mFn fn__law_sets (mCons (mP (mQ (mCall cLenA (mCons (mSlot 14) mNil)))) mNil))))) (tg := gSet 20)
    (ft := mBl (m2 dEq (mP (mQ (mFn fn__law_lacks (mCons (mSlot 3) (mCons (mP (mQ (mLc (iVal (mSlot 20)) (gSet 19) mYes (mQ (m2 dIx (mSlot 14) (mSlot 19))) [19]))) mNil))))) (mP (mQ (mLst mNil))))) (fe := mVar 20) (vs := [20])
    (E := mk a2 (.v (shT s)) a4 a5 a6 a7 a8 a9 a10 a11 a12 a13 (.v (shT ns)) a15 a16 a17 a18 bx) (E1 := mk a2 (.v (shT s)) a4 a5 a6 a7 a8 a9 a10 a11 a12 a13 (.v (shT ns)) a15 a16 a17 a18 bx) (E' := mk a2 (.v (shT s)) a4 a5 a6 a7 a8 a9 a10 a11 a12 a13 (.v (shT ns)) a15 a16 a17 a18 bx) (lk := none) (sets ns.length)
    (by simp [h4]) (by omega) (by simp [back, backS, wE, unlk]) fun r hr => ?_
  · exact bSet_to h (by simp) rfl
  · have ha := sets_asc hr
    have h2 := pick_lcJ (s := ns) (bx := bx) (E := mkx a2 (.v (shT s)) a4 a5 a6 a7 a8 a9 a10 a11 a12 a13 (.v (shT ns)) a15 a16 a17 a18 .no (.v (rT r)) .no .no .no bx) (i := 20) (j := 14) rfl rfl rfl rfl (by decide) ha (by omega)
    have h3 := law_lacks (shT s) (.lst ((pick ns r).map T)) s.flatten (pick ns r).flatten (joins_tup f.lt (by omega)) (joins_lst (pick_lt fn ha) (by have := pick_len fn ha; omega)) (by have := pick_len fn ha; omega) bx
    have h4 := lackL_eq s.flatten (pick ns r).flatten
    refine ⟨by simp [wE], ?_, fun _ => by simp, by simp [wE]⟩
    simp [h2, h3, h4, -e_mLc]
theorem fits_len : (fits s ns).length ≤ 4096 := by
  have hz := hn.n
  have hp := pow12 (k := ns.length) (n := 12) (by omega) (Nat.le_refl _)
  have hsl := sets_len ns.length
  exact Nat.le_trans (List.length_filter_le _ _) (by omega)
omit hs hn in
theorem fits_nn : fits s ns ≠ [] := fun z => by have := fits_ne s ns; rw [z] at this; cases this
theorem l16 : q1b16 (mk a2 a3 a4 a5 a6 a7 a8 a9 a10 a11 a12 a13 a14 (.o false (.lst ((fits s ns).map rT))) a16 a17 a18 bx) = some (.nx, mk a2 a3 a4 a5 a6 a7 a8 a9 a10 a11 a12 a13 a14 (.o false (.lst ((fits s ns).map rT))) (.v (.int (mostI (fits s ns)))) a17 a18 bx) := by
  have hl := fits_len hs hn
  have h := mLc_pure' (fun r : List Nat => mkx a2 a3 a4 a5 a6 a7 a8 a9 a10 a11 a12 a13 a14 (.o true (.lst ((fits s ns).map rT))) a16 a17 a18 .no (.v (rT r)) .no .no .no bx) (fun r => D.int (r.length : Int)) (g := rT) (fi := iVal (mSlot 15)) (tg := gSet 20) (fe := mQ (mCall cLenA (mCons (mSlot 20) mNil))) (vs := [20])
    (E := mk a2 a3 a4 a5 a6 a7 a8 a9 a10 a11 a12 a13 a14 (.o false (.lst ((fits s ns).map rT))) a16 a17 a18 bx) (E1 := mk a2 a3 a4 a5 a6 a7 a8 a9 a10 a11 a12 a13 a14 (.o true (.lst ((fits s ns).map rT))) a16 a17 a18 bx) (E' := mk a2 a3 a4 a5 a6 a7 a8 a9 a10 a11 a12 a13 a14 (.o false (.lst ((fits s ns).map rT))) a16 a17 a18 bx) (lk := some 15) (fits s ns)
    (by simp) (by omega) (by simp [back, backS, wE, unlk, unl]) fun r hr => ⟨by simp [wE], by simp, by simp [wE]⟩
  exact bSet_to (mCall1_ok h (cMaxA_lens _ fits_nn)) (by simp) rfl
theorem l17 : q1b17 (mk a2 (.v (shT s)) a4 a5 a6 a7 a8 a9 a10 a11 a12 a13 (.v (shT ns)) a15 a16 a17 a18 bx) = some (.nx, mk a2 (.v (shT s)) a4 a5 a6 a7 a8 a9 a10 a11 a12 a13 (.v (shT ns)) a15 a16 (.o false (.lst (lacks s.flatten ns.flatten))) a18 bx) := by
  have f := hs.fine (by omega) (by omega)
  have fn := hn.fine (by omega) (by omega)
  have fl := flat_s hs hn
  have h3 := law_lacks (shT s) (shT ns) s.flatten ns.flatten (joins_tup f.lt (by omega)) (joins_tup fn.lt (by omega)) (by omega) bx
  simp [h3]
theorem best_asc : (bestR (fits s ns)).length ≤ 100 := by
  have hz := hn.n
  unfold bestR
  cases hf : (fits s ns).filter fun r => decide ((r.length : Int) = mostI (fits s ns)) with
  | nil => simp
  | cons x xs =>
    have : x ∈ fits s ns := (List.mem_filter.mp (by rw [hf]; exact List.mem_cons_self : x ∈ (fits s ns).filter fun r => decide ((r.length : Int) = mostI (fits s ns)))).1
    have := sets_asc (List.mem_filter.mp this).1
    have := asc_len this
    simp
    omega
theorem l18 : q1b18 (mk a2 (.v (shT s)) a4 a5 a6 a7 a8 a9 a10 a11 a12 a13 (.v (shT ns)) (.o false (.lst ((fits s ns).map rT))) (.v (.int (mostI (fits s ns)))) (.o false (.lst (lacks s.flatten ns.flatten))) a18 bx) = some (.nx, mk a2 (.v (shT s)) a4 a5 a6 a7 a8 a9 a10 a11 a12 a13 (.v (shT ns)) (.o false (.lst ((fits s ns).map rT))) (.v (.int (mostI (fits s ns)))) (.o false (.lst (lacks s.flatten ns.flatten))) a18 bx) := by
  have f := hs.fine (by omega) (by omega)
  have fn := hn.fine (by omega) (by omega)
  have fl := flat_s hs hn
  have hl := fits_len hs hn
  have g1 := most_notes f fn bx
  have g2 := wanted_most (shT s) (shT ns) s ns rfl rfl f.lt fn.lt (by omega) bx
  have h4 := mLc_pure (fun r : List Nat => mkx a2 (.v (shT s)) a4 a5 a6 a7 a8 a9 a10 a11 a12 a13 (.v (shT ns)) (.o true (.lst ((fits s ns).map rT))) (.v (.int (mostI (fits s ns)))) (.o false (.lst (lacks s.flatten ns.flatten))) a18 .no (.v (rT r)) .no .no .no bx) (fun r => decide ((r.length : Int) = mostI (fits s ns))) rT (g := rT) (fi := iVal (mSlot 15)) (tg := gSet 20) (ft := mBl (m2 dEq (mP (mQ (mCall cLenA (mCons (mSlot 20) mNil)))) (mSlot 16))) (fe := mVar 20) (vs := [20])
    (E := mk a2 (.v (shT s)) a4 a5 a6 a7 a8 a9 a10 a11 a12 a13 (.v (shT ns)) (.o false (.lst ((fits s ns).map rT))) (.v (.int (mostI (fits s ns)))) (.o false (.lst (lacks s.flatten ns.flatten))) a18 bx) (E1 := mk a2 (.v (shT s)) a4 a5 a6 a7 a8 a9 a10 a11 a12 a13 (.v (shT ns)) (.o true (.lst ((fits s ns).map rT))) (.v (.int (mostI (fits s ns)))) (.o false (.lst (lacks s.flatten ns.flatten))) a18 bx) (E' := mk a2 (.v (shT s)) a4 a5 a6 a7 a8 a9 a10 a11 a12 a13 (.v (shT ns)) (.o false (.lst ((fits s ns).map rT))) (.v (.int (mostI (fits s ns)))) (.o false (.lst (lacks s.flatten ns.flatten))) a18 bx) (lk := some 15) (fits s ns)
    (by simp) (by omega) (by simp [back, backS, wE, unlk, unl]) fun r hr => ⟨by simp [wE], by simp, fun _ => by simp, by simp [wE]⟩
  have i0 := best_ix _ (fits_nn (s := s) (ns := ns))
  have fr : fair 3 (.tup [rT (bestR (fits s ns)), wantD s.flatten ns.flatten]) = true := by
    refine fair_tup (by simp) fun x hx => ?_
    simp only [List.mem_cons, List.not_mem_nil, or_false] at hx
    rcases hx with rfl | rfl
    · exact fair_rT (by have := best_asc hs hn; omega)
    · unfold wantD
      cases lackL s.flatten ns.flatten <;> rfl
  have h5 := same_it 3 bx rfl fr (by omega)
  generalize hE : mk a2 (.v (shT s)) a4 a5 a6 a7 a8 a9 a10 a11 a12 a13 (.v (shT ns)) (.o false (.lst ((fits s ns).map rT))) (.v (.int (mostI (fits s ns)))) (.o false (.lst (lacks s.flatten ns.flatten))) a18 bx = EE at h4 ⊢
  have f1 : mQ (mFn fn_most_notes (mCons (mSlot 3) (mCons (mSlot 14) mNil))) EE = some (rT (bestR (fits s ns)), EE) := by
    subst hE
    exact mQ_ok (mFn_ok (ps := [.v (shT s), .v (shT ns)]) (E1 := mk a2 (.v (shT s)) a4 a5 a6 a7 a8 a9 a10 a11 a12 a13 (.v (shT ns)) (.o false (.lst ((fits s ns).map rT))) (.v (.int (mostI (fits s ns)))) (.o false (.lst (lacks s.flatten ns.flatten))) a18 bx) (by simp) (by simp) g1) rfl
  have f2 : mQ (mFn fn_wanted_most (mCons (mSlot 3) (mCons (mSlot 14) mNil))) EE = some (wantD s.flatten ns.flatten, EE) := by
    subst hE
    exact mQ_ok (mFn_ok (ps := [.v (shT s), .v (shT ns)]) (E1 := mk a2 (.v (shT s)) a4 a5 a6 a7 a8 a9 a10 a11 a12 a13 (.v (shT ns)) (.o false (.lst ((fits s ns).map rT))) (.v (.int (mostI (fits s ns)))) (.o false (.lst (lacks s.flatten ns.flatten))) a18 bx) (by simp) (by simp) g2) rfl
  have f3 : mQ (m2 dIx (mP (mQ (mLc (iVal (mSlot 15)) (gSet 20) (mBl (m2 dEq (mP (mQ (mCall cLenA (mCons (mSlot 20) mNil)))) (mSlot 16))) (mVar 20) [20]))) (mP (mC (.int 0)))) EE = some (rT (bestR (fits s ns)), EE) := by
    refine mQ_ok (r := .v (rT (bestR (fits s ns)))) ?_ rfl
    rw [e_m2, mP_ok (mQ_ok h4 rfl)]
    simp only [Option.bind_some, e_mP, e_mC, e_Pv, i0]
  have f4 : mQ (mIf (mBl (m2 dNe (mSlot 17) (mP (mQ (mLst mNil))))) (m2 dIx (mP (mQ (m2 dIx (mSlot 17) (mP (mC (.int 0)))))) (mP (mC (.int 0)))) (mE (mC .non))) EE = some (wantD s.flatten ns.flatten, EE) := by
    subst hE
    have ne := lackL_ne s.flatten ns.flatten
    unfold wantD
    cases h : lackL s.flatten ns.flatten with
    | nil =>
      have e : lacks s.flatten ns.flatten = [] := by unfold lacks; rw [h]; rfl
      rw [e] at ne
      simp at ne
      simp [e, ne]
    | cons x xs =>
      have e : lacks s.flatten ns.flatten = lkD x :: xs.map lkD := by unfold lacks; rw [h]; rfl
      have i1 : dIx (.lst (lkD x :: xs.map lkD)) (.int 0) = some (.v (lkD x)) := by simp
      have i2 : dIx (lkD x) (.int 0) = some (.v (T [x.1])) := by simp [lkD]
      rw [e] at ne
      simp at ne
      simp [e, ne, i1, i2, -dIx_lst]
  have hbx : EE.bx = bx := by subst hE; rfl
  refine skip_same (a := .tup [rT (bestR (fits s ns)), wantD s.flatten ns.flatten]) (b := .tup [rT (bestR (fits s ns)), wantD s.flatten ns.flatten]) (E1 := EE) ?_ ?_ (by rw [hbx]; exact h5)
  · exact mP_ok (mTup_ok (mCons_ok f1 (mCons_ok f2 rfl)) (by simp))
  · exact mP_ok (mTup_ok (mCons_ok f3 (mCons_ok f4 rfl)) (by simp))
end
end K32

namespace K32
open PySem L2 PyProof.Rows PV
theorem bent_fr : ∀ k, fr__law_bent k = frBent k
  | 0 => rfl
  | k + 1 => by
    show PV.run 4 (m__law_bent (fr__law_bent k)) = PV.run 4 (mBent (frBent k))
    rw [bent_fr k]
    rfl
theorem bent_is : fn__law_bent = frBent 20 := bent_fr 20
section
variable {bx : Bx}
theorem bents_drawn {sl : List Sl} {i k : Nat} {v : D} (hk : k ≤ 20) (ov : Ok 0 k v) (g : BG bx) (hbx : sl[1]? = some .bx) (hi : sl[i]? = some (.v v)) (hi19 : 19 ≠ i) (h19 : sl[19]? = some .no) :
    ∃ ds bx', mLc (iRg1 (mCons (mP (mC (.int 3))) mNil)) (gSet 19) mYes (mQ (mFn fn__law_bent (mCons (mSlot 1) (mCons (mSlot i) mNil)))) [19] ⟨sl, bx⟩ = some (.f (.lst ds), ⟨sl, bx'⟩) ∧ ds.length = 3 ∧ (∀ d ∈ ds, Ok 1 (k + 1) d) ∧ BG bx' := by
  have hs := sz
  have hlt := (List.getElem?_eq_some_iff.mp h19).1
  have set19 : sl.set 19 Sl.no = sl := by
    apply List.ext_getElem?
    intro i
    by_cases e : 19 = i
    · subst e; rw [List.getElem?_set_self hlt, h19]
    · rw [List.getElem?_set_ne e]
  have w19 : ∀ b : Bx, wE [19] ⟨sl, b⟩ = ⟨sl, b⟩ := fun b => by
    unfold wE
    simp only [List.foldr, set19]
  have r3 : rg 3 = some (rangeD 0 3) := rg_int (by omega) (by omega)
  obtain ⟨ds, bx2, r1, r2, r3, r4⟩ := mLc_draw (P := fun d => Ok 1 (k + 1) d) (g := fun (k : Nat) => D.int (k : Int)) (fi := iRg1 (mCons (mP (mC (.int 3))) mNil)) (tg := gSet 19) (fe := mQ (mFn fn__law_bent (mCons (mSlot 1) (mCons (mSlot i) mNil)))) (vs := [19]) (E := ⟨sl, bx⟩) (sl := sl) (bx0 := bx) (List.range 3)
    (by simp [r3, rangeD0]) (by rw [List.length_range]; omega) g (fun b => by rw [w19]; unfold back; simp [backS, h19])
    (fun j hj b gb => by
      obtain ⟨w, b', e1, e2, e3⟩ := bent_ok k 20 0 v b gb ov (by omega) hk
      rw [← bent_is] at e1
      refine ⟨⟨sl.set 19 (.v (.int (j : Int))), b⟩, w, ⟨sl.set 19 (.v (.int (j : Int))), b'⟩, b', ?_, ?_, ?_, e2, e3⟩
      · rw [w19]; simp [hlt]
      · have q1 : (sl.set 19 (.v (.int (j : Int))))[1]? = some .bx := by rw [List.getElem?_set_ne (by decide), hbx]
        have q2 : (sl.set 19 (.v (.int (j : Int))))[i]? = some (.v v) := by rw [List.getElem?_set_ne hi19, hi]
        simp [q1, q2, e1]
      · rw [w19]
        unfold wE
        simp only [List.foldr, List.set_set, set19])
  exact ⟨ds, bx2, r1, r2, r3, r4⟩
theorem val_loop {fb : EF Fl} {sl : Sl → List Sl} (vals : List D) (a : Sl) (hset : ∀ x y, (sl x).set 18 y = sl y) (hlen : ∀ x, 18 < (sl x).length) (step : ∀ v ∈ vals, fb ⟨sl (.v v), bx⟩ = some (.nx, ⟨sl (.v v), bx⟩)) :
    ∃ x, bLoop (gSet 18) fb vals ⟨sl a, bx⟩ = some (.nx, ⟨sl x, bx⟩) := by
  have LF := bLoop_pre (g := fun d : D => d) (I := fun _ E => ∃ x, E = ⟨sl x, bx⟩) (tg := gSet 18) (fb := fb) vals ⟨sl a, bx⟩ ⟨a, rfl⟩ fun p v q E e hI => ?_
  · obtain ⟨E', h1, x, rfl⟩ := LF
    rw [List.map_id'] at h1
    exact ⟨x, h1⟩
  · obtain ⟨x, rfl⟩ := hI
    have hv : v ∈ vals := by rw [e]; simp
    refine ⟨⟨sl (.v v), bx⟩, ?_, _, rfl⟩
    unfold bStep
    simp [hlen, hset, step v hv]
/-- for value in [..] + [..]: -/
theorem vals_for {fl : EF (List D)} {fc : EF R} {fb : EF Fl} {sl : Sl → List Sl} {xs ds : List D} {bx' : Bx} {a : Sl} (h1 : fl ⟨sl a, bx⟩ = some (xs, ⟨sl a, bx⟩)) (hl : xs.length ≤ 1000) (h2 : fc ⟨sl a, bx⟩ = some (.f (.lst ds), ⟨sl a, bx'⟩)) (hd : ds.length ≤ 1000)
    (hset : ∀ x y, (sl x).set 18 y = sl y) (hlen : ∀ x, 18 < (sl x).length) (step : ∀ v ∈ xs ++ ds, fb ⟨sl (.v v), bx'⟩ = some (.nx, ⟨sl (.v v), bx'⟩)) :
    ∃ x, bFor (iVal (mP (mQ (m2 dAdd (mP (mQ (mLst fl))) (mP (mQ fc)))))) (gSet 18) fb ⟨sl a, bx⟩ = some (.nx, ⟨sl x, bx'⟩) := by
  obtain ⟨x, h3⟩ := val_loop (xs ++ ds) a hset hlen step
  refine ⟨x, bFor_ok (lk := none) (E1 := ⟨sl a, bx'⟩) ?_ h3⟩
  have e1 : mP (mQ (mLst fl)) ⟨sl a, bx⟩ = some (.v (.lst xs), ⟨sl a, bx⟩) := mP_ok (mQ_ok (mLst_ok h1 hl) rfl)
  have e2 : mP (mQ fc) ⟨sl a, bx⟩ = some (.v (.lst ds), ⟨sl a, bx'⟩) := mP_ok (mQ_ok h2 rfl)
  have e3 : m2 dAdd (mP (mQ (mLst fl))) (mP (mQ fc)) ⟨sl a, bx⟩ = some (.f (.lst (xs ++ ds)), ⟨sl a, bx'⟩) := by
    rw [e_m2, e1, Option.bind_some, e2, Option.bind_some]
    simp only [e_Pv, Option.bind_some, dAdd_lst (show xs.length + ds.length ≤ 16777216 by omega)]
  rw [e_iVal, mP_ok (mQ_ok e3 rfl)]
  rfl
end
section
variable {a2 a3 a4 a5 a6 a7 a8 a9 a10 a11 a12 a13 a14 a15 a16 a17 a18 : Sl} {bx : Bx}
variable {s ns : List (List Nat)} {note : List Nat} (hs : Sh 6 4 s) (hn : Small 6 note)
include hs hn
theorem ok_rT {r : List Nat} {n : Nat} (h : Asc n r) (hn : n ≤ 100) : Ok 0 2 (rT r) :=
  .tup _ (by rw [List.length_map]; have := asc_len h; omega) fun x hx => by
    obtain ⟨k, hk, rfl⟩ := List.mem_map.mp hx
    exact .int _ (by have := h.2 k hk; omega)
theorem l19 (g : BG bx) {r : List Nat} (hr : Asc s.length r) : ∃ x bx', q1b19 (mk a2 (.v (shT s)) (.v (T note)) (.v (.int (s.length : Int))) a6 (.v (rT r)) (.o false (.lst ((good s note).map rT))) a9 a10 a11 a12 a13 a14 a15 a16 a17 a18 bx) = some (.nx, mk a2 (.v (shT s)) (.v (T note)) (.v (.int (s.length : Int))) a6 (.v (rT r)) (.o false (.lst ((good s note).map rT))) a9 a10 a11 a12 a13 a14 a15 a16 a17 x bx') ∧ BG bx' := by
  have f := hs.fine (by omega) (by omega)
  have nt := hn.nt (by omega)
  have hz := hs.n
  have hgl := good_len hs hn
  have orr := ok_rT hs hn hr (by omega)
  obtain ⟨ds, bx', d1, d2, d3, d4⟩ := bents_drawn (sl := [.no, .bx, a2, (.v (shT s)), (.v (T note)), (.v (.int (s.length : Int))), a6, (.v (rT r)), (.o false (.lst ((good s note).map rT))), a9, a10, a11, a12, a13, a14, a15, a16, a17, a18, .no, .no, .no, .no, .no]) (i := 7) (by omega) orr g rfl rfl (by decide) rfl
  -- the nine
  have rl := asc_len hr
  generalize hxs : r.map (fun (k : Nat) => D.int (k : Int)) = xs
  have ext : rT r = .tup xs := by rw [← hxs]; rfl
  have xl : xs.length ≤ 6 := by rw [← hxs, List.length_map]; omega
  have xo : ∀ x ∈ xs, Ok 1 2 x := fun x hx => by
    rw [← hxs] at hx
    obtain ⟨k, hk, rfl⟩ := List.mem_map.mp hx
    exact .int _ (by have := hr.2 k hk; omega)
  have c1 := cutD_len xs none (some 1)
  have ad : dAdd (.tup xs) (.tup (cutD xs none (some 1))) = some (.v (.tup (xs ++ cutD xs none (some 1)))) := dAdd_tup (by omega)
  have nine : ∃ ys : List D, (mCons (mVar 7) (mCons (mQ (m1 dRev (mSlot 7))) (mCons (mQ (m2 dAdd (mSlot 7) (mP (mQ (mSl dSl (mSlot 7) oNo (oSo (mP (mC (.int 1))))))))) (mCons (mQ (mTupRg (mRg1 (mSlot 5)))) (mCons (mTup (mCons (mVar 5) mNil)) (mCons (mTup (mCons (mC (.bl true)) mNil)) (mCons (mC .non) (mCons (mTup mNil) (mCons (mC (.int 0)) mNil)))))))))
      (mk a2 (.v (shT s)) (.v (T note)) (.v (.int (s.length : Int))) a6 (.v (rT r)) (.o false (.lst ((good s note).map rT))) a9 a10 a11 a12 a13 a14 a15 a16 a17 a18 bx) = some (ys, mk a2 (.v (shT s)) (.v (T note)) (.v (.int (s.length : Int))) a6 (.v (rT r)) (.o false (.lst ((good s note).map rT))) a9 a10 a11 a12 a13 a14 a15 a16 a17 a18 bx) ∧ ys.length ≤ 1000 ∧ ∀ v ∈ ys, Ok 1 3 v := by
    refine ⟨[.tup xs, .tup xs.reverse, .tup (xs ++ cutD xs none (some 1)), rT (List.range s.length), .tup [.int s.length], .tup [.bl true], .non, .tup [], .int 0], ?_, by simp, fun v hv => ?_⟩
    · rw [ext]
      refine mCons_ok (by simp; rfl) (mCons_ok (by simp; rfl) (mCons_ok (by simp [ad]; rfl) (mCons_ok (mQ_ok (mTupRg_len (n := s.length) (p := .v (.int s.length)) (by omega) (by simp; rfl) rfl) rfl) (mCons_ok (mTup_ok (mCons_ok rfl rfl) (by simp)) (mCons_ok (mTup_ok (mCons_ok rfl rfl) (by simp)) (mCons_ok rfl (mCons_ok (mTup_ok rfl (by simp)) (mCons_ok rfl rfl))))))))
    · simp only [List.mem_cons, List.not_mem_nil, or_false] at hv
      rcases hv with rfl | rfl | rfl | rfl | rfl | rfl | rfl | rfl | rfl
      · exact .tup _ (by omega) xo
      · exact .tup _ (by simp; omega) fun x hx => xo x (List.mem_reverse.mp hx)
      · exact .tup _ (by simp; omega) fun x hx => by
          rcases List.mem_append.mp hx with h | h
          · exact xo x h
          · exact xo x (cutD_mem h)
      · exact (ok_rT hs hn (asc_range s.length) (by omega)).mono (by omega) (by omega)
      · exact .tup _ (by simp) fun x hx => by simp at hx; subst hx; exact .int _ (by omega)
      · exact .tup _ (by simp) fun x hx => by simp at hx; subst hx; exact .bl _
      · exact .non
      · exact .tup _ (by simp) (by simp)
      · exact ok_int (by decide)
  obtain ⟨ys, y1, y2, y3⟩ := nine
  have LP := vals_for (fb := q1b19b) (sl := fun x => [.no, .bx, a2, (.v (shT s)), (.v (T note)), (.v (.int (s.length : Int))), a6, (.v (rT r)), (.o false (.lst ((good s note).map rT))), a9, a10, a11, a12, a13, a14, a15, a16, a17, x, .no, .no, .no, .no, .no]) (a := a18) y1 y2 d1 (by omega) (fun _ _ => rfl) (fun _ => by simp) fun v hv => ?_
  · obtain ⟨x, h⟩ := LP
    exact ⟨x, bx', h, d4⟩
  · have ov : Ok 1 3 v := by
      rcases List.mem_append.mp hv with h | h
      · exact y3 v h
      · exact d3 v h
    have g1 := do_give f nt (n := 1) (k := 3) (by omega) v ov bx'
    have hc := mLc_pure' (fun o : List Nat => mkx a2 (.v (shT s)) (.v (T note)) (.v (.int (s.length : Int))) a6 (.v (rT r)) (.o true (.lst ((good s note).map rT))) a9 a10 a11 a12 a13 a14 a15 a16 a17 (.v v) .no (.v (rT o)) .no .no .no bx') (fun o => D.bl (sm v (rT o))) (g := rT) (fi := iVal (mSlot 8)) (tg := gSet 20) (fe := mQ (mFn fn__law_same (mCons (mSlot 18) (mCons (mSlot 20) mNil)))) (vs := [20])
      (E := mk a2 (.v (shT s)) (.v (T note)) (.v (.int (s.length : Int))) a6 (.v (rT r)) (.o false (.lst ((good s note).map rT))) a9 a10 a11 a12 a13 a14 a15 a16 a17 (.v v) bx') (E1 := mk a2 (.v (shT s)) (.v (T note)) (.v (.int (s.length : Int))) a6 (.v (rT r)) (.o true (.lst ((good s note).map rT))) a9 a10 a11 a12 a13 a14 a15 a16 a17 (.v v) bx') (E' := mk a2 (.v (shT s)) (.v (T note)) (.v (.int (s.length : Int))) a6 (.v (rT r)) (.o false (.lst ((good s note).map rT))) a9 a10 a11 a12 a13 a14 a15 a16 a17 (.v v) bx') (lk := some 8) (good s note)
      (by simp) (by omega) (by simp [back, backS, wE, unlk, unl]) fun o ho => ?_
    · have hany := mCall1_ok hc (cAny_fun _ _)
      have h5 := same_it 1 (a := .bl ((good s note).any fun o => sm v (rT o))) bx' rfl rfl (by omega)
      refine skip_same (a := .bl ((good s note).any fun o => sm v (rT o))) (b := .bl ((good s note).any fun o => sm v (rT o))) (E1 := mk a2 (.v (shT s)) (.v (T note)) (.v (.int (s.length : Int))) a6 (.v (rT r)) (.o false (.lst ((good s note).map rT))) a9 a10 a11 a12 a13 a14 a15 a16 a17 (.v v) bx') (mP_ok (mQ_ok (mFn_ok (ps := [.v (shT s), .v (T note), .v v]) (E1 := mk a2 (.v (shT s)) (.v (T note)) (.v (.int (s.length : Int))) a6 (.v (rT r)) (.o false (.lst ((good s note).map rT))) a9 a10 a11 a12 a13 a14 a15 a16 a17 (.v v) bx') (by simp) (by simp) g1) rfl)) (mP_ok (mQ_ok hany rfl)) h5
    · have ha := (mem_good.mp ho).1
      have sg : fn__law_same [.v v, .v (rT o)] bx' = some (.v (.bl (sm v (rT o))), bx') := same_gen 3 20 v (rT o) bx' (fair_ok (by omega) ov) (fair_rT (by have := asc_len ha; omega)) (by omega)
      exact ⟨by simp [wE], by simp [sg], by simp [wE]⟩
end
end K32

namespace K32
open PySem L2 PyProof.Rows PV
theorem mulT3 {cs : List Nat} (hl : cs.length ≤ 100) : dMulA (T cs) (.int 3) = some (.v (T (cs ++ cs ++ cs))) := by
  have h1 : dMulT (T cs) (.int 3) = some (.v (T (cs ++ cs ++ cs))) := by
    show (if (tx cs).length ≤ 1000 ∧ (-1000 : Int) ≤ 3 ∧ (3 : Int) ≤ 1000 then some (R.v (.str (mulT (tx cs) 3))) else none) = _
    rw [if_pos ⟨by rw [tx_len]; omega, by decide, by decide⟩]
    have : mulT (tx cs) 3 = tx (cs ++ cs ++ cs) := by
      unfold mulT
      rw [if_neg (by decide)]
      show (⟨((List.replicate 3 cs).flatten).toArray⟩ : Str) = tx (cs ++ cs ++ cs)
      simp [tx, List.replicate]
    rw [this]
    rfl
  unfold dMulA dMul
  rw [h1]
  rfl
theorem mulTup {n : Nat} (h2 : 2 ≤ n) (hn : n ≤ 20) : dMulA (.tup [T [97]]) (.int (n : Int)) = some (.v (.tup (List.replicate n (T [97])))) := by
  have h1 : dRepT (.tup [T [97]]) (.int (n : Int)) = some (.v (.tup (List.replicate n (T [97])))) := by
    show (if [T [97]].length ≤ 1000 ∧ (2 : Int) ≤ (n : Int) ∧ (n : Int) ≤ 1000 ∧ [T [97]] ≠ [] then some (R.v (.tup (List.replicate (n : Int).toNat [T [97]]).flatten)) else none) = _
    rw [if_pos ⟨by simp, by omega, by omega, by simp⟩]
    have : (List.replicate (n : Int).toNat [T [97]]).flatten = List.replicate n (T [97]) := by
      rw [Int.toNat_natCast]
      clear h2 hn
      induction n with
      | zero => rfl
      | succ n ih => rw [List.replicate_succ, List.flatten_cons, ih, List.replicate_succ]; rfl
    rw [this]
  unfold dMulA
  rw [h1]
  rfl
section
variable {a2 a3 a4 a5 a6 a7 a8 a9 a10 a11 a12 a13 a14 a15 a16 a17 a18 : Sl} {bx : Bx}
variable {s ns : List (List Nat)} {note : List Nat}
theorem l20 (hn : Small 6 note) (g : BG bx) : ∃ x bx', q1b20 (mk a2 a3 (.v (T note)) a5 a6 a7 a8 a9 a10 a11 a12 a13 a14 a15 a16 a17 a18 bx) = some (.nx, mk a2 a3 (.v (T note)) a5 a6 a7 a8 a9 a10 a11 a12 a13 a14 a15 a16 a17 x bx') ∧ BG bx' := by
  have on := ok_note hn (by omega)
  have nl := hn.l1
  have nlt := hn.lt
  obtain ⟨ds, bx', d1, d2, d3, d4⟩ := bents_drawn (sl := [.no, .bx, a2, a3, (.v (T note)), a5, a6, a7, a8, a9, a10, a11, a12, a13, a14, a15, a16, a17, a18, .no, .no, .no, .no, .no]) (i := 4) (by omega) on g rfl rfl (by decide) rfl
  have m3 := mulT3 (cs := note) (by omega)
  have nine : ∃ ys : List D, (mCons (mVar 4) (mCons (mQ (m2 dMulA (mSlot 4) (mP (mC (.int 3))))) (mCons (mC (.str (Str.ofString ""))) (mCons (mC (.str (Str.ofString "A"))) (mCons (mC (.str (Str.ofString "a b"))) (mCons (mC (.str (Str.ofString "a1"))) (mCons (mC (.str (Str.ofString "abcdefghijkl"))) (mCons (mC (.str (Str.ofString "abcdefghijklm"))) (mCons (mC (.int 5)) (mCons (mC .non) (mCons (mTup (mCons (mC (.str (Str.ofString "a"))) mNil)) mNil)))))))))))
      (mk a2 a3 (.v (T note)) a5 a6 a7 a8 a9 a10 a11 a12 a13 a14 a15 a16 a17 a18 bx) = some (ys, mk a2 a3 (.v (T note)) a5 a6 a7 a8 a9 a10 a11 a12 a13 a14 a15 a16 a17 a18 bx) ∧ ys.length ≤ 1000 ∧ ∀ v ∈ ys, Ok 1 2 v := by
    refine ⟨[T note, T (note ++ note ++ note), .str (Str.ofString ""), .str (Str.ofString "A"), .str (Str.ofString "a b"), .str (Str.ofString "a1"), .str (Str.ofString "abcdefghijkl"), .str (Str.ofString "abcdefghijklm"), .int 5, .non, .tup [.str (Str.ofString "a")]], ?_, by simp, fun v hv => ?_⟩
    · refine mCons_ok rfl (mCons_ok (mQ_ok (m2_ok (p := .v (T note)) (q := .v (.int 3)) rfl rfl rfl rfl m3) rfl) (mCons_ok rfl (mCons_ok rfl (mCons_ok rfl (mCons_ok rfl (mCons_ok rfl (mCons_ok rfl (mCons_ok rfl (mCons_ok rfl (mCons_ok (mTup_ok (mCons_ok rfl rfl) (by simp)) rfl))))))))))
    · simp only [List.mem_cons, List.not_mem_nil, or_false] at hv
      rcases hv with rfl | rfl | rfl | rfl | rfl | rfl | rfl | rfl | rfl | rfl | rfl
      · exact on.mono (by omega) (by omega)
      · exact .str _ (by simp; omega) fun c hc => by
          simp only [List.mem_append] at hc
          rcases hc with (h | h) | h
          · exact nlt c h
          · exact nlt c h
          · exact nlt c h
      · exact ok_of "" (by decide +kernel) (by decide +kernel)
      · exact ok_of "A" (by decide +kernel) (by decide +kernel)
      · exact ok_of "a b" (by decide +kernel) (by decide +kernel)
      · exact ok_of "a1" (by decide +kernel) (by decide +kernel)
      · exact ok_of "abcdefghijkl" (by decide +kernel) (by decide +kernel)
      · exact ok_of "abcdefghijklm" (by decide +kernel) (by decide +kernel)
      · exact ok_int (by decide)
      · exact .non
      · exact .tup _ (by simp) fun x hx => by rw [List.mem_singleton] at hx; subst hx; exact ok_of "a" (by decide +kernel) (by decide +kernel)
  obtain ⟨ys, y1, y2, y3⟩ := nine
  have LP := vals_for (fb := q1b20b) (sl := fun x => [.no, .bx, a2, a3, (.v (T note)), a5, a6, a7, a8, a9, a10, a11, a12, a13, a14, a15, a16, a17, x, .no, .no, .no, .no, .no]) (a := a18) y1 y2 d1 (by omega) (fun _ _ => rfl) (fun _ => by simp) fun v hv => ?_
  · obtain ⟨x, h⟩ := LP
    exact ⟨x, bx', h, d4⟩
  · have ov : Ok 1 2 v := by
      rcases List.mem_append.mp hv with h | h
      · exact y3 v h
      · exact d3 v h
    have g1 := is_note 1 2 v ov bx'
    have g2 := law_is_note 1 2 v ov bx'
    have h5 := same_it 1 (a := .bl (isNote v)) bx' rfl rfl (by omega)
    exact skip_same (a := .bl (isNote v)) (b := .bl (isNote v)) (E1 := mk a2 a3 (.v (T note)) a5 a6 a7 a8 a9 a10 a11 a12 a13 a14 a15 a16 a17 (.v v) bx') (mP_ok (mQ_ok (mFn_ok (ps := [.v v]) (E1 := mk a2 a3 (.v (T note)) a5 a6 a7 a8 a9 a10 a11 a12 a13 a14 a15 a16 a17 (.v v) bx') (by simp) (by simp) g1) rfl)) (mP_ok (mQ_ok (mFn_ok (ps := [.v v]) (E1 := mk a2 a3 (.v (T note)) a5 a6 a7 a8 a9 a10 a11 a12 a13 a14 a15 a16 a17 (.v v) bx') (by simp) (by simp) g2) rfl)) h5
theorem judge_sheets {v : D} {n k : Nat} (ov : Ok n k v) : mAndV (mQ (mIsi "tuple" (mSlot 18))) (mAndV (mQ (m2 dLeI (mP (mQ (mCall cLenA (mCons (mSlot 18) mNil)))) (mP (mC (.int 8))))) (mQ (mCall1 cAll (mLc (iVal (mSlot 18)) (gSet 23) mYes (mQ (mFn fn__law_is_note (mCons (mSlot 23) mNil))) [23]))))
      (mk a2 a3 a4 a5 a6 a7 a8 a9 a10 a11 a12 a13 a14 a15 a16 a17 (.v v) bx) = some (.bl (isSheets v), mk a2 a3 a4 a5 a6 a7 a8 a9 a10 a11 a12 a13 a14 a15 a16 a17 (.v v) bx) := by
  have K := kits
  cases ov with
  | tup xs h1 h2 =>
    by_cases a : xs.length ≤ 8
    · have h := mLc_pure' (fun x : D => mkx a2 a3 a4 a5 a6 a7 a8 a9 a10 a11 a12 a13 a14 a15 a16 a17 (.v (.tup xs)) .no .no .no .no (.v x) bx) (fun x => D.bl (isNote x)) (g := fun x => x) (fi := iVal (mSlot 18)) (tg := gSet 23) (fe := mQ (mFn fn__law_is_note (mCons (mSlot 23) mNil))) (vs := [23])
        (E := mk a2 a3 a4 a5 a6 a7 a8 a9 a10 a11 a12 a13 a14 a15 a16 a17 (.v (.tup xs)) bx) (E1 := mk a2 a3 a4 a5 a6 a7 a8 a9 a10 a11 a12 a13 a14 a15 a16 a17 (.v (.tup xs)) bx) (E' := mk a2 a3 a4 a5 a6 a7 a8 a9 a10 a11 a12 a13 a14 a15 a16 a17 (.v (.tup xs)) bx) (lk := none) xs (by simp) (by omega) (by simp [back, backS, wE, unlk]) fun x hx => ⟨by simp [wE], by simp [law_is_note _ _ _ (h2 x hx)], by simp [wE]⟩
      have hc := mCall1_ok h (cAll_fun _ _)
      have ai : (xs.length : Int) ≤ 8 := by omega
      simp [K, ai, hc, -e_mCall1, isSheets, a]
    · have ai : ¬ (xs.length : Int) ≤ 8 := by omega
      simp [K, ai, isSheets, a]
  | str cs h1 h2 => simp [K, isSheets, T]
  | non => simp [K, isSheets]
  | bl b => simp [K, isSheets]
  | int b => simp [K, isSheets]
theorem l21 (hs : Sh 6 4 s) (g : BG bx) : ∃ x bx', q1b21 (mk a2 (.v (shT s)) a4 a5 a6 a7 a8 a9 a10 a11 a12 a13 a14 a15 a16 a17 a18 bx) = some (.nx, mk a2 (.v (shT s)) a4 a5 a6 a7 a8 a9 a10 a11 a12 a13 a14 a15 a16 a17 x bx') ∧ BG bx' := by
  have hz := hs.n
  have os := ok_shT hs (by omega) (by omega)
  obtain ⟨ds, bx', d1, d2, d3, d4⟩ := bents_drawn (sl := [.no, .bx, a2, (.v (shT s)), a4, a5, a6, a7, a8, a9, a10, a11, a12, a13, a14, a15, a16, a17, a18, .no, .no, .no, .no, .no]) (i := 3) (by omega) os g rfl rfl (by decide) rfl
  have e8 := mulTup (n := 8) (by omega) (by omega)
  have e9 := mulTup (n := 9) (by omega) (by omega)
  have so : ∀ x ∈ s.map T, Ok 1 2 x := fun x hx => by
    obtain ⟨t, ht, rfl⟩ := List.mem_map.mp hx
    exact (ok_note (hs.t t ht) (by omega)).mono (by omega) (by omega)
  have a1 : dAdd (shT s) (.tup [T []]) = some (.v (.tup (s.map T ++ [T []]))) := dAdd_tup (by simp; omega)
  have a5' : dAdd (shT s) (.tup [.int 5]) = some (.v (.tup (s.map T ++ [.int 5]))) := dAdd_tup (by simp; omega)
  have nine : ∃ ys : List D, (mCons (mVar 3) (mCons (mQ (m2 dAdd (mSlot 3) (mP (mTup (mCons (mC (.str (Str.ofString ""))) mNil))))) (mCons (mQ (m2 dAdd (mSlot 3) (mP (mTup (mCons (mC (.int 5)) mNil))))) (mCons (mQ (m2 dMulA (mP (mTup (mCons (mC (.str (Str.ofString "a"))) mNil))) (mP (mC (.int 8))))) (mCons (mQ (m2 dMulA (mP (mTup (mCons (mC (.str (Str.ofString "a"))) mNil))) (mP (mC (.int 9))))) (mCons (mC .non) (mCons (mTup mNil) (mCons (mC (.str (Str.ofString "ab"))) mNil))))))))
      (mk a2 (.v (shT s)) a4 a5 a6 a7 a8 a9 a10 a11 a12 a13 a14 a15 a16 a17 a18 bx) = some (ys, mk a2 (.v (shT s)) a4 a5 a6 a7 a8 a9 a10 a11 a12 a13 a14 a15 a16 a17 a18 bx) ∧ ys.length ≤ 1000 ∧ ∀ v ∈ ys, Ok 1 3 v := by
    refine ⟨[shT s, .tup (s.map T ++ [T []]), .tup (s.map T ++ [.int 5]), .tup (List.replicate 8 (T [97])), .tup (List.replicate 9 (T [97])), .non, .tup [], .str (Str.ofString "ab")], ?_, by simp, fun v hv => ?_⟩
    · have e8 : dMulA (.tup [T [97]]) (.int 8) = _ := e8
      have e9 : dMulA (.tup [T [97]]) (.int 9) = _ := e9
      have one : ∀ (t : String) (d : D) (E : En), D.str (Str.ofString t) = d → mP (mTup (mCons (mC (.str (Str.ofString t))) mNil)) E = some (.v (.tup [d]), E) := fun t d E h => by
        rw [h]
        exact mP_ok (mTup_ok (mCons_ok rfl rfl) (by simp))
      exact mCons_ok rfl (mCons_ok (mQ_ok (m2_ok (p := .v (shT s)) (q := .v (.tup [T []])) rfl (one "" _ _ str_nil) rfl rfl a1) rfl) (mCons_ok (mQ_ok (m2_ok (p := .v (shT s)) (q := .v (.tup [.int 5])) rfl (mP_ok (mTup_ok (mCons_ok rfl rfl) (by simp))) rfl rfl a5') rfl)
        (mCons_ok (mQ_ok (m2_ok (p := .v (.tup [T [97]])) (q := .v (.int 8)) (one "a" _ _ str_a) rfl rfl rfl e8) rfl) (mCons_ok (mQ_ok (m2_ok (p := .v (.tup [T [97]])) (q := .v (.int 9)) (one "a" _ _ str_a) rfl rfl rfl e9) rfl) (mCons_ok rfl (mCons_ok (mTup_ok rfl (by simp)) (mCons_ok rfl rfl)))))))
    · simp only [List.mem_cons, List.not_mem_nil, or_false] at hv
      rcases hv with rfl | rfl | rfl | rfl | rfl | rfl | rfl | rfl
      · exact os.mono (by omega) (by omega)
      · exact .tup _ (by simp; omega) fun x hx => by
          rcases List.mem_append.mp hx with h | h
          · exact so x h
          · rw [List.mem_singleton] at h; subst h; exact ok_T (by simp) (by simp)
      · exact .tup _ (by simp; omega) fun x hx => by
          rcases List.mem_append.mp hx with h | h
          · exact so x h
          · rw [List.mem_singleton] at h; subst h; exact ok_int (by decide)
      · exact .tup _ (by simp) fun x hx => by rw [List.eq_of_mem_replicate hx]; exact ok_T (by simp) (by simp)
      · exact .tup _ (by simp) fun x hx => by rw [List.eq_of_mem_replicate hx]; exact ok_T (by simp) (by simp)
      · exact .non
      · exact .tup _ (by simp) (by simp)
      · exact ok_of "ab" (by decide +kernel) (by decide +kernel)
  obtain ⟨ys, y1, y2, y3⟩ := nine
  have LP := vals_for (fb := q1b21b) (sl := fun x => [.no, .bx, a2, (.v (shT s)), a4, a5, a6, a7, a8, a9, a10, a11, a12, a13, a14, a15, a16, a17, x, .no, .no, .no, .no, .no]) (a := a18) y1 y2 d1 (by omega) (fun _ _ => rfl) (fun _ => by simp) fun v hv => ?_
  · obtain ⟨x, h⟩ := LP
    exact ⟨x, bx', h, d4⟩
  · have ov : Ok 1 3 v := by
      rcases List.mem_append.mp hv with h | h
      · exact y3 v h
      · exact d3 v h
    have g1 := are_sheets 1 3 v ov bx'
    have g2 := judge_sheets (a2 := a2) (a3 := .v (shT s)) (a4 := a4) (a5 := a5) (a6 := a6) (a7 := a7) (a8 := a8) (a9 := a9) (a10 := a10) (a11 := a11) (a12 := a12) (a13 := a13) (a14 := a14) (a15 := a15) (a16 := a16) (a17 := a17) (bx := bx') ov
    have h5 := same_it 1 (a := .bl (isSheets v)) bx' rfl rfl (by omega)
    exact skip_same (a := .bl (isSheets v)) (b := .bl (isSheets v)) (E1 := mk a2 (.v (shT s)) a4 a5 a6 a7 a8 a9 a10 a11 a12 a13 a14 a15 a16 a17 (.v v) bx') (mP_ok (mQ_ok (mFn_ok (ps := [.v v]) (E1 := mk a2 (.v (shT s)) a4 a5 a6 a7 a8 a9 a10 a11 a12 a13 a14 a15 a16 a17 (.v v) bx') (by simp) (by simp) g1) rfl)) (mP_ok g2) h5
end
end K32

namespace K32
open PySem L2 PyProof.Rows PV
theorem end1 : lackL [97, 98] [97, 97, 98] = [(97, 1)] := by
  have : srt [97, 97, 98] = [97, 98] := by
    unfold srt
    have u : uniq [97, 97, 98] = [97, 98] := by decide +kernel
    rw [u]
    exact List.mergeSort_of_pairwise (by decide +kernel)
  unfold lackL
  rw [this]
  decide +kernel
theorem end2 : (good [[97, 98], [99, 99], [97, 98, 99]] [97, 98, 99]).head? = some [2] := by
  have n : ([[97, 98], [99, 99], [97, 98, 99]] : List (List Nat)).length = 3 := rfl
  have ok : ∀ r : List Nat, okR [[97, 98], [99, 99], [97, 98, 99]] [97, 98, 99] r = ([97, 98, 99].all fun c => decide (([97, 98, 99] : List Nat).count c ≤ (r.map fun k => (([[97, 98], [99, 99], [97, 98, 99]] : List (List Nat)).getD k []).count c).sum)) := fun r => by
    rw [Bool.eq_iff_iff, okR_iff, List.all_eq_true]
    constructor
    · exact fun h c _ => decide_eq_true (h c)
    · intro h c
      by_cases hc : c ∈ [97, 98, 99]
      · exact of_decide_eq_true (h c hc)
      · rw [List.count_eq_zero.mpr hc]; omega
  unfold good
  rw [n, sets3]
  have e : okR [[97, 98], [99, 99], [97, 98, 99]] [97, 98, 99] = fun r => ([97, 98, 99].all fun c => decide (([97, 98, 99] : List Nat).count c ≤ (r.map fun k => (([[97, 98], [99, 99], [97, 98, 99]] : List (List Nat)).getD k []).count c).sum)) := funext ok
  rw [e]
  decide +kernel
theorem sx (t : String) (cs : List Nat) (h : Str.ofString t = tx cs) : D.str (Str.ofString t) = T cs := by rw [h]; rfl
theorem lq2 (E : En) : q2 E = some (.rt (.v (.bl true)), E) := by
  have f3 : Fine [[97, 98], [99, 99], [97, 98, 99]] := ⟨by unfold Lt; decide, by decide, by decide⟩
  have f1 : Fine [[97, 98]] := ⟨by unfold Lt; decide, by decide, by decide⟩
  have n1 : Nt [97, 98, 99] := ⟨by unfold Lt; decide, by decide⟩
  have n2 : Nt [97, 97, 98] := ⟨by unfold Lt; decide, by decide⟩
  have g1 := fewest_sheets f3 n1 E.bx
  rw [end2] at g1
  have g1 : fn_fewest_sheets [.v (shT [[97, 98], [99, 99], [97, 98, 99]]), .v (T [97, 98, 99])] E.bx = some (.v (rT [2]), E.bx) := g1
  have g2 := lack_asc f1 n2 (r := [0]) ⟨by decide, by decide⟩ E.bx
  have e2 : lk [[97, 98]] [97, 97, 98] [0] = [lkD (97, 1)] := by
    unfold lk lacks
    have : (pick [[97, 98]] [0]).flatten = [97, 98] := by decide
    rw [this, end1]
    rfl
  rw [e2] at g2
  have s1 := sx "ab" [97, 98] (by decide +kernel)
  have s2 := sx "cc" [99, 99] (by decide +kernel)
  have s3 := sx "abc" [97, 98, 99] (by decide +kernel)
  have s4 := sx "aab" [97, 97, 98] (by decide +kernel)
  have d1 : dEq (rT [2]) (.tup [.int 2]) = some (.v (.bl true)) := by
    have := dEq_rT [2] [2]
    exact this
  have d2 : dEq (.tup [lkD (97, 1)]) (.tup [.tup [T [97], .int 1]]) = some (.v (.bl true)) := by
    have c : (D.tup [lkD (97, 1)]).clean = true := by simp [lkD]
    have dp : (D.tup [lkD (97, 1)]).py.depth ≤ 3 := depth_tup fun x hx => by
      rw [List.mem_singleton] at hx
      subst hx
      exact depth_tup fun z hz => by
        simp only [List.mem_cons, List.not_mem_nil, or_false] at hz
        rcases hz with rfl | rfl
        · exact depth_T _
        · exact depth_int _
    have := dEq_clean c c (.inl (by omega))
    rw [sm_self _ c] at this
    exact this
  have c1 : ∀ (t : String) (cs : List Nat), D.str (Str.ofString t) = T cs → mP (mC (.str (Str.ofString t))) E = some (.v (T cs), E) := fun t cs h => by rw [h]; rfl
  have t1 : mP (mTup (mCons (mC (.str (Str.ofString "ab"))) (mCons (mC (.str (Str.ofString "cc"))) (mCons (mC (.str (Str.ofString "abc"))) mNil)))) E = some (.v (shT [[97, 98], [99, 99], [97, 98, 99]]), E) := by
    rw [s1, s2, s3]
    exact mP_ok (mTup_ok (mCons_ok rfl (mCons_ok rfl (mCons_ok rfl rfl))) (by simp))
  have t2 : mP (mTup (mCons (mC (.str (Str.ofString "ab"))) mNil)) E = some (.v (shT [[97, 98]]), E) := by
    rw [s1]
    exact mP_ok (mTup_ok (mCons_ok rfl rfl) (by simp))
  have t3 : mP (mTup (mCons (mC (.int 0)) mNil)) E = some (.v (rT [0]), E) := mP_ok (mTup_ok (mCons_ok rfl rfl) (by simp))
  have t4 : mP (mTup (mCons (mC (.int 2)) mNil)) E = some (.v (.tup [.int 2]), E) := mP_ok (mTup_ok (mCons_ok rfl rfl) (by simp))
  have t5 : mP (mTup (mCons (mTup (mCons (mC (.str (Str.ofString "a"))) (mCons (mC (.int 1)) mNil))) mNil)) E = some (.v (.tup [.tup [T [97], .int 1]]), E) := by
    rw [str_a]
    exact mP_ok (mTup_ok (mCons_ok (mTup_ok (mCons_ok rfl (mCons_ok rfl rfl)) (by simp)) rfl) (by simp))
  have nil_ok : (mNil : EF (List P)) E = some ([], E) := rfl
  have a1 := mP_ok (mQ_ok (mFn_ok (ps := [.v (shT [[97, 98], [99, 99], [97, 98, 99]]), .v (T [97, 98, 99])]) (mCons_ok t1 (mCons_ok (c1 "abc" _ s3) nil_ok)) rfl g1) rfl)
  have a2 := mP_ok (mQ_ok (mFn_ok (ps := [.v (shT [[97, 98]]), .v (rT [0]), .v (T [97, 97, 98])]) (mCons_ok t2 (mCons_ok t3 (mCons_ok (c1 "aab" _ s4) nil_ok))) rfl g2) rfl)
  have b1 := mQ_ok (m2_ok a1 t4 rfl rfl d1) rfl
  have b2 := mQ_ok (m2_ok a2 t5 rfl rfl d2) rfl
  refine bRet_ok ?_
  rw [e_mE, e_mAndV, b1]
  simp only [Option.bind_some]
  rw [b2]
  rfl
theorem lq0 (E : En) : q0 E = some (.nx, E) := by
  have t1 : mP (mTup (mCons (mC g_MOST_LETTERS) (mCons (mC g_MOST_NOTES) (mCons (mC g_MOST_SHEETS) mNil)))) E = some (.v (.tup [.int 12, .int 6, .int 8]), E) := mP_ok (mTup_ok (mCons_ok rfl (mCons_ok rfl (mCons_ok rfl rfl))) (by simp))
  have t2 : mP (mTup (mCons (mC (.int 12)) (mCons (mC (.int 6)) (mCons (mC (.int 8)) mNil)))) E = some (.v (.tup [.int 12, .int 6, .int 8]), E) := mP_ok (mTup_ok (mCons_ok rfl (mCons_ok rfl (mCons_ok rfl rfl))) (by simp))
  have d : dNe (.tup [.int 12, .int 6, .int 8]) (.tup [.int 12, .int 6, .int 8]) = some (.v (.bl false)) := dNe_rT [12, 6, 8] [12, 6, 8]
  have b := m2_ok t1 t2 rfl rfl d
  show bIf (mBl (m2 dNe _ _)) _ _ E = _
  rw [e_bIf, e_mBl, b]
  rfl
/-! ### a turn -/
abbrev At (E : En) : Prop := ∃ a2 a3 a4 a5 a6 a7 a8 a9 a10 a11 a12 a13 a14 a15 a16 a17 a18 bx, E = mk a2 a3 a4 a5 a6 a7 a8 a9 a10 a11 a12 a13 a14 a15 a16 a17 a18 bx ∧ BG bx
theorem turn {a2 a3 a4 a5 a6 a7 a8 a9 a10 a11 a12 a13 a14 a15 a16 a17 a18 : Sl} {bx : Bx} (g : BG bx) : ∃ E2, q1b (mk a2 a3 a4 a5 a6 a7 a8 a9 a10 a11 a12 a13 a14 a15 a16 a17 a18 bx) = some (.nx, E2) ∧ At E2 := by
  obtain ⟨s, b0, h0, g0, hs⟩ := l0 (a2 := a2) (a3 := a3) (a4 := a4) (a5 := a5) (a6 := a6) (a7 := a7) (a8 := a8) (a9 := a9) (a10 := a10) (a11 := a11) (a12 := a12) (a13 := a13) (a14 := a14) (a15 := a15) (a16 := a16) (a17 := a17) (a18 := a18) g
  obtain ⟨note, b1, h1, g1, hn⟩ := l1 (s := s) (a2 := a2) (a4 := a4) (a5 := a5) (a6 := a6) (a7 := a7) (a8 := a8) (a9 := a9) (a10 := a10) (a11 := a11) (a12 := a12) (a13 := a13) (a14 := a14) (a15 := a15) (a16 := a16) (a17 := a17) (a18 := a18) g0
  obtain ⟨r, b4, h4, g4, hr⟩ := l4 (note := note) (a2 := a2) (a7 := a7) (a8 := a8) (a9 := a9) (a10 := a10) (a11 := a11) (a12 := a12) (a13 := a13) (a14 := a14) (a15 := a15) (a16 := a16) (a17 := a17) (a18 := a18) hs g1
  obtain ⟨ns, b14, h14, g14, hns⟩ := l14 (a2 := a2) (a3 := .v (shT s)) (a4 := .v (T note)) (a5 := .v (.int (s.length : Int))) (a6 := .o false (.lst ((sets s.length).map rT))) (a7 := .v (rT r)) (a8 := .o false (.lst ((good s note).map rT))) (a9 := .o false (.lst (((sets s.length).filter (smallB s note)).map rT))) (a10 := .v (rT (sureR s note))) (a11 := .v (rT (spareR s note))) (a12 := .v (dueD s note)) (a13 := .v (.dic (eC (cd note)))) (a14 := a14) (a15 := a15) (a16 := a16) (a17 := a17) (a18 := a18) g4
  obtain ⟨x19, b19, h19, g19⟩ := l19 (a2 := a2) (a6 := .o false (.lst ((sets s.length).map rT))) (a9 := .o false (.lst (((sets s.length).filter (smallB s note)).map rT))) (a10 := .v (rT (sureR s note))) (a11 := .v (rT (spareR s note))) (a12 := .v (dueD s note)) (a13 := .v (.dic (eC (cd note)))) (a14 := .v (shT ns)) (a15 := .o false (.lst ((fits s ns).map rT))) (a16 := .v (.int (mostI (fits s ns)))) (a17 := .o false (.lst (lacks s.flatten ns.flatten))) (a18 := a18) hs hn g14 hr
  obtain ⟨x20, b20, h20, g20⟩ := l20 (a2 := a2) (a3 := .v (shT s)) (a5 := .v (.int (s.length : Int))) (a6 := .o false (.lst ((sets s.length).map rT))) (a7 := .v (rT r)) (a8 := .o false (.lst ((good s note).map rT))) (a9 := .o false (.lst (((sets s.length).filter (smallB s note)).map rT))) (a10 := .v (rT (sureR s note))) (a11 := .v (rT (spareR s note))) (a12 := .v (dueD s note)) (a13 := .v (.dic (eC (cd note)))) (a14 := .v (shT ns)) (a15 := .o false (.lst ((fits s ns).map rT))) (a16 := .v (.int (mostI (fits s ns)))) (a17 := .o false (.lst (lacks s.flatten ns.flatten))) (a18 := x19) hn g19
  obtain ⟨x21, b21, h21, g21⟩ := l21 (a2 := a2) (a4 := .v (T note)) (a5 := .v (.int (s.length : Int))) (a6 := .o false (.lst ((sets s.length).map rT))) (a7 := .v (rT r)) (a8 := .o false (.lst ((good s note).map rT))) (a9 := .o false (.lst (((sets s.length).filter (smallB s note)).map rT))) (a10 := .v (rT (sureR s note))) (a11 := .v (rT (spareR s note))) (a12 := .v (dueD s note)) (a13 := .v (.dic (eC (cd note)))) (a14 := .v (shT ns)) (a15 := .o false (.lst ((fits s ns).map rT))) (a16 := .v (.int (mostI (fits s ns)))) (a17 := .o false (.lst (lacks s.flatten ns.flatten))) (a18 := x20) hs g20
  refine ⟨_, bSeq_nx h0 (bSeq_nx h1 (bSeq_nx (l2 hs hn) (bSeq_nx (l3 hs hn) (bSeq_nx h4 (bSeq_nx (l5 hs hn hr) (bSeq_nx (l6 hs hn) (bSeq_nx (l7 hs hn) (bSeq_nx (l8 hs hn) (bSeq_nx (l9 hs hn) (bSeq_nx (l10 hs hn) (bSeq_nx (l11 hs hn) (bSeq_nx (l12 hn) (bSeq_nx (l13 hn) (bSeq_nx h14 (bSeq_nx (l15 hs hns) (bSeq_nx (l16 hs hns) (bSeq_nx (l17 hs hns) (bSeq_nx (l18 hs hns) (bSeq_nx h19 (bSeq_nx h20 h21)))))))))))))))))))), ?_⟩
  exact ⟨_, _, _, _, _, _, _, _, _, _, _, _, _, _, _, _, _, _, rfl, g21⟩
theorem loop {a2 a3 a4 a5 a6 a7 a8 a9 a10 a11 a12 a13 a14 a15 a16 a17 a18 : Sl} {bx : Bx} (g : BG bx) : ∃ E2, q1 (mk a2 a3 a4 a5 a6 a7 a8 a9 a10 a11 a12 a13 a14 a15 a16 a17 a18 bx) = some (.nx, E2) := by
  have r5 : rg 5 = some (rangeD 0 5) := rg_int (by omega) (by omega)
  have LF := bLoop_inv (tg := gSet 2) (fb := q1b) (I := fun _ E => At E) (rangeD 0 5) 0 (mk a2 a3 a4 a5 a6 a7 a8 a9 a10 a11 a12 a13 a14 a15 a16 a17 a18 bx) ⟨_, _, _, _, _, _, _, _, _, _, _, _, _, _, _, _, _, _, rfl, g⟩ fun i d E hd hI => ?_
  · obtain ⟨E', h1, _⟩ := LF
    exact ⟨_, bFor_ok (lk := none) (by simp [r5]) h1⟩
  · obtain ⟨a2, a3, a4, a5, a6, a7, a8, a9, a10, a11, a12, a13, a14, a15, a16, a17, a18, bx, rfl, g⟩ := hI
    obtain ⟨E2, h2, h3⟩ := turn (a2 := .v d) (a3 := a3) (a4 := a4) (a5 := a5) (a6 := a6) (a7 := a7) (a8 := a8) (a9 := a9) (a10 := a10) (a11 := a11) (a12 := a12) (a13 := a13) (a14 := a14) (a15 := a15) (a16 := a16) (a17 := a17) (a18 := a18) g
    exact ⟨(), mk (.v d) a3 a4 a5 a6 a7 a8 a9 a10 a11 a12 a13 a14 a15 a16 a17 a18 bx, E2, by simp, .inl h2, h3⟩
theorem sem : LawSem m_law N_law.length 1 := fun nsv hl hb => by
  rw [m_law_eq]
  obtain ⟨E2, h⟩ := loop (a2 := .no) (a3 := .no) (a4 := .no) (a5 := .no) (a6 := .no) (a7 := .no) (a8 := .no) (a9 := .no) (a10 := .no) (a11 := .no) (a12 := .no) (a13 := .no) (a14 := .no) (a15 := .no) (a16 := .no) (a17 := .no) (a18 := .no) (bg0 hl hb)
  exact ⟨E2, bSeq_nx (lq0 _) (bSeq_nx h (lq2 E2))⟩
end K32

open PySem PySem.W PyProof.Rows
set_option maxHeartbeats 0 in
theorem PySem.Challenge.cw_whowaswhere_k32_whole_notes_cut_freely_holds : PySem.Challenge.rw_whowaswhere_k32_whole_notes_cut_freely.Holds := by
  w_on; o_law; k_head; (case hw => w_witness2)
  k_fill
  refine K32.walk (l := PySem.Challenge.rw_whowaswhere_k32_whole_notes_cut_freely) rfl rfl (fun w h Y => PySem.W.kIn_of Y) ?F
  case F =>
    intro w mg fa h KX G hmg
    refine' K32.all_mk K32.sem KX G hmg ?a__law_box ?l__law_box ?c__law_box ?k__law_box ?a__law_load ?l__law_load ?c__law_load ?k__law_load ?a__law_draw ?l__law_draw ?c__law_draw ?k__law_draw ?a__law_sets ?l__law_sets ?c__law_sets ?k__law_sets ?a_letter_counts ?l_letter_counts ?c_letter_counts ?k_letter_counts ?a__law_lacks ?l__law_lacks ?c__law_lacks ?k__law_lacks ?a__law_text ?l__law_text ?c__law_text ?k__law_text ?a__law_same ?l__law_same ?c__law_same ?k__law_same ?a_sheet_sets ?l_sheet_sets ?c_sheet_sets ?k_sheet_sets ?a_too_few ?l_too_few ?c_too_few ?k_too_few ?a_lacking_letters ?l_lacking_letters ?c_lacking_letters ?k_lacking_letters ?a_fewest_sheets ?l_fewest_sheets ?c_fewest_sheets ?k_fewest_sheets ?a_is_note ?l_is_note ?c_is_note ?k_is_note ?a_are_sheets ?l_are_sheets ?c_are_sheets ?k_are_sheets ?a__law_bent ?l__law_bent ?c__law_bent ?k__law_bent ?a_without_sheet ?l_without_sheet ?c_without_sheet ?k_without_sheet ?a_sure_sheets ?l_sure_sheets ?c_sure_sheets ?k_sure_sheets ?a_is_smallest ?l_is_smallest ?c_is_smallest ?k_is_smallest ?a_spare_sheets ?l_spare_sheets ?c_spare_sheets ?k_spare_sheets ?a_wanted_most ?l_wanted_most ?c_wanted_most ?k_wanted_most ?a_most_notes ?l_most_notes ?c_most_notes ?k_most_notes ?a_is_ascending ?l_is_ascending ?c_is_ascending ?k_is_ascending ?a_is_number ?l_is_number ?c_is_number ?k_is_number ?a_do_give ?l_do_give ?c_do_give ?k_do_give ?a__law_is_note ?l__law_is_note ?c__law_is_note ?k__law_is_note ?a_law ?l_law ?c_law ?k_law ?z_all ?z_any ?z_bool ?z_int ?z_isinstance ?z_len ?z_list ?z_max ?z_range ?z_set ?z_sorted ?z_str ?z_tuple ?y_MOST_LETTERS ?y_MOST_NOTES ?y_MOST_SHEETS ?y_SMALL_LETTERS
    (case a__law_box => k_is)
    (case l__law_box => k_is)
    (case c__law_box => k_is)
    (case k__law_box => k_is)
    (case a__law_load => k_is)
    (case l__law_load => k_is)
    (case c__law_load => k_is)
    (case k__law_load => k_is)
    (case a__law_draw => k_is)
    (case l__law_draw => k_is)
    (case c__law_draw => k_is)
    (case k__law_draw => k_is)
    (case a__law_sets => k_is)
    (case l__law_sets => k_is)
    (case c__law_sets => k_is)
    (case k__law_sets => k_is)
    (case a_letter_counts => k_is)
    (case l_letter_counts => k_is)
    (case c_letter_counts => k_is)
    (case k_letter_counts => k_is)
    (case a__law_lacks => k_is)
    (case l__law_lacks => k_is)
    (case c__law_lacks => k_is)
    (case k__law_lacks => k_is)
    (case a__law_text => k_is)
    (case l__law_text => k_is)
    (case c__law_text => k_is)
    (case k__law_text => k_is)
    (case a__law_same => k_is)
    (case l__law_same => k_is)
    (case c__law_same => k_is)
    (case k__law_same => k_is)
    (case a_sheet_sets => k_is)
    (case l_sheet_sets => k_is)
    (case c_sheet_sets => k_is)
    (case k_sheet_sets => k_is)
    (case a_too_few => k_is)
    (case l_too_few => k_is)
    (case c_too_few => k_is)
    (case k_too_few => k_is)
    (case a_lacking_letters => k_is)
    (case l_lacking_letters => k_is)
    (case c_lacking_letters => k_is)
    (case k_lacking_letters => k_is)
    (case a_fewest_sheets => k_is)
    (case l_fewest_sheets => k_is)
    (case c_fewest_sheets => k_is)
    (case k_fewest_sheets => k_is)
    (case a_is_note => k_is)
    (case l_is_note => k_is)
    (case c_is_note => k_is)
    (case k_is_note => k_is)
    (case a_are_sheets => k_is)
    (case l_are_sheets => k_is)
    (case c_are_sheets => k_is)
    (case k_are_sheets => k_is)
    (case a__law_bent => k_is)
    (case l__law_bent => k_is)
    (case c__law_bent => k_is)
    (case k__law_bent => k_is)
    (case a_without_sheet => k_is)
    (case l_without_sheet => k_is)
    (case c_without_sheet => k_is)
    (case k_without_sheet => k_is)
    (case a_sure_sheets => k_is)
    (case l_sure_sheets => k_is)
    (case c_sure_sheets => k_is)
    (case k_sure_sheets => k_is)
    (case a_is_smallest => k_is)
    (case l_is_smallest => k_is)
    (case c_is_smallest => k_is)
    (case k_is_smallest => k_is)
    (case a_spare_sheets => k_is)
    (case l_spare_sheets => k_is)
    (case c_spare_sheets => k_is)
    (case k_spare_sheets => k_is)
    (case a_wanted_most => k_is)
    (case l_wanted_most => k_is)
    (case c_wanted_most => k_is)
    (case k_wanted_most => k_is)
    (case a_most_notes => k_is)
    (case l_most_notes => k_is)
    (case c_most_notes => k_is)
    (case k_most_notes => k_is)
    (case a_is_ascending => k_is)
    (case l_is_ascending => k_is)
    (case c_is_ascending => k_is)
    (case k_is_ascending => k_is)
    (case a_is_number => k_is)
    (case l_is_number => k_is)
    (case c_is_number => k_is)
    (case k_is_number => k_is)
    (case a_do_give => k_is)
    (case l_do_give => k_is)
    (case c_do_give => k_is)
    (case k_do_give => k_is)
    (case a__law_is_note => k_is)
    (case l__law_is_note => k_is)
    (case c__law_is_note => k_is)
    (case k__law_is_note => k_is)
    (case a_law => k_is)
    (case l_law => k_is)
    (case c_law => k_is)
    (case k_law => k_is)
    (case z_all => k_is)
    (case z_any => k_is)
    (case z_bool => k_is)
    (case z_int => k_is)
    (case z_isinstance => k_is)
    (case z_len => k_is)
    (case z_list => k_is)
    (case z_max => k_is)
    (case z_range => k_is)
    (case z_set => k_is)
    (case z_sorted => k_is)
    (case z_str => k_is)
    (case z_tuple => k_is)
    (case y_MOST_LETTERS => k_is)
    (case y_MOST_NOTES => k_is)
    (case y_MOST_SHEETS => k_is)
    (case y_SMALL_LETTERS => k_is)

