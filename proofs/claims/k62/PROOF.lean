import PyProof.Rows.All
import Wide.All
import OpenK.AllK
import Wide.FinOn
import HandS.ForMost
import HandS.ForExc
import HandS.Iter
import HandS.Style
import KE.GoesEnum
import HandS.DictComp
import HandS.ExcOwn
import HandS.WordsExc
import KE.DataEq
import KE.LtData
import HandS.TupAny
import KE.DataMinMax
import KE.SortData
import KE.DataIsa
import PyProof.Claim2Refuses
import HandS.WordsDict
import KE.KDictCopyH
import KE.KDictWalk
import KE.KEqDict
import KE.KDictDisplayH
import HandS.Ends
import HandS.Lambda
import KE.KNest
import HandS.ExcIs
import PyProof.EqAt
import HandS.Exc
import HandS.IsInst
import PyProof.Transfer
import KE.KDictSum
import HandS.Conv
import PyProof.FitsInt
import KE.KxLen
import PySem.Challenge.RW_cordfire_k62_whole_offices_that_let
set_option Elab.async false
set_option linter.all false
set_option maxRecDepth 100000
/-! Px: programs over trees of data. Core: data, the monad, what a value of the heap stands for, the state. -/
namespace Px
open PySem PySem.Spec PyProof.Rows L2

inductive D where
  | non | bl (b : Bool) | int (i : Int) | str (x : Str) | tup (xs : List D) | lst (xs : List D) | dct (t : Bool) (kvs : List (D × D)) | raw (v : V)

/-- an exception: its class's name, its one field -/
abbrev Exn := Str × Option (Str × Int)

inductive M (α : Type) where
  | ret (a : α) | exc (x : Exn) | stuck | draw (n : Nat) (k : Nat → M α)
namespace M
variable {α β γ : Type}
def bind : M α → (α → M β) → M β
  | ret a, f => f a
  | exc x, _ => exc x
  | stuck, _ => stuck
  | draw n k, f => draw n fun r => bind (k r) f
def wp : M α → (α → Prop) → (Exn → Prop) → Prop
  | ret a, Q, _ => Q a
  | exc x, _, E => E x
  | stuck, _, _ => False
  | draw n k, Q, E => ∀ r, r < n → wp (k r) Q E
def noexc : M α → M α
  | ret a => ret a
  | exc _ => stuck
  | stuck => stuck
  | draw n k => draw n fun r => noexc (k r)
instance : Bind M := ⟨bind⟩
instance : Pure M := ⟨ret⟩
theorem ret_bind (a : α) (f : α → M β) : (ret a >>= f) = f a := rfl
theorem exc_bind (x : Exn) (f : α → M β) : ((exc x : M α) >>= f) = exc x := rfl
theorem stuck_bind (f : α → M β) : ((stuck : M α) >>= f) = stuck := rfl
theorem draw_bind (n : Nat) (k : Nat → M α) (f : α → M β) : (draw n k >>= f) = draw n fun r => k r >>= f := rfl
theorem bind_assoc (m : M α) (f : α → M β) (g : β → M γ) : (m >>= f) >>= g = m >>= fun a => f a >>= g := by
  induction m with
  | ret a => rfl
  | exc x => rfl
  | stuck => rfl
  | draw n k ih =>
    show draw n (fun r => (k r >>= f) >>= g) = draw n fun r => k r >>= fun a => f a >>= g
    exact congrArg (draw n) (funext ih)
theorem wp_bind {m : M α} {f : α → M β} {Q : β → Prop} {E : Exn → Prop} : (m >>= f).wp Q E ↔ m.wp (fun a => (f a).wp Q E) E := by
  induction m with
  | ret a => exact Iff.rfl
  | exc x => exact Iff.rfl
  | stuck => exact Iff.rfl
  | draw n k ih =>
    show (∀ r, r < n → (k r >>= f).wp Q E) ↔ ∀ r, r < n → (k r).wp _ E
    exact ⟨fun h r hr => (ih r).mp (h r hr), fun h r hr => (ih r).mpr (h r hr)⟩
theorem wp_mono {m : M α} {Q Q' : α → Prop} {E E' : Exn → Prop} (h : m.wp Q E) (hq : ∀ a, Q a → Q' a) (he : ∀ x, E x → E' x) : m.wp Q' E' := by
  induction m with
  | ret a => exact hq a h
  | exc x => exact he x h
  | stuck => exact h
  | draw n k ih => exact fun r hr => ih r (h r hr)
theorem wp_noexc {m : M α} {Q : α → Prop} {E : Exn → Prop} (h : m.noexc.wp Q E) : m.wp Q fun _ => False := by
  induction m with
  | ret a => exact h
  | exc x => exact h.elim
  | stuck => exact h
  | draw n k ih => exact fun r hr => ih r (h r hr)
end M
end Px

set_option Elab.async false
set_option linter.all false
set_option maxRecDepth 100000
set_option autoImplicit false
namespace Px
open PySem PySem.Spec PyProof.Rows L2

/-! ### what a value stands for -/
def kD : Key → D
  | .inl i => .int i
  | .inr x => .str x
def ktD (ks : List Key) : D := .tup (ks.map kD)
/-- a tuple: tracked, or a constant of the module -/
def TpX (K : PySem.W.Frag) (H : Hp) (a : Addr) (xs : List V) : Prop := H a = some (.tup xs) ∨ ∃ (o : Obj) (its : Array Value) (n : Nat), K.lookup a = some o ∧ o.cls = .type "tuple" ∧ o.data = .seq its n ∧ its.size ≤ sizeLine ∧ Vals xs its.toList
mutual
/-- the value v stands for the tree d; its lists and dicts lie at places of P -/
inductive Rp (K : PySem.W.Frag) (H : Hp) (P : Addr → Prop) : V → D → Prop
  | non : Rp K H P .non .non
  | bl (b : Bool) : Rp K H P (.bl b) (.bl b)
  | int (i : Int) : Rp K H P (.int i) (.int i)
  | str (x : Str) : Rp K H P (.str x) (.str x)
  | raw (v : V) : Rp K H P v (.raw v)
  | tup {a : Addr} {xs : List V} {ds : List D} : TpX K H a xs → RpL K H P xs ds → Rp K H P (.ref a) (.tup ds)
  | lst {a : Addr} {xs : List V} {ds : List D} : P a → H a = some (.lst xs) → RpL K H P xs ds → Rp K H P (.ref a) (.lst ds)
  | dK {a : Addr} {ob : Obj} {l : List (Key × V)} {kvs : List (D × D)} : P a → H a = some (.frz ob (.dK l)) → RpK K H P l kvs → Rp K H P (.ref a) (.dct false kvs)
  | dT {a : Addr} {ob : Obj} {l : List (List Key × V)} {kvs : List (D × D)} : P a → H a = some (.frz ob (.dT l)) → RpT K H P l kvs → Rp K H P (.ref a) (.dct true kvs)
inductive RpL (K : PySem.W.Frag) (H : Hp) (P : Addr → Prop) : List V → List D → Prop
  | nil : RpL K H P [] []
  | cons {v : V} {vs : List V} {d : D} {ds : List D} : Rp K H P v d → RpL K H P vs ds → RpL K H P (v :: vs) (d :: ds)
inductive RpK (K : PySem.W.Frag) (H : Hp) (P : Addr → Prop) : List (Key × V) → List (D × D) → Prop
  | nil : RpK K H P [] []
  | cons {k : Key} {v : V} {l : List (Key × V)} {d : D} {kvs : List (D × D)} : Rp K H P v d → RpK K H P l kvs → RpK K H P ((k, v) :: l) ((kD k, d) :: kvs)
inductive RpT (K : PySem.W.Frag) (H : Hp) (P : Addr → Prop) : List (List Key × V) → List (D × D) → Prop
  | nil : RpT K H P [] []
  | cons {k : List Key} {v : V} {l : List (List Key × V)} {d : D} {kvs : List (D × D)} : Rp K H P v d → RpT K H P l kvs → RpT K H P ((k, v) :: l) ((ktD k, d) :: kvs)
end
/-- what is read at places of P, and every tuple, is read still -/
structure Ho (P : Addr → Prop) (H H' : Hp) : Prop where
  ex : ∀ a u, P a → H a = some u → H' a = some u
  tp : ∀ a xs, H a = some (.tup xs) → H' a = some (.tup xs)
theorem Ho.rd {P : Addr → Prop} {H H' : Hp} (o : Ho P H H') (a : Addr) (u : HO) (p : P a) (r : Rd H a u) : Rd H' a u := r.imp (o.ex _ _ p) fun ⟨ob, e⟩ => ⟨ob, o.ex _ _ p e⟩
theorem TpX.ho {K : PySem.W.Frag} {P : Addr → Prop} {H H' : Hp} {a : Addr} {xs : List V} (o : Ho P H H') (h : TpX K H a xs) : TpX K H' a xs := h.imp (o.tp a xs) id
section
variable {K : PySem.W.Frag} {P P' : Addr → Prop} {H H' : Hp}
mutual
theorem Rp.mono (o : Ho P H H') (pp : ∀ a u, P a → Rd H a u → P' a) : ∀ {v : V} {d : D}, Rp K H P v d → Rp K H' P' v d
  | _, _, .non => .non
  | _, _, .bl b => .bl b
  | _, _, .int i => .int i
  | _, _, .str x => .str x
  | _, _, .raw v => .raw v
  | _, _, .tup h r => .tup (TpX.ho o h) (RpL.mono o pp r)
  | _, _, .lst p h r => .lst (pp _ _ p (.inl h)) (o.ex _ _ p h) (RpL.mono o pp r)
  | _, _, .dK p h r => .dK (pp _ _ p (.inr ⟨_, h⟩)) (o.ex _ _ p h) (RpK.mono o pp r)
  | _, _, .dT p h r => .dT (pp _ _ p (.inr ⟨_, h⟩)) (o.ex _ _ p h) (RpT.mono o pp r)
theorem RpL.mono (o : Ho P H H') (pp : ∀ a u, P a → Rd H a u → P' a) : ∀ {vs : List V} {ds : List D}, RpL K H P vs ds → RpL K H' P' vs ds
  | _, _, .nil => .nil
  | _, _, .cons h r => .cons (Rp.mono o pp h) (RpL.mono o pp r)
theorem RpK.mono (o : Ho P H H') (pp : ∀ a u, P a → Rd H a u → P' a) : ∀ {l : List (Key × V)} {kvs : List (D × D)}, RpK K H P l kvs → RpK K H' P' l kvs
  | _, _, .nil => .nil
  | _, _, .cons h r => .cons (Rp.mono o pp h) (RpK.mono o pp r)
theorem RpT.mono (o : Ho P H H') (pp : ∀ a u, P a → Rd H a u → P' a) : ∀ {l : List (List Key × V)} {kvs : List (D × D)}, RpT K H P l kvs → RpT K H' P' l kvs
  | _, _, .nil => .nil
  | _, _, .cons h r => .cons (Rp.mono o pp h) (RpT.mono o pp r)
end
theorem RpL.length : ∀ {vs : List V} {ds : List D}, RpL K H P vs ds → vs.length = ds.length
  | _, _, .nil => rfl
  | _, _, .cons _ r => congrArg (· + 1) r.length
theorem RpL.get : ∀ {vs : List V} {ds : List D} {i : Nat} {d : D}, RpL K H P vs ds → ds[i]? = some d → ∃ v, vs[i]? = some v ∧ Rp K H P v d
  | _, _, _, _, .nil, e => by simp at e
  | _, _, 0, _, .cons h _, e => by simp at e; subst e; exact ⟨_, rfl, h⟩
  | _, _, i + 1, d, .cons _ r, e => by
    obtain ⟨v, h1, h2⟩ := r.get (i := i) (d := d) (by simpa using e)
    exact ⟨v, by simpa using h1, h2⟩
theorem RpL.append : ∀ {vs : List V} {ds : List D} {ws : List V} {es : List D}, RpL K H P vs ds → RpL K H P ws es → RpL K H P (vs ++ ws) (ds ++ es)
  | _, _, _, _, .nil, s => s
  | _, _, _, _, .cons h r, s => .cons h (r.append s)
theorem RpL.take : ∀ (n : Nat) {vs : List V} {ds : List D}, RpL K H P vs ds → RpL K H P (vs.take n) (ds.take n)
  | 0, _, _, _ => .nil
  | _ + 1, _, _, .nil => .nil
  | n + 1, _, _, .cons h r => .cons h (r.take n)
theorem RpL.drop : ∀ (n : Nat) {vs : List V} {ds : List D}, RpL K H P vs ds → RpL K H P (vs.drop n) (ds.drop n)
  | 0, _, _, r => r
  | _ + 1, _, _, .nil => .nil
  | n + 1, _, _, .cons _ r => r.drop n
theorem RpL.set {v : V} {d : D} (h : Rp K H P v d) : ∀ (n : Nat) {vs : List V} {ds : List D}, RpL K H P vs ds → RpL K H P (vs.set n v) (ds.set n d)
  | _, _, _, .nil => .nil
  | 0, _, _, .cons _ r => .cons h r
  | n + 1, _, _, .cons g r => .cons g (r.set h n)
theorem RpL.erase : ∀ (n : Nat) {vs : List V} {ds : List D}, RpL K H P vs ds → RpL K H P (vs.eraseIdx n) (ds.eraseIdx n)
  | _, _, _, .nil => .nil
  | 0, _, _, .cons _ r => r
  | n + 1, _, _, .cons g r => .cons g (r.erase n)
theorem RpL.reverse : ∀ {vs : List V} {ds : List D}, RpL K H P vs ds → RpL K H P vs.reverse ds.reverse
  | _, _, .nil => .nil
  | _, _, .cons h r => by
    rw [List.reverse_cons, List.reverse_cons]
    exact r.reverse.append (.cons h .nil)
theorem RpL.dropLast {vs : List V} {ds : List D} (h : RpL K H P vs ds) : RpL K H P vs.dropLast ds.dropLast := by
  rw [List.dropLast_eq_take, List.dropLast_eq_take, h.length]
  exact h.take _
theorem RpL.ints : ∀ (ns : List Int), RpL K H P (ns.map V.int) (ns.map D.int)
  | [] => .nil
  | n :: r => .cons (.int n) (RpL.ints r)
theorem RpK.length : ∀ {l : List (Key × V)} {kvs : List (D × D)}, RpK K H P l kvs → l.length = kvs.length
  | _, _, .nil => rfl
  | _, _, .cons _ r => congrArg (· + 1) r.length
theorem RpT.length : ∀ {l : List (List Key × V)} {kvs : List (D × D)}, RpT K H P l kvs → l.length = kvs.length
  | _, _, .nil => rfl
  | _, _, .cons _ r => congrArg (· + 1) r.length
end
/-- an object of one's own: just as it stands -/
def Ow (K : PySem.W.Frag) (H : Hp) (P : Addr → Prop) (a : Addr) : D → Prop
  | .lst ds => ∃ xs, H a = some (.lst xs) ∧ RpL K H P xs ds
  | .dct t kvs => (t = false ∧ ∃ l, H a = some (.dK l) ∧ RpK K H P l kvs) ∨ (t = true ∧ ∃ l, H a = some (.dT l) ∧ RpT K H P l kvs)
  | _ => False
/-- to be read: its items stand for theirs; it lies at a place of W -/
def Rb (K : PySem.W.Frag) (H : Hp) (P W : Addr → Prop) (w : V) : D → Prop
  | .lst ds => ∃ a xs, w = .ref a ∧ W a ∧ H a = some (.lst xs) ∧ RpL K H P xs ds
  | .dct t kvs => ∃ a, w = .ref a ∧ W a ∧ ((t = false ∧ ∃ l, Rd H a (.dK l) ∧ RpK K H P l kvs) ∨ (t = true ∧ ∃ l, Rd H a (.dT l) ∧ RpT K H P l kvs))
  | d => Rp K H P w d
/-- b: to be read now; s: it stays; f: newly made -/
inductive Md where
  | b | s | f
/-- newly made (H0: ahead of it) -/
def Rf (K : PySem.W.Frag) (H0 H : Hp) (P : Addr → Prop) (w : V) : D → Prop
  | .lst ds => ∃ a, w = .ref a ∧ H0 a = none ∧ Ow K H (fun b => P b ∧ b ≠ a) a (.lst ds)
  | .dct t kvs => ∃ a, w = .ref a ∧ H0 a = none ∧ Ow K H (fun b => P b ∧ b ≠ a) a (.dct t kvs)
  | d => Rp K H P w d
def Rq (md : Md) (K : PySem.W.Frag) (H0 H : Hp) (P W : Addr → Prop) (w : V) (d : D) : Prop :=
  match md with
  | .b => Rb K H P W w d
  | .s => Rp K H P w d
  | .f => Rf K H0 H P w d
section
variable {K : PySem.W.Frag} {P P' W W' : Addr → Prop} {H H' H0 H0' : Hp} {w : V} {d : D} {a : Addr} {md : Md}
theorem Rp.rb (h : Rp K H P w d) (pw : ∀ a, P a → W a) : Rb K H P W w d := by
  cases h with
  | non => exact .non
  | bl b => exact .bl b
  | int i => exact .int i
  | str x => exact .str x
  | raw => exact .raw _
  | tup h r => exact .tup h r
  | lst p h r => exact ⟨_, _, rfl, pw _ p, h, r⟩
  | dK p h r => exact ⟨_, rfl, pw _ p, .inl ⟨rfl, _, .inr ⟨_, h⟩, r⟩⟩
  | dT p h r => exact ⟨_, rfl, pw _ p, .inr ⟨rfl, _, .inr ⟨_, h⟩, r⟩⟩
theorem Ho.refl : Ho P H H := ⟨fun _ _ _ r => r, fun _ _ r => r⟩
theorem Rf.rb (h : Rf K H0 H P w d) (hp : ∀ a, H0 a = none → P a) (pw : ∀ a, P a → W a) : Rb K H P W w d := by
  cases d with
  | lst ds => obtain ⟨a, rfl, h0, xs, hx, r⟩ := h; exact ⟨a, xs, rfl, pw a (hp a h0), hx, r.mono .refl fun _ _ p _ => p.1⟩
  | dct t kvs =>
    obtain ⟨a, rfl, h0, hx⟩ := h
    rcases hx with ⟨rfl, l, hx, r⟩ | ⟨rfl, l, hx, r⟩
    · exact ⟨a, rfl, pw a (hp a h0), .inl ⟨rfl, l, .inl hx, r.mono .refl fun _ _ p _ => p.1⟩⟩
    · exact ⟨a, rfl, pw a (hp a h0), .inr ⟨rfl, l, .inl hx, r.mono .refl fun _ _ p _ => p.1⟩⟩
  | non => exact h
  | bl b => exact h
  | int i => exact h
  | str x => exact h
  | tup ds => exact h
  | raw v => exact h
theorem Rq.rb (h : Rq md K H0 H P W w d) (hp : ∀ a, H0 a = none → P a) (pw : ∀ a, P a → W a) : Rb K H P W w d := by
  cases md with
  | b => exact h
  | s => exact Rp.rb h pw
  | f => exact Rf.rb h hp pw
theorem Ow.mono (h : Ow K H P a d) (o : Ho P H H') (pp : ∀ a u, P a → Rd H a u → P' a) (ha : ∀ u, H a = some u → H' a = some u) : Ow K H' P' a d := by
  cases d with
  | lst ds => obtain ⟨xs, hx, r⟩ := h; exact ⟨xs, ha _ hx, r.mono o pp⟩
  | dct t kvs =>
    rcases h with ⟨rfl, l, hx, r⟩ | ⟨rfl, l, hx, r⟩
    · exact .inl ⟨rfl, l, ha _ hx, r.mono o pp⟩
    · exact .inr ⟨rfl, l, ha _ hx, r.mono o pp⟩
  | _ => exact h.elim
theorem Ow.mutx (h : Ow K H P a d) : ∃ o, H a = some o ∧ Mut (some o) ∧ ∀ q, o ≠ .ext q := by
  cases d with
  | lst ds => obtain ⟨xs, hx, r⟩ := h; exact ⟨_, hx, trivial, fun _ z => by cases z⟩
  | dct t kvs =>
    rcases h with ⟨rfl, l, hx, r⟩ | ⟨rfl, l, hx, r⟩
    · exact ⟨_, hx, trivial, fun _ z => by cases z⟩
    · exact ⟨_, hx, trivial, fun _ z => by cases z⟩
  | _ => exact h.elim
theorem Ow.mut (h : Ow K H P a d) : ∃ o, H a = some o ∧ Mut (some o) := by
  obtain ⟨o, e, m, _⟩ := h.mutx
  exact ⟨o, e, m⟩
theorem Rb.mono (h : Rb K H P W w d) (o : Ho P H H') (pp : ∀ a u, P a → Rd H a u → P' a) (ha : ∀ a u, W a → Rd H a u → W' a ∧ Rd H' a u) (hl : ∀ a xs, W a → H a = some (.lst xs) → H' a = some (.lst xs)) : Rb K H' P' W' w d := by
  cases d with
  | lst ds => obtain ⟨a, xs, e, hw, hx, r⟩ := h; exact ⟨a, xs, e, (ha _ _ hw (.inl hx)).1, hl _ _ hw hx, r.mono o pp⟩
  | dct t kvs =>
    obtain ⟨a, e, hw, h⟩ := h
    rcases h with ⟨rfl, l, hx, r⟩ | ⟨rfl, l, hx, r⟩
    · exact ⟨a, e, (ha _ _ hw hx).1, .inl ⟨rfl, l, (ha _ _ hw hx).2, r.mono o pp⟩⟩
    · exact ⟨a, e, (ha _ _ hw hx).1, .inr ⟨rfl, l, (ha _ _ hw hx).2, r.mono o pp⟩⟩
  | non => exact Rp.mono o pp h
  | bl b => exact Rp.mono o pp h
  | int i => exact Rp.mono o pp h
  | str x => exact Rp.mono o pp h
  | tup ds => exact Rp.mono o pp h
  | raw v => exact Rp.mono o pp h
theorem Ow.rb (h : Ow K H P a d) (hw : W a) : Rb K H P W (.ref a) d := by
  cases d with
  | lst ds => obtain ⟨xs, hx, r⟩ := h; exact ⟨a, xs, rfl, hw, hx, r⟩
  | dct t kvs =>
    rcases h with ⟨rfl, l, hx, r⟩ | ⟨rfl, l, hx, r⟩
    · exact ⟨a, rfl, hw, .inl ⟨rfl, l, .inl hx, r⟩⟩
    · exact ⟨a, rfl, hw, .inr ⟨rfl, l, .inl hx, r⟩⟩
  | _ => exact h.elim
theorem Rf.mono (h : Rf K H0 H P w d) (o : Ho P H H') (pp : ∀ a u, P a → Rd H a u → P' a) (h0 : ∀ a, H0 a = none → H0' a = none) (ha : ∀ a u, H0 a = none → H a = some u → H' a = some u) : Rf K H0' H' P' w d := by
  cases d with
  | lst ds => obtain ⟨a, e, hn, ho⟩ := h; exact ⟨a, e, h0 a hn, Ow.mono ho ⟨fun b u p r => o.ex b u p.1 r, o.tp⟩ (fun b u p r => ⟨pp b u p.1 r, p.2⟩) fun u => ha a u hn⟩
  | dct t kvs => obtain ⟨a, e, hn, ho⟩ := h; exact ⟨a, e, h0 a hn, Ow.mono ho ⟨fun b u p r => o.ex b u p.1 r, o.tp⟩ (fun b u p r => ⟨pp b u p.1 r, p.2⟩) fun u => ha a u hn⟩
  | non => exact Rp.mono o pp h
  | bl b => exact Rp.mono o pp h
  | int i => exact Rp.mono o pp h
  | str x => exact Rp.mono o pp h
  | tup ds => exact Rp.mono o pp h
  | raw v => exact Rp.mono o pp h
end

/-! ### the state -/
/-- the constants (tuples of the module) that data may be -/
def KLe (K K' : PySem.W.Frag) : Prop := ∀ a o, K.lookup a = some o → K'.lookup a = some o
theorem TpX.kle {K K' : PySem.W.Frag} {H : Hp} {a : Addr} {xs : List V} (k : KLe K K') (h : TpX K H a xs) : SqT K' H a xs := h.imp .inl fun ⟨o, its, n, hk, r⟩ => ⟨o, its, n, k a o hk, r⟩
/-- no tuple -/
def Mb (o : HO) : Prop := ∀ xs, o ≠ .tup xs
theorem mut_mb {o : HO} (m : Mut (some o)) : Mb o := fun xs e => by subst e; exact m
/-- what the def around gives: Z: the places of the law's random hand, G: that it is in order -/
structure Gh where
  Z : Addr → Prop
  G : Hp → Prop
  gk : ∀ H H' : Hp, G H → (∀ a, Z a → H' a = H a) → (∀ a q, H a = some (.ext q) → H' a = some (.ext q)) → G H'
  gz : ∀ (H : Hp) (a : Addr), G H → Z a → ∃ o, H a = some o ∧ Mb o ∧ ∀ q, o ≠ .ext q
/-- an activation: the heap at its entry, the places that are safe -/
structure Am where
  gh : Gh
  K : PySem.W.Frag
  H0 : Hp
  P0 : Addr → Prop
  g0 : gh.G H0
  zp : ∀ a, gh.Z a → ¬ P0 a
  p0 : ∀ a, ¬ P0 a → ¬ gh.Z a → ∃ o, H0 a = some o ∧ Mb o
/-- a local name: not assigned (or not told), a value, an object of its own -/
inductive Sl where
  | un | v (d : D) | own (d : D)
abbrev Ga := List Sl
/-- lk: the dicts that are locked while they are walked; hd: the lists that comprehensions are making -/
structure Cn where
  lk : List (Addr × Obj)
  hd : List Addr
  e : lk = []
def At (cn : Cn) (H : Hp) (a : Addr) (o : HO) : Prop := H a = some o ∨ ∃ ob, (a, ob) ∈ cn.lk ∧ H a = some (.frz ob o)
theorem At.eq {cn : Cn} {H : Hp} {a : Addr} {o : HO} (h : At cn H a o) : H a = some o := by
  rcases h with h | ⟨ob, h, _⟩
  · exact h
  · rw [cn.e] at h; cases h
/-- all that was tracked stands, but the hand -/
def Kx (Z : Addr → Prop) (H H' : Hp) : Prop := ∀ a o, ¬ Z a → H a = some o → H' a = some o
theorem Kx.refl {Z : Addr → Prop} {H : Hp} : Kx Z H H := fun _ _ _ h => h
theorem Kx.trans {Z : Addr → Prop} {H H1 H2 : Hp} (x : Kx Z H H1) (y : Kx Z H1 H2) : Kx Z H H2 := fun a o z h => y a o z (x a o z h)
theorem Kx.upd {Z : Addr → Prop} {H : Hp} {p : Addr} {o : HO} (h : H p = none) : Kx Z H (upd H p o) := fun a u _ e => by
  rw [upd_ne (ne_of_none e h)]; exact e
/-- the places that are safe now -/
def Fz (A : Am) (cn : Cn) (f : Nat → Addr) (Γ : Ga) (a : Addr) : Prop := A.P0 a ∧ a ∉ cn.hd ∧ ∀ (i : Nat) (d : D), Γ[i]? = some (.own d) → f i ≠ a
structure Rl (K : PySem.W.Frag) (A : Am) (cn : Cn) (f : Nat → Addr) (σ : L2.St) (H : Hp) (Γ : Ga) : Prop where
  len : σ.length = Γ.length
  g : A.gh.G H
  keep : ∀ a o, ¬ A.gh.Z a → A.H0 a = some o → At cn H a o
  lkf : ∀ a ob, (a, ob) ∈ cn.lk → Fz A cn f Γ a ∧ ∃ u, H a = some (.frz ob u)
  hdm : ∀ a, a ∈ cn.hd → ¬ A.gh.Z a ∧ ∃ o, H a = some o ∧ Mb o
  sl : ∀ (i : Nat) (d : D), Γ[i]? = some (.v d) → ∃ w, σ[i]? = some (some w) ∧ Rp K H (Fz A cn f Γ) w d
  ow : ∀ (i : Nat) (d : D), Γ[i]? = some (.own d) → σ[i]? = some (some (.ref (f i))) ∧ A.H0 (f i) = none ∧ f i ∉ cn.hd ∧ Ow K H (Fz A cn f Γ) (f i) d
  inj : ∀ (i j : Nat) (d e : D), Γ[i]? = some (.own d) → Γ[j]? = some (.own e) → f i = f j → i = j
section
variable {K : PySem.W.Frag} {A : Am} {cn : Cn} {f : Nat → Addr} {σ : L2.St} {H H' : Hp} {Γ : Ga} {a : Addr}
theorem Rl.mut (R : Rl K A cn f σ H Γ) (h : ¬ Fz A cn f Γ a) : ∃ o, H a = some o ∧ Mb o := by
  by_cases hp : A.P0 a
  · by_cases hh : a ∈ cn.hd
    · exact (R.hdm a hh).2
    · by_cases ho : ∀ (i : Nat) (d : D), Γ[i]? = some (.own d) → f i ≠ a
      · exact absurd ⟨hp, hh, ho⟩ h
      · obtain ⟨i, hi⟩ := Classical.not_forall.mp ho
        obtain ⟨d, hi⟩ := Classical.not_forall.mp hi
        have h1 := Classical.not_imp.mp hi
        have h2 : f i = a := Classical.not_not.mp h1.2
        obtain ⟨_, _, _, o⟩ := R.ow i d h1.1
        rw [h2] at o
        obtain ⟨u, hu, mu⟩ := o.mut
        exact ⟨u, hu, mut_mb mu⟩
  · by_cases hz : A.gh.Z a
    · obtain ⟨o, e, m, _⟩ := A.gh.gz H a R.g hz
      exact ⟨o, e, m⟩
    · obtain ⟨o, e, m⟩ := A.p0 a hp hz
      rcases R.keep a o hz e with q | ⟨ob, hl, q⟩
      · exact ⟨o, q, m⟩
      · exact absurd (R.lkf a ob hl).1 h
theorem Rl.fresh (R : Rl K A cn f σ H Γ) (h : H a = none) : Fz A cn f Γ a := Classical.byContradiction fun n => by
  obtain ⟨o, e, _⟩ := R.mut n
  rw [h] at e; cases e
theorem mut_not_frz {H : Hp} {o : HO} {xs : List V} (e : H a = some o) (m : Mut (some o)) (r : H a = some (.tup xs)) : False := by
  rw [e] at r; cases r; exact m
theorem Rl.tup (R : Rl K A cn f σ H Γ) {xs : List V} (h : H a = some (.tup xs)) : Fz A cn f Γ a := Classical.byContradiction fun n => by
  obtain ⟨o, e, m⟩ := R.mut n
  rw [e] at h
  exact m _ (Option.some.inj h)
theorem Fz.nz (h : Fz A cn f Γ a) : ¬ A.gh.Z a := fun z => A.zp a z h.1
theorem Kx.rd {Z : Addr → Prop} {u : HO} (k : Kx Z H H') (hz : ¬ Z a) (h : Rd H a u) : Rd H' a u := by
  rcases h with h | ⟨ob, h⟩
  · exact .inl (k _ _ hz h)
  · exact .inr ⟨ob, k _ _ hz h⟩
theorem Rl.ho (R : Rl K A cn f σ H Γ) (k : Kx A.gh.Z H H') : Ho (Fz A cn f Γ) H H' :=
  ⟨fun a u p h => k _ _ p.nz h, fun a xs h => k _ _ (R.tup h).nz h⟩
theorem Am.nz0 (A : Am) (h : A.H0 a = none) : ¬ A.gh.Z a := fun z => by
  obtain ⟨_, e, _⟩ := A.gh.gz A.H0 _ A.g0 z
  rw [h] at e; cases e
theorem Rl.own_nz (R : Rl K A cn f σ H Γ) {i : Nat} {d : D} (h : Γ[i]? = some (.own d)) : ¬ A.gh.Z (f i) ∧ A.P0 (f i) := by
  obtain ⟨_, h0, _⟩ := R.ow i d h
  have hz := A.nz0 h0
  exact ⟨hz, Classical.byContradiction fun n => by
    obtain ⟨o, e, _⟩ := A.p0 _ n hz
    rw [h0] at e; cases e⟩
theorem Rl.kx (R : Rl K A cn f σ H Γ) (k : Kx A.gh.Z H H') (g : A.gh.G H') : Rl K A cn f σ H' Γ where
  len := R.len
  g := g
  keep := fun a o z e => by
    rcases R.keep a o z e with q | ⟨ob, hl, q⟩
    · exact .inl (k _ _ z q)
    · exact .inr ⟨ob, hl, k _ _ z q⟩
  lkf := fun a ob h => let ⟨p, u, e⟩ := R.lkf a ob h; ⟨p, u, k _ _ p.nz e⟩
  hdm := fun a h => let ⟨z, o, e, m⟩ := R.hdm a h; ⟨z, o, k _ _ z e, m⟩
  sl := fun i d e => by
    obtain ⟨w, h1, h2⟩ := R.sl i d e
    exact ⟨w, h1, h2.mono (R.ho k) fun _ _ p _ => p⟩
  ow := fun i d e => by
    obtain ⟨h1, h2, h4, h3⟩ := R.ow i d e
    exact ⟨h1, h2, h4, h3.mono (R.ho k) (fun _ _ p _ => p) fun u => k _ _ (R.own_nz e).1⟩
  inj := R.inj
end
end Px

set_option Elab.async false
set_option linter.all false
set_option maxRecDepth 100000
set_option autoImplicit false
namespace Px
open PySem PySem.Spec PyProof.Rows L2

/-! ### the judgements -/
abbrev EN := Exn → Hp → Prop
def never : EN := fun _ _ => False
/-- what is wanted of an exception -/
def xP (A : Am) (E : EN) (cn : Cn) : Exn → Prop := fun x => cn.lk = [] ∧ ∀ H', Kx A.gh.Z A.H0 H' → A.gh.G H' → E x H'
abbrev nZ (A : Am) : Addr → Prop := fun a => ¬ A.gh.Z a
def tV (K : PySem.W.Frag) (A : Am) (E : EN) (md : Md) (m : Ga → M D) : TE := fun σ H Q => ∃ cn f Γ, Rl K A cn f σ H Γ ∧
  (m Γ).wp (fun d => ∀ w H', Kx A.gh.Z H H' → A.gh.G H' → Rq md K H H' (Fz A cn f Γ) (nZ A) w d → Q w H') (xP A E cn)
def tT (K : PySem.W.Frag) (A : Am) (E : EN) (m : Ga → M Bool) : TT := fun σ H Q => ∃ cn f Γ, Rl K A cn f σ H Γ ∧
  (m Γ).wp (fun d => ∀ H', Kx A.gh.Z H H' → A.gh.G H' → Q d H') (xP A E cn)
/-- arguments, each of the mode md (b or s) -/
inductive RqL (md : Md) (K : PySem.W.Frag) (H : Hp) (P W : Addr → Prop) : List V → List D → Prop
  | nil : RqL md K H P W [] []
  | cons {v : V} {vs : List V} {d : D} {ds : List D} : (match md with | .b => Rb K H P W v d | _ => Rp K H P v d) → RqL md K H P W vs ds → RqL md K H P W (v :: vs) (d :: ds)
def tA (K : PySem.W.Frag) (A : Am) (E : EN) (md : Md) (m : Ga → M (List D)) : TA := fun σ H Q => ∃ cn f Γ, Rl K A cn f σ H Γ ∧
  (m Γ).wp (fun ds => ∀ ws H', Kx A.gh.Z H H' → A.gh.G H' → RqL md K H' (Fz A cn f Γ) (nZ A) ws ds → Q ws H') (xP A E cn)
structure PEV (X : Cx) (A : Am) (E : EN) (md : Md) (e : Expr) (m : Ga → M D) : Prop where
  pe : PE X e (tV A.K A E md m)
structure PTV (X : Cx) (A : Am) (E : EN) (e : Expr) (m : Ga → M Bool) : Prop where
  pt : PT X e (tT A.K A E m)
structure PAV (X : Cx) (A : Am) (E : EN) (md : Md) (es : List Expr) (m : Ga → M (List D)) : Prop where
  pa : PA X es (tA A.K A E md m)
theorem imp_pe {X : Cx} {e : Expr} {t t' : TE} (h : PE X e t) (i : ∀ σ H Q, t' σ H Q → t σ H Q) : PE X e t' := ⟨fun pins s σ H Q I q => h.run pins s σ H Q I (i σ H Q q)⟩
theorem imp_pt {X : Cx} {e : Expr} {t t' : TT} (h : PT X e t) (i : ∀ σ H Q, t' σ H Q → t σ H Q) : PT X e t' := ⟨fun pins s σ H Q I q => h.run pins s σ H Q I (i σ H Q q)⟩
theorem imp_pw {X : Cx} {e : Expr} {t t' : TT} (h : PW X e t) (i : ∀ σ H Q, t' σ H Q → t σ H Q) : PW X e t' := ⟨fun wh pins s σ H Q I q => h.run wh pins s σ H Q I (i σ H Q q)⟩
theorem imp_pa {X : Cx} {es : List Expr} {t t' : TA} (h : PA X es t) (i : ∀ σ H Q, t' σ H Q → t σ H Q) : PA X es t' := ⟨fun pos pins s σ H Q I q => h.run pos pins s σ H Q I (i σ H Q q)⟩

/-! ### lemmas about the state -/
section
variable {K : PySem.W.Frag} {A : Am} {E : EN} {cn : Cn} {f : Nat → Addr} {σ : L2.St} {H H' H1 : Hp} {Γ : Ga} {a : Addr} {w : V} {d : D} {md : Md}
theorem Rl.rb (R : Rl K A cn f σ H Γ) (h : Rq md K H H' (Fz A cn f Γ) (nZ A) w d) : Rb K H' (Fz A cn f Γ) (nZ A) w d := Rq.rb h (fun _ => R.fresh) fun _ p => p.nz
theorem Rl.h0_none (R : Rl K A cn f σ H Γ) {a : Addr} (h : H a = none) : A.H0 a = none := by
  cases e : A.H0 a with
  | none => rfl
  | some o =>
    by_cases z : A.gh.Z a
    · obtain ⟨_, q, _⟩ := A.gh.gz H a R.g z
      rw [h] at q; cases q
    · rcases R.keep a o z e with q | ⟨ob, _, q⟩
      · rw [h] at q; cases q
      · rw [h] at q; cases q
/-- what was to be read is to be read still -/
theorem Rl.rbk (R : Rl K A cn f σ H Γ) (k : Kx A.gh.Z H H') (h : Rb K H (Fz A cn f Γ) (nZ A) w d) : Rb K H' (Fz A cn f Γ) (nZ A) w d :=
  Rb.mono h (R.ho k) (fun _ _ p _ => p) (fun _ _ z r => ⟨z, k.rd z r⟩) fun _ _ z r => k _ _ z r
theorem Rl.rpk (R : Rl K A cn f σ H Γ) (k : Kx A.gh.Z H H') (h : Rp K H (Fz A cn f Γ) w d) : Rp K H' (Fz A cn f Γ) w d := h.mono (R.ho k) fun _ _ p _ => p
theorem same_kx {Z : Addr → Prop} (h : Same H H') : Kx Z H H' := fun a o _ e => h a o e
theorem Gh.same (gh : Gh) (g : gh.G H) (h : Same H H') : gh.G H' := gh.gk H H' g (fun a z => by
  obtain ⟨o, e, _⟩ := gh.gz H a g z
  rw [e]
  exact h _ _ e) fun a q e => h _ _ e
/-- one thing, no .ext, is changed -/
theorem ext_upd {p : Addr} {o u : HO} (hp : H p = some u) (n : ∀ q, u ≠ .ext q) : ∀ a q, H a = some (.ext q) → upd H p o a = some (.ext q) := fun a q e => by
  rw [upd_ne fun z => by rw [z, hp] at e; exact n q (Option.some.inj e)]
  exact e
theorem same_ho {P : Addr → Prop} (h : Same H H') : Ho P H H' := ⟨fun a u _ r => h _ _ r, fun a xs r => h _ _ r⟩
theorem same_new {p : Addr} {o : HO} (h : H p = none) : Same H (upd H p o) := fun b x e => by
  rw [upd_ne (ne_of_none e h)]
  exact e
theorem Kx.none {Z : Addr → Prop} (k : Kx Z H H') (hz : ¬ Z a) (h : H' a = none) : H a = none := by
  cases q : H a with
  | none => rfl
  | some o => rw [k a o hz q] at h; cases h
theorem Rl.kx_none (R : Rl K A cn f σ H Γ) (k : Kx A.gh.Z H H') (g : A.gh.G H') (h : H' a = none) : H a = none := by
  refine k.none (fun z => ?_) h
  obtain ⟨_, e, _⟩ := A.gh.gz H' a g z
  rw [h] at e; cases e
theorem Rf.later (R : Rl K A cn f σ H Γ) (k : Kx A.gh.Z H H1) (g : A.gh.G H1) (h : Rf K H1 H' (Fz A cn f Γ) w d) : Rf K H H' (Fz A cn f Γ) w d :=
  Rf.mono h .refl (fun _ _ p _ => p) (fun _ => R.kx_none k g) fun _ _ _ e => e
theorem Rq.later (R : Rl K A cn f σ H Γ) (k : Kx A.gh.Z H H1) (g : A.gh.G H1) (h : Rq md K H1 H' (Fz A cn f Γ) (nZ A) w d) : Rq md K H H' (Fz A cn f Γ) (nZ A) w d := by
  cases md with
  | b => exact h
  | s => exact h
  | f => exact Rf.later R k g h
end

/-! ### the core rules -/
def D.root : D → Bool
  | .lst _ => true
  | .dct _ _ => true
  | _ => false
/-- what was to be read alone is taken as it stands: no list, no dict -/
def keepB (d : D) : M D := if d.root = true then .stuck else .ret d
def getS (i : Nat) (Γ : Ga) : M D := match Γ[i]? with
  | some (.v d) => .ret d
  | _ => .stuck
def getB (i : Nat) (Γ : Ga) : M D := match Γ[i]? with
  | some (.v d) => .ret d
  | some (.own d) => .ret d
  | _ => .stuck
def toB : D → M Bool
  | .bl b => .ret b
  | _ => .stuck
section
variable {X : Cx} {A : Am} {E : EN} {md md1 md2 : Md} {e a b c : Expr} {es rest : List Expr} {m ma mb mc : Ga → M D} {mT mU : Ga → M Bool} {ml : Ga → M (List D)} {pos p : Pos} {x : Str}
/-- .. or behind the locking of one thing, for good -/
def ghQ (Q : VK) : VK := fun w H => Q w H ∨ ∃ a u, H a = some u ∧ Mut (some u) ∧ ∀ od, Q w (upd H a (.frz od u))
theorem pe_ghost {t : TE} (h : PE X e t) : PE X e (fun σ H Q => t σ H (ghQ Q)) := by
  refine ⟨fun pins s σ H Q I q => ?_⟩
  refine thn (h.run pins s σ H _ I q) fun v s1 ⟨x, H1, I1, r, q⟩ => ?_
  rcases q with q | ⟨a, u, e, mu, q⟩
  · exact ⟨x, H1, I1, r, q⟩
  · obtain ⟨od, I2⟩ := I1.lock e mu
    exact ⟨x, _, I2, r, q od⟩
theorem pev_fs (h : PEV X A E .f e m) : PEV X A E .s e m := by
  refine ⟨imp_pe (pe_ghost h.pe) fun σ H Q ⟨cn, f, Γ, R, h⟩ => ⟨cn, f, Γ, R, M.wp_mono h (fun d q w H' k g r => ?_) fun _ x => x⟩⟩
  cases d with
  | dct t kvs =>
    obtain ⟨a, rfl, hn, ho⟩ := r
    have lock : ∀ (u : HO), H' a = some u → Mut (some u) → ∀ od, Kx A.gh.Z H (upd H' a (.frz od u)) ∧ A.gh.G (upd H' a (.frz od u)) ∧ Ho (fun b => Fz A cn f Γ b ∧ b ≠ a) H' (upd H' a (.frz od u)) := fun u hu mu od => by
      refine ⟨fun b o z e => ?_, A.gh.gk H' _ g (fun b z => upd_ne fun y => A.nz0 (R.h0_none hn) (y ▸ z)) (let ⟨_, hu', _, n'⟩ := ho.mutx; ext_upd hu' n'), fun b o p e => ?_, fun b xs e => ?_⟩
      · rw [upd_ne fun y => by rw [y, hn] at e; cases e]; exact k b o z e
      · rw [upd_ne p.2]; exact e
      · rw [upd_ne fun y => by rw [y] at e; exact mut_not_frz hu mu e]; exact e
    rcases ho with ⟨rfl, l, hx, rl⟩ | ⟨rfl, l, hx, rl⟩
    · refine .inr ⟨a, _, hx, trivial, fun od => ?_⟩
      obtain ⟨k1, g1, o1⟩ := lock _ hx trivial od
      exact q _ _ k1 g1 (.dK (R.fresh hn) upd_same (rl.mono o1 fun _ _ p _ => p.1))
    · refine .inr ⟨a, _, hx, trivial, fun od => ?_⟩
      obtain ⟨k1, g1, o1⟩ := lock _ hx trivial od
      exact q _ _ k1 g1 (.dT (R.fresh hn) upd_same (rl.mono o1 fun _ _ p _ => p.1))
  | lst ds => obtain ⟨a, rfl, hn, xs, hx, rl⟩ := r; exact .inl (q _ H' k g (.lst (R.fresh hn) hx (rl.mono .refl fun _ _ p _ => p.1)))
  | non => exact .inl (q w H' k g r)
  | bl b => exact .inl (q w H' k g r)
  | int i => exact .inl (q w H' k g r)
  | str x => exact .inl (q w H' k g r)
  | tup ds => exact .inl (q w H' k g r)
  | raw v => exact .inl (q w H' k g r)
theorem pev_sb (h : PEV X A E .s e m) : PEV X A E .b e m := ⟨imp_pe h.pe fun σ H Q ⟨cn, f, Γ, R, h⟩ => ⟨cn, f, Γ, R, M.wp_mono h (fun d q w H' k g r => q w H' k g (Rp.rb r fun _ p => p.nz)) fun _ x => x⟩⟩
theorem pev_fb (h : PEV X A E .f e m) : PEV X A E .b e m := pev_sb (pev_fs h)
theorem pev_bs (h : PEV X A E .b e m) : PEV X A E .s e (fun Γ => m Γ >>= keepB) := by
  refine ⟨imp_pe h.pe fun σ H Q ⟨cn, f, Γ, R, h⟩ => ⟨cn, f, Γ, R, M.wp_mono (M.wp_bind.mp h) (fun d q w H' k g r => ?_) fun _ x => x⟩⟩
  cases d with
  | lst ds => exact q.elim
  | dct t kvs => exact q.elim
  | non => exact q w H' k g r
  | bl b => exact q w H' k g r
  | int i => exact q w H' k g r
  | str x => exact q w H' k g r
  | tup ds => exact q w H' k g r
  | raw v => exact q w H' k g r
theorem pev_var {i : Nat} (hN : X.N[i]? = some x) (hv : Vis X.env.scope x) (hd : (x == ("__debug__" : Str)) = false := by decide) (hcd : (x == ("__classdict__" : Str)) = false := by decide) : PEV X A E .s (.Name x pos) (getS i) := by
  refine ⟨imp_pe (pe_var hN hv hd hcd) fun σ H Q ⟨cn, f, Γ, R, h⟩ => ?_⟩
  unfold getS at h
  split at h
  · rename_i d e
    obtain ⟨w, h1, h2⟩ := R.sl i d e
    exact ⟨w, h1, h w H .refl R.g h2⟩
  · exact h.elim
theorem pev_varB {i : Nat} (hN : X.N[i]? = some x) (hv : Vis X.env.scope x) (hd : (x == ("__debug__" : Str)) = false := by decide) (hcd : (x == ("__classdict__" : Str)) = false := by decide) : PEV X A E .b (.Name x pos) (getB i) := by
  refine ⟨imp_pe (pe_var hN hv hd hcd) fun σ H Q ⟨cn, f, Γ, R, h⟩ => ?_⟩
  unfold getB at h
  split at h
  · rename_i d e
    obtain ⟨w, h1, h2⟩ := R.sl i d e
    exact ⟨w, h1, h w H .refl R.g (h2.rb fun _ p => p.nz)⟩
  · rename_i d e
    obtain ⟨h1, _, _, h2⟩ := R.ow i d e
    exact ⟨_, h1, h _ H .refl R.g (h2.rb (R.own_nz e).1)⟩
  · exact h.elim
/-- what stands in the text, a scalar or a part of the written module -/
theorem pev_c {v : V} {d : D} (hp : PE X e (tC v)) (h : ∀ H0 H P, Rf A.K H0 H P v d) : PEV X A E .f e (fun _ => .ret d) := by
  refine ⟨imp_pe hp fun σ H Q ⟨cn, f, Γ, R, q⟩ => ?_⟩
  exact q v H .refl R.g (h _ _ _)
theorem pev_int {i : Int} {j} : PEV X A E .f (.Constant (.int i) j pos) (fun _ => .ret (.int i)) := pev_c pe_int fun _ _ _ => .int i
theorem pev_bl {i : Bool} {j} : PEV X A E .f (.Constant (.bool i) j pos) (fun _ => .ret (.bl i)) := pev_c pe_bl fun _ _ _ => .bl i
theorem pev_non {j} : PEV X A E .f (.Constant .none j pos) (fun _ => .ret .non) := pev_c pe_non fun _ _ _ => .non
theorem pev_str {s : Str} {j} : PEV X A E .f (.Constant (.str s) j pos) (fun _ => .ret (.str s)) := pev_c pe_str fun _ _ _ => .str s
theorem pev_glob {v : V} {u : Value} {d : D} (hg : Gl X x) (hm : X.mg x = some u) (r : RelV v u) (h : ∀ H0 H P, Rf A.K H0 H P v d) (hd : (x == ("__debug__" : Str)) = false := by decide) : PEV X A E .f (.Name x pos) (fun _ => .ret d) := pev_c (pe_glob hg hm r hd) h

/-! two values to one -/
/-- the operation gives what g says; it makes new objects alone -/
def rD (K : PySem.W.Frag) (g : D → D → M D) : R2 := fun x y H Q => ∃ P W d u, Rb K H P W x d ∧ Rb K H P W y u ∧ (g d u).wp (fun r => ∀ w H', Same H H' → Rf K H H' P w r → Q w H') fun _ => False
def uD (K : PySem.W.Frag) (g : D → M D) : V → Hp → VK → Prop := fun x H Q => ∃ P W d, Rb K H P W x d ∧ (g d).wp (fun r => ∀ w H', Same H H' → Rf K H H' P w r → Q w H') fun _ => False
def bin (ma mb : Ga → M D) (g : D → D → M D) : Ga → M D := fun Γ => ma Γ >>= fun x => mb Γ >>= fun y => g x y
theorem wp_pure {m : M D} {Q : D → Prop} {E : Exn → Prop} (hn : ∀ x, m ≠ .exc x) (hs : ∀ n k, m ≠ .draw n k) (h : m.wp Q E) : m.wp Q fun _ => False := by
  cases m with
  | ret a => exact h
  | exc x => exact absurd rfl (hn x)
  | stuck => exact h
  | draw n k => exact absurd rfl (hs n k)
/-- neither raises nor draws -/
def Tame (m : M D) : Prop := match m with
  | .ret _ => True
  | .stuck => True
  | _ => False
theorem Tame.wp {m : M D} {Q : D → Prop} {E : Exn → Prop} (t : Tame m) (h : m.wp Q E) : m.wp Q fun _ => False := by
  cases m with
  | ret a => exact h
  | exc x => exact False.elim t
  | stuck => exact h
  | draw n k => exact False.elim t
theorem tD {K : PySem.W.Frag} {cn : Cn} {f : Nat → Addr} {σ : L2.St} {H H1 : Hp} {Γ : Ga} {Q : VK} {m : M D} {E : Exn → Prop} (R : Rl K A cn f σ H Γ) (k : Kx A.gh.Z H H1) (g1 : A.gh.G H1) (t : Tame m)
    (h : m.wp (fun d => ∀ w H', Kx A.gh.Z H H' → A.gh.G H' → Rq .f K H H' (Fz A cn f Γ) (nZ A) w d → Q w H') E) :
    m.wp (fun r => ∀ w H', Same H1 H' → Rf K H1 H' (Fz A cn f Γ) w r → Q w H') fun _ => False :=
  M.wp_mono (t.wp h) (fun d q w H' s r => q w H' (k.trans (same_kx s)) (A.gh.same g1 s) (Rf.later R k g1 r)) fun _ z => z
theorem tOp_of {r : R2} {g : D → D → M D} (tm : ∀ x y, Tame (g x y)) (hr : ∀ x y H Q, rD A.K g x y H Q → r x y H Q) {σ : L2.St} {H : Hp} {Q : VK} (h : tV A.K A E .f (bin ma mb g) σ H Q) : tOp r (tV A.K A E md1 ma) (tV A.K A E md2 mb) σ H Q := by
  obtain ⟨cn, f, Γ, R, h⟩ := h
  refine ⟨cn, f, Γ, R, M.wp_mono (M.wp_bind.mp h) (fun d q w H1 k1 g1 r1 => ?_) fun _ x => x⟩
  refine ⟨cn, f, Γ, R.kx k1 g1, M.wp_mono (M.wp_bind.mp q) (fun u q w' H2 k2 g2 r2 => ?_) fun _ x => x⟩
  refine hr _ _ _ _ ⟨Fz A cn f Γ, nZ A, d, u, (R.kx k1 g1).rbk k2 (R.rb r1), (R.kx k1 g1).rb r2, ?_⟩
  exact tD R (k1.trans k2) g2 (tm d u) q
theorem pev_op {op : Operator} {g : D → D → M D} (ho : OpR X (binaryOp op) (rD A.K g)) (tm : ∀ x y, Tame (g x y)) (ha : PEV X A E md1 a ma) (hb : PEV X A E md2 b mb) : PEV X A E .f (.BinOp a op b pos) (bin ma mb g) :=
  ⟨imp_pe (pe_op ho ha.pe hb.pe) fun _ _ _ h => tOp_of tm (fun _ _ _ _ z => z) h⟩
theorem pev_cmp {op : CmpOp} {g : D → D → M D} (ho : OpR X (compareOp op) (rD A.K g)) (tm : ∀ x y, Tame (g x y)) (ha : PEV X A E md1 a ma) (hb : PEV X A E md2 b mb) (hm : behindInMarks op b = false) : PEV X A E .f (.Compare a [op] [b] pos) (bin ma mb g) :=
  ⟨imp_pe (pe_cmpR ho ha.pe hb.pe hm) fun _ _ _ h => tOp_of tm (fun _ _ _ _ z => z) h⟩
def una (ma : Ga → M D) (g : D → M D) : Ga → M D := fun Γ => ma Γ >>= g
theorem tUn_of {r : V → Hp → VK → Prop} {g : D → M D} (tm : ∀ x, Tame (g x)) (hr : ∀ x H Q, uD A.K g x H Q → r x H Q) {σ : L2.St} {H : Hp} {Q : VK} (h : tV A.K A E .f (una ma g) σ H Q) : tUn r (tV A.K A E md1 ma) σ H Q := by
  obtain ⟨cn, f, Γ, R, h⟩ := h
  refine ⟨cn, f, Γ, R, M.wp_mono (M.wp_bind.mp h) (fun d q w H1 k1 g1 r1 => ?_) fun _ x => x⟩
  exact hr _ _ _ ⟨Fz A cn f Γ, nZ A, d, R.rb r1, tD R k1 g1 (tm d) q⟩
theorem pev_un {op : UnaryOp} {g : D → M D} (ho : UnR X (unaryOp op) (uD A.K g)) (tm : ∀ x, Tame (g x)) (ha : PEV X A E md1 a ma) : PEV X A E .f (.UnaryOp op a pos) (una ma g) :=
  ⟨imp_pe (pe_un ho ha.pe) fun _ _ _ h => tUn_of tm (fun _ _ _ z => z) h⟩

/-! tests -/
def tst (ma : Ga → M D) : Ga → M Bool := fun Γ => ma Γ >>= toB
theorem rb_bl {K : PySem.W.Frag} {H : Hp} {P W : Addr → Prop} {w : V} {b : Bool} (h : Rb K H P W w (.bl b)) : w = .bl b := by
  cases h; rfl
theorem tB_of {σ : L2.St} {H : Hp} {Q : Bool → Hp → Prop} (h : tT A.K A E (tst ma) σ H Q) : tB (tV A.K A E md1 ma) σ H Q := by
  obtain ⟨cn, f, Γ, R, h⟩ := h
  refine ⟨cn, f, Γ, R, M.wp_mono (M.wp_bind.mp h) (fun d q w H1 k1 g1 r1 => ?_) fun _ x => x⟩
  cases d with
  | bl b => exact ⟨b, rb_bl (R.rb r1), q H1 k1 g1⟩
  | _ => exact q.elim
theorem ptv_val (ha : PEV X A E md1 a ma) (he : ∀ whole, isTrue a X.env whole = (do let v ← whole; standAt a.pos; holding [v] (truthy v)) := by intro _; rfl) : PTV X A E a (tst ma) :=
  ⟨imp_pt (pt_val ha.pe he) fun _ _ _ h => tB_of h⟩
theorem ptv_cmp {op : CmpOp} {g : D → D → M D} (ho : OpR X (compareOp op) (rD A.K g)) (tm : ∀ x y, Tame (g x y)) (ha : PEV X A E md1 a ma) (hb : PEV X A E md2 b mb) (hm : behindInMarks op b = false) : PTV X A E (.Compare a [op] [b] pos) (tst (bin ma mb g)) := by
  refine ⟨imp_pt (pt_cmpR ho ha.pe hb.pe hm) fun σ H Q h => ?_⟩
  obtain ⟨cn, f, Γ, R, h⟩ := h
  have h2 := M.wp_bind.mp h
  refine tOp_of (E := E) tm (fun _ _ _ _ z => z) ⟨cn, f, Γ, R, M.wp_mono h2 (fun d q w H1 k1 g1 r1 => ?_) fun _ x => x⟩
  cases d with
  | bl b => exact ⟨b, rb_bl (R.rb r1), q H1 k1 g1⟩
  | _ => exact q.elim
end

/-! ### the promise of a def, where no text is being made ahead of it (repr of what is nested asks that) -/
structure FnG (P : Program) (w : World) (K : PySem.W.Frag) (mg : Str → Option Value) (base : Heap) (CX : CXT) (k : Nat) (f : Addr) (fd : FuncData) (ps : List Str) (sp : Sp) : Prop where
  len : ∀ vs H Q E, sp vs H Q E → vs.length = ps.length
  run : ∀ (A : Around) (outer : List Env) (s : Shared) (H : Hp) (args : Args) (us : List Value) (vs : List V) (Q : VK) (E : XK), Room k A → A.guards = some [] → Env0 P w K mg base A outer s H → BindsTo s fd args (ps.zip us) → Vals vs us → sp vs H Q E →
    codeAny (model P w) A (.call (.ref f) args) (CR CX outer P w H s Q E) s
theorem FnG.of {P : Program} {w : World} {K : PySem.W.Frag} {mg : Str → Option Value} {base : Heap} {CX : CXT} {k : Nat} {f : Addr} {fd : FuncData} {ps : List Str} {sp : Sp} (F : FnOk P w K mg base CX k f fd ps sp) : FnG P w K mg base CX k f fd ps sp :=
  ⟨F.len, fun A outer s H args us vs Q E hr _ => F.run A outer s H args us vs Q E hr⟩
section
variable {X : Cx} {CX : CXT} {k : Nat} {f : Addr} {fd : FuncData} {ps : List Str} {sp : Sp} {E : XK} {x : Str} {p pos : Pos} {e : Expr} {es : List Expr} {t : TA} {dvs : List V} {ds : List Value}
theorem run_fnG {pins : List (Addr × Obj)} {σ : L2.St} {H : Hp} {s : Shared} {Q : VK} {us : List Value} {vs : List V} (F : FnG X.prog X.w X.K X.mg X.base CX k f fd ps sp) (hr : Room k X.A) (gd : X.A.guards = some []) (hb : Binds X.K fd ps ds) (hd : Vals dvs ds) (hx : Passes CX X E)
    (I : Inv X pins σ H s) (r : Vals vs us) (h : sp (vs ++ dvs) H Q E) : wpAny (model X.prog X.w) X.A (call (.ref f) us) (EP X pins σ Q) X.xe s := by
  have r2 : Vals (vs ++ dvs) (us ++ ds) := r.append hd
  have hl : (us ++ ds).length = ps.length := by rw [← r2.length]; exact F.len _ _ _ _ h
  refine wpAny_call (codeAny_mono (F.run X.A X.stack s H ⟨us, []⟩ (us ++ ds) (vs ++ dvs) Q E hr gd I.env0 (hb s us I.kIn hl) r2 h) fun r s' hq => ?_)
  cases r with
  | error e => exact hx pins σ H s e s' I hq
  | ok fl =>
    cases fl with
    | ret u => exact I.after hq
    | next => exact False.elim hq
    | brk => exact False.elim hq
    | cont => exact False.elim hq
theorem pe_callG (F : FnG X.prog X.w X.K X.mg X.base CX k f fd ps sp) (hr : Room k X.A) (gd : X.A.guards = some []) (hg : Gl X x) (hm : X.mg x = some (.ref f)) (hk : PySem.W.keepIn X.K (.ref f) = true) (hb : Binds X.K fd ps ds) (hd : Vals dvs ds) (hx : Passes CX X E)
    (ha : PA X (e :: es) t) (hdb : (x == ("__debug__" : Str)) = false := by decide) (he : starEach (e :: es) X.env = (false, eval e X.env) :: starEach es X.env := by rfl) (hpl : (backTo pos (starEach es X.env)).any (·.1) = false := by rfl) :
    PE X (.Call (.Name x p) (e :: es) [] pos) (tCall sp dvs E t) := by
  refine ⟨fun pins s σ H Q I h => ?_⟩
  refine wpAny_Call_Name_kw (ld_glob I hg hm ?_ hdb)
  refine PySem.W.callWith_K (h₀ := X.base) I.ok.mod.kin hk (thn (ha.run pos pins s σ H _ I h) fun us s1 ⟨vs, H1, I1, r, q⟩ => ⟨I1.kIn, ?_⟩) he hpl
  exact run_fnG F hr gd hb hd hx I1 r q
theorem pe_call0G (F : FnG X.prog X.w X.K X.mg X.base CX k f fd ps sp) (hr : Room k X.A) (gd : X.A.guards = some []) (hg : Gl X x) (hm : X.mg x = some (.ref f)) (hk : PySem.W.keepIn X.K (.ref f) = true) (hb : Binds X.K fd ps ds) (hd : Vals dvs ds) (hx : Passes CX X E)
    (hdb : (x == ("__debug__" : Str)) = false := by decide) : PE X (.Call (.Name x p) [] [] pos) (tCall sp dvs E tNil) := by
  refine ⟨fun pins s σ H Q I h => ?_⟩
  refine wpAny_Call_Name_kw (ld_glob I hg hm ?_ hdb)
  exact PySem.W.callWith_K0 I.kIn hk (run_fnG (us := []) F hr gd hb hd hx I .nil h)
end
end Px

set_option Elab.async false
set_option linter.all false
set_option maxRecDepth 100000
set_option autoImplicit false
namespace Px
open PySem PySem.Spec PyProof.Rows L2
section
variable {X : Cx} {A : Am} {E : EN} {md md1 md2 md3 : Md} {e a b c : Expr} {es rest : List Expr} {m ma mb mc : Ga → M D} {mT mU : Ga → M Bool} {ml : Ga → M (List D)} {pos p : Pos} {x : Str}

/-! ### and, or, not, if: tests -/
def andT (t u : Ga → M Bool) : Ga → M Bool := fun Γ => t Γ >>= fun k => if k = true then u Γ else .ret false
def orT (t u : Ga → M Bool) : Ga → M Bool := fun Γ => t Γ >>= fun k => if k = true then .ret true else u Γ
def notT (t : Ga → M Bool) : Ga → M Bool := fun Γ => t Γ >>= fun k => .ret (!k)
structure PWV (X : Cx) (A : Am) (E : EN) (e : Expr) (m : Ga → M Bool) : Prop where
  pw : PW X e (tT A.K A E m)
theorem PWV.pt (h : PWV X A E e mT) : PTV X A E e mT := ⟨h.pw.pt⟩
theorem pwv_and1 (h : PTV X A E a mT) : PWV X A E (.BoolOp .And [a] pos) mT := ⟨pw_and1 h.pt⟩
theorem pwv_or1 (h : PTV X A E a mT) : PWV X A E (.BoolOp .Or [a] pos) mT := ⟨pw_or1 h.pt⟩
theorem pwv_and (h : PTV X A E a mT) (h2 : PWV X A E (.BoolOp .And (b :: rest) pos) mU) : PWV X A E (.BoolOp .And (a :: b :: rest) pos) (andT mT mU) := by
  refine ⟨imp_pw (pw_and h.pt h2.pw) fun σ H Q ⟨cn, f, Γ, R, h⟩ => ⟨cn, f, Γ, R, M.wp_mono (M.wp_bind.mp h) (fun k q H1 k1 g1 => ?_) fun _ x => x⟩⟩
  cases k with
  | true => exact ⟨cn, f, Γ, R.kx k1 g1, M.wp_mono q (fun k2 q2 H2 kk g2 => q2 H2 (k1.trans kk) g2) fun _ x => x⟩
  | false => exact q H1 k1 g1
theorem pwv_or (h : PTV X A E a mT) (h2 : PWV X A E (.BoolOp .Or (b :: rest) pos) mU) : PWV X A E (.BoolOp .Or (a :: b :: rest) pos) (orT mT mU) := by
  refine ⟨imp_pw (pw_or h.pt h2.pw) fun σ H Q ⟨cn, f, Γ, R, h⟩ => ⟨cn, f, Γ, R, M.wp_mono (M.wp_bind.mp h) (fun k q H1 k1 g1 => ?_) fun _ x => x⟩⟩
  cases k with
  | true => exact q H1 k1 g1
  | false => exact ⟨cn, f, Γ, R.kx k1 g1, M.wp_mono q (fun k2 q2 H2 kk g2 => q2 H2 (k1.trans kk) g2) fun _ x => x⟩
theorem ptv_not (h : PTV X A E a mT) : PTV X A E (.UnaryOp .Not a pos) (notT mT) :=
  ⟨imp_pt (pt_not h.pt) fun σ H Q ⟨cn, f, Γ, R, h⟩ => ⟨cn, f, Γ, R, M.wp_mono (M.wp_bind.mp h) (fun k q H1 k1 g1 => q H1 k1 g1) fun _ x => x⟩⟩

/-! ### .. as values -/
def andV (ma mb : Ga → M D) : Ga → M D := fun Γ => ma Γ >>= toB >>= fun k => if k = true then mb Γ else .ret (.bl false)
def orV (ma mb : Ga → M D) : Ga → M D := fun Γ => ma Γ >>= toB >>= fun k => if k = true then .ret (.bl true) else mb Γ
def notV (ma : Ga → M D) : Ga → M D := fun Γ => ma Γ >>= toB >>= fun k => .ret (.bl (!k))
def ifV (t : Ga → M Bool) (ma mb : Ga → M D) : Ga → M D := fun Γ => t Γ >>= fun k => if k = true then ma Γ else mb Γ
theorem pev_one {op : BoolOp} (h : PEV X A E md a ma) : PEV X A E md (.BoolOp op [a] pos) ma := ⟨pe_one h.pe⟩
theorem pev_and (h : PEV X A E md1 a ma) (h2 : PEV X A E .f (.BoolOp .And (b :: rest) pos) mb) : PEV X A E .f (.BoolOp .And (a :: b :: rest) pos) (andV ma mb) := by
  refine ⟨imp_pe (pe_and h.pe h2.pe) fun σ H Q ⟨cn, f, Γ, R, h⟩ => ?_⟩
  have h := M.wp_bind.mp (M.wp_bind.mp h)
  refine ⟨cn, f, Γ, R, M.wp_mono h (fun d q w H1 k1 g1 r1 => ?_) fun _ x => x⟩
  cases d with
  | bl k =>
    refine ⟨k, rb_bl (R.rb r1), ?_⟩
    cases k with
    | true => exact ⟨cn, f, Γ, R.kx k1 g1, M.wp_mono q (fun d2 q2 w2 H2 kk g2 r2 => q2 w2 H2 (k1.trans kk) g2 (Rq.later R k1 g1 r2)) fun _ x => x⟩
    | false => exact q (.bl false) H1 k1 g1 (.bl false)
  | _ => exact q.elim
theorem pev_or (h : PEV X A E md1 a ma) (h2 : PEV X A E .f (.BoolOp .Or (b :: rest) pos) mb) : PEV X A E .f (.BoolOp .Or (a :: b :: rest) pos) (orV ma mb) := by
  refine ⟨imp_pe (pe_or h.pe h2.pe) fun σ H Q ⟨cn, f, Γ, R, h⟩ => ?_⟩
  have h := M.wp_bind.mp (M.wp_bind.mp h)
  refine ⟨cn, f, Γ, R, M.wp_mono h (fun d q w H1 k1 g1 r1 => ?_) fun _ x => x⟩
  cases d with
  | bl k =>
    refine ⟨k, rb_bl (R.rb r1), ?_⟩
    cases k with
    | true => exact q (.bl true) H1 k1 g1 (.bl true)
    | false => exact ⟨cn, f, Γ, R.kx k1 g1, M.wp_mono q (fun d2 q2 w2 H2 kk g2 r2 => q2 w2 H2 (k1.trans kk) g2 (Rq.later R k1 g1 r2)) fun _ x => x⟩
  | _ => exact q.elim
theorem pev_not (h : PEV X A E md1 a ma) : PEV X A E .f (.UnaryOp .Not a pos) (notV ma) := by
  refine ⟨imp_pe (pe_not h.pe) fun σ H Q ⟨cn, f, Γ, R, h⟩ => ?_⟩
  have h := M.wp_bind.mp (M.wp_bind.mp h)
  refine ⟨cn, f, Γ, R, M.wp_mono h (fun d q w H1 k1 g1 r1 => ?_) fun _ x => x⟩
  cases d with
  | bl k => exact ⟨k, rb_bl (R.rb r1), q (.bl (!k)) H1 k1 g1 (.bl _)⟩
  | _ => exact q.elim
theorem pev_if (ht : PTV X A E c mT) (ha : PEV X A E md a ma) (hb : PEV X A E md b mb) : PEV X A E md (.IfExp c a b pos) (ifV mT ma mb) := by
  refine ⟨imp_pe (pe_ifExp ht.pt ha.pe hb.pe) fun σ H Q ⟨cn, f, Γ, R, h⟩ => ⟨cn, f, Γ, R, M.wp_mono (M.wp_bind.mp h) (fun k q H1 k1 g1 => ?_) fun _ x => x⟩⟩
  cases k with
  | true => exact ⟨cn, f, Γ, R.kx k1 g1, M.wp_mono q (fun d2 q2 w2 H2 kk g2 r2 => q2 w2 H2 (k1.trans kk) g2 (Rq.later R k1 g1 r2)) fun _ x => x⟩
  | false => exact ⟨cn, f, Γ, R.kx k1 g1, M.wp_mono q (fun d2 q2 w2 H2 kk g2 r2 => q2 w2 H2 (k1.trans kk) g2 (Rq.later R k1 g1 r2)) fun _ x => x⟩

/-! ### chains -/
def chn (ma mb mc : Ga → M D) (g g' : D → D → M D) : Ga → M D := fun Γ => ma Γ >>= fun x => mb Γ >>= fun y => g x y >>= toB >>= fun k => if k = true then mc Γ >>= fun z => g' y z else .ret (.bl false)
theorem tChain_of {r r' : R2} {g g' : D → D → M D} (tm : ∀ x y, Tame (g x y)) (tm' : ∀ x y, Tame (g' x y)) (hr : ∀ x y H Q, rD A.K g x y H Q → r x y H Q) (hr' : ∀ x y H Q, rD A.K g' x y H Q → r' x y H Q) {σ : L2.St} {H : Hp} {Q : VK}
    (h : tV A.K A E .f (chn ma mb mc g g') σ H Q) : tChain r r' (tV A.K A E md1 ma) (tV A.K A E md2 mb) (tV A.K A E md3 mc) σ H Q := by
  obtain ⟨cn, f, Γ, R, h⟩ := h
  refine ⟨cn, f, Γ, R, M.wp_mono (M.wp_bind.mp h) (fun d q w H1 k1 g1 r1 => ?_) fun _ x => x⟩
  have R1 := R.kx k1 g1
  refine ⟨cn, f, Γ, R1, M.wp_mono (M.wp_bind.mp q) (fun u q w' H2 k2 g2 r2 => ?_) fun _ x => x⟩
  have R2 := R1.kx k2 g2
  have b2 := R1.rb r2
  have q := M.wp_bind.mp (M.wp_bind.mp q)
  refine hr _ _ _ _ ⟨Fz A cn f Γ, nZ A, d, u, R1.rbk k2 (R.rb r1), b2, ?_⟩
  have t1 := tm d u
  cases e1 : g d u with
  | ret z =>
    rw [e1] at q
    cases z with
    | bl k =>
      intro w3 H3 s3 r3
      refine ⟨k, (by cases r3; rfl), ?_⟩
      have k3 : Kx A.gh.Z H H3 := (k1.trans k2).trans (same_kx s3)
      have g3 := A.gh.same g2 s3
      have q' : (if k = true then mc Γ >>= fun z => g' u z else .ret (.bl false)).wp _ _ := q
      cases k with
      | true =>
        rw [if_pos rfl] at q' ⊢
        have R3 := R2.kx (same_kx s3) g3
        refine ⟨cn, f, Γ, R3, M.wp_mono (M.wp_bind.mp q') (fun z q w4 H4 k4 g4 r4 => ?_) fun _ x => x⟩
        refine hr' _ _ _ _ ⟨Fz A cn f Γ, nZ A, u, z, R3.rbk k4 (R2.rbk (same_kx s3) b2), R3.rb r4, ?_⟩
        exact tD R (k3.trans k4) g4 (tm' u z) q
      | false => exact q' (.bl false) H3 k3 g3 (.bl false)
    | _ => exact False.elim q
  | exc x => rw [e1] at t1; exact False.elim t1
  | stuck => rw [e1] at q; exact False.elim q
  | draw n k => rw [e1] at t1; exact False.elim t1
theorem pev_chain {op op' : CmpOp} {g g' : D → D → M D} (ho : OpR X (compareOp op) (rD A.K g)) (ho' : OpR X (compareOp op') (rD A.K g')) (tm : ∀ x y, Tame (g x y)) (tm' : ∀ x y, Tame (g' x y)) (ha : PEV X A E md1 a ma) (hb : PEV X A E md2 b mb) (hc : PEV X A E md3 c mc)
    (hm : lastMarks [op, op'] [b, c] = false := by with_unfolding_all rfl) : PEV X A E .f (.Compare a [op, op'] [b, c] pos) (chn ma mb mc g g') :=
  ⟨imp_pe (pe_chain ho ho' ha.pe hb.pe hc.pe hm) fun _ _ _ h => tChain_of tm tm' (fun _ _ _ _ z => z) (fun _ _ _ _ z => z) h⟩
theorem ptv_chain {op op' : CmpOp} {g g' : D → D → M D} (ho : OpR X (compareOp op) (rD A.K g)) (ho' : OpR X (compareOp op') (rD A.K g')) (tm : ∀ x y, Tame (g x y)) (tm' : ∀ x y, Tame (g' x y)) (ha : PEV X A E md1 a ma) (hb : PEV X A E md2 b mb) (hc : PEV X A E md3 c mc)
    (hm : lastMarks [op, op'] [b, c] = false := by with_unfolding_all rfl) : PTV X A E (.Compare a [op, op'] [b, c] pos) (tst (chn ma mb mc g g')) := by
  refine ⟨imp_pt (pt_chain ho ho' ha.pe hb.pe hc.pe hm) fun σ H Q ⟨cn, f, Γ, R, h⟩ => ?_⟩
  refine tChain_of (E := E) tm tm' (fun _ _ _ _ z => z) (fun _ _ _ _ z => z) ⟨cn, f, Γ, R, M.wp_mono (M.wp_bind.mp h) (fun d q w H1 k1 g1 r1 => ?_) fun _ x => x⟩
  cases d with
  | bl b => exact ⟨b, rb_bl (R.rb r1), q H1 k1 g1⟩
  | _ => exact q.elim

/-! ### argument lists, displays -/
theorem RqL.length {K : PySem.W.Frag} {H : Hp} {P W : Addr → Prop} : ∀ {vs : List V} {ds : List D}, RqL md K H P W vs ds → vs.length = ds.length
  | _, _, .nil => rfl
  | _, _, .cons _ r => congrArg (· + 1) r.length
theorem RqL.rpl {K : PySem.W.Frag} {H : Hp} {P W : Addr → Prop} : ∀ {vs : List V} {ds : List D}, RqL .s K H P W vs ds → RpL K H P vs ds
  | _, _, .nil => .nil
  | _, _, .cons h r => .cons h r.rpl
structure PAVL (X : Cx) (A : Am) (E : EN) (md : Md) (es : List Expr) (ml : Ga → M (List D)) : Prop where
  pa : PA X es (tA A.K A E md ml)
  len : ∀ Γ Q E', (ml Γ).wp Q E' → (ml Γ).wp (fun ds => Q ds ∧ ds.length = es.length) E'
def nilL : Ga → M (List D) := fun _ => .ret []
def consL (m : Ga → M D) (ml : Ga → M (List D)) : Ga → M (List D) := fun Γ => m Γ >>= fun d => ml Γ >>= fun ds => .ret (d :: ds)
theorem pav_nil : PAVL X A E md [] nilL := ⟨imp_pa pa_nil fun σ H Q ⟨cn, f, Γ, R, h⟩ => h [] H .refl R.g .nil, fun _ _ _ h => ⟨h, rfl⟩⟩
theorem pav_cons (h1 : PEV X A E md e m) (h2 : PAVL X A E md es ml) (hmd : md = .b ∨ md = .s := by first | exact .inl rfl | exact .inr rfl) (hs : starEach (e :: es) X.env = (false, eval e X.env) :: starEach es X.env := by rfl) : PAVL X A E md (e :: es) (consL m ml) := by
  refine ⟨imp_pa (pa_cons h1.pe h2.pa hs) fun σ H Q ⟨cn, f, Γ, R, h⟩ => ⟨cn, f, Γ, R, M.wp_mono (M.wp_bind.mp h) (fun d q w H1 k1 g1 r1 => ?_) fun _ x => x⟩, fun Γ Q E' h => ?_⟩
  · have R1 := R.kx k1 g1
    refine ⟨cn, f, Γ, R1, M.wp_mono (M.wp_bind.mp q) (fun ds q ws H2 k2 g2 r2 => ?_) fun _ x => x⟩
    refine q (w :: ws) H2 (k1.trans k2) g2 (.cons ?_ r2)
    cases md with
    | b => exact R1.rbk k2 r1
    | s => exact R1.rpk k2 r1
    | f => rcases hmd with z | z <;> cases z
  · refine M.wp_bind.mpr (M.wp_mono (M.wp_bind.mp h) (fun d q => ?_) fun _ x => x)
    refine M.wp_bind.mpr (M.wp_mono (h2.len Γ _ _ (M.wp_bind.mp q)) (fun ds q => ⟨q.1, congrArg (· + 1) q.2⟩) fun _ x => x)
theorem RqL.ext {K : PySem.W.Frag} {H : Hp} {P W : Addr → Prop} {vs : List V} {ds : List D} (h : RqL md K H P W vs ds) : True := trivial
def tupV (ml : Ga → M (List D)) : Ga → M D := fun Γ => ml Γ >>= fun ds => .ret (.tup ds)
def lstV (ml : Ga → M (List D)) : Ga → M D := fun Γ => ml Γ >>= fun ds => .ret (.lst ds)
theorem pev_tup {k : Nat} (h : PAVL X A E .s es ml) (hl : es.length ≤ sizeLine := by decide) : PEV X A E .f (.Tuple es k pos) (tupV ml) := by
  refine ⟨imp_pe (pe_tup h.pa) fun σ H Q ⟨cn, f, Γ, R, q⟩ => ⟨cn, f, Γ, R, M.wp_mono (h.len _ _ _ (M.wp_bind.mp q)) (fun ds q ws H1 k1 g1 r1 => ?_) fun _ x => x⟩⟩
  obtain ⟨q, ql⟩ := q
  refine ⟨by rw [r1.length, ql]; exact hl, fun p hp => ?_⟩
  have s := same_new (o := .tup ws) hp
  exact q _ _ (k1.trans (same_kx s)) (A.gh.same g1 s) (.tup (.inl upd_same) (r1.rpl.mono (same_ho s) fun _ _ p _ => p))
theorem pev_lst (h : PAVL X A E .s es ml) (hl : es.length ≤ sizeLine := by decide) : PEV X A E .f (.List es pos) (lstV ml) := by
  refine ⟨imp_pe (pe_lst h.pa) fun σ H Q ⟨cn, f, Γ, R, q⟩ => ⟨cn, f, Γ, R, M.wp_mono (h.len _ _ _ (M.wp_bind.mp q)) (fun ds q ws H1 k1 g1 r1 => ?_) fun _ x => x⟩⟩
  obtain ⟨q, ql⟩ := q
  refine ⟨by rw [r1.length, ql]; exact hl, fun p hp => ?_⟩
  have s := same_new (o := .lst ws) hp
  exact q _ _ (k1.trans (same_kx s)) (A.gh.same g1 s) ⟨p, rfl, R.kx_none k1 g1 hp, ws, upd_same, r1.rpl.mono (same_ho s) fun b u q r => ⟨q, fun e => by subst e; rcases r with r | ⟨o, r⟩ <;> (rw [hp] at r; cases r)⟩⟩

/-! ### calls -/
def xIs (mg : Str → Option Value) (x : Exn) (c : Value) (dd : Option Addr) (H : Hp) : Prop := mg x.1 = some c ∧ match x.2 with
  | none => dd = none
  | some (f, i) => ∃ a, dd = some a ∧ H a = some (.xd [(f, .int i)])
def EK (mg : Str → Option Value) (E : EN) : XK := fun c dd H => ∃ x, xIs mg x c dd H ∧ E x H
/-- THE PROMISE of a def: it gives what the plain function F gives -/
def spM (K : PySem.W.Frag) (mg : Str → Option Value) (gh : Gh) (md : Md) (F : List D → M D) : Sp := fun vs H Q E => ∃ (P : Addr → Prop) (ds : List D), (∀ a, gh.Z a → ¬ P a) ∧ (∀ a, ¬ P a → ¬ gh.Z a → ∃ o, H a = some o ∧ Mb o) ∧ gh.G H ∧ RpL K H P vs ds ∧
  (F ds).wp (fun d => ∀ w H', Kx gh.Z H H' → gh.G H' → Rq md K H H' P (fun a => ¬ gh.Z a) w d → Q w H') fun x => ∀ c dd H', Kx gh.Z H H' → gh.G H' → xIs mg x c dd H' → E c dd H'
def callV (ml : Ga → M (List D)) (F : List D → M D) : Ga → M D := fun Γ => ml Γ >>= F
theorem Rl.exn {K : PySem.W.Frag} {cn : Cn} {f : Nat → Addr} {σ : L2.St} {H H' : Hp} {Γ : Ga} (R : Rl K A cn f σ H Γ) (e : cn.lk = []) (k : Kx A.gh.Z H H') : Kx A.gh.Z A.H0 H' := fun a o z h => by
  rcases R.keep a o z h with q | ⟨ob, hl, _⟩
  · exact k a o z q
  · rw [e] at hl; cases hl
theorem pev_call {k : Nat} {f : Addr} {fd : FuncData} {ps : List Str} {F : List D → M D} (hF : FnG X.prog X.w X.K X.mg X.base (L2.CX X.prog X.w) k f fd ps (spM A.K X.mg A.gh md F)) (hr : Room k X.A) (gd : X.A.guards = some []) (hg : Gl X x) (hm : X.mg x = some (.ref f)) (hk : PySem.W.keepIn X.K (.ref f) = true)
    (hb : Binds X.K fd ps []) (hx : Passes (L2.CX X.prog X.w) X (EK X.mg E)) (ha : PAVL X A E .s (e :: es) ml) (hdb : (x == ("__debug__" : Str)) = false := by decide) (he : starEach (e :: es) X.env = (false, eval e X.env) :: starEach es X.env := by rfl) (hpl : (backTo pos (starEach es X.env)).any (·.1) = false := by rfl) :
    PEV X A E md (.Call (.Name x p) (e :: es) [] pos) (callV ml F) := by
  refine ⟨imp_pe (pe_callG hF hr gd hg hm hk hb .nil hx ha.pa hdb he hpl) fun σ H Q ⟨cn, f, Γ, R, h⟩ => ⟨cn, f, Γ, R, M.wp_mono (M.wp_bind.mp h) (fun ds q ws H1 k1 g1 r1 => ?_) fun _ x => x⟩⟩
  show spM A.K X.mg A.gh md F (ws ++ []) H1 Q _
  rw [List.append_nil]
  have R1 := R.kx k1 g1
  refine ⟨Fz A cn f Γ, ds, fun a z p => p.nz z, fun a n _ => R1.mut n, g1, r1.rpl, M.wp_mono q (fun d q w H' k2 g2 r2 => ?_) fun x hx c dd H' k2 g2 hc => ?_⟩
  · exact q w H' (k1.trans k2) g2 (Rq.later R k1 g1 r2)
  · exact ⟨x, hc, hx.2 H' (R.exn hx.1 (k1.trans k2)) g2⟩
theorem pev_call0 {k : Nat} {f : Addr} {fd : FuncData} {ps : List Str} {F : List D → M D} (hF : FnG X.prog X.w X.K X.mg X.base (L2.CX X.prog X.w) k f fd ps (spM A.K X.mg A.gh md F)) (hr : Room k X.A) (gd : X.A.guards = some []) (hg : Gl X x) (hm : X.mg x = some (.ref f)) (hk : PySem.W.keepIn X.K (.ref f) = true)
    (hb : Binds X.K fd ps []) (hx : Passes (L2.CX X.prog X.w) X (EK X.mg E)) (hdb : (x == ("__debug__" : Str)) = false := by decide) : PEV X A E md (.Call (.Name x p) [] [] pos) (callV nilL F) := by
  refine ⟨imp_pe (pe_call0G hF hr gd hg hm hk hb .nil hx hdb) fun σ H Q ⟨cn, f, Γ, R, h⟩ => ?_⟩
  show spM A.K X.mg A.gh md F ([] ++ []) H Q _
  rw [List.append_nil]
  have h : (F []).wp _ _ := h
  refine ⟨Fz A cn f Γ, [], fun a z p => p.nz z, fun a n _ => R.mut n, R.g, .nil, M.wp_mono h (fun d q w H' k2 g2 r2 => q w H' k2 g2 r2) fun x hx c dd H' k2 g2 hc => ?_⟩
  exact ⟨x, hc, hx.2 H' (R.exn hx.1 k2) g2⟩

/-! ### a def called with what is one's own: it is read there alone -/
mutual
/-- no list, no dict within -/
def D.pu : D → Bool
  | .tup ds => D.puL ds
  | .lst _ => false
  | .dct _ _ => false
  | _ => true
def D.puL : List D → Bool
  | [] => true
  | d :: r => D.pu d && D.puL r
end
mutual
theorem Rp.pu {K : PySem.W.Frag} {H : Hp} {P P' : Addr → Prop} : ∀ {w : V} {d : D}, Rp K H P w d → d.pu = true → Rp K H P' w d
  | _, _, .non, _ => .non
  | _, _, .bl b, _ => .bl b
  | _, _, .int i, _ => .int i
  | _, _, .str x, _ => .str x
  | _, _, .raw v, _ => .raw v
  | _, _, .tup h r, e => .tup h (RpL.pu r e)
  | _, _, .lst _ _ _, e => nomatch e
  | _, _, .dK _ _ _, e => nomatch e
  | _, _, .dT _ _ _, e => nomatch e
theorem RpL.pu {K : PySem.W.Frag} {H : Hp} {P P' : Addr → Prop} : ∀ {ws : List V} {ds : List D}, RpL K H P ws ds → D.puL ds = true → RpL K H P' ws ds
  | _, _, .nil, _ => .nil
  | _, _, .cons (d := d) (ds := ds) h r, e => by
    have e' : (d.pu && D.puL ds) = true := e
    rw [Bool.and_eq_true] at e'
    exact .cons (Rp.pu h e'.1) (RpL.pu r e'.2)
end
/-- what may come back of it -/
def keepC (md : Md) (d : D) : M D := match md, d with
  | .f, .lst ds => if D.puL ds = true then .ret d else .stuck
  | _, d => if d.pu = true then .ret d else .stuck
def D.isDct : D → Bool
  | .dct _ _ => true
  | _ => false
def noDct : List D → Bool
  | [] => true
  | d :: r => !d.isDct && noDct r
theorem RqL.wide {K : PySem.W.Frag} {H : Hp} {P W : Addr → Prop} (pw : ∀ a, P a → W a) : ∀ {vs : List V} {ds : List D}, RqL .b K H P W vs ds → noDct ds = true → RpL K H W vs ds
  | _, _, .nil, _ => .nil
  | _, _, .cons (d := d) (ds := ds) h r, hd => by
    have hd : (!d.isDct && noDct ds) = true := hd
    rw [Bool.and_eq_true] at hd
    refine .cons ?_ (r.wide pw hd.2)
    have hd := hd.1
    have h : Rb K H P W _ d := h
    have o : Ho P H H := .refl
    cases d with
    | lst ds => obtain ⟨a, xs, rfl, hw, hx, r⟩ := h; exact .lst hw hx (r.mono o fun a _ p _ => pw a p)
    | dct t kvs =>
      exact absurd (show false = true from hd) Bool.false_ne_true
    | non => exact Rp.mono o (fun a _ p _ => pw a p) h
    | bl b => exact Rp.mono o (fun a _ p _ => pw a p) h
    | int i => exact Rp.mono o (fun a _ p _ => pw a p) h
    | str x => exact Rp.mono o (fun a _ p _ => pw a p) h
    | tup ds => exact Rp.mono o (fun a _ p _ => pw a p) h
    | raw v => exact Rp.mono o (fun a _ p _ => pw a p) h
theorem keepC_ok {K : PySem.W.Frag} {H0 H : Hp} {P P' W : Addr → Prop} {w : V} {d : D} {Q : D → Prop} {E' : Exn → Prop} (hmd : md = .f ∨ md = .s) (hk : (keepC md d).wp Q E') (h : Rq md K H0 H P W w d) : Q d ∧ Rq md K H0 H P' W w d := by
  rcases hmd with rfl | rfl
  · cases d with
    | lst ds =>
      have hk : (if D.puL ds = true then M.ret (D.lst ds) else .stuck).wp Q E' := hk
      by_cases e : D.puL ds = true
      · rw [if_pos e] at hk
        obtain ⟨a, e1, h0, xs, hx, r⟩ := h
        exact ⟨hk, a, e1, h0, xs, hx, r.pu e⟩
      · rw [if_neg e] at hk; exact hk.elim
    | dct t kvs => exact False.elim hk
    | non => exact ⟨hk, Rp.pu (show Rp K H P w .non from h) rfl⟩
    | bl b => exact ⟨hk, Rp.pu (show Rp K H P w (.bl b) from h) rfl⟩
    | int i => exact ⟨hk, Rp.pu (show Rp K H P w (.int i) from h) rfl⟩
    | str x => exact ⟨hk, Rp.pu (show Rp K H P w (.str x) from h) rfl⟩
    | raw v => exact ⟨hk, Rp.pu (show Rp K H P w (.raw v) from h) rfl⟩
    | tup ds =>
      have hk : (if D.puL ds = true then M.ret (D.tup ds) else .stuck).wp Q E' := hk
      by_cases e : D.puL ds = true
      · rw [if_pos e] at hk
        exact ⟨hk, Rp.pu (show Rp K H P w (.tup ds) from h) e⟩
      · rw [if_neg e] at hk; exact hk.elim
  · have hk : (if d.pu = true then M.ret d else .stuck).wp Q E' := by cases d <;> exact hk
    by_cases e : d.pu = true
    · rw [if_pos e] at hk
      exact ⟨hk, Rp.pu (show Rp K H P w d from h) e⟩
    · rw [if_neg e] at hk; exact hk.elim
def callB (md : Md) (ml : Ga → M (List D)) (F : List D → M D) : Ga → M D := fun Γ => ml Γ >>= fun ds => if noDct ds = true then F ds >>= keepC md else .stuck
theorem pev_callB {k : Nat} {f : Addr} {fd : FuncData} {ps : List Str} {F : List D → M D} (hF : FnG X.prog X.w X.K X.mg X.base (L2.CX X.prog X.w) k f fd ps (spM A.K X.mg A.gh md F)) (hmd : md = .f ∨ md = .s) (hr : Room k X.A) (gd : X.A.guards = some []) (hg : Gl X x) (hm : X.mg x = some (.ref f)) (hk : PySem.W.keepIn X.K (.ref f) = true)
    (hb : Binds X.K fd ps []) (hx : Passes (L2.CX X.prog X.w) X (EK X.mg E)) (ha : PAVL X A E .b (e :: es) ml) (hdb : (x == ("__debug__" : Str)) = false := by decide) (he : starEach (e :: es) X.env = (false, eval e X.env) :: starEach es X.env := by rfl) (hpl : (backTo pos (starEach es X.env)).any (·.1) = false := by rfl) :
    PEV X A E md (.Call (.Name x p) (e :: es) [] pos) (callB md ml F) := by
  refine ⟨imp_pe (pe_callG hF hr gd hg hm hk hb .nil hx ha.pa hdb he hpl) fun σ H Q ⟨cn, f, Γ, R, h⟩ => ⟨cn, f, Γ, R, M.wp_mono (M.wp_bind.mp h) (fun ds q ws H1 k1 g1 r1 => ?_) fun _ x => x⟩⟩
  show spM A.K X.mg A.gh md F (ws ++ []) H1 Q _
  rw [List.append_nil]
  have R1 := R.kx k1 g1
  split at q
  case isFalse => exact q.elim
  rename_i nd
  refine ⟨nZ A, ds, fun a z p => p z, fun a n z => absurd z n, g1, r1.wide (fun a p => p.nz) nd, M.wp_mono (M.wp_bind.mp q) (fun d q w H' k2 g2 r2 => ?_) fun x hx c dd H' k2 g2 hc => ?_⟩
  · obtain ⟨q, r⟩ := keepC_ok (P' := Fz A cn f Γ) hmd q r2
    exact q w H' (k1.trans k2) g2 (Rq.later R k1 g1 r)
  · exact ⟨x, hc, hx.2 H' (R.exn hx.1 (k1.trans k2)) g2⟩

/-! ### calls of what is built in -/
def cD (K : PySem.W.Frag) (g : List D → M D) : List V → Hp → VK → Prop := fun vs H Q => ∃ P W ds, RqL .b K H P W vs ds ∧ (g ds).wp (fun r => ∀ w H', Same H H' → Rf K H H' P w r → Q w H') fun _ => False
theorem tCB_of {r : List V → Hp → VK → Prop} {g : List D → M D} (tm : ∀ ds, Tame (g ds)) (hr : ∀ vs H Q, cD A.K g vs H Q → r vs H Q) {σ : L2.St} {H : Hp} {Q : VK} (h : tV A.K A E .f (callV ml g) σ H Q) : tCB r (tA A.K A E .b ml) σ H Q := by
  obtain ⟨cn, f, Γ, R, h⟩ := h
  exact ⟨cn, f, Γ, R, M.wp_mono (M.wp_bind.mp h) (fun ds q ws H1 k1 g1 r1 => hr _ _ _ ⟨Fz A cn f Γ, nZ A, ds, r1, tD R k1 g1 (tm ds) q⟩) fun _ x => x⟩
theorem pev_bi {id : String} {g : List D → M D} (hc : CallR X (.builtin id) (cD A.K g)) (tm : ∀ ds, Tame (g ds)) (hg : Gl X x) (hm : X.mg x = none) (hv : bootBuiltins x = some (.builtin id)) (ha : PAVL X A E .b (e :: es) ml) (hn : x ≠ "__name__" := by decide) (hdb : (x == ("__debug__" : Str)) = false := by decide)
    (he : starEach (e :: es) X.env = (false, eval e X.env) :: starEach es X.env := by rfl) (hpl : (backTo pos (starEach es X.env)).any (·.1) = false := by rfl) : PEV X A E .f (.Call (.Name x p) (e :: es) [] pos) (callV ml g) :=
  ⟨imp_pe (pe_callB hc hg hm hv ha.pa hn hdb he hpl) fun _ _ _ h => tCB_of tm (fun _ _ _ z => z) h⟩
theorem pev_ty {T : String} {g : List D → M D} (hc : CallR X (.type T) (cD A.K g)) (tm : ∀ ds, Tame (g ds)) (hg : Gl X x) (hm : X.mg x = none) (hv : bootBuiltins x = some (.type T)) (ha : PAVL X A E .b (e :: es) ml) (hn : x ≠ "__name__" := by decide) (hdb : (x == ("__debug__" : Str)) = false := by decide)
    (he : starEach (e :: es) X.env = (false, eval e X.env) :: starEach es X.env := by rfl) (hpl : (backTo pos (starEach es X.env)).any (·.1) = false := by rfl) : PEV X A E .f (.Call (.Name x p) (e :: es) [] pos) (callV ml g) :=
  ⟨imp_pe (pe_callTy hc hg hm hv ha.pa hn hdb he hpl) fun _ _ _ h => tCB_of tm (fun _ _ _ z => z) h⟩
/-- isinstance(e, T): the second argument names a class -/
theorem pav_raw {v : V} {d : D} (hp : PE X e (tC v)) (h : ∀ H P, Rp A.K H P v d) : PEV X A E .b e (fun _ => .ret d) := by
  refine ⟨imp_pe hp fun σ H Q ⟨cn, f, Γ, R, q⟩ => ?_⟩
  exact q v H .refl R.g ((h H (Fz A cn f Γ)).rb fun _ p => p.nz)

/-! ### items -/
theorem pev_ix {g : D → D → M D} (hr : IxR X (rD A.K g)) (tm : ∀ x y, Tame (g x y)) (ha : PEV X A E md1 a ma) (hb : PEV X A E md2 b mb) (hs : PlainIx b := by exact fun _ _ => rfl) : PEV X A E .f (.Subscript a b pos) (bin ma mb g) :=
  ⟨imp_pe (pe_ix hr ha.pe hb.pe hs) fun _ _ _ h => tOp_of tm (fun _ _ _ _ z => z) h⟩
/-- .. of which an item may be a list that stays -/
def rDs (K : PySem.W.Frag) (g : D → D → M D) : R2 := fun x y H Q => ∃ P W d u, Rb K H P W x d ∧ Rb K H P W y u ∧ (g d u).wp (fun r => ∀ w, Rp K H P w r → Q w H) fun _ => False
theorem pev_ixs {g : D → D → M D} (hr : IxR X (rDs A.K g)) (tm : ∀ x y, Tame (g x y)) (ha : PEV X A E md1 a ma) (hb : PEV X A E md2 b mb) (hs : PlainIx b := by exact fun _ _ => rfl) : PEV X A E .s (.Subscript a b pos) (bin ma mb g) := by
  refine ⟨imp_pe (pe_ix hr ha.pe hb.pe hs) fun σ H Q ⟨cn, f, Γ, R, h⟩ => ?_⟩
  refine ⟨cn, f, Γ, R, M.wp_mono (M.wp_bind.mp h) (fun d q w H1 k1 g1 r1 => ?_) fun _ x => x⟩
  refine ⟨cn, f, Γ, R.kx k1 g1, M.wp_mono (M.wp_bind.mp q) (fun u q w' H2 k2 g2 r2 => ?_) fun _ x => x⟩
  exact ⟨Fz A cn f Γ, nZ A, d, u, (R.kx k1 g1).rbk k2 (R.rb r1), (R.kx k1 g1).rb r2, M.wp_mono ((tm d u).wp q) (fun r q w'' h => q w'' H2 (k1.trans k2) g2 h) fun _ z => z⟩
end
end Px

set_option Elab.async false
set_option linter.all false
set_option maxRecDepth 100000
set_option autoImplicit false
namespace Px
open PySem PySem.Spec PyProof.Rows L2

/-! ### statements -/
inductive Ct where
  | nx | rt (d : D) | bk | ct
/-- what was safe is safe and as it was -/
def Hs (A : Am) (cn : Cn) (f : Nat → Addr) (Γ : Ga) (H : Hp) (f' : Nat → Addr) (Γ' : Ga) (H' : Hp) : Prop :=
  ∀ a, Fz A cn f Γ a → ∀ u, H a = some u → Fz A cn f' Γ' a ∧ H' a = some u
def sP (K : PySem.W.Frag) (A : Am) (cn : Cn) (md : Md) (f : Nat → Addr) (Γ : Ga) (H : Hp) (Dn : Ends) : Ct × Ga → Prop := fun r => match r.1 with
  | .nx => ∀ f' σ' H', Hs A cn f Γ H f' r.2 H' → Rl K A cn f' σ' H' r.2 → Dn.nx σ' H'
  | .bk => ∀ f' σ' H', Hs A cn f Γ H f' r.2 H' → Rl K A cn f' σ' H' r.2 → Dn.bk σ' H'
  | .ct => ∀ f' σ' H', Hs A cn f Γ H f' r.2 H' → Rl K A cn f' σ' H' r.2 → Dn.ct σ' H'
  | .rt d => ∀ w H', (∀ a o, ¬ A.gh.Z a → A.H0 a = some o → At cn H' a o) → A.gh.G H' → Rq md K A.H0 H' A.P0 (nZ A) w d → Dn.rt w H'
def tS (K : PySem.W.Frag) (A : Am) (E : EN) (md : Md) (m : Ga → M (Ct × Ga)) : TS := fun Dn σ H => ∃ cn f Γ, Rl K A cn f σ H Γ ∧ (m Γ).wp (sP K A cn md f Γ H Dn) (xP A E cn)
structure PSV (X : Cx) (A : Am) (E : EN) (md : Md) (st : Stmt) (m : Ga → M (Ct × Ga)) : Prop where
  ps : PS X st (tS A.K A E md m)
structure PSVs (X : Cx) (A : Am) (E : EN) (md : Md) (sts : List Stmt) (m : Ga → M (Ct × Ga)) : Prop where
  ps : PSs X sts (tS A.K A E md m)
theorem imp_ps {X : Cx} {st : Stmt} {t t' : TS} (h : PS X st t) (i : ∀ Dn σ H, t' Dn σ H → t Dn σ H) : PS X st t' := ⟨fun pins s σ H Dn I q => h.run pins s σ H Dn I (i Dn σ H q)⟩
theorem imp_pss {X : Cx} {st : List Stmt} {t t' : TS} (h : PSs X st t) (i : ∀ Dn σ H, t' Dn σ H → t Dn σ H) : PSs X st t' := ⟨fun pins s σ H Dn I q => h.run pins s σ H Dn I (i Dn σ H q)⟩
section
variable {K : PySem.W.Frag} {A : Am} {E : EN} {cn : Cn} {f f' f'' : Nat → Addr} {σ σ' : L2.St} {H H' H'' : Hp} {Γ Γ' Γ'' : Ga} {md : Md} {Dn : Ends}
theorem Hs.refl : Hs A cn f Γ H f Γ H := fun a p u e => ⟨p, e⟩
theorem Hs.trans (h : Hs A cn f Γ H f' Γ' H') (h' : Hs A cn f' Γ' H' f'' Γ'' H'') : Hs A cn f Γ H f'' Γ'' H'' := fun a p u e =>
  let ⟨p1, e1⟩ := h a p u e
  h' a p1 u e1
theorem Hs.kx (k : Kx A.gh.Z H H') : Hs A cn f Γ H f Γ H' := fun a p u e => ⟨p, k a u p.nz e⟩
theorem sP.pre {r : Ct × Ga} (h : sP K A cn md f Γ H Dn r) (hs : Hs A cn f Γ H f' Γ' H') : sP K A cn md f' Γ' H' Dn r := by
  obtain ⟨c, Γr⟩ := r
  cases c with
  | nx => exact fun f1 σ1 H1 h1 R1 => h f1 σ1 H1 (hs.trans h1) R1
  | bk => exact fun f1 σ1 H1 h1 R1 => h f1 σ1 H1 (hs.trans h1) R1
  | ct => exact fun f1 σ1 H1 h1 R1 => h f1 σ1 H1 (hs.trans h1) R1
  | rt d => exact h

/-! ### slots -/
theorem set_get {α : Type} {l : List α} {i j : Nat} {x y : α} (h : (l.set i x)[j]? = some y) : (j = i ∧ y = x ∧ i < l.length) ∨ (j ≠ i ∧ l[j]? = some y) := by
  rw [List.getElem?_set] at h
  by_cases e : i = j
  · rw [if_pos e] at h
    by_cases hl : i < l.length
    · rw [if_pos hl] at h
      exact .inl ⟨e.symm, (Option.some.inj h).symm, hl⟩
    · rw [if_neg hl] at h; cases h
  · rw [if_neg e] at h
    exact .inr ⟨fun z => e z.symm, h⟩
theorem set_at {α : Type} {l : List α} {i : Nat} {x : α} (h : i < l.length) : (l.set i x)[i]? = some x := List.getElem?_set_self h
theorem set_ne {α : Type} {l : List α} {i j : Nat} {x : α} (h : j ≠ i) : (l.set i x)[j]? = l[j]? := List.getElem?_set_ne (Ne.symm h)
theorem rd_some {a : Addr} {u : HO} (h : Rd H a u) : ∃ o, H a = some o := by
  rcases h with h | ⟨ob, h⟩
  · exact ⟨_, h⟩
  · exact ⟨_, h⟩
theorem fz_setV {i : Nat} {d : D} {a : Addr} (h : Fz A cn f Γ a) : Fz A cn f (Γ.set i (.v d)) a :=
  ⟨h.1, h.2.1, fun j e hj => by
    rcases set_get hj with ⟨_, e2, _⟩ | ⟨_, hj⟩
    · cases e2
    · exact h.2.2 j e hj⟩
theorem Rl.setV (R : Rl K A cn f σ H Γ) {i : Nat} {w : V} {d : D} (h : Rp K H (Fz A cn f Γ) w d) : Rl K A cn f (σ.set i (some w)) H (Γ.set i (.v d)) where
  len := by rw [List.length_set, List.length_set]; exact R.len
  g := R.g
  keep := R.keep
  lkf := fun a ob h => ⟨fz_setV (R.lkf a ob h).1, (R.lkf a ob h).2⟩
  hdm := R.hdm
  sl := fun j e hj => by
    rcases set_get hj with ⟨rfl, e2, hl⟩ | ⟨ne, hj⟩
    · cases e2
      exact ⟨w, set_at (by rw [R.len]; exact hl), h.mono .refl fun _ _ p _ => fz_setV p⟩
    · obtain ⟨w', h1, h2⟩ := R.sl j e hj
      exact ⟨w', by rw [set_ne ne]; exact h1, h2.mono .refl fun _ _ p _ => fz_setV p⟩
  ow := fun j e hj => by
    rcases set_get hj with ⟨_, e2, _⟩ | ⟨ne, hj⟩
    · cases e2
    · obtain ⟨h1, h2, h3, h4⟩ := R.ow j e hj
      exact ⟨by rw [set_ne ne]; exact h1, h2, h3, h4.mono .refl (fun _ _ p _ => fz_setV p) fun _ z => z⟩
  inj := fun j k d e hj hk => by
    rcases set_get hj with ⟨_, e2, _⟩ | ⟨_, hj⟩
    · cases e2
    · rcases set_get hk with ⟨_, e2, _⟩ | ⟨_, hk⟩
      · cases e2
      · exact R.inj j k d e hj hk
theorem Hs.setV {i : Nat} {d : D} : Hs A cn f Γ H f (Γ.set i (.v d)) H := fun a p u e => ⟨fz_setV p, e⟩
/-- where slot i's own object lies, now -/
def fset (f : Nat → Addr) (i : Nat) (a : Addr) : Nat → Addr := fun j => if j = i then a else f j
theorem fset_same {i : Nat} {a : Addr} : fset f i a i = a := by unfold fset; rw [if_pos rfl]
theorem fset_ne {i j : Nat} {a : Addr} (h : j ≠ i) : fset f i a j = f j := by unfold fset; rw [if_neg h]
theorem fz_setO {i : Nat} {d : D} {a b : Addr} (h : Fz A cn f Γ b) (hb : b ≠ a) : Fz A cn (fset f i a) (Γ.set i (.own d)) b :=
  ⟨h.1, h.2.1, fun j e hj => by
    rcases set_get hj with ⟨rfl, e2, _⟩ | ⟨ne, hj⟩
    · rw [fset_same]; exact Ne.symm hb
    · rw [fset_ne ne]; exact h.2.2 j e hj⟩
theorem ne_fresh {a b : Addr} {u : HO} (h : H a = none) (r : Rd H b u) : b ≠ a := fun e => by
  obtain ⟨o, q⟩ := rd_some r
  rw [e, h] at q; cases q
theorem Rl.setO (R : Rl K A cn f σ H Γ) (k : Kx A.gh.Z H H') (g : A.gh.G H') {i : Nat} {a : Addr} {d : D} (h : H a = none) (o : Ow K H' (fun b => Fz A cn f Γ b ∧ b ≠ a) a d) : Rl K A cn (fset f i a) (σ.set i (some (.ref a))) H' (Γ.set i (.own d)) := by
  have R1 := R.kx k g
  refine ⟨by rw [List.length_set, List.length_set]; exact R.len, g, R1.keep, fun b ob hb => ?_, R1.hdm, fun j e hj => ?_, fun j e hj => ?_, fun j l d' e hj hl ef => ?_⟩
  · obtain ⟨p, u, e⟩ := R.lkf b ob hb
    exact ⟨fz_setO p (fun z => by rw [z, h] at e; cases e), (R1.lkf b ob hb).2⟩
  · rcases set_get hj with ⟨_, e2, _⟩ | ⟨ne, hj⟩
    · cases e2
    · obtain ⟨w', h1, h2⟩ := R.sl j e hj
      exact ⟨w', by rw [set_ne ne]; exact h1, h2.mono (R.ho k) fun b u p r => fz_setO p (ne_fresh h r)⟩
  · rcases set_get hj with ⟨rfl, e2, hl⟩ | ⟨ne, hj⟩
    · cases e2
      rw [fset_same]
      exact ⟨set_at (by rw [R.len]; exact hl), R.h0_none h, (fun z => by obtain ⟨_, xs, q, _⟩ := R.hdm _ z; rw [h] at q; cases q), o.mono .refl (fun b u p _ => fz_setO p.1 p.2) fun _ z => z⟩
    · rw [fset_ne ne]
      obtain ⟨h1, h2, h3, h4⟩ := R.ow j e hj
      exact ⟨by rw [set_ne ne]; exact h1, h2, h3, h4.mono (R.ho k) (fun b u p r => fz_setO p (ne_fresh h r)) fun u q => k _ _ (R.own_nz hj).1 q⟩
  · have other : ∀ {j : Nat} {e : D}, Γ[j]? = some (.own e) → f j ≠ a := fun {j e} hj z => by
      obtain ⟨_, _, _, h4⟩ := R.ow j e hj
      obtain ⟨o, q, _⟩ := h4.mut
      rw [z, h] at q; cases q
    rcases set_get hj with ⟨e1, _, _⟩ | ⟨ne, hj1⟩
    · rcases set_get hl with ⟨e2, _, _⟩ | ⟨ne2, hl1⟩
      · rw [e1, e2]
      · rw [e1, fset_same, fset_ne ne2] at ef
        exact absurd ef.symm (other hl1)
    · rcases set_get hl with ⟨e2, _, _⟩ | ⟨ne2, hl1⟩
      · rw [e2, fset_same, fset_ne ne] at ef
        exact absurd ef (other hj1)
      · rw [fset_ne ne, fset_ne ne2] at ef
        exact R.inj j l d' e hj1 hl1 ef
theorem Hs.setO (k : Kx A.gh.Z H H') {i : Nat} {a : Addr} {d : D} (h : H a = none) : Hs A cn f Γ H (fset f i a) (Γ.set i (.own d)) H' := fun b p u e =>
  ⟨fz_setO p (fun z => by rw [z, h] at e; cases e), k b u p.nz e⟩
/-- an object of one's own is let go: it stays as it is -/
def fz (i : Nat) (Γ : Ga) : Ga := match Γ[i]? with
  | some (.own d) => Γ.set i (.v d)
  | _ => Γ
theorem Rl.drop (R : Rl K A cn f σ H Γ) {i : Nat} {d : D} {H2 : Hp} (hd : Γ[i]? = some (.own d)) (hb : ∀ b, b ≠ f i → H2 b = H b) (rp : Fz A cn f (Γ.set i (.v d)) (f i) → Ho (Fz A cn f Γ) H H2 → Rp K H2 (Fz A cn f (Γ.set i (.v d))) (.ref (f i)) d) :
    Rl K A cn f σ H2 (Γ.set i (.v d)) ∧ Hs A cn f Γ H f (Γ.set i (.v d)) H2 := by
  obtain ⟨h1, h2, h3, h4⟩ := R.ow i d hd
  have fi : Fz A cn f (Γ.set i (.v d)) (f i) := ⟨(R.own_nz hd).2, h3, fun j e hj z => by
    rcases set_get hj with ⟨_, e2, _⟩ | ⟨ne, hj⟩
    · cases e2
    · exact ne (R.inj j i e d hj hd z)⟩
  have nf : ∀ b, Fz A cn f Γ b → b ≠ f i := fun b p z => p.2.2 i d hd z.symm
  have ho : Ho (Fz A cn f Γ) H H2 := by
    refine ⟨fun b u p e => by rw [hb b (nf b p)]; exact e, fun b xs e => ?_⟩
    obtain ⟨u, hu, mu⟩ := h4.mut
    rw [hb b fun z => by rw [z] at e; exact mut_not_frz hu mu e]
    exact e
  refine ⟨⟨by rw [List.length_set]; exact R.len, A.gh.gk H _ R.g (fun b z => hb b fun y => (R.own_nz hd).1 (y ▸ z)) (fun b q e => (hb b fun y => by obtain ⟨_, hu', _, n'⟩ := h4.mutx; rw [y, hu'] at e; exact n' q (Option.some.inj e)).trans e), fun b o z e => ?_, fun a ob h => ?_, fun b m => ?_, fun j e hj => ?_, fun j e hj => ?_, fun j l d e hj hk => ?_⟩, fun b p u e => ⟨fz_setV p, by rw [hb b (nf b p)]; exact e⟩⟩
  · have ne : b ≠ f i := fun y => by rw [y, h2] at e; cases e
    rcases R.keep b o z e with q | ⟨ob, hl, q⟩
    · exact .inl (by rw [hb b ne]; exact q)
    · exact .inr ⟨ob, hl, by rw [hb b ne]; exact q⟩
  · obtain ⟨p, u, q⟩ := R.lkf a ob h
    exact ⟨fz_setV p, u, by rw [hb a (nf a p)]; exact q⟩
  · obtain ⟨z, u, q, mu⟩ := R.hdm b m
    have ne : b ≠ f i := fun y => by rw [y] at m; exact h3 m
    exact ⟨z, u, by rw [hb b ne]; exact q, mu⟩
  · rcases set_get hj with ⟨rfl, e2, hl⟩ | ⟨ne, hj⟩
    · cases e2
      exact ⟨_, h1, rp fi ho⟩
    · obtain ⟨w', q1, q2⟩ := R.sl j e hj
      exact ⟨w', q1, q2.mono ho fun _ _ p _ => fz_setV p⟩
  · rcases set_get hj with ⟨_, e2, _⟩ | ⟨ne, hj⟩
    · cases e2
    · obtain ⟨q1, q2, q3, q4⟩ := R.ow j e hj
      refine ⟨q1, q2, q3, q4.mono ho (fun _ _ p _ => fz_setV p) fun u z => ?_⟩
      rw [hb _ fun y => ne (R.inj j i e _ hj hd y)]
      exact z
  · rcases set_get hj with ⟨_, e2, _⟩ | ⟨_, hj⟩
    · cases e2
    · rcases set_get hk with ⟨_, e2, _⟩ | ⟨_, hk⟩
      · cases e2
      · exact R.inj j l d e hj hk
/-- a list is let go as it stands; a dict is locked -/
theorem Rl.fz (R : Rl K A cn f σ H Γ) (i : Nat) : (Rl K A cn f σ H (fz i Γ) ∧ Hs A cn f Γ H f (fz i Γ) H) ∨ ∃ a u, H a = some u ∧ Mut (some u) ∧ ∀ od, Rl K A cn f σ (upd H a (.frz od u)) (fz i Γ) ∧ Hs A cn f Γ H f (fz i Γ) (upd H a (.frz od u)) := by
  unfold Px.fz
  split
  · rename_i d hd
    obtain ⟨_, _, _, h4⟩ := R.ow i d hd
    cases d with
    | lst ds =>
      obtain ⟨xs, hx, r⟩ := h4
      exact .inl (R.drop hd (fun _ _ => rfl) fun fi ho => .lst fi hx (r.mono .refl fun _ _ p _ => fz_setV p))
    | dct t kvs =>
      rcases h4 with ⟨rfl, l, hx, r⟩ | ⟨rfl, l, hx, r⟩
      · exact .inr ⟨f i, _, hx, trivial, fun od => R.drop hd (fun _ h => upd_ne h) fun fi ho => .dK fi upd_same (r.mono ho fun _ _ p _ => fz_setV p)⟩
      · exact .inr ⟨f i, _, hx, trivial, fun od => R.drop hd (fun _ h => upd_ne h) fun fi ho => .dT fi upd_same (r.mono ho fun _ _ p _ => fz_setV p)⟩
    | _ => exact h4.elim
  · exact .inl ⟨R, .refl⟩
end
end Px

set_option Elab.async false
set_option linter.all false
set_option maxRecDepth 100000
set_option autoImplicit false
namespace Px
open PySem PySem.Spec PyProof.Rows L2
section
variable {X : Cx} {A : Am} {E : EN} {md md1 md2 md3 : Md} {e a b c : Expr} {es rest : List Expr} {st : Stmt} {sts st2 : List Stmt} {m ma mb mc : Ga → M D} {mT mU : Ga → M Bool} {ml : Ga → M (List D)} {m1 m2 : Ga → M (Ct × Ga)} {pos p : Pos} {x : Str}

/-! ### blocks -/
def nextM : Ga → M (Ct × Ga) := fun Γ => .ret (.nx, Γ)
def andThen (r : Ct × Ga) (k : Ga → M (Ct × Ga)) : M (Ct × Ga) := match r.1 with
  | .nx => k r.2
  | .rt d => .ret (.rt d, r.2)
  | .bk => .ret (.bk, r.2)
  | .ct => .ret (.ct, r.2)
def seqM (m1 m2 : Ga → M (Ct × Ga)) : Ga → M (Ct × Ga) := fun Γ => m1 Γ >>= fun r => andThen r m2
theorem psv_nil : PSVs X A E md [] nextM := ⟨imp_pss pss_nil fun Dn σ H ⟨cn, f, Γ, R, h⟩ => h f σ H .refl R⟩
theorem psv_cons (h1 : PSV X A E md st m1) (h2 : PSVs X A E md sts m2) : PSVs X A E md (st :: sts) (seqM m1 m2) := by
  refine ⟨imp_pss (pss_cons h1.ps h2.ps) fun Dn σ H ⟨cn, f, Γ, R, h⟩ => ⟨cn, f, Γ, R, M.wp_mono (M.wp_bind.mp h) (fun r q => ?_) fun _ x => x⟩⟩
  obtain ⟨c, Γ1⟩ := r
  cases c with
  | nx => exact fun f1 σ1 H1 s1 R1 => ⟨cn, f1, Γ1, R1, M.wp_mono q (fun r q => q.pre s1) fun _ x => x⟩
  | rt d => exact q
  | bk => exact q
  | ct => exact q
theorem psv_one (h1 : PSV X A E md st m1) : PSVs X A E md [st] m1 := ⟨pss_one h1.ps⟩
theorem psv_pass : PSV X A E md (.Pass pos) nextM := ⟨imp_ps ps_pass fun Dn σ H ⟨cn, f, Γ, R, h⟩ => h f σ H .refl R⟩
def breakM : Ga → M (Ct × Ga) := fun Γ => .ret (.bk, Γ)
def contM : Ga → M (Ct × Ga) := fun Γ => .ret (.ct, Γ)
theorem psv_break : PSV X A E md (.Break pos) breakM := ⟨imp_ps ps_break fun Dn σ H ⟨cn, f, Γ, R, h⟩ => h f σ H .refl R⟩
theorem psv_continue : PSV X A E md (.Continue pos) contM := ⟨imp_ps ps_continue fun Dn σ H ⟨cn, f, Γ, R, h⟩ => h f σ H .refl R⟩
def ifM (t : Ga → M Bool) (m1 m2 : Ga → M (Ct × Ga)) : Ga → M (Ct × Ga) := fun Γ => t Γ >>= fun k => if k = true then m1 Γ else m2 Γ
theorem psv_if (ht : PTV X A E c mT) (h1 : PSVs X A E md sts m1) (h2 : PSVs X A E md st2 m2) : PSV X A E md (.If c sts st2 pos) (ifM mT m1 m2) := by
  refine ⟨imp_ps (ps_if ht.pt h1.ps h2.ps) fun Dn σ H ⟨cn, f, Γ, R, h⟩ => ⟨cn, f, Γ, R, M.wp_mono (M.wp_bind.mp h) (fun k q H1 k1 g1 => ?_) fun _ x => x⟩⟩
  cases k with
  | true => exact ⟨cn, f, Γ, R.kx k1 g1, M.wp_mono q (fun r q => q.pre (.kx k1)) fun _ x => x⟩
  | false => exact ⟨cn, f, Γ, R.kx k1 g1, M.wp_mono q (fun r q => q.pre (.kx k1)) fun _ x => x⟩
/-- ahead of the statement slot i's object is let go -/
theorem psv_fz (i : Nat) (h : PSV X A E md st m1) : PSV X A E md st (fun Γ => m1 (fz i Γ)) := by
  refine ⟨⟨fun pins s σ H Dn I ⟨cn, f, Γ, R, q⟩ => ?_⟩⟩
  rcases R.fz i with ⟨R1, s1⟩ | ⟨a, u, e, mu, r⟩
  · exact h.ps.run pins s σ H Dn I ⟨cn, f, fz i Γ, R1, M.wp_mono q (fun r q => q.pre s1) fun _ x => x⟩
  · obtain ⟨od, I1⟩ := I.lock e mu
    obtain ⟨R1, s1⟩ := r od
    exact h.ps.run pins s σ _ Dn I1 ⟨cn, f, fz i Γ, R1, M.wp_mono q (fun r q => q.pre s1) fun _ x => x⟩

/-! ### return, expressions, raise -/
def retM (ma : Ga → M D) : Ga → M (Ct × Ga) := fun Γ => ma Γ >>= fun d => .ret (.rt d, Γ)
theorem Rl.keepAt {K : PySem.W.Frag} {cn : Cn} {f : Nat → Addr} {σ : L2.St} {H H' : Hp} {Γ : Ga} (R : Rl K A cn f σ H Γ) (k : Kx A.gh.Z H H') : ∀ a o, ¬ A.gh.Z a → A.H0 a = some o → At cn H' a o := fun a o z e => by
  rcases R.keep a o z e with q | ⟨ob, hl, q⟩
  · exact .inl (k _ _ z q)
  · exact .inr ⟨ob, hl, k _ _ z q⟩
theorem psv_ret (hmd : md = .f ∨ md = .s) (h : PEV X A E md e ma) : PSV X A E md (.Return (some e) pos) (retM ma) := by
  refine ⟨imp_ps (ps_ret h.pe) fun Dn σ H ⟨cn, f, Γ, R, h⟩ => ⟨cn, f, Γ, R, M.wp_mono (M.wp_bind.mp h) (fun d q w H1 k1 g1 r1 => ?_) fun _ x => x⟩⟩
  refine q w H1 (R.keepAt k1) g1 ?_
  rcases hmd with rfl | rfl
  · exact Rf.mono r1 .refl (fun _ _ p _ => p.1) (fun a h => R.h0_none h) fun _ _ _ e => e
  · exact Rp.mono .refl (fun _ _ p _ => p.1) r1
theorem psv_retN : PSV X A E md (.Return none pos) (retM fun _ => .ret .non) := by
  refine ⟨imp_ps ps_retN fun Dn σ H ⟨cn, f, Γ, R, h⟩ => ?_⟩
  refine h .non H (R.keepAt .refl) R.g ?_
  cases md with
  | b => exact .non
  | s => exact .non
  | f => exact .non
def getO (i : Nat) (Γ : Ga) : M D := match Γ[i]? with
  | some (.own d) => .ret d
  | _ => .stuck
theorem psv_retO {i : Nat} (hN : X.N[i]? = some x) (hv : Vis X.env.scope x) (hd : (x == ("__debug__" : Str)) = false := by decide) (hcd : (x == ("__classdict__" : Str)) = false := by decide) : PSV X A E .f (.Return (some (.Name x p)) pos) (retM (getO i)) := by
  refine ⟨imp_ps (ps_ret (pe_var hN hv hd hcd)) fun Dn σ H ⟨cn, f, Γ, R, h⟩ => ?_⟩
  have h := M.wp_bind.mp h
  unfold getO at h
  split at h
  · rename_i d e
    obtain ⟨h1, h2, h3, h4⟩ := R.ow i d e
    refine ⟨_, h1, h _ H (R.keepAt .refl) R.g ?_⟩
    have h5 : Ow A.K H (fun b => A.P0 b ∧ b ≠ f i) (f i) d := h4.mono .refl (fun b _ p _ => ⟨p.1, fun z => p.2.2 i d e z.symm⟩) fun _ z => z
    cases d with
    | lst ds => exact ⟨_, rfl, h2, h5⟩
    | dct t kvs => exact ⟨_, rfl, h2, h5⟩
    | _ => exact h4.elim
  · exact h.elim
/-- a value that is no list and no dict counts as new -/
theorem pev_sf (h : PEV X A E .s e m) : PEV X A E .f e (fun Γ => m Γ >>= keepB) := by
  refine ⟨imp_pe h.pe fun σ H Q ⟨cn, f, Γ, R, h⟩ => ⟨cn, f, Γ, R, M.wp_mono (M.wp_bind.mp h) (fun d q w H' k g r => ?_) fun _ x => x⟩⟩
  cases d with
  | lst ds => exact q.elim
  | dct t kvs => exact q.elim
  | non => exact q w H' k g r
  | bl b => exact q w H' k g r
  | int i => exact q w H' k g r
  | str x => exact q w H' k g r
  | tup ds => exact q w H' k g r
  | raw v => exact q w H' k g r
def exprM (ma : Ga → M D) : Ga → M (Ct × Ga) := fun Γ => ma Γ >>= fun _ => .ret (.nx, Γ)
theorem psv_expr (h : PEV X A E md1 e ma) (hs : swapsWith e none pos.line X.env = pure false := by rfl) : PSV X A E md (.Expr e pos) (exprM ma) :=
  ⟨imp_ps (ps_expr h.pe hs) fun Dn σ H ⟨cn, f, Γ, R, h⟩ => ⟨cn, f, Γ, R, M.wp_mono (M.wp_bind.mp h) (fun d q w H1 k1 g1 r1 => q f σ H1 (.kx k1) (R.kx k1 g1)) fun _ x => x⟩⟩
def raiseM (x : Exn) : Ga → M (Ct × Ga) := fun _ => .exc x
theorem psv_raise {W : WX} {C : Addr} (hc : X.calm = true) (tk : Takes X W) (he : PMk X e (fun _ H Q => Q (.ref C) none H)) (hm : X.mg x = some (.ref C)) (hW : ∀ c d σ H, EK X.mg E c d H → W c d σ H) : PSV X A E md (.Raise (some e) none pos) (raiseM (x, none)) := by
  refine ⟨imp_ps (ps_raise hc tk he) fun Dn σ H ⟨cn, f, Γ, R, h⟩ => ?_⟩
  obtain ⟨h1, h2⟩ := (show xP A E cn (x, none) from h)
  exact hW _ _ _ _ ⟨(x, none), ⟨hm, rfl⟩, h2 H (R.exn h1 .refl) R.g⟩

/-! ### targets -/
/-- but the slots ts, all is as it was -/
def Ag (ts : List Nat) (σ σ' : L2.St) (Γ Γ' : Ga) : Prop := σ'.length = σ.length ∧ (∀ j, j ∉ ts → σ'[j]? = σ[j]?) ∧ ∀ j : Nat, j ∉ ts → Γ'[j]? = Γ[j]?
def tG (K : PySem.W.Frag) (A : Am) (ts : List Nat) (bnd : D → Ga → M Ga) : TG := fun v σ H Q => ∃ cn f Γ d, Rl K A cn f σ H Γ ∧ Rp K H (Fz A cn f Γ) v d ∧
  (bnd d Γ).wp (fun Γ' => ∀ σ', Hs A cn f Γ H f Γ' H → Rl K A cn f σ' H Γ' → Ag ts σ σ' Γ Γ' → Q σ' H) fun _ => False
structure PGV (X : Cx) (A : Am) (tg : Expr) (ts : List Nat) (bnd : D → Ga → M Ga) : Prop where
  pg : PG X tg (tG A.K A ts bnd)
def tGs (K : PySem.W.Frag) (A : Am) (ts : List Nat) (bnd : List D → Ga → M Ga) : TGs := fun vs σ H Q => ∃ cn f Γ ds, Rl K A cn f σ H Γ ∧ RpL K H (Fz A cn f Γ) vs ds ∧
  (bnd ds Γ).wp (fun Γ' => ∀ σ', Hs A cn f Γ H f Γ' H → Rl K A cn f σ' H Γ' → Ag ts σ σ' Γ Γ' → Q σ' H) fun _ => False
structure PGVs (X : Cx) (A : Am) (tgs : List Expr) (ts : List Nat) (bnd : List D → Ga → M Ga) : Prop where
  pg : PGs X tgs (tGs A.K A ts bnd)
theorem imp_pg {tg : Expr} {t t' : TG} (h : PG X tg t) (i : ∀ v σ H Q, t' v σ H Q → t v σ H Q) : PG X tg t' := ⟨fun pins s σ H v u Q I r q => h.run pins s σ H v u Q I r (i v σ H Q q)⟩
theorem imp_pgs {tg : List Expr} {t t' : TGs} (h : PGs X tg t) (i : ∀ v σ H Q, t' v σ H Q → t v σ H Q) : PGs X tg t' := ⟨fun pins s σ H v u Q I r q => h.run pins s σ H v u Q I r (i v σ H Q q)⟩
def bndN (i : Nat) : D → Ga → M Ga := fun d Γ => .ret (Γ.set i (.v d))
theorem pgv_name {i : Nat} (hN : X.N.Nodup) (hi : X.N[i]? = some x) (hx : Loc X.env.scope x) (hf : X.fn x = true ∨ X.env.scope.names.lookup x = some .local := by first | exact .inl rfl | exact .inr rfl | assumption) : PGV X A (.Name x pos) [i] (bndN i) :=
  ⟨imp_pg (pg_name hN hi hx hf) fun v σ H Q ⟨cn, f, Γ, d, R, r, h⟩ => h _ .setV (R.setV r) ⟨List.length_set, fun j hj => set_ne (fun z => hj (by simp [z])), fun j hj => set_ne (fun z => hj (by simp [z]))⟩⟩
def bndNil : List D → Ga → M Ga := fun ds Γ => match ds with
  | [] => .ret Γ
  | _ => .stuck
def bndCons (b : D → Ga → M Ga) (bs : List D → Ga → M Ga) : List D → Ga → M Ga := fun ds Γ => match ds with
  | d :: r => b d Γ >>= bs r
  | _ => .stuck
theorem pgv_nil : PGVs X A [] [] bndNil := by
  refine ⟨imp_pgs pgs_nil fun vs σ H Q ⟨cn, f, Γ, ds, R, r, h⟩ => ?_⟩
  cases r with
  | nil => exact ⟨rfl, h σ .refl R ⟨rfl, fun _ _ => rfl, fun _ _ => rfl⟩⟩
  | cons h1 h2 => exact h.elim
theorem pgv_cons {tg : Expr} {tgs : List Expr} {ts ts' : List Nat} {bn : D → Ga → M Ga} {bs : List D → Ga → M Ga} (h1 : PGV X A tg ts bn) (h2 : PGVs X A tgs ts' bs) (hs : (assignEach (tg :: tgs) X.env).map (·.2) = assign tg X.env :: (assignEach tgs X.env).map (·.2) := by rfl) :
    PGVs X A (tg :: tgs) (ts ++ ts') (bndCons bn bs) := by
  refine ⟨imp_pgs (pgs_cons h1.pg h2.pg hs) fun vs σ H Q ⟨cn, f, Γ, ds, R, r, h⟩ => ?_⟩
  cases r with
  | nil => exact h.elim
  | cons r1 r2 =>
    refine ⟨_, _, rfl, cn, f, Γ, _, R, r1, M.wp_mono (M.wp_bind.mp h) (fun Γ1 q σ1 s1 R1 e1 => ?_) fun _ x => x⟩
    refine ⟨cn, f, Γ1, _, R1, r2.mono .refl (fun a u p r => by obtain ⟨o, e⟩ := rd_some r; exact (s1 a p o e).1), M.wp_mono q (fun Γ2 q σ2 s2 R2 e2 => q σ2 (s1.trans s2) R2 ⟨e2.1.trans e1.1, fun j hj => ?_, fun j hj => ?_⟩) fun _ x => x⟩
    · rw [e2.2.1 j fun z => hj (List.mem_append_right _ z), e1.2.1 j fun z => hj (List.mem_append_left _ z)]
    · rw [e2.2.2 j fun z => hj (List.mem_append_right _ z), e1.2.2 j fun z => hj (List.mem_append_left _ z)]
def bndT (n : Nat) (bs : List D → Ga → M Ga) : D → Ga → M Ga := fun d Γ => match d with
  | .tup ds => if ds.length = n then bs ds Γ else .stuck
  | _ => .stuck
theorem pgv_tup {tgs : List Expr} {k n : Nat} {ts : List Nat} {bs : List D → Ga → M Ga} (hk : KLe A.K X.K) (hc : X.calm = true) (h : PGVs X A tgs ts bs) (hn : (assignEach tgs X.env).length = n := by rfl) (hst : (assignEach tgs X.env).findIdx? (·.1) = none := by rfl) : PGV X A (.Tuple tgs k pos) ts (bndT n bs) := by
  refine ⟨imp_pg (pg_tup hc h.pg hn hst) fun v σ H Q ⟨cn, f, Γ, d, R, r, h⟩ => ?_⟩
  cases r with
  | @tup a xs ds hq r =>
    have h : (if ds.length = n then bs ds Γ else .stuck).wp _ _ := h
    by_cases hl : ds.length = n
    · rw [if_pos hl] at h
      exact ⟨_, _, rfl, TpX.kle hk hq, by rw [r.length]; exact hl, cn, f, Γ, ds, R, r, h⟩
    · rw [if_neg hl] at h; exact h.elim
  | _ => exact h.elim

/-! ### assignments -/
def asgM (ma : Ga → M D) (bnd : D → Ga → M Ga) : Ga → M (Ct × Ga) := fun Γ => ma Γ >>= fun d => bnd d Γ >>= fun Γ' => .ret (.nx, Γ')
theorem wp_false {α : Type} {m : M α} {Q : α → Prop} {E' : Exn → Prop} (h : m.wp Q fun _ => False) : m.wp Q E' := M.wp_mono h (fun _ q => q) fun _ z => z.elim
/-- a target neither draws nor raises -/
def TameG (bnd : D → Ga → M Ga) : Prop := ∀ d Γ Q E', (bnd d Γ).wp Q E' → (bnd d Γ).wp Q fun _ => False
theorem tame_n {i : Nat} : TameG (bndN i) := fun _ _ _ _ h => h
theorem tame_nil : ∀ ds Γ Q E', (bndNil ds Γ).wp Q E' → (bndNil ds Γ).wp Q fun _ => False := fun ds Γ Q E' h => by
  cases ds with
  | nil => exact h
  | cons d r => exact h.elim
theorem tame_cons {bn : D → Ga → M Ga} {bs : List D → Ga → M Ga} (h1 : TameG bn) (h2 : ∀ ds Γ Q E', (bs ds Γ).wp Q E' → (bs ds Γ).wp Q fun _ => False) : ∀ ds Γ Q E', (bndCons bn bs ds Γ).wp Q E' → (bndCons bn bs ds Γ).wp Q fun _ => False := fun ds Γ Q E' h => by
  cases ds with
  | nil => exact h.elim
  | cons d r => exact M.wp_bind.mpr (M.wp_mono (h1 _ _ _ _ (M.wp_bind.mp h)) (fun Γ' q => h2 _ _ _ _ q) fun _ x => x)
theorem tame_t {n : Nat} {bs : List D → Ga → M Ga} (h2 : ∀ ds Γ Q E', (bs ds Γ).wp Q E' → (bs ds Γ).wp Q fun _ => False) : TameG (bndT n bs) := fun d Γ Q E' h => by
  cases d with
  | tup ds =>
    have h : (if ds.length = n then bs ds Γ else .stuck).wp Q E' := h
    show (if ds.length = n then bs ds Γ else .stuck).wp Q _
    by_cases hl : ds.length = n
    · rw [if_pos hl] at h ⊢; exact h2 _ _ _ _ h
    · rw [if_neg hl] at h; exact h.elim
  | _ => exact h.elim
theorem psv_asg {tg : Expr} {ts : List Nat} {bnd : D → Ga → M Ga} (he : PEV X A E .s e ma) (hg : PGV X A tg ts bnd) (ht : TameG bnd) (hs : swapsWithSole [tg] e pos.line X.env = pure false := by rfl) (hw : swappedStores [tg] e X.env = pure none := by rfl)
    (h1 : (assignEach [tg] X.env).map (·.2) = [assign tg X.env] := by rfl) : PSV X A E md (.Assign [tg] e pos) (asgM ma bnd) := by
  refine ⟨imp_ps (ps_asg he.pe hg.pg hs hw h1) fun Dn σ H ⟨cn, f, Γ, R, h⟩ => ⟨cn, f, Γ, R, M.wp_mono (M.wp_bind.mp h) (fun d q w H1 k1 g1 r1 => ?_) fun _ x => x⟩⟩
  exact ⟨cn, f, Γ, d, R.kx k1 g1, r1, M.wp_mono (ht _ _ _ _ (M.wp_bind.mp q)) (fun Γ' q σ' s' R' _ => q f σ' H1 ((Hs.kx k1).trans s') R') fun _ z => z⟩
def slF (d : D) : Sl := match d with
  | .lst ds => .own (.lst ds)
  | .dct t kvs => .own (.dct t kvs)
  | d => .v d
theorem Rl.setF {K : PySem.W.Frag} {cn : Cn} {f : Nat → Addr} {σ : L2.St} {H H' : Hp} {Γ : Ga} {w : V} {d : D} (R : Rl K A cn f σ H Γ) (k : Kx A.gh.Z H H') (g : A.gh.G H') {i : Nat} (r : Rf K H H' (Fz A cn f Γ) w d) :
    ∃ f', Rl K A cn f' (σ.set i (some w)) H' (Γ.set i (slF d)) ∧ Hs A cn f Γ H f' (Γ.set i (slF d)) H' := by
  cases d with
  | lst ds =>
    obtain ⟨a, rfl, hn, ho⟩ := r
    exact ⟨_, R.setO k g hn ho, .setO k hn⟩
  | dct t kvs =>
    obtain ⟨a, rfl, hn, ho⟩ := r
    exact ⟨_, R.setO k g hn ho, .setO k hn⟩
  | non => exact ⟨f, (R.kx k g).setV r, (Hs.kx k).trans .setV⟩
  | bl b => exact ⟨f, (R.kx k g).setV r, (Hs.kx k).trans .setV⟩
  | int i => exact ⟨f, (R.kx k g).setV r, (Hs.kx k).trans .setV⟩
  | str x => exact ⟨f, (R.kx k g).setV r, (Hs.kx k).trans .setV⟩
  | tup ds => exact ⟨f, (R.kx k g).setV r, (Hs.kx k).trans .setV⟩
  | raw v => exact ⟨f, (R.kx k g).setV r, (Hs.kx k).trans .setV⟩
/-- name = what is new -/
def setM (i : Nat) (ma : Ga → M D) : Ga → M (Ct × Ga) := fun Γ => ma Γ >>= fun d => .ret (.nx, Γ.set i (slF d))
theorem psv_setOf {i : Nat} {pos' : Pos} (hps : ∀ te, PE X e te → PS X (.Assign [.Name x pos'] e pos) (tAsg te (gName i))) (he : PEV X A E .f e ma) : PSV X A E md (.Assign [.Name x pos'] e pos) (setM i ma) := by
  refine ⟨imp_ps (hps _ he.pe) fun Dn σ H ⟨cn, f, Γ, R, h⟩ => ⟨cn, f, Γ, R, M.wp_mono (M.wp_bind.mp h) (fun d q w H1 k1 g1 r1 => ?_) fun _ x => x⟩⟩
  obtain ⟨f', R', s'⟩ := R.setF k1 g1 (i := i) r1
  exact q f' _ H1 s' R'
theorem psv_set {i : Nat} {pos' : Pos} (hN : X.N.Nodup) (hi : X.N[i]? = some x) (hx : Loc X.env.scope x) (he : PEV X A E .f e ma) (hs : swapsWith e (some (.Name x pos')) pos.line X.env = pure false := by rfl) (hf : X.fn x = true ∨ X.env.scope.names.lookup x = some .local := by first | exact .inl rfl | exact .inr rfl | assumption) :
    PSV X A E md (.Assign [.Name x pos'] e pos) (setM i ma) := psv_setOf (fun te h => ps_set hN hi hx h hs hf) he
/-- name = a value that stays where it is -/
def setSM (i : Nat) (ma : Ga → M D) : Ga → M (Ct × Ga) := fun Γ => ma Γ >>= fun d => .ret (.nx, Γ.set i (.v d))
theorem psv_setS {i : Nat} {pos' : Pos} (hN : X.N.Nodup) (hi : X.N[i]? = some x) (hx : Loc X.env.scope x) (he : PEV X A E .s e ma) (hs : swapsWith e (some (.Name x pos')) pos.line X.env = pure false := by rfl) (hf : X.fn x = true ∨ X.env.scope.names.lookup x = some .local := by first | exact .inl rfl | exact .inr rfl | assumption) :
    PSV X A E md (.Assign [.Name x pos'] e pos) (setSM i ma) := by
  refine ⟨imp_ps (ps_set hN hi hx he.pe hs hf) fun Dn σ H ⟨cn, f, Γ, R, h⟩ => ⟨cn, f, Γ, R, M.wp_mono (M.wp_bind.mp h) (fun d q w H1 k1 g1 r1 => ?_) fun _ x => x⟩⟩
  exact q f _ H1 ((Hs.kx k1).trans .setV) ((R.kx k1 g1).setV r1)
end
end Px

set_option Elab.async false
set_option linter.all false
set_option maxRecDepth 100000
set_option autoImplicit false
namespace Px
open PySem PySem.Spec PyProof.Rows L2
section
variable {K : PySem.W.Frag} {A : Am} {cn : Cn} {f : Nat → Addr} {σ : L2.St} {H H' : Hp} {Γ : Ga} {a b : Addr} {d : D} {w : V}
/-! ### what is made is hidden until it has a name -/
def Cn.plus (cn : Cn) (as : List Addr) : Cn := ⟨cn.lk, as ++ cn.hd, cn.e⟩
theorem fz_plus (as : List Addr) : Fz A (cn.plus as) f Γ b ↔ Fz A cn f Γ b ∧ b ∉ as := by
  unfold Fz Cn.plus
  simp only [List.mem_append, not_or]
  exact ⟨fun h => ⟨⟨h.1, h.2.1.2, h.2.2⟩, h.2.1.1⟩, fun h => ⟨h.1.1, ⟨h.2, h.1.2.1⟩, h.1.2.2⟩⟩
theorem Rl.hide (R : Rl K A cn f σ H Γ) (k : Kx A.gh.Z H H') (g : A.gh.G H') {as : List Addr} (hn : ∀ a, a ∈ as → H a = none ∧ ∃ o, H' a = some o ∧ Mut (some o)) : Rl K A (cn.plus as) f σ H' Γ := by
  have R1 := R.kx k g
  have pp : ∀ b u, Fz A cn f Γ b → Rd H b u → Fz A (cn.plus as) f Γ b := fun b u p r => (fz_plus as).mpr ⟨p, fun z => by
    obtain ⟨o, e⟩ := rd_some r
    rw [(hn b z).1] at e; cases e⟩
  refine ⟨R.len, g, R1.keep, fun b ob hb => ?_, fun b hb => ?_, fun i d e => ?_, fun i d e => ?_, R.inj⟩
  · obtain ⟨p, u, e⟩ := R.lkf b ob hb
    exact ⟨pp b (.frz ob u) p (.inl e), (R1.lkf b ob hb).2⟩
  · rcases List.mem_append.mp hb with hb | hb
    · exact ⟨(fun z => by obtain ⟨_, e, _⟩ := A.gh.gz H b R.g z; rw [(hn b hb).1] at e; cases e), let ⟨o, q, m⟩ := (hn b hb).2; ⟨o, q, mut_mb m⟩⟩
    · exact R1.hdm b hb
  · obtain ⟨w, h1, h2⟩ := R.sl i d e
    exact ⟨w, h1, h2.mono (R.ho k) pp⟩
  · obtain ⟨h1, h2, h3, h4⟩ := R.ow i d e
    refine ⟨h1, h2, fun z => ?_, h4.mono (R.ho k) pp fun u => k _ _ (R.own_nz e).1⟩
    rcases List.mem_append.mp z with z | z
    · obtain ⟨o, q, _⟩ := h4.mut
      rw [(hn _ z).1] at q; cases q
    · exact h3 z
/-- the hidden one gets the name i -/
theorem Rl.unhide {as : List Addr} (R : Rl K A (cn.plus (a :: as)) f σ H Γ) (ha : a ∉ as) (hc : a ∉ cn.hd) (h0 : A.H0 a = none) {i : Nat} (o : Ow K H (Fz A (cn.plus (a :: as)) f Γ) a d) :
    Rl K A (cn.plus as) (fset f i a) (σ.set i (some (.ref a))) H (Γ.set i (.own d)) ∧ ∀ b, Fz A (cn.plus (a :: as)) f Γ b → Fz A (cn.plus as) (fset f i a) (Γ.set i (.own d)) b := by
  have pp : ∀ b, Fz A (cn.plus (a :: as)) f Γ b → Fz A (cn.plus as) (fset f i a) (Γ.set i (.own d)) b := fun b p => by
    obtain ⟨p1, p2⟩ := (fz_plus (a :: as)).mp p
    rw [List.mem_cons, not_or] at p2
    exact fz_setO ((fz_plus as).mpr ⟨p1, p2.2⟩) p2.1
  have other : ∀ {j : Nat} {e : D}, Γ[j]? = some (.own e) → f j ≠ a := fun {j e} hj z => by
    obtain ⟨_, _, h3, _⟩ := R.ow j e hj
    exact h3 (by rw [z]; exact List.mem_append_left _ List.mem_cons_self)
  refine ⟨⟨by rw [List.length_set, List.length_set]; exact R.len, R.g, R.keep, fun b ob hb => ⟨pp b (R.lkf b ob hb).1, (R.lkf b ob hb).2⟩, fun b hb => R.hdm b (by
    rcases List.mem_append.mp hb with hb | hb
    · exact List.mem_append_left _ (List.mem_cons_of_mem _ hb)
    · exact List.mem_append_right _ hb), fun j e hj => ?_, fun j e hj => ?_, fun j l d' e hj hl ef => ?_⟩, pp⟩
  · rcases set_get hj with ⟨_, e2, _⟩ | ⟨ne, hj⟩
    · cases e2
    · obtain ⟨w', h1, h2⟩ := R.sl j e hj
      exact ⟨w', by rw [set_ne ne]; exact h1, h2.mono .refl fun b _ p _ => pp b p⟩
  · rcases set_get hj with ⟨e1, e2, hl⟩ | ⟨ne, hj⟩
    · cases e2
      rw [e1, fset_same]
      exact ⟨set_at (by rw [R.len]; exact hl), h0, fun z => (List.mem_append.mp z).elim ha hc, o.mono .refl (fun b _ p _ => pp b p) fun _ z => z⟩
    · rw [fset_ne ne]
      obtain ⟨h1, h2, h3, h4⟩ := R.ow j e hj
      refine ⟨by rw [set_ne ne]; exact h1, h2, fun z => h3 ?_, h4.mono .refl (fun b _ p _ => pp b p) fun _ z => z⟩
      rcases List.mem_append.mp z with z | z
      · exact List.mem_append_left _ (List.mem_cons_of_mem _ z)
      · exact List.mem_append_right _ z
  · rcases set_get hj with ⟨e1, _, _⟩ | ⟨ne, hj1⟩
    · rcases set_get hl with ⟨e2, _, _⟩ | ⟨ne2, hl1⟩
      · rw [e1, e2]
      · rw [e1, fset_same, fset_ne ne2] at ef
        exact absurd ef.symm (other hl1)
    · rcases set_get hl with ⟨e2, _, _⟩ | ⟨ne2, hl1⟩
      · rw [e2, fset_same, fset_ne ne] at ef
        exact absurd ef (other hj1)
      · rw [fset_ne ne, fset_ne ne2] at ef
        exact R.inj j l d' e hj1 hl1 ef
/-- values for slots: as: where the new ones lie -/
inductive RmL (K : PySem.W.Frag) (A : Am) (H : Hp) (P : Addr → Prop) : List Addr → List V → List Sl → Prop
  | nil : RmL K A H P [] [] []
  | v {as : List Addr} {w : V} {ws : List V} {d : D} {ss : List Sl} : Rp K H P w d → RmL K A H P as ws ss → RmL K A H P as (w :: ws) (.v d :: ss)
  | o {a : Addr} {as : List Addr} {ws : List V} {d : D} {ss : List Sl} : Ow K H P a d → A.H0 a = none → a ∉ as → RmL K A H P as ws ss → RmL K A H P (a :: as) (.ref a :: ws) (.own d :: ss)
theorem RmL.mono {P P' : Addr → Prop} (o : Ho P H H') (pp : ∀ a u, P a → Rd H a u → P' a) : ∀ {as : List Addr} {ws : List V} {ss : List Sl}, RmL K A H P as ws ss → (∀ a u, a ∈ as → H a = some u → H' a = some u) → RmL K A H' P' as ws ss
  | _, _, _, .nil, _ => .nil
  | _, _, _, .v h r, k => .v (h.mono o pp) (r.mono o pp k)
  | _, _, _, .o h h0 ha r, k => .o (h.mono o pp fun u => k _ u List.mem_cons_self) h0 ha (r.mono o pp fun a u hm => k a u (List.mem_cons_of_mem _ hm))
def setAll {α : Type} : List Nat → List α → List α → List α
  | i :: is, x :: xs, l => setAll is xs (l.set i x)
  | _, _, l => l
theorem assignAll : ∀ {as : List Addr} {ws : List V} {ss : List Sl} (is : List Nat) {f : Nat → Addr} {σ : L2.St} {Γ : Ga}, (∀ a, a ∈ as → a ∉ cn.hd) → RmL K A H (Fz A (cn.plus as) f Γ) as ws ss → is.length = ss.length → Rl K A (cn.plus as) f σ H Γ →
    ∃ f', Rl K A cn f' (setAll is (ws.map some) σ) H (setAll is ss Γ) ∧ ∀ b, Fz A (cn.plus as) f Γ b → Fz A cn f' (setAll is ss Γ) b
  | _, _, _, [], f, σ, Γ, _, .nil, _, R => ⟨f, R, fun b p => p⟩
  | _, _, _, [], _, _, _, _, .v _ _, hl, _ => by simp at hl
  | _, _, _, [], _, _, _, _, .o _ _ _ _, hl, _ => by simp at hl
  | _, _, _, i :: is, _, _, _, _, .nil, hl, _ => by simp at hl
  | as, _, _, i :: is, f, σ, Γ, hd, .v (w := w) (d := d) h r, hl, R => by
    have R1 := R.setV (i := i) h
    obtain ⟨f', R2, p2⟩ := assignAll is hd (r.mono .refl (fun a _ p _ => fz_setV (i := i) (d := d) p) fun _ _ _ z => z) (by simpa using hl) R1
    exact ⟨f', R2, fun b p => p2 b (fz_setV p)⟩
  | a :: as, _, _, i :: is, f, σ, Γ, hd, .o h h0 ha r, hl, R => by
    obtain ⟨R1, p1⟩ := R.unhide ha (hd a List.mem_cons_self) h0 (i := i) h
    obtain ⟨f', R2, p2⟩ := assignAll is (fun a hm => hd a (List.mem_cons_of_mem _ hm)) (r.mono .refl (fun b _ p _ => p1 b p) fun _ _ _ z => z) (by simpa using hl) R1
    exact ⟨f', R2, fun b p => p2 b (p1 b p)⟩
end
section
variable {X : Cx} {A : Am} {E : EN} {md md1 md2 md3 : Md} {e a b c : Expr} {es rest : List Expr} {st : Stmt} {sts st2 : List Stmt} {m ma mb mc : Ga → M D} {mT mU : Ga → M Bool} {ml : Ga → M (List Sl)} {m1 m2 : Ga → M (Ct × Ga)} {pos p : Pos} {x : Str}
def tM (K : PySem.W.Frag) (A : Am) (E : EN) (ml : Ga → M (List Sl)) : TA := fun σ H Q => ∃ cn f Γ, Rl K A cn f σ H Γ ∧
  (ml Γ).wp (fun ss => ∀ as ws H', Kx A.gh.Z H H' → A.gh.G H' → (∀ a, a ∈ as → H a = none) → Rl K A (cn.plus as) f σ H' Γ → RmL K A H' (Fz A (cn.plus as) f Γ) as ws ss → Q ws H') (xP A E cn)
structure PMV (X : Cx) (A : Am) (E : EN) (es : List Expr) (ml : Ga → M (List Sl)) : Prop where
  pa : PA X es (tM A.K A E ml)
  len : ∀ Γ Q E', (ml Γ).wp Q E' → (ml Γ).wp (fun ss => Q ss ∧ ss.length = es.length) E'
def nilS : Ga → M (List Sl) := fun _ => .ret []
def consS (m : Ga → M D) (ml : Ga → M (List Sl)) : Ga → M (List Sl) := fun Γ => m Γ >>= fun d => ml Γ >>= fun ss => .ret (.v d :: ss)
def consF (m : Ga → M D) (ml : Ga → M (List Sl)) : Ga → M (List Sl) := fun Γ => m Γ >>= fun d => ml Γ >>= fun ss => .ret (slF d :: ss)
theorem pmv_nil : PMV X A E [] nilS := ⟨imp_pa pa_nil fun σ H Q ⟨cn, f, Γ, R, h⟩ => h [] [] H .refl R.g (fun _ z => nomatch z) R .nil, fun _ _ _ h => ⟨h, rfl⟩⟩
theorem len_cons {m : Ga → M D} {ml : Ga → M (List Sl)} {g : D → Sl} {es : List Expr} (h2 : ∀ Γ Q E', (ml Γ).wp Q E' → (ml Γ).wp (fun ss => Q ss ∧ ss.length = es.length) E') (Γ : Ga) (Q : List Sl → Prop) (E' : Exn → Prop)
    (h : (m Γ >>= fun d => ml Γ >>= fun ss => M.ret (g d :: ss)).wp Q E') : (m Γ >>= fun d => ml Γ >>= fun ss => M.ret (g d :: ss)).wp (fun ss => Q ss ∧ ss.length = (e :: es).length) E' := by
  refine M.wp_bind.mpr (M.wp_mono (M.wp_bind.mp h) (fun d q => ?_) fun _ x => x)
  exact M.wp_bind.mpr (M.wp_mono (h2 Γ _ _ (M.wp_bind.mp q)) (fun ds q => ⟨q.1, congrArg (· + 1) q.2⟩) fun _ x => x)
theorem Rl.congr {K : PySem.W.Frag} {cn : Cn} {f : Nat → Addr} {σ : L2.St} {H : Hp} {Γ : Ga} {l l' : List Addr} (R : Rl K A (cn.plus l) f σ H Γ) (h : ∀ b, b ∈ l' ↔ b ∈ l) : Rl K A (cn.plus l') f σ H Γ := by
  have hh : ∀ b, b ∈ (cn.plus l').hd ↔ b ∈ (cn.plus l).hd := fun b => by show b ∈ l' ++ cn.hd ↔ b ∈ l ++ cn.hd; rw [List.mem_append, List.mem_append, h b]
  have ff : ∀ b, Fz A (cn.plus l) f Γ b → Fz A (cn.plus l') f Γ b := fun b p => ⟨p.1, fun z => p.2.1 ((hh b).mp z), p.2.2⟩
  exact ⟨R.len, R.g, R.keep, fun b ob hb => ⟨ff b (R.lkf b ob hb).1, (R.lkf b ob hb).2⟩, fun b hb => R.hdm b ((hh b).mp hb), fun i d e => let ⟨w, h1, h2⟩ := R.sl i d e; ⟨w, h1, h2.mono .refl fun b _ p _ => ff b p⟩,
    fun i d e => let ⟨h1, h2, h3, h4⟩ := R.ow i d e; ⟨h1, h2, fun z => h3 ((hh _).mp z), h4.mono .refl (fun b _ p _ => ff b p) fun _ z => z⟩, R.inj⟩
theorem pmv_s (h1 : PEV X A E .s e m) (h2 : PMV X A E es ml) (hs : starEach (e :: es) X.env = (false, eval e X.env) :: starEach es X.env := by rfl) : PMV X A E (e :: es) (consS m ml) := by
  refine ⟨imp_pa (pa_cons h1.pe h2.pa hs) fun σ H Q ⟨cn, f, Γ, R, h⟩ => ⟨cn, f, Γ, R, M.wp_mono (M.wp_bind.mp h) (fun d q w H1 k1 g1 r1 => ?_) fun _ x => x⟩, len_cons h2.len⟩
  have R1 := R.kx k1 g1
  refine ⟨cn, f, Γ, R1, M.wp_mono (M.wp_bind.mp q) (fun ds q as ws H2 k2 g2 n2 R2 r2 => ?_) fun _ x => x⟩
  exact q as (w :: ws) H2 (k1.trans k2) g2 (fun a hm => R.kx_none k1 g1 (n2 a hm)) R2 (.v (r1.mono (R1.ho k2) fun b u p r => (fz_plus as).mpr ⟨p, fun z => by obtain ⟨o, e⟩ := rd_some r; rw [n2 b z] at e; cases e⟩) r2)
theorem pmv_f (h1 : PEV X A E .f e m) (h2 : PMV X A E es ml) (hs : starEach (e :: es) X.env = (false, eval e X.env) :: starEach es X.env := by rfl) : PMV X A E (e :: es) (consF m ml) := by
  refine ⟨imp_pa (pa_cons h1.pe h2.pa hs) fun σ H Q ⟨cn, f, Γ, R, h⟩ => ⟨cn, f, Γ, R, M.wp_mono (M.wp_bind.mp h) (fun d q w H1 k1 g1 r1 => ?_) fun _ x => x⟩, len_cons h2.len⟩
  have R1 := R.kx k1 g1
  have plain : slF d = .v d → Rp A.K H1 (Fz A cn f Γ) w d → tM A.K A E ml σ H1 fun ws H2 => Q (w :: ws) H2 := fun e1 r1 => by
    refine ⟨cn, f, Γ, R1, M.wp_mono (M.wp_bind.mp q) (fun ds q as ws H2 k2 g2 n2 R2 r2 => ?_) fun _ x => x⟩
    refine q as (w :: ws) H2 (k1.trans k2) g2 (fun a hm => R.kx_none k1 g1 (n2 a hm)) R2 ?_
    rw [e1]
    exact .v (r1.mono (R1.ho k2) fun b u p r => (fz_plus as).mpr ⟨p, fun z => by obtain ⟨o, e⟩ := rd_some r; rw [n2 b z] at e; cases e⟩) r2
  have made : ∀ a, slF d = .own d → w = .ref a → H a = none → Ow A.K H1 (fun b => Fz A cn f Γ b ∧ b ≠ a) a d → tM A.K A E ml σ H1 fun ws H2 => Q (w :: ws) H2 := fun a e1 e2 hn ho => by
    subst e2
    have hm := ho.mut
    have R1' : Rl A.K A (cn.plus [a]) f σ H1 Γ := R.hide k1 g1 fun b hb => by
      have e : b = a := by simpa using hb
      subst e
      exact ⟨hn, hm⟩
    refine ⟨cn.plus [a], f, Γ, R1', M.wp_mono (M.wp_bind.mp q) (fun ds q as ws H2 k2 g2 n2 R2 r2 => ?_) fun _ x => x⟩
    have na : a ∉ as := fun z => by obtain ⟨o, e, _⟩ := hm; rw [n2 a z] at e; cases e
    have e3 : (cn.plus [a]).plus as = cn.plus (as ++ [a]) := by unfold Cn.plus; simp
    rw [e3] at R2 r2
    have ff : ∀ b, Fz A (cn.plus (as ++ [a])) f Γ b → Fz A (cn.plus (a :: as)) f Γ b := fun b p => by
      obtain ⟨p1, p2⟩ := (fz_plus _).mp p
      refine (fz_plus _).mpr ⟨p1, fun z => p2 ?_⟩
      rcases List.mem_cons.mp z with z | z
      · rw [z]; simp
      · exact List.mem_append_left _ z
    refine q (a :: as) (.ref a :: ws) H2 (k1.trans k2) g2 (fun b hb => ?_) (R2.congr fun b => by simp [or_comm]) ?_
    · rcases List.mem_cons.mp hb with e | hb
      · rw [e]; exact hn
      · exact R.kx_none k1 g1 (n2 b hb)
    · rw [e1]
      have hz : ¬ A.gh.Z a := A.nz0 (R.h0_none hn)
      refine .o (ho.mono (R1.ho k2 |> fun o => ⟨fun b u p r => o.ex b u p.1 r, o.tp⟩) (fun b u p r => (fz_plus _).mpr ⟨p.1, fun z => ?_⟩) fun u => k2 a u hz) (R.h0_none hn) na (r2.mono .refl (fun b _ p _ => ff b p) fun _ _ _ z => z)
      rcases List.mem_cons.mp z with z | z
      · exact p.2 z
      · obtain ⟨o, e⟩ := rd_some r
        rw [n2 b z] at e; cases e
  cases d with
  | lst ds => obtain ⟨a, e, hn, ho⟩ := r1; exact made a rfl e hn ho
  | dct t kvs => obtain ⟨a, e, hn, ho⟩ := r1; exact made a rfl e hn ho
  | non => exact plain rfl r1
  | bl b => exact plain rfl r1
  | int i => exact plain rfl r1
  | str x => exact plain rfl r1
  | tup ds => exact plain rfl r1
  | raw v => exact plain rfl r1
def parM (is : List Nat) (ml : Ga → M (List Sl)) : Ga → M (Ct × Ga) := fun Γ => ml Γ >>= fun ss => .ret (.nx, setAll is ss Γ)
theorem RmL.length {K : PySem.W.Frag} {H : Hp} {P : Addr → Prop} : ∀ {as : List Addr} {ws : List V} {ss : List Sl}, RmL K A H P as ws ss → ws.length = ss.length
  | _, _, _, .nil => rfl
  | _, _, _, .v _ r => congrArg (· + 1) r.length
  | _, _, _, .o _ _ _ r => congrArg (· + 1) r.length
theorem par_end {is : List Nat} {cn : Cn} {f : Nat → Addr} {σ : L2.St} {H H' H2 : Hp} {Γ : Ga} {Dn : Ends} {as : List Addr} {ws : List V} {ss : List Sl} (R : Rl A.K A cn f σ H Γ) (hl : is.length = ss.length)
    (q : sP A.K A cn md f Γ H Dn (.nx, setAll is ss Γ)) (k : Kx A.gh.Z H H') (g : A.gh.G H') (n : ∀ a, a ∈ as → H a = none) (R' : Rl A.K A (cn.plus as) f σ H' Γ) (r : RmL A.K A H' (Fz A (cn.plus as) f Γ) as ws ss)
    (s2 : Same H' H2) : Dn.nx (setAll is (ws.map some) σ) H2 := by
  have R2 := R'.kx (same_kx s2) (A.gh.same g s2)
  have r2 := r.mono (P' := Fz A (cn.plus as) f Γ) (same_ho s2) (fun _ _ p _ => p) fun a u _ e => s2 a u e
  obtain ⟨f', R3, p3⟩ := assignAll is (fun a hm z => by obtain ⟨_, o, e, _⟩ := R.hdm a z; rw [n a hm] at e; cases e) r2 hl R2
  refine q f' _ H2 (fun b p u e => ⟨p3 b ((fz_plus as).mpr ⟨p, fun z => by rw [n b z] at e; cases e⟩), s2 _ _ (k b u p.nz e)⟩) R3
theorem psv_par2 {i j : Nat} {x y : Str} {px py pt : Pos} {kt k2 : Nat} {pt2 : Pos} (hc : X.calm = true) (hN : X.N.Nodup) (hi : X.N[i]? = some x) (hj : X.N[j]? = some y) (hij : i ≠ j) (hx : X.env.scope.names.lookup x = some .local) (hy : X.env.scope.names.lookup y = some .local)
    (ha : PMV X A E [a, b] ml) (hw : swappedStores [.Tuple [.Name x px, .Name y py] kt pt] (.Tuple [a, b] k2 pt2) X.env = pure (some [x, y])) (hs : swapsWithSole [.Tuple [.Name x px, .Name y py] kt pt] (.Tuple [a, b] k2 pt2) pos.line X.env = pure false := by rfl) :
    PSV X A E md (.Assign [.Tuple [.Name x px, .Name y py] kt pt] (.Tuple [a, b] k2 pt2) pos) (parM [i, j] ml) := by
  refine ⟨imp_ps (ps_par hc hN hi hj hij hx hy ha.pa hw hs) fun Dn σ H ⟨cn, f, Γ, R, h⟩ => ⟨cn, f, Γ, R, M.wp_mono (ha.len _ _ _ (M.wp_bind.mp h)) (fun ss q as ws H1 k1 g1 n1 R1 r1 => ?_) fun _ x => x⟩⟩
  obtain ⟨q, hl⟩ := q
  have e := par_end (H2 := H1) R (is := [i, j]) hl.symm q k1 g1 n1 R1 r1 fun _ _ e => e
  have hw : ws.length = 2 := by rw [r1.length, hl]; rfl
  match ws, hw with
  | [v, w], _ => exact ⟨v, w, rfl, e⟩
theorem psv_par3 {i j l : Nat} {x y z : Str} {px py pz pt : Pos} {kt k2 : Nat} {pt2 : Pos} (hc : X.calm = true) (hN : X.N.Nodup) (hi : X.N[i]? = some x) (hj : X.N[j]? = some y) (hl : X.N[l]? = some z) (hij : i ≠ j) (hil : i ≠ l) (hjl : j ≠ l) (hx : X.env.scope.names.lookup x = some .local)
    (hy : X.env.scope.names.lookup y = some .local) (hz : X.env.scope.names.lookup z = some .local) (ha : PMV X A E [a, b, c] ml) (hw : swappedStores [.Tuple [.Name x px, .Name y py, .Name z pz] kt pt] (.Tuple [a, b, c] k2 pt2) X.env = pure (some [x, y, z]))
    (hs : swapsWithSole [.Tuple [.Name x px, .Name y py, .Name z pz] kt pt] (.Tuple [a, b, c] k2 pt2) pos.line X.env = pure false := by rfl) :
    PSV X A E md (.Assign [.Tuple [.Name x px, .Name y py, .Name z pz] kt pt] (.Tuple [a, b, c] k2 pt2) pos) (parM [i, j, l] ml) := by
  refine ⟨imp_ps (ps_par3 hc hN hi hj hl hij hil hjl hx hy hz ha.pa hw hs) fun Dn σ H ⟨cn, f, Γ, R, h⟩ => ⟨cn, f, Γ, R, M.wp_mono (ha.len _ _ _ (M.wp_bind.mp h)) (fun ss q as ws H1 k1 g1 n1 R1 r1 => ?_) fun _ x => x⟩⟩
  obtain ⟨q, hl⟩ := q
  have e := par_end (H2 := H1) R (is := [i, j, l]) hl.symm q k1 g1 n1 R1 r1 fun _ _ e => e
  have hw : ws.length = 3 := by rw [r1.length, hl]; rfl
  match ws, hw with
  | [v1, v2, v3], _ => exact ⟨v1, v2, v3, rfl, e⟩
end
end Px

set_option Elab.async false
set_option linter.all false
set_option maxRecDepth 100000
set_option autoImplicit false
namespace Px
open PySem PySem.Spec PyProof.Rows L2

/-! ### sources: a list, a tuple, a text -/
inductive Src where
  | l (a : Addr) (xs : List V) | t (a : Addr) (xs : List V) | z (x : Str)
def Src.v : Src → V
  | .l a _ => .ref a
  | .t a _ => .ref a
  | .z x => .str x
def Src.n : Src → Nat
  | .l _ xs => xs.length
  | .t _ xs => xs.length
  | .z x => x.cps.size
def Src.ok (K : PySem.W.Frag) (H : Hp) : Src → Prop
  | .l a xs => SqL K H a xs
  | .t a xs => SqT K H a xs
  | .z _ => True
def Src.at (s : Src) (i : Nat) : Option V := match s with
  | .l _ xs => xs[i]?
  | .t _ xs => xs[i]?
  | .z x => x.cps[i]?.map fun c => .str ⟨#[c]⟩
theorem Src.at_some {s : Src} {i : Nat} (h : i < s.n) : ∃ x, s.at i = some x := by
  cases s with
  | l a xs => exact ⟨_, List.getElem?_eq_getElem h⟩
  | t a xs => exact ⟨_, List.getElem?_eq_getElem h⟩
  | z x => exact ⟨_, by show (x.cps[i]?.map _) = _; rw [Array.getElem?_eq_getElem (show i < x.cps.size from h)]; rfl⟩
/-- an iterator over it, i items gone -/
def Src.it (s : Src) (tk : Tok) (it : Addr) (i : Nat) (h : Heap) : Prop := match s with
  | .l a _ => h.IsListIter it a i
  | .t a _ => h.IsTupleIter it a i
  | .z x => h.IsStrIter it (strIterType x) x tk i
def Src.obj (s : Src) (tk : Tok) : Obj := match s with
  | .l a _ => { cls := .type "list_iterator", data := .fields #[.ref a, .int 0 0] }
  | .t a _ => { cls := .type "tuple_iterator", data := .fields #[.ref a, .int 0 0] }
  | .z x => { cls := .type (strIterType x), data := .fields #[.str x tk, .int 0 0] }
theorem Src.it_at {s : Src} {tk : Tok} {it : Addr} {i : Nat} {h h' : Heap} (x : s.it tk it i h) (k : ∀ o, h.get? it = some o → h'.get? it = some o) : s.it tk it i h' := by
  cases s with
  | l a xs => exact x.at k
  | t a xs => exact x.at k
  | z y => obtain ⟨o, e, r⟩ := x; exact ⟨o, k o e, r⟩
theorem Src.it_obj {s : Src} {tk : Tok} {it : Addr} {i : Nat} {h : Heap} (x : s.it tk it i h) : ∃ o, h.get? it = some o ∧ ∀ v, o.data ≠ .cell v := by
  cases s with
  | l a xs => obtain ⟨o, e, _, d⟩ := x; exact ⟨o, e, fun v q => by rw [d] at q; cases q⟩
  | t a xs => obtain ⟨o, e, _, d⟩ := x; exact ⟨o, e, fun v q => by rw [d] at q; cases q⟩
  | z y => obtain ⟨o, e, _, d⟩ := x; exact ⟨o, e, fun v q => by rw [d] at q; cases q⟩
theorem Src.it_new {s : Src} {tk : Tok} {it : Addr} {h : Heap} (x : h.get? it = some (s.obj tk)) : s.it tk it 0 h := by
  cases s with
  | l a xs => exact ⟨_, x, rfl, rfl⟩
  | t a xs => exact ⟨_, x, rfl, rfl⟩
  | z y => exact ⟨_, x, rfl, rfl⟩
def Src.tok (_ : Src) (v : Value) : Tok := match v with
  | Value.str _ tk => tk
  | _ => 0
section
variable {X : Cx} {pins : List (Addr × Obj)} {σ : L2.St} {H : Hp} {s : Shared}
/-- what an iterator over it draws -/
theorem Src.draws (I : Inv X pins σ H s) {A : Around} (hh : A.handled = none) {src : Src} {v : Value} (rv : RelV src.v v) (ok : src.ok X.K H) {it : Addr} (hn : H it = none) (hb : X.base.get? it = none) :
    ∃ (fp : List Addr) (P : Nat → Value → Prop) (SS : Heap → Prop), Draws X.prog X.w A it (it :: fp) src.n P (fun i h => src.it (src.tok v) it i h ∧ SS h) ∧ SS s.heap ∧ it ∉ fp ∧ (∀ b, b ∈ fp → ∃ o, s.heap.get? b = some o ∧ (H b ≠ none ∨ X.base.get? b ≠ none)) ∧ (∀ i u, P i u → ∃ x, src.at i = some x ∧ RelV x u) := by
  cases src with
  | l a xs =>
    cases rv
    obtain ⟨its, r, p, hz⟩ := I.list ok
    have hne : a ≠ it := fun e => by
      subst e
      rcases ok with h | ⟨o, _, _, hk, _⟩
      · rcases h with h | ⟨o, h⟩
        · rw [hn] at h; cases h
        · rw [hn] at h; cases h
      · have q := I.ok.mod.kin a o hk
        rw [hb] at q; cases q
    refine ⟨[a], fun i u => its.toArray[i]? = some u, fun h => h.IsList a its.toArray, ?_, p.isList, by simpa using Ne.symm hne, fun b hb => ?_, fun i u e => ?_⟩
    · have := Draws.list (prog := X.prog) (w := X.w) hh it a hne its.toArray
      have e : its.toArray.size = (Src.l a xs).n := by show its.toArray.size = xs.length; rw [List.size_toArray]; exact r.length.symm
      rw [← e]; exact this
    · have e : b = a := by simpa using hb
      subst e
      obtain ⟨o, n, e, _⟩ := p
      refine ⟨o, e, ?_⟩
      rcases ok with h | ⟨o, _, _, hk, _⟩
      · rcases h with h | ⟨o, h⟩
        · exact .inl (by rw [h]; simp)
        · exact .inl (by rw [h]; simp)
      · exact .inr (by rw [I.ok.mod.kin _ o hk]; simp)
    · have e' : its[i]? = some u := by simpa using e
      have hl : i < xs.length := by rw [r.length]; exact (List.getElem?_eq_some_iff.mp e').1
      obtain ⟨u', h1, h2⟩ := r.get (List.getElem?_eq_getElem hl)
      rw [e'] at h1; cases h1
      exact ⟨_, List.getElem?_eq_getElem hl, h2⟩
  | t a xs =>
    cases rv
    obtain ⟨its, r, p, hz⟩ := I.tuple ok
    have hne : a ≠ it := fun e => by
      subst e
      rcases ok with h | ⟨o, _, _, hk, _⟩
      · rcases h with h | ⟨o, h⟩
        · rw [hn] at h; cases h
        · rw [hn] at h; cases h
      · have q := I.ok.mod.kin a o hk
        rw [hb] at q; cases q
    refine ⟨[a], fun i u => its.toArray[i]? = some u, fun h => h.IsTuple a its.toArray, ?_, p, by simpa using Ne.symm hne, fun b hb => ?_, fun i u e => ?_⟩
    · have := Draws.tuple (prog := X.prog) (w := X.w) hh it a hne its.toArray
      have e : its.toArray.size = (Src.t a xs).n := by show its.toArray.size = xs.length; rw [List.size_toArray]; exact r.length.symm
      rw [← e]; exact this
    · have e : b = a := by simpa using hb
      subst e
      obtain ⟨o, e, _⟩ := p
      refine ⟨o, e, ?_⟩
      rcases ok with h | ⟨o, _, _, hk, _⟩
      · rcases h with h | ⟨o, h⟩
        · exact .inl (by rw [h]; simp)
        · exact .inl (by rw [h]; simp)
      · exact .inr (by rw [I.ok.mod.kin _ o hk]; simp)
    · have e' : its[i]? = some u := by simpa using e
      have hl : i < xs.length := by rw [r.length]; exact (List.getElem?_eq_some_iff.mp e').1
      obtain ⟨u', h1, h2⟩ := r.get (List.getElem?_eq_getElem hl)
      rw [e'] at h1; cases h1
      exact ⟨_, List.getElem?_eq_getElem hl, h2⟩
  | z x =>
    obtain ⟨t, rfl⟩ := rv
    refine ⟨[], fun i v => ∃ c u, x.cps[i]? = some c ∧ v = .str ⟨#[c]⟩ u, fun _ => True, ?_, trivial, (by simp), (fun b hb => absurd hb (by simp)), fun i u h => ?_⟩
    · have D := Draws.text (prog := X.prog) (w := X.w) hh it x t
      exact ⟨fun i h st => D.live i h st.1, fun i h h' st k => ⟨D.frame i h h' st.1 k, trivial⟩, fun i s Q E hi st q => D.item i s Q E hi st.1 fun x h' tk a b c => q x h' tk a ⟨b, trivial⟩ c, fun s Q E st q => D.done s Q E st.1 q⟩
    · obtain ⟨c, u', h1, h2⟩ := h
      subst h2
      exact ⟨.str ⟨#[c]⟩, by show x.cps[i]?.map _ = _; rw [h1]; rfl, ⟨u', rfl⟩⟩
theorem Src.begins (I : Inv X pins σ H s) {src : Src} {v : Value} (rv : RelV src.v v) (ok : src.ok X.K H) : ∃ SS : Heap → Prop, Begins v (src.obj (src.tok v)) SS ∧ SS s.heap := by
  cases src with
  | l a xs =>
    cases rv
    obtain ⟨its, r, p, hz⟩ := I.list ok
    exact ⟨_, begins_list a its.toArray, p.isList⟩
  | t a xs =>
    cases rv
    obtain ⟨its, r, p, hz⟩ := I.tuple ok
    exact ⟨_, begins_tuple a its.toArray, p⟩
  | z x =>
    obtain ⟨t, rfl⟩ := rv
    exact ⟨_, begins_text x t, trivial⟩
theorem Src.inj (I : Inv X pins σ H s) {src src' : Src} (e : src.v = src'.v) (h : src.ok X.K H) (h' : src'.ok X.K H) : ∀ i, src.at i = src'.at i := fun i => by
  have ex : ∀ {a : Addr} {xs ys : List V}, SqL X.K H a xs → SqT X.K H a ys → False := fun {a xs ys} h1 h2 => by
    obtain ⟨_, _, ⟨o, n, e1, c1, _⟩, _⟩ := I.list h1
    obtain ⟨_, _, ⟨o', e2, c2, _⟩, _⟩ := I.tuple h2
    rw [e1] at e2; cases e2
    rw [c1] at c2; exact absurd (Value.type.inj c2) (by decide)
  cases src with
  | l a xs => cases src' with
    | l b ys => cases e; show xs[i]? = ys[i]?; rw [I.list_inj h h']
    | t b ys => cases e; exact (ex h h').elim
    | z y => cases e
  | t a xs => cases src' with
    | l b ys => cases e; exact (ex h' h).elim
    | t b ys => cases e; show xs[i]? = ys[i]?; rw [I.tuple_inj h h']
    | z y => cases e
  | z x => cases src' with
    | l b ys => cases e
    | t b ys => cases e
    | z y => cases e; rfl
end

/-! ### enumerate(v) -/
set_option maxHeartbeats 1000000 in
theorem meets_enumerate_new1 {v : Value} {o : Obj} {H : Heap → Prop} (B : Begins v o H) :
    Meets (Builtin.«enumerate.__new__» ⟨[.type "enumerate", v], []⟩) (fun _ R s => H s.heap ∧
      R (.ok (.ret (.ref (s.heap.push o).objs.size))) { s with heap := (s.heap.push o).push { cls := .type "enumerate", data := .fields #[.none, .bool false, .ref s.heap.objs.size, rawInt 0, .none, .none] } }) :=
  .of_wp fun prog w A R s h => by
    obtain ⟨hp, g, d, tk, os⟩ := s; obtain ⟨h1, h⟩ := h
    have hsub := sub_enumerate
    have q1 : ∀ {A' : Around} {E : Value → Shared → Prop} {Q : Value → Shared → Prop}, Q (.ref hp.objs.size) ⟨hp.push o, g, d, tk, os⟩ → wpAny (model prog w) A' (pyIter v) Q E ⟨hp, g, d, tk, os⟩ :=
      fun q => B.iter prog w _ _ ⟨hp, g, d, tk, os⟩ _ h1 q
    wp_walk using q1
    refine wpAny_stack_any fun st => wpAny_pure ?_
    split
    · rename_i c _ _ _ _ _
      cases (c == Value.type "enumerate")
      · wp_walk using q1
        exact ⟨_, rfl, h⟩
      · wp_walk using q1
        exact ⟨_, rfl, h⟩
    · wp_walk using q1
      exact ⟨_, rfl, h⟩
theorem enum_begins1 {prog : Program} {w : World} {A : Around} {E : Value → Shared → Prop} {s : Shared} {v : Value} {o : Obj} {H : Heap → Prop} {Q : Value → Shared → Prop} (B : Begins v o H) (h1 : H s.heap)
    (h : ∀ h', IsEnum h' (s.heap.objs.size + 1) s.heap.objs.size 0 .none → h'.get? s.heap.objs.size = some o → h'.objs.size = s.heap.objs.size + 2 →
      (∀ b o, s.heap.get? b = some o → h'.get? b = some o) → Q (.ref (s.heap.objs.size + 1)) { s with heap := h' }) :
    wpAny (model prog w) A (call (.type "enumerate") [v]) Q E s := by
  refine callType_new F.called_enumerate (by decide) (F.typeCall_enumerate_1 _) (F.newCall_enumerate_1 _) (fun obj => F.args_object_init_2 obj _) F.entry_enumerate_new (meets_enumerate_new1 B) ⟨h1, ?_⟩
  have hz : (s.heap.push o).objs.size = s.heap.objs.size + 1 := Heap.size_push ..
  show _ ∧ _
  rw [hz]
  have he : IsEnum ((s.heap.push o).push { cls := .type "enumerate", data := .fields #[.none, .bool false, .ref s.heap.objs.size, rawInt 0, .none, .none] }) (s.heap.objs.size + 1) s.heap.objs.size 0 .none := by
    have := Heap.get?_push_size (s.heap.push o) (o := { cls := .type "enumerate", data := .fields #[.none, .bool false, .ref s.heap.objs.size, rawInt 0, .none, .none] }) rfl
    rw [hz] at this; exact this
  refine ⟨⟨_, he, rfl⟩, h _ he (Heap.get?_push_of_some _ (Heap.get?_push_size _ B.free)) (by rw [Heap.size_push, hz]) fun b o x => Heap.get?_push_of_some _ (Heap.get?_push_of_some _ x)⟩
/-- pairs of a number and an item -/
def Iten (K : PySem.W.Frag) (src : Src) : It :=
  ⟨fun i H => src.ok K H ∧ i < src.n, fun i H v H' => ∃ T x, v = .ref T ∧ H T = none ∧ H' = upd H T (.tup [.int (i : Nat), x]) ∧ src.at i = some x, fun i H => src.ok K H ∧ i = src.n⟩
theorem turn_en {P : Program} {w : World} {K : PySem.W.Frag} {elts : List Expr} {kk : Nat} {tpos : Pos} (src : Src) (v : Value) (rv : RelV src.v v) (e it : Addr) (hb : ∀ (X : Cx), X.K = K → ∀ (pins : List (Addr × Obj)) (s : Shared) (σ : L2.St) (H : Hp), Inv X pins σ H s → FpOk X pins H it → X.base.get? it = none) :
    Turn P w K (.Tuple elts kk tpos) (Iten K src) [e, it] e (fun i h => (∃ old, IsEnum h e it ((i : Nat) : Int) old) ∧ src.it (src.tok v) it i h ∧ e ≠ it) where
  mem := by simp
  obj := fun i h st b hb => by
    obtain ⟨⟨old, he⟩, hi, _⟩ := st
    have e' : b = e ∨ b = it := by simpa using hb
    rcases e' with z | z
    · rw [z]; exact ⟨_, he, fun v q => nomatch q⟩
    · rw [z]; exact Src.it_obj hi
  keep := fun i h h' st k => let ⟨⟨old, he⟩, hi, hne⟩ := st; ⟨⟨old, k e (by simp) _ he⟩, Src.it_at hi fun o q => k it (by simp) o q, hne⟩
  item := by
    intro X hP hw hK hc i pins s σ H E I hf st hg
    subst hP hw hK
    obtain ⟨⟨old, he⟩, hit, hne⟩ := st
    obtain ⟨ok, hi⟩ := hg
    obtain ⟨fp, P, SS, D, ss, nfp, hfp, hP⟩ := Src.draws I (A := X.A.in1) (I.ok.hd hc) rv ok (hf it (by simp)).1 (hb X rfl pins s σ H I (hf it (by simp)))
    have hel : e < s.heap.objs.size := Heap.lt_size he
    have hil : it < s.heap.objs.size := by obtain ⟨_, q, _⟩ := Src.it_obj hit; exact Heap.lt_size q
    have hef : e ∉ it :: fp := fun z => by
      rcases List.mem_cons.mp z with z | z
      · exact hne z
      · obtain ⟨o, ho, hh⟩ := hfp e z
        rcases hh with hh | hh
        · exact hh (hf e (by simp)).1
        · cases q : X.base.get? e with
          | none => exact hh q
          | some u =>
            have := I.bk e u q
            rw [he] at this
            have q2 := (hf e (by simp))
            exact hh (by
              have := I.ok.bs e u q
              rcases q2.2.2.2.1 with z | z
              · exact absurd z (I.ok.noex e u q)
              · exact absurd (Nat.lt_of_lt_of_le (Heap.lt_size q) (Nat.le_trans I.ok.bsz z)) (Nat.lt_irrefl _))
    refine wpAny_pyNext_enum_itemC D he ⟨hit, ss⟩ hi hne hef fun u h' tk hPu ho st' hT hsz hk => ?_
    obtain ⟨x, hx, ru⟩ := hP i u hPu
    refine ⟨_, rfl, wpAny_letOwnedTupleGo_enum (s := { s with heap := h', toks := tk + 1 }) ho fun h'' he' sb => ?_⟩
    have hT2 : h''.get? s.heap.objs.size = some { cls := .type "tuple", data := .seq #[.int i tk, u] } := (sb.2 _ (Nat.ne_of_gt hel)).trans hT
    have new : ObjOk X.prog X.w (upd H s.heap.objs.size (.tup [.int (i : Nat), x])) h'' s.heap.objs.size (.tup [.int (i : Nat), x]) :=
      ⟨by show 2 ≤ sizeLine; decide, [.int i tk, u], .cons ⟨_, rfl⟩ (.cons ru .nil), ⟨_, hT2, rfl, _, rfl⟩⟩
    have I1 : Inv X pins σ (upd H s.heap.objs.size (.tup [.int (i : Nat), x])) { s with heap := h'', toks := tk + 1 } :=
      I.turnedNew (ch := [e, it]) (fun b ob hb q => (sb.2 b (fun z => hb (by simp [z]))).trans (hk b ob (fun z => hb (by simp [z])) (fun z => hb (by simp [z])) q)) hf (Nat.le_refl _) new
    refine ⟨.ref s.heap.objs.size, _, I1, rfl, ⟨_, x, rfl, I.hok.fresh (Nat.le_refl _), rfl, hx⟩, ⟨⟨u, ?_⟩, Src.it_at st'.1 fun o q => (sb.2 it (Ne.symm hne)).trans q, hne⟩, fun b hb => ?_⟩
    · have e1 : ((i + 1 : Nat) : Int) = (i : Int) + 1 := by omega
      rw [e1]; exact he'
    · have hb' : b < s.heap.objs.size := by
        have e' : b = e ∨ b = it := by simpa using hb
        rcases e' with z | z
        · rw [z]; exact hel
        · rw [z]; exact hil
      rw [upd_ne (Nat.ne_of_lt hb')]
      exact (hf b hb).1
  done := by
    intro X hP hw hK hc i pins s σ H E I hf st hg
    subst hP hw hK
    obtain ⟨⟨old, he⟩, hit, hne⟩ := st
    obtain ⟨ok, rfl⟩ := hg
    obtain ⟨fp, P, SS, D, ss, nfp, hfp, hP⟩ := Src.draws I (A := X.A.in1) (I.ok.hd hc) rv ok (hf it (by simp)).1 (hb X rfl pins s σ H I (hf it (by simp)))
    obtain ⟨f0, f1, f2, f3, f4, f5⟩ := hf it (by simp)
    exact wpAny_pyNext_enum_endD D he ⟨hit, ss⟩ fun h' eb => ⟨rfl, I.turned (t' := s.toks) (fun b o hb q => eb b o hb q) f0 f1 f3 f4 f5⟩
  self := fun A i s Q E st h => let ⟨⟨_, he⟩, _⟩ := st; wpAny_pyIter_enum he h

theorem fp_base {X : Cx} {pins : List (Addr × Obj)} {s : Shared} {σ : L2.St} {H : Hp} (I : Inv X pins σ H s) {it : Addr} (h : FpOk X pins H it) : X.base.get? it = none := by
  cases q : X.base.get? it with
  | none => rfl
  | some u =>
    rcases h.2.2.2.1 with z | z
    · exact absurd z (I.ok.noex it u q)
    · exact absurd (Nat.lt_of_lt_of_le (Heap.lt_size q) (Nat.le_trans I.ok.bsz z)) (Nat.lt_irrefl _)
/-- one argument: what it is walked as -/
def iEn (K : PySem.W.Frag) (ta : TA) : TI := fun σ H R => ta σ H fun vs H1 => ∃ src : Src, vs = [src.v] ∧ src.ok K H1 ∧ (src.n ≤ sizeLine ∨ (∃ z, src = .z z) → R (Iten K src) H1)
theorem Src.size {X : Cx} {pins : List (Addr × Obj)} {s : Shared} {σ : L2.St} {H : Hp} (I : Inv X pins σ H s) {src : Src} (ok : src.ok X.K H) : src.n ≤ sizeLine ∨ ∃ z, src = .z z := by
  cases src with
  | l a xs => exact .inl (I.list ok).choose_spec.2.2
  | t a xs => exact .inl (I.tuple ok).choose_spec.2.2
  | z x => exact .inr ⟨x, rfl⟩
theorem pi_en {X : Cx} {e : Expr} {ta : TA} {p pos tpos : Pos} {elts : List Expr} {kk : Nat} (hg : Gl X "enumerate") (hm : X.mg "enumerate" = none) (ha : PA X [e] ta) (hs : starEach [e] X.env = [(false, eval e X.env)] := by rfl) :
    PI X (.Tuple elts kk tpos) (.Call (.Name "enumerate" p) [e] [] pos) (iEn X.K ta) := by
  refine ⟨fun pins s σ H R I h => ?_⟩
  refine Call_ (ld_blt I hg hm boot_enumerate (PyProof.Rows.callWith_type1 (thn (ha.run pos pins s σ H _ I h) fun us s1 ⟨vs, H1, I1, r1, q1⟩ => ?_) hs rfl))
  obtain ⟨src, ex, ok, q⟩ := q1
  subst ex
  cases r1 with
  | cons r rr =>
    cases rr
    rename_i v _
    obtain ⟨SS, B, ss⟩ := Src.begins I1 r ok
    refine enum_begins1 B ss fun h' he hit hsz hk => wpAny_pyIter_enum he ?_
    have I2 : Inv X pins σ H1 { s1 with heap := h' } := I1.kept (t' := s1.toks) hk
    refine ⟨s1.heap.objs.size + 1, [s1.heap.objs.size + 1, s1.heap.objs.size], _, _, H1, rfl, I2, turn_en src v r (s1.heap.objs.size + 1) s1.heap.objs.size (fun X' hK pins s σ H I f => fp_base I f), ⟨⟨.none, he⟩, Src.it_new hit, Nat.succ_ne_self _⟩, fun b hb => ?_, q (Src.size I1 ok)⟩
    have e' : b = s1.heap.objs.size + 1 ∨ b = s1.heap.objs.size := by simpa using hb
    have hle : s1.heap.objs.size ≤ b := by
      rcases e' with z | z
      · rw [z]; exact Nat.le_add_right _ _
      · rw [z]; exact Nat.le_refl _
    exact I1.fpOk hle (I1.hok.fresh hle)
/-! ### zip(v, u) -/
def Itzp (K : PySem.W.Frag) (s1 s2 : Src) : It :=
  ⟨fun i H => s1.ok K H ∧ s2.ok K H ∧ i < s1.n ∧ i < s2.n, fun i H v H' => ∃ T x y, v = .ref T ∧ H T = none ∧ H' = upd H T (.tup [x, y]) ∧ s1.at i = some x ∧ s2.at i = some y, fun i H => s1.ok K H ∧ s2.ok K H ∧ i ≤ s1.n ∧ i ≤ s2.n ∧ (i = s1.n ∨ i = s2.n)⟩
/-- the cells of a zip, apart -/
structure ZpA (z TI TO i1 i2 : Addr) : Prop where
  a1 : TI ≠ z
  a2 : TO ≠ z
  a3 : TI ≠ TO
  a4 : TI ≠ i1
  a5 : TI ≠ i2
  a6 : z ≠ i1
  a7 : z ≠ i2
  a8 : TO ≠ i1
  a9 : TO ≠ i2
  b1 : i1 ≠ i2
theorem turn_zp {P : Program} {w : World} {K : PySem.W.Frag} {elts : List Expr} {kk : Nat} {tpos : Pos} (sa sb : Src) (va vb : Value) (ra : RelV sa.v va) (rb : RelV sb.v vb) {z TI TO i1 i2 : Addr} (Z : ZpA z TI TO i1 i2) :
    Turn P w K (.Tuple elts kk tpos) (Itzp K sa sb) [z, TI, TO, i1, i2] z (fun i h => IsZip h z TI TO .none ∧ IsTupOf2 h TI (.ref i1) (.ref i2) ∧ (∃ a1 a2, IsTupOf2 h TO a1 a2) ∧ sa.it (sa.tok va) i1 i h ∧ sb.it (sb.tok vb) i2 i h) where
  mem := by simp
  obj := fun i h st b hb => by
    obtain ⟨hz, hTI, ⟨a1, a2, hTO⟩, h1, h2⟩ := st
    have e' : b = z ∨ b = TI ∨ b = TO ∨ b = i1 ∨ b = i2 := by simpa using hb
    rcases e' with e | e | e | e | e
    · rw [e]; exact ⟨_, hz, fun v q => nomatch q⟩
    · rw [e]; exact ⟨_, hTI, fun v q => nomatch q⟩
    · rw [e]; exact ⟨_, hTO, fun v q => nomatch q⟩
    · rw [e]; exact Src.it_obj h1
    · rw [e]; exact Src.it_obj h2
  keep := fun i h h' st k => by
    obtain ⟨hz, hTI, ⟨a1, a2, hTO⟩, h1, h2⟩ := st
    exact ⟨k z (by simp) _ hz, k TI (by simp) _ hTI, ⟨a1, a2, k TO (by simp) _ hTO⟩, Src.it_at h1 fun o q => k i1 (by simp) o q, Src.it_at h2 fun o q => k i2 (by simp) o q⟩
  item := by
    intro X hP hw hK hc i pins s σ H E I hf st hg
    subst hP hw hK
    obtain ⟨hz, hTI, ⟨a1, a2, hTO⟩, h1, h2⟩ := st
    obtain ⟨ok1, ok2, hi1, hi2⟩ := hg
    have f1 := hf i1 (by simp)
    have f2 := hf i2 (by simp)
    obtain ⟨fp1, P1, S1, D1, ss1, n1, hfp1, hP1⟩ := Src.draws I (A := X.A.in1) (I.ok.hd hc) ra ok1 f1.1 (fp_base I f1)
    obtain ⟨fp2, P2, S2, D2, ss2, n2, hfp2, hP2⟩ := Src.draws I (A := X.A.in1) (I.ok.hd hc) rb ok2 f2.1 (fp_base I f2)
    have far1 : ∀ b ∈ [z, TI, TO, i1, i2], b ∉ fp1 := fun b hb q => by
      obtain ⟨o, ho, hh⟩ := hfp1 b q
      rcases hh with hh | hh
      · exact hh (hf b hb).1
      · exact hh (fp_base I (hf b hb))
    have far2 : ∀ b ∈ [z, TI, TO, i1, i2], b ∉ fp2 := fun b hb q => by
      obtain ⟨o, ho, hh⟩ := hfp2 b q
      rcases hh with hh | hh
      · exact hh (hf b hb).1
      · exact hh (fp_base I (hf b hb))
    have nin : ∀ {b c : Addr} {l : List Addr}, b ≠ c → b ∉ l → b ∉ c :: l := fun h1 h2 q => (List.mem_cons.mp q).elim h1 h2
    have S : ZipSep2 z TI TO i1 i2 (i1 :: fp1) (i2 :: fp2) := ⟨Z.a1, Z.a2, Z.a3, Z.a4, List.mem_cons_self, nin Z.a6 (far1 z (by simp)), nin Z.a8 (far1 TO (by simp)), Z.a5, List.mem_cons_self, nin Z.a7 (far2 z (by simp)), nin Z.a9 (far2 TO (by simp)), nin Z.b1 (far2 i1 (by simp)), nin (Ne.symm Z.b1) (far1 i2 (by simp))⟩
    refine wpAny_pyNext_zipD2_item S D1 D2 hz hTI hTO ⟨h1, ss1⟩ ⟨h2, ss2⟩ hi1 hi2 fun u1 u2 h' tk y1 y2 b1 b2 d1 d2 hT hsz hk => ?_
    obtain ⟨x, hx, rx⟩ := hP1 i u1 y1
    obtain ⟨y, hy, ry⟩ := hP2 i u2 y2
    have lt : ∀ {c : Addr} {o : Obj}, s.heap.get? c = some o → c < s.heap.objs.size := fun e => Heap.lt_size e
    have lz := lt hz
    refine ⟨_, rfl, wpAny_letOwnedTupleGo_zip (s := { s with heap := h', toks := tk }) b1 fun h'' hz' sb' => ?_⟩
    have hT2 : IsTupOf2 h'' s.heap.objs.size u1 u2 := (sb'.2 _ (Nat.ne_of_gt lz)).trans hT
    have new : ObjOk X.prog X.w (upd H s.heap.objs.size (.tup [x, y])) h'' s.heap.objs.size (.tup [x, y]) :=
      ⟨by show 2 ≤ sizeLine; decide, [u1, u2], .cons rx (.cons ry .nil), ⟨_, hT2, rfl, _, rfl⟩⟩
    have I1 : Inv X pins σ (upd H s.heap.objs.size (.tup [x, y])) { s with heap := h'', toks := tk } :=
      I.turnedNew (ch := [z, TI, TO, i1, i2]) (fun b ob hb q => (sb'.2 b (fun z => hb (by simp [z]))).trans (hk b ob (fun z => hb (by simp [z])) (fun z => hb (by simp [z])) (fun z => hb (by simp [z])) (fun z => hb (by simp [z])) q)) hf (Nat.le_refl _) new
    refine ⟨.ref s.heap.objs.size, _, I1, rfl, ⟨_, x, y, rfl, I.hok.fresh (Nat.le_refl _), rfl, hx, hy⟩, ⟨hz', (sb'.2 TI Z.a1).trans (hk TI _ Z.a1 Z.a3 Z.a4 Z.a5 hTI), ⟨_, _, (sb'.2 TO Z.a2).trans b2⟩, Src.it_at d1.1 fun o q => (sb'.2 i1 (Ne.symm Z.a6)).trans q, Src.it_at d2.1 fun o q => (sb'.2 i2 (Ne.symm Z.a7)).trans q⟩, fun b hb => ?_⟩
    have hb' : b < s.heap.objs.size := by
      have e' : b = z ∨ b = TI ∨ b = TO ∨ b = i1 ∨ b = i2 := by simpa using hb
      rcases e' with e | e | e | e | e
      · rw [e]; exact lz
      · rw [e]; exact lt hTI
      · rw [e]; exact lt hTO
      · rw [e]; obtain ⟨_, q, _⟩ := Src.it_obj h1; exact lt q
      · rw [e]; obtain ⟨_, q, _⟩ := Src.it_obj h2; exact lt q
    rw [upd_ne (Nat.ne_of_lt hb')]
    exact (hf b hb).1
  done := by
    intro X hP hw hK hc i pins s σ H E I hf st hg
    subst hP hw hK
    obtain ⟨hz, hTI, ⟨a1, a2, hTO⟩, h1, h2⟩ := st
    obtain ⟨ok1, ok2, hi1, hi2, hend⟩ := hg
    have f1 := hf i1 (by simp)
    have f2 := hf i2 (by simp)
    obtain ⟨fp1, P1, S1, D1, ss1, n1, hfp1, hP1⟩ := Src.draws I (A := X.A.in1) (I.ok.hd hc) ra ok1 f1.1 (fp_base I f1)
    obtain ⟨fp2, P2, S2, D2, ss2, n2, hfp2, hP2⟩ := Src.draws I (A := X.A.in1) (I.ok.hd hc) rb ok2 f2.1 (fp_base I f2)
    have far1 : ∀ b ∈ [z, TI, TO, i1, i2], b ∉ fp1 := fun b hb q => by
      obtain ⟨o, ho, hh⟩ := hfp1 b q
      rcases hh with hh | hh
      · exact hh (hf b hb).1
      · exact hh (fp_base I (hf b hb))
    have far2 : ∀ b ∈ [z, TI, TO, i1, i2], b ∉ fp2 := fun b hb q => by
      obtain ⟨o, ho, hh⟩ := hfp2 b q
      rcases hh with hh | hh
      · exact hh (hf b hb).1
      · exact hh (fp_base I (hf b hb))
    have nin : ∀ {b c : Addr} {l : List Addr}, b ≠ c → b ∉ l → b ∉ c :: l := fun h1 h2 q => (List.mem_cons.mp q).elim h1 h2
    have S : ZipSep2 z TI TO i1 i2 (i1 :: fp1) (i2 :: fp2) := ⟨Z.a1, Z.a2, Z.a3, Z.a4, List.mem_cons_self, nin Z.a6 (far1 z (by simp)), nin Z.a8 (far1 TO (by simp)), Z.a5, List.mem_cons_self, nin Z.a7 (far2 z (by simp)), nin Z.a9 (far2 TO (by simp)), nin Z.b1 (far2 i1 (by simp)), nin (Ne.symm Z.b1) (far1 i2 (by simp))⟩
    exact wpAny_pyNext_zipD2_end S D1 D2 hz hTI hTO ⟨h1, ss1⟩ ⟨h2, ss2⟩ hi1 hi2 hend fun h' tk hk => ⟨rfl, I.turnedL (t' := tk) (ch := [z, TI, TO, i1, i2]) (fun c o hb q =>
      hk c o (fun q' => hb (by simp [q'])) (fun q' => hb (by simp [q'])) (fun q' => hb (by simp [q'])) (fun q' => hb (by simp [q'])) q) hf⟩
  self := fun A i s Q E st h => wpAny_pyIter_zip st.1 h
def iZp (K : PySem.W.Frag) (ta : TA) : TI := fun σ H R => ta σ H fun vs H1 => ∃ sa sb : Src, vs = [sa.v, sb.v] ∧ sa.ok K H1 ∧ sb.ok K H1 ∧ ((sa.n ≤ sizeLine ∨ (∃ z, sa = .z z)) → (sb.n ≤ sizeLine ∨ (∃ z, sb = .z z)) → R (Itzp K sa sb) H1)
theorem pi_zp {X : Cx} {e e2 : Expr} {ta : TA} {p pos tpos : Pos} {elts : List Expr} {kk : Nat} (hg : Gl X "zip") (hm : X.mg "zip" = none) (ha : PA X [e, e2] ta)
    (hs : starEach [e, e2] X.env = (false, eval e X.env) :: starEach [e2] X.env := by rfl) (hpl : (backTo pos (starEach [e2] X.env)).any (·.1) = false := by rfl) :
    PI X (.Tuple elts kk tpos) (.Call (.Name "zip" p) [e, e2] [] pos) (iZp X.K ta) := by
  refine ⟨fun pins s σ H R I h => ?_⟩
  refine Call_ (ld_blt I hg hm PyProof.Rows.boot_zip (PyProof.Rows.callWith_type1 (thn (ha.run pos pins s σ H _ I h) fun us s1 ⟨vs, H1, I1, r1, q1⟩ => ?_) hs hpl))
  obtain ⟨sa, sb, ex, ok1, ok2, q⟩ := q1
  subst ex
  obtain ⟨va, vb, rfl, r, r'⟩ := Vals.two r1
  obtain ⟨S1, B1, ss1⟩ := Src.begins I1 r ok1
  obtain ⟨S2, B2, ss2⟩ := Src.begins I1 r' ok2
  refine zip_begins2 B1 B2 ss1 ss2 fun h' hz hTI hTO h1 h2 hsz hk => wpAny_pyIter_zip hz ?_
  have I2 : Inv X pins σ H1 { s1 with heap := h' } := I1.kept (t' := s1.toks) hk
  generalize hN : s1.heap.objs.size = N at *
  refine ⟨N + 4, [N + 4, N + 2, N + 3, N, N + 1], _, _, H1, rfl, I2, turn_zp sa sb va vb r r' (z := N + 4) (TI := N + 2) (TO := N + 3) (i1 := N) (i2 := N + 1) ⟨?_, ?_, ?_, ?_, ?_, ?_, ?_, ?_, ?_, ?_⟩, ⟨hz, hTI, ⟨_, _, hTO⟩, Src.it_new h1, Src.it_new h2⟩, fun c hcm => ?_, q (Src.size I1 ok1) (Src.size I1 ok2)⟩
  all_goals first
    | (show (_ : Nat) ≠ _; omega)
    | skip
  have e' : c = N + 4 ∨ c = N + 2 ∨ c = N + 3 ∨ c = N ∨ c = N + 1 := by simpa using hcm
  have hle : s1.heap.objs.size ≤ c := by
    rw [hN]
    rcases e' with z | z | z | z | z
    · rw [z]; exact Nat.le_add_right _ _
    · rw [z]; exact Nat.le_add_right _ _
    · rw [z]; exact Nat.le_add_right _ _
    · rw [z]; exact Nat.le_refl _
    · rw [z]; exact Nat.le_add_right _ _
  exact I1.fpOk hle (I1.hok.fresh hle)
/-! ### v itself -/
def Itsq (K : PySem.W.Frag) (src : Src) : It :=
  ⟨fun i H => src.ok K H ∧ i < src.n, fun i H v H' => H' = H ∧ src.at i = some v, fun i H => src.ok K H ∧ i = src.n⟩
def iSq (K : PySem.W.Frag) (te : TE) : TI := fun σ H R => te σ H fun v H1 => ∃ src : Src, v = src.v ∧ src.ok K H1 ∧ (src.n ≤ sizeLine ∨ (∃ z, src = .z z) → R (Itsq K src) H1)
theorem Turn.map {P : Program} {w : World} {K : PySem.W.Frag} {tg : Expr} {J J' : It} {fp : List Addr} {it : Addr} {tn : Nat → Heap → Prop} (T : Turn P w K tg J fp it tn) (hg : ∀ i H, J'.go i H → J.go i H) (hs : ∀ i H, J'.stop i H → J.stop i H)
    (hy : ∀ (X : Cx), X.K = K → ∀ i pins s σ H x H', Inv X pins σ H s → J'.go i H → J.yld i H x H' → J'.yld i H x H') : Turn P w K tg J' fp it tn :=
  ⟨T.mem, T.obj, T.keep, fun X hP hw hK hc i pins s σ H E I hf st g => thn (T.item X hP hw hK hc i pins s σ H E I hf st (hg i H g)) fun r s1 ⟨u, e, h⟩ => ⟨u, e, thn h fun _ s2 ⟨x, H', I', rv, y, t, k⟩ => ⟨x, H', I', rv, hy X hK i pins s σ H x H' I g y, t, k⟩⟩,
    fun X hP hw hK hc i pins s σ H E I hf st g => T.done X hP hw hK hc i pins s σ H E I hf st (hs i H g), T.self⟩
theorem sq_at {X : Cx} {tg : Expr} {pins : List (Addr × Obj)} {s1 : Shared} {σ : L2.St} {H1 : Hp} {R : It → Hp → Prop} {v : Value} {src : Src} (I1 : Inv X pins σ H1 s1) (r1 : RelV src.v v) (ok : src.ok X.K H1) (q : src.n ≤ sizeLine ∨ (∃ z, src = .z z) → R (Itsq X.K src) H1) :
    wpAny (model X.prog X.w) X.A (pyIter v) (PIE X pins σ tg R) X.xe s1 := by
  have q := q (Src.size I1 ok)
  cases src with
  | l a xs =>
    cases r1
    obtain ⟨its, rv, p, hz⟩ := I1.list ok
    refine wpAny_pyIter_list p.isList ?_
    have T : Turn X.prog X.w X.K tg (Itsq X.K (.l a xs)) [s1.heap.objs.size] s1.heap.objs.size (fun i h => h.IsListIter s1.heap.objs.size a i) := Turn.map (turn_list a _) (fun i H g => ⟨xs, _, g.1, List.getElem?_eq_getElem g.2⟩) (fun i H g => ⟨xs, g.1, by rw [g.2]; exact Nat.le_refl _⟩) fun X' hK i pins s σ H x H' I' g y => ⟨y.1, y.2 xs g.1⟩
    refine ⟨s1.heap.objs.size, [s1.heap.objs.size], _, _, H1, rfl, I1.kept (t' := s1.toks) fun b o e => Heap.get?_push_of_some _ e, T, ⟨_, Heap.get?_push_size _ rfl, rfl, rfl⟩, fun b hb => ?_, q⟩
    have e : b = s1.heap.objs.size := by simpa using hb
    subst e
    exact I1.fpOk (Nat.le_refl _) (I1.hok.fresh (Nat.le_refl _))
  | t a xs =>
    cases r1
    obtain ⟨its, rv, p, hz⟩ := I1.tuple ok
    refine wpAny_pyIter_tuple (show s1.heap.IsTuple a its.toArray from p) ?_
    have T : Turn X.prog X.w X.K tg (Itsq X.K (.t a xs)) [s1.heap.objs.size] s1.heap.objs.size (fun i h => h.IsTupleIter s1.heap.objs.size a i) := Turn.map (turn_tuple a _) (fun i H g => ⟨xs, _, g.1, List.getElem?_eq_getElem g.2⟩) (fun i H g => ⟨xs, g.1, by rw [g.2]; exact Nat.le_refl _⟩) fun X' hK i pins s σ H x H' I' g y => ⟨y.1, y.2 xs g.1⟩
    refine ⟨s1.heap.objs.size, [s1.heap.objs.size], _, _, H1, rfl, I1.kept (t' := s1.toks) fun b o e => Heap.get?_push_of_some _ e, T, ⟨_, Heap.get?_push_size _ rfl, rfl, rfl⟩, fun b hb => ?_, q⟩
    have e : b = s1.heap.objs.size := by simpa using hb
    subst e
    exact I1.fpOk (Nat.le_refl _) (I1.hok.fresh (Nat.le_refl _))
  | z x =>
    obtain ⟨t, rfl⟩ := r1
    have T : ∀ ty, (ty = "str_ascii_iterator" ∨ ty = "str_iterator") → Turn X.prog X.w X.K tg (Itsq X.K (.z x)) [s1.heap.objs.size] s1.heap.objs.size (fun i h => h.IsStrIter s1.heap.objs.size ty x t i) := fun ty hty => Turn.map (turn_str _ x t ty hty) (fun i H g => g.2) (fun i H g => by show x.cps.size ≤ i; rw [g.2]; exact Nat.le_refl _) fun X' hK i pins s σ H v H' I' g y => ⟨y.1, by
      obtain ⟨c, h1, h2⟩ := y.2
      show x.cps[i]?.map _ = _
      rw [h1, h2]; rfl⟩
    cases ha : x.cps.all (· < 128)
    · exact wpAny_pyIter_wide ha (pi_one (tk := s1.toks) I1 _ (T "str_iterator" (.inr rfl)) ⟨_, Heap.get?_push_size _ rfl, rfl, rfl⟩ q)
    · exact wpAny_pyIter_ascii ha (pi_one (tk := s1.toks) I1 _ (T "str_ascii_iterator" (.inl rfl)) ⟨_, Heap.get?_push_size _ rfl, rfl, rfl⟩ q)
theorem pi_sq {X : Cx} {tg e : Expr} {te : TE} (he : PE X e te) : PI X tg e (iSq X.K te) := by
  refine ⟨fun pins s σ H R I h => ?_⟩
  refine thn (he.run pins s σ H _ I h) fun v s1 ⟨y, H1, I1, r1, src, ex, ok, q⟩ => ?_
  subst ex
  exact sq_at I1 r1 ok q
end Px

set_option Elab.async false
set_option linter.all false
set_option maxRecDepth 100000
set_option autoImplicit false
namespace Px
open PySem PySem.Spec PyProof.Rows L2

/-! ### what is walked -/
/-- the iterator gives the items ds, while what lies at S stands -/
def ItOk (K : PySem.W.Frag) (S P : Addr → Prop) (H : Hp) (J : It) (ds : List D) : Prop := ∀ (P' : Addr → Prop) (H' : Hp), (∀ a u, S a → H a = some u → H' a = some u) → (∀ a u, P a → H a = some u → P' a) →
  (∀ i, i < ds.length → J.go i H') ∧ (∀ i d x H'', ds[i]? = some d → J.yld i H' x H'' → Same H' H'' ∧ Rp K H'' P' x d) ∧ J.stop ds.length H'
def Sm (md : Md) (A : Am) (cn : Cn) (f : Nat → Addr) (Γ : Ga) : Addr → Prop := match md with
  | .b => nZ A
  | _ => Fz A cn f Γ
def tI (K : PySem.W.Frag) (A : Am) (E : EN) (md : Md) (m : Ga → M (List D)) : TI := fun σ H R' => ∃ cn f Γ, Rl K A cn f σ H Γ ∧
  (m Γ).wp (fun ds => ∀ J H', Kx A.gh.Z H H' → A.gh.G H' → ds.length ≤ sizeLine → ItOk K (Sm md A cn f Γ) (Fz A cn f Γ) H' J ds → R' J H') (xP A E cn)
structure PIV (X : Cx) (A : Am) (E : EN) (md : Md) (tg iter : Expr) (m : Ga → M (List D)) : Prop where
  pi : PI X tg iter (tI A.K A E md m)
theorem imp_pi {X : Cx} {tg iter : Expr} {t t' : TI} (h : PI X tg iter t) (i : ∀ σ H R, t' σ H R → t σ H R) : PI X tg iter t' := ⟨fun pins s σ H R I q => h.run pins s σ H R I (i σ H R q)⟩
/-- the items of what is walked -/
def signs (x : Str) : List D := x.cps.toList.map fun c => .str ⟨#[c]⟩
def itemsD : D → M (List D)
  | .lst ds => .ret ds
  | .tup ds => .ret ds
  | .str x => if x.cps.size ≤ 16777216 then .ret (signs x) else .stuck
  | _ => .stuck
section
variable {K : PySem.W.Frag} {A : Am} {E : EN} {cn : Cn} {f : Nat → Addr} {σ : L2.St} {H H' H1 : Hp} {Γ : Ga} {a : Addr} {w : V} {d : D} {md : Md}
/-- what is to be read in the mode, as a source -/
structure SrcOk (K K' : PySem.W.Frag) (S P : Addr → Prop) (H : Hp) (src : Src) (ds : List D) : Prop where
  n : src.n = ds.length
  ok : ∀ H', (∀ a u, S a → H a = some u → H' a = some u) → src.ok K' H'
  at_ : ∀ i d, ds[i]? = some d → ∃ x, src.at i = some x ∧ Rp K H P x d
theorem src_of {K' : PySem.W.Frag} (hk : KLe K K') {S P : Addr → Prop} (ht : ∀ a xs, H a = some (.tup xs) → S a) (h : Rb K H P S w d) {ds : List D} {Q : List D → Prop} {E' : Exn → Prop} (q : (itemsD d).wp Q E') : ∃ src ds, itemsD d = .ret ds ∧ Q ds ∧ w = src.v ∧ SrcOk K K' S P H src ds ∧ (src.n ≤ sizeLine ∨ (∃ z, src = .z z) → ds.length ≤ sizeLine) := by
  cases d with
  | lst ds =>
    obtain ⟨a, xs, e, hw, hx, r⟩ := h
    refine ⟨.l a xs, ds, rfl, q, e, ⟨r.length, fun H' k => .inl ?_, fun i d hd => ?_⟩, fun z => ?_⟩
    · exact .inl (k _ _ hw hx)
    · obtain ⟨v, h1, h2⟩ := r.get hd
      exact ⟨v, h1, h2⟩
    · rcases z with z | ⟨_, z⟩
      · rw [← r.length]; exact z
      · cases z
  | tup ds =>
    cases h with
    | @tup a xs _ hx r =>
      refine ⟨.t a xs, ds, rfl, q, rfl, ⟨r.length, fun H' k => ?_, fun i d hd => ?_⟩, fun z => ?_⟩
      · rcases hx with hx | hx
        · exact .inl (.inl (k _ _ (ht _ _ hx) hx))
        · exact .inr (let ⟨o, its, n, hl, z⟩ := hx; ⟨o, its, n, hk _ _ hl, z⟩)
      · obtain ⟨v, h1, h2⟩ := r.get hd
        exact ⟨v, h1, h2⟩
      · rcases z with z | ⟨_, z⟩
        · rw [← r.length]; exact z
        · cases z
  | str x =>
    cases h
    have q' : (if x.cps.size ≤ 16777216 then M.ret (signs x) else .stuck).wp Q E' := q
    by_cases hl : x.cps.size ≤ 16777216
    · rw [if_pos hl] at q'
      have el : (signs x).length = x.cps.size := by unfold signs; rw [List.length_map, Array.length_toList]
      refine ⟨.z x, signs x, if_pos hl, q', rfl, ⟨el.symm, fun _ _ => trivial, fun i d hd => ?_⟩, fun _ => by rw [el, sizeLine_eq]; exact hl⟩
      unfold signs at hd
      rw [List.getElem?_map, Array.getElem?_toList] at hd
      cases hc : x.cps[i]? with
      | none => rw [hc] at hd; cases hd
      | some c =>
        rw [hc] at hd
        cases hd
        exact ⟨.str ⟨#[c]⟩, by show x.cps[i]?.map _ = _; rw [hc]; rfl, .str _⟩
    · rw [if_neg hl] at q'; exact q'.elim
  | _ => exact q.elim
theorem rp_at {S P P' : Addr → Prop} (ht : ∀ a xs, H a = some (.tup xs) → S a) (hp : ∀ a, P a → S a) (k : ∀ a u, S a → H a = some u → H' a = some u) (p : ∀ a u, P a → H a = some u → P' a) (h : Rp K H P w d) : Rp K H' P' w d := by
  refine h.mono ⟨fun a u pa r => ?_, fun a xs r => ?_⟩ fun a u pa r => ?_
  · exact k _ _ (hp a pa) r
  · exact k _ _ (ht a xs r) r
  · obtain ⟨o, e⟩ := rd_some r
    exact p a o pa e
theorem it_sq {K' : PySem.W.Frag} {S P : Addr → Prop} {src : Src} {ds : List D} (ht : ∀ a xs, H a = some (.tup xs) → S a) (hp : ∀ a, P a → S a) (s : SrcOk K K' S P H src ds) : ItOk K S P H (Itsq K' src) ds := fun P' H' k p =>
  ⟨fun i hi => ⟨s.ok H' k, by rw [s.n]; exact hi⟩, fun i d x H'' hd y => by
    obtain ⟨e, y⟩ := y
    subst e
    obtain ⟨v, h1, h2⟩ := s.at_ i d hd
    rw [h1] at y; cases y
    exact ⟨Same.refl _, rp_at ht hp k p h2⟩, ⟨s.ok H' k, s.n.symm⟩⟩
/-- pairs of a number and an item -/
def enumL (ds : List D) : List D := (List.range ds.length).zipWith (fun i d => .tup [.int (i : Nat), d]) ds
theorem enumL_get {ds : List D} {i : Nat} : (enumL ds)[i]? = ds[i]?.map fun d => .tup [.int (i : Nat), d] := by
  unfold enumL
  rw [List.getElem?_zipWith]
  by_cases hi : i < ds.length
  · rw [List.getElem?_eq_getElem hi, List.getElem?_range hi]; rfl
  · rw [List.getElem?_eq_none (by omega : ds.length ≤ i)]
    cases (List.range ds.length)[i]? <;> rfl
theorem enumL_len {ds : List D} : (enumL ds).length = ds.length := by unfold enumL; simp
theorem it_en {K' : PySem.W.Frag} {S P : Addr → Prop} {src : Src} {ds : List D} (ht : ∀ a xs, H a = some (.tup xs) → S a) (hp : ∀ a, P a → S a) (s : SrcOk K K' S P H src ds) : ItOk K S P H (Iten K' src) (enumL ds) := fun P' H' k p =>
  ⟨fun i hi => ⟨s.ok H' k, by rw [s.n]; rw [enumL_len] at hi; exact hi⟩, fun i d x H'' hd y => by
    obtain ⟨T, x1, e1, hT, e2, y⟩ := y
    subst e1 e2
    rw [enumL_get] at hd
    cases hc : ds[i]? with
    | none => rw [hc] at hd; cases hd
    | some d1 =>
      rw [hc] at hd
      cases hd
      obtain ⟨v, h1, h2⟩ := s.at_ i d1 hc
      rw [h1] at y; cases y
      exact ⟨same_new hT, .tup (.inl upd_same) (.cons (.int _) (.cons ((rp_at ht hp k p h2).mono (same_ho (same_new hT)) fun _ _ p _ => p) .nil))⟩, ⟨s.ok H' k, by rw [enumL_len]; exact s.n.symm⟩⟩
def zipL (ds es : List D) : List D := List.zipWith (fun a b => .tup [a, b]) ds es
theorem it_zp {K' : PySem.W.Frag} {S P : Addr → Prop} {s1 s2 : Src} {ds es : List D} (ht : ∀ a xs, H a = some (.tup xs) → S a) (hp : ∀ a, P a → S a) (h1 : SrcOk K K' S P H s1 ds) (h2 : SrcOk K K' S P H s2 es) : ItOk K S P H (Itzp K' s1 s2) (zipL ds es) := fun P' H' k p => by
  have hl : (zipL ds es).length = min ds.length es.length := by unfold zipL; simp
  refine ⟨fun i hi => ⟨h1.ok H' k, h2.ok H' k, by rw [h1.n]; omega, by rw [h2.n]; omega⟩, fun i d x H'' hd y => ?_, ⟨h1.ok H' k, h2.ok H' k, by rw [h1.n]; omega, by rw [h2.n]; omega, by rw [h1.n, h2.n]; omega⟩⟩
  obtain ⟨T, x1, x2, e1, hT, e2, y1, y2⟩ := y
  subst e1 e2
  unfold zipL at hd
  rw [List.getElem?_zipWith] at hd
  cases hc : ds[i]? with
  | none => rw [hc] at hd; cases hd
  | some d1 =>
    cases hc2 : es[i]? with
    | none => rw [hc, hc2] at hd; cases hd
    | some d2 =>
      rw [hc, hc2] at hd
      cases hd
      have o := same_ho (P := P') (same_new (o := .tup [x1, x2]) hT)
      obtain ⟨v1, q1, r1⟩ := h1.at_ i d1 hc
      obtain ⟨v2, q2, r2⟩ := h2.at_ i d2 hc2
      rw [q1] at y1; cases y1
      rw [q2] at y2; cases y2
      exact ⟨same_new hT, .tup (.inl upd_same) (.cons ((rp_at ht hp k p r1).mono o fun _ _ p _ => p) (.cons ((rp_at ht hp k p r2).mono o fun _ _ p _ => p) .nil))⟩
theorem sm_tup (R : Rl K A cn f σ H Γ) : ∀ a xs, H a = some (.tup xs) → Sm md A cn f Γ a := fun a xs r => by
  cases md with
  | b => exact (R.tup r).nz
  | s => exact R.tup r
  | f => exact R.tup r
theorem sm_fz : ∀ a, Fz A cn f Γ a → Sm md A cn f Γ a := fun a p => by
  cases md with
  | b => exact p.nz
  | s => exact p
  | f => exact p
theorem Rl.rbm (R : Rl K A cn f σ H Γ) (h : Rq md K H H' (Fz A cn f Γ) (nZ A) w d) : Rb K H' (Fz A cn f Γ) (Sm md A cn f Γ) w d := by
  cases md with
  | b => exact h
  | s => exact Rp.rb h fun _ p => p
  | f => exact Rf.rb h (fun _ => R.fresh) fun _ p => p
end
section
variable {X : Cx} {A : Am} {E : EN} {md md1 md2 md3 : Md} {e a b c tg : Expr} {es rest : List Expr} {st : Stmt} {sts st2 : List Stmt} {m ma mb mc : Ga → M D} {mi : Ga → M (List D)} {mT mU : Ga → M Bool} {ml : Ga → M (List D)} {m1 m2 : Ga → M (Ct × Ga)} {pos p : Pos} {x : Str}
def itM (ma : Ga → M D) : Ga → M (List D) := fun Γ => ma Γ >>= itemsD
theorem piv_sq (hk : KLe A.K X.K) (he : PEV X A E md e ma) : PIV X A E md tg e (itM ma) := by
  refine ⟨imp_pi (pi_sq he.pe) fun σ H R' ⟨cn, f, Γ, R, h⟩ => ⟨cn, f, Γ, R, M.wp_mono (M.wp_bind.mp h) (fun d q w H1 k1 g1 r1 => ?_) fun _ x => x⟩⟩
  have R1 := R.kx k1 g1
  obtain ⟨src, ds, e1, q, ew, s, hz⟩ := src_of hk (S := Sm md A cn f Γ) (sm_tup R1) (R.rbm r1) q (ds := [])
  exact ⟨src, ew, s.ok H1 fun _ _ _ e => e, fun z => q _ H1 k1 g1 (hz z) (it_sq (sm_tup R1) sm_fz s)⟩
def enM (ma : Ga → M D) : Ga → M (List D) := fun Γ => ma Γ >>= itemsD >>= fun ds => .ret (enumL ds)
/-- one argument, in its mode -/
theorem pa_one {e : Expr} (he : PEV X A E md e ma) (hs : starEach [e] X.env = (false, eval e X.env) :: starEach [] X.env := by rfl) : PA X [e] (tCons (tV A.K A E md ma) tNil) := pa_cons he.pe pa_nil hs
theorem piv_en (hk : KLe A.K X.K) {tpos : Pos} {elts : List Expr} {kk : Nat} (hg : Gl X "enumerate") (hm : X.mg "enumerate" = none) (he : PEV X A E md e ma) (hs : starEach [e] X.env = [(false, eval e X.env)] := by rfl) (hs2 : starEach [e] X.env = (false, eval e X.env) :: starEach [] X.env := by rfl) :
    PIV X A E md (.Tuple elts kk tpos) (.Call (.Name "enumerate" p) [e] [] pos) (enM ma) := by
  refine ⟨imp_pi (pi_en hg hm (pa_one he hs2) hs) fun σ H R' ⟨cn, f, Γ, R, h⟩ => ⟨cn, f, Γ, R, M.wp_mono (M.wp_bind.mp (M.wp_bind.mp h)) (fun d q w H1 k1 g1 r1 => ?_) fun _ x => x⟩⟩
  have R1 := R.kx k1 g1
  obtain ⟨src, ds, e1, q, ew, s, hz⟩ := src_of hk (S := Sm md A cn f Γ) (sm_tup R1) (R.rbm r1) q (ds := [])
  refine ⟨src, by rw [ew], s.ok H1 fun _ _ _ e => e, fun z => ?_⟩
  exact q _ H1 k1 g1 (by rw [enumL_len]; exact hz z) (it_en (sm_tup R1) sm_fz s)
def zpM (ma mb : Ga → M D) : Ga → M (List D) := fun Γ => ma Γ >>= fun d => mb Γ >>= fun e => itemsD d >>= fun ds => itemsD e >>= fun es => .ret (zipL ds es)
theorem tame_items {d : D} {Q : List D → Prop} {E' : Exn → Prop} (h : (itemsD d).wp Q E') : ∃ ds, itemsD d = .ret ds ∧ Q ds := by
  cases d with
  | lst ds => exact ⟨_, rfl, h⟩
  | tup ds => exact ⟨_, rfl, h⟩
  | str x =>
    have h' : (if x.cps.size ≤ 16777216 then M.ret (signs x) else .stuck).wp Q E' := h
    by_cases hl : x.cps.size ≤ 16777216
    · rw [if_pos hl] at h'; exact ⟨_, if_pos hl, h'⟩
    · rw [if_neg hl] at h'; exact h'.elim
  | _ => exact h.elim
theorem piv_zp (hk : KLe A.K X.K) {tpos : Pos} {elts : List Expr} {kk : Nat} (hmd : md = .b ∨ md = .s) (hg : Gl X "zip") (hm : X.mg "zip" = none) (ha : PEV X A E md a ma) (hb : PEV X A E md b mb) (hs : starEach [a, b] X.env = (false, eval a X.env) :: starEach [b] X.env := by rfl) (hs2 : starEach [b] X.env = (false, eval b X.env) :: starEach [] X.env := by rfl)
    (hpl : (backTo pos (starEach [b] X.env)).any (·.1) = false := by rfl) : PIV X A E md (.Tuple elts kk tpos) (.Call (.Name "zip" p) [a, b] [] pos) (zpM ma mb) := by
  refine ⟨imp_pi (pi_zp hg hm (pa_cons ha.pe (pa_one hb hs2) hs) hs hpl) fun σ H R' ⟨cn, f, Γ, R, h⟩ => ⟨cn, f, Γ, R, M.wp_mono (M.wp_bind.mp h) (fun d q w H1 k1 g1 r1 => ?_) fun _ x => x⟩⟩
  have R1 := R.kx k1 g1
  refine ⟨cn, f, Γ, R1, M.wp_mono (M.wp_bind.mp q) (fun d2 q w2 H2 k2 g2 r2 => ?_) fun _ x => x⟩
  have R2 := R1.kx k2 g2
  have q := M.wp_bind.mp q
  have rb1 : Rb A.K H2 (Fz A cn f Γ) (Sm md A cn f Γ) w d := by
    rcases hmd with rfl | rfl
    · exact R1.rbk k2 r1
    · exact (R1.rpk k2 r1).rb fun _ p => p
  obtain ⟨s1, ds, e1, q, ew, o1, hz1⟩ := src_of hk (S := Sm md A cn f Γ) (sm_tup R2) rb1 q (ds := [])
  obtain ⟨s2, es, e2, q, ew2, o2, hz2⟩ := src_of hk (S := Sm md A cn f Γ) (sm_tup R2) (R1.rbm r2) (M.wp_bind.mp q) (ds := [])
  refine ⟨s1, s2, by rw [ew, ew2], o1.ok H2 fun _ _ _ e => e, o2.ok H2 fun _ _ _ e => e, fun z1 z2 => q _ H2 (k1.trans k2) g2 ?_ (it_zp (sm_tup R2) sm_fz o1 o2)⟩
  unfold zipL
  rw [List.length_zipWith]
  have := hz1 z1
  omega
/-! ranges -/
def rangeL (lo c : Int) (n : Nat) : List D := (List.range n).map fun i => .int (lo + (i : Nat) * c)
def rangeD : List D → M (List D)
  | [.int j] => if j ≤ 16777216 ∧ -(2 ^ 62) ≤ j then .ret (rangeL 0 1 j.toNat) else .stuck
  | [.int i, .int j] => if -(2 ^ 62) ≤ i ∧ i < 2 ^ 62 ∧ -(2 ^ 62) ≤ j ∧ j < 2 ^ 62 ∧ j - i ≤ 16777216 then .ret (rangeL i 1 (j - i).toNat) else .stuck
  | _ => .stuck
theorem it_range {K : PySem.W.Frag} {S P : Addr → Prop} {H : Hp} {lo : Int} {n : Nat} : ItOk K S P H (Itr lo n) (rangeL lo 1 n) := fun P' H' k p => by
  have hl : (rangeL lo 1 n).length = n := by unfold rangeL; simp
  refine ⟨fun i hi => by rw [hl] at hi; exact hi, fun i d x H'' hd y => ?_, by rw [hl]; exact Nat.le_refl _⟩
  obtain ⟨e1, e2⟩ := y
  subst e1 e2
  unfold rangeL at hd
  rw [List.getElem?_map] at hd
  cases hc : (List.range n)[i]? with
  | none => rw [hc] at hd; cases hd
  | some j =>
    rw [hc] at hd
    cases hd
    have : j = i := by
      obtain ⟨h1, h2⟩ := List.getElem?_eq_some_iff.mp hc
      simpa using h2.symm
    subst this
    exact ⟨Same.refl _, by show Rp K _ P' (V.int (lo + (j : Nat))) (D.int (lo + (j : Nat) * 1)); rw [Int.mul_one]; exact .int _⟩
theorem piv_range1 (hg : Gl X "range") (hm : X.mg "range" = none) (ha : PAVL X A E .b [a] ml) (hs : starEach [a] X.env = [(false, eval a X.env)] := by rfl) : PIV X A E .s tg (.Call (.Name "range" p) [a] [] pos) (fun Γ => ml Γ >>= rangeD) := by
  refine ⟨imp_pi (pi_range1 hg hm ha.pa hs) fun σ H R' ⟨cn, f, Γ, R, h⟩ => ⟨cn, f, Γ, R, M.wp_mono (ha.len _ _ _ (M.wp_bind.mp h)) (fun ds q ws H1 k1 g1 r1 => ?_) fun _ x => x⟩⟩
  obtain ⟨q, hl⟩ := q
  match ds, hl with
  | [d], _ =>
    cases r1 with
    | cons h1 h2 =>
      cases h2
      cases d with
      | int j =>
        have q' : (if j ≤ 16777216 ∧ -(2 ^ 62) ≤ j then M.ret (rangeL 0 1 j.toNat) else .stuck).wp _ _ := q
        by_cases hj : j ≤ 16777216 ∧ -(2 ^ 62) ≤ j
        · rw [if_pos hj] at q'
          cases (show Rp A.K H1 (Fz A cn f Γ) _ (.int j) from h1)
          refine ⟨j, rfl, hj.2, by have := hj.1; omega, q' _ H1 k1 g1 ?_ it_range⟩
          unfold rangeL
          rw [List.length_map, List.length_range, sizeLine_eq]
          have := hj.1
          omega
        · rw [if_neg hj] at q'; exact q'.elim
      | _ => exact q.elim
theorem piv_range2 (hg : Gl X "range") (hm : X.mg "range" = none) (ha : PAVL X A E .b [a, b] ml) (hs : starEach [a, b] X.env = [(false, eval a X.env), (false, eval b X.env)] := by rfl) (hs2 : starEach [b] X.env = [(false, eval b X.env)] := by rfl) : PIV X A E .s tg (.Call (.Name "range" p) [a, b] [] pos) (fun Γ => ml Γ >>= rangeD) := by
  refine ⟨imp_pi (pi_range2 hg hm ha.pa hs hs2) fun σ H R' ⟨cn, f, Γ, R, h⟩ => ⟨cn, f, Γ, R, M.wp_mono (ha.len _ _ _ (M.wp_bind.mp h)) (fun ds q ws H1 k1 g1 r1 => ?_) fun _ x => x⟩⟩
  obtain ⟨q, hl⟩ := q
  match ds, hl with
  | [d, d2], _ =>
    cases r1 with
    | cons h1 h2 =>
      cases h2 with
      | cons h2 h3 =>
        cases h3
        cases d with
        | int i =>
          cases d2 with
          | int j =>
            have q' : (if -(2 ^ 62) ≤ i ∧ i < 2 ^ 62 ∧ -(2 ^ 62) ≤ j ∧ j < 2 ^ 62 ∧ j - i ≤ 16777216 then M.ret (rangeL i 1 (j - i).toNat) else .stuck).wp _ _ := q
            by_cases hj : -(2 ^ 62) ≤ i ∧ i < 2 ^ 62 ∧ -(2 ^ 62) ≤ j ∧ j < 2 ^ 62 ∧ j - i ≤ 16777216
            · rw [if_pos hj] at q'
              obtain ⟨j1, j2, j3, j4, j5⟩ := hj
              cases (show Rp A.K H1 (Fz A cn f Γ) _ (.int i) from h1)
              cases (show Rp A.K H1 (Fz A cn f Γ) _ (.int j) from h2)
              refine ⟨i, j, rfl, ⟨j1, j2, j3, j4⟩, q' _ H1 k1 g1 ?_ it_range⟩
              unfold rangeL
              rw [List.length_map, List.length_range, sizeLine_eq]
              omega
            · rw [if_neg hj] at q'; exact q'.elim
          | _ => exact q.elim
        | _ => exact q.elim

/-! ### for -/
def forM (body : D → Ga → M (Ct × Ga)) : List D → Ga → M (Ct × Ga)
  | [], Γ => .ret (.nx, Γ)
  | d :: r, Γ => body d Γ >>= fun x => match x.1 with
    | .nx => forM body r x.2
    | .ct => forM body r x.2
    | .bk => .ret (.nx, x.2)
    | .rt d => .ret (.rt d, x.2)
def forS (mi : Ga → M (List D)) (bnd : D → Ga → M Ga) (m1 : Ga → M (Ct × Ga)) : Ga → M (Ct × Ga) := fun Γ => mi Γ >>= fun ds => forM (fun d Γ => bnd d Γ >>= m1) ds Γ
theorem psv_for {iter : Expr} {ts : List Nat} {bnd : D → Ga → M Ga} (hp : PassesOwn (model X.prog X.w) X.A X.env X.xe) (hc : X.calm = true) (hi : PIV X A E .s tg iter mi) (hg : PGV X A tg ts bnd) (ht : TameG bnd) (hb : PSVs X A E md sts m1)
    (hs : ∀ x, foldedSetIterable iter X.env x = pure x := by intro _; rfl) : PSV X A E md (.For tg iter sts [] pos) (forS mi bnd m1) := by
  refine ⟨imp_ps (ps_for hp hc hi.pi hg.pg hb.ps hs) fun Dn σ0 H ⟨cn, f0, Γ0, R, h⟩ => ⟨cn, f0, Γ0, R, M.wp_mono (M.wp_bind.mp h) (fun ds q J H0 k0 g0 hz it => ?_) fun _ x => x⟩⟩
  have R0 := R.kx k0 g0
  have it' : ItOk A.K (Fz A cn f0 Γ0) (Fz A cn f0 Γ0) H0 J ds := it
  refine ⟨fun i k σ H' => ∃ f Γ, Rl A.K A cn f σ H' Γ ∧ Hs A cn f0 Γ0 H0 f Γ H' ∧ i ≤ ds.length ∧ k = ds.length - i ∧ (forM (fun d Γ => bnd d Γ >>= m1) (ds.drop i) Γ).wp (sP A.K A cn md f Γ H' Dn) (xP A E cn),
    ⟨ds.length, f0, Γ0, R0, .refl, Nat.zero_le _, rfl, M.wp_mono q (fun r q => q.pre (.kx k0)) fun _ x => x⟩, ?_⟩
  rintro i k σ H' ⟨f, Γ, R, hs', hi, rfl, q⟩
  obtain ⟨go, yl, stop⟩ := it' (Fz A cn f Γ) H' (fun a u p e => (hs' a p u e).2) (fun a u p e => (hs' a p u e).1)
  by_cases hlt : i < ds.length
  · refine .inr ⟨go i hlt, fun σ' H'' => ∃ f' Γ', Rl A.K A cn f' σ' H'' Γ' ∧ Hs A cn f0 Γ0 H0 f' Γ' H'' ∧ (forM (fun d Γ => bnd d Γ >>= m1) (ds.drop (i + 1)) Γ').wp (sP A.K A cn md f' Γ' H'' Dn) (xP A E cn), fun σ' H'' ⟨f', Γ', R', s', q'⟩ => ⟨ds.length - (i + 1), by omega, f', Γ', R', s', hlt, rfl, q'⟩, fun x H1 y => ?_⟩
    obtain ⟨sm, rx⟩ := yl i _ x H1 (List.getElem?_eq_getElem hlt) y
    have R1 := R.kx (same_kx sm) (A.gh.same R.g sm)
    rw [List.drop_eq_getElem_cons hlt] at q
    have q := M.wp_bind.mp (M.wp_bind.mp q)
    refine ⟨cn, f, Γ, _, R1, rx, M.wp_mono (ht _ _ _ _ q) (fun Γ2 q σ2 s2 R2 _ => ?_) fun _ z => z⟩
    refine ⟨cn, f, Γ2, R2, M.wp_mono q (fun r q => ?_) fun _ x => x⟩
    have s02 : Hs A cn f Γ H' f Γ2 H1 := (Hs.kx (same_kx sm)).trans s2
    obtain ⟨c, Γ3⟩ := r
    cases c with
    | nx => exact fun f3 σ3 H3 s3 R3 => ⟨f3, Γ3, R3, hs'.trans (s02.trans s3), M.wp_mono q (fun r q => q.pre (s02.trans s3)) fun _ x => x⟩
    | ct => exact fun f3 σ3 H3 s3 R3 => ⟨f3, Γ3, R3, hs'.trans (s02.trans s3), M.wp_mono q (fun r q => q.pre (s02.trans s3)) fun _ x => x⟩
    | bk => exact fun f3 σ3 H3 s3 R3 => q f3 σ3 H3 (s02.trans s3) R3
    | rt d => exact q
  · have e : i = ds.length := by omega
    subst e
    rw [List.drop_length] at q
    exact .inl ⟨stop, q f σ H' .refl R⟩

/-! ### while -/
def whileM (c : Ga → M Bool) (m1 : Ga → M (Ct × Ga)) : Nat → Ga → M (Ct × Ga)
  | 0, _ => .stuck
  | n + 1, Γ => c Γ >>= fun k => if k = true then m1 Γ >>= fun x => (match x.1 with
    | .nx => whileM c m1 n x.2
    | .ct => whileM c m1 n x.2
    | .bk => .ret (.nx, x.2)
    | .rt d => .ret (.rt d, x.2)) else .ret (.nx, Γ)
theorem psv_while (n : Nat) (hp : PassesOwn (model X.prog X.w) X.A X.env X.xe) (hc : PTV X A E c mT) (hb : PSVs X A E md sts m1) : PSV X A E md (.While c sts [] pos) (whileM mT m1 n) := by
  refine ⟨imp_ps (ps_while hp hc.pt hb.ps) fun Dn σ0 H0 ⟨cn, f0, Γ0, R0, h⟩ => ?_⟩
  refine ⟨fun k σ H => ∃ f Γ, Rl A.K A cn f σ H Γ ∧ (whileM mT m1 k Γ).wp (sP A.K A cn md f Γ H Dn) (xP A E cn), ⟨n, f0, Γ0, R0, h⟩, ?_⟩
  rintro k σ H ⟨f, Γ, R, q⟩
  cases k with
  | zero => exact q.elim
  | succ k =>
    refine ⟨cn, f, Γ, R, M.wp_mono (M.wp_bind.mp q) (fun b q H1 k1 g1 => ?_) fun _ x => x⟩
    have R1 := R.kx k1 g1
    cases b with
    | true =>
      refine if_pos rfl |>.mpr ⟨fun σ' H' => ∃ f' Γ', Rl A.K A cn f' σ' H' Γ' ∧ (whileM mT m1 k Γ').wp (sP A.K A cn md f' Γ' H' Dn) (xP A E cn), fun σ' H' ⟨f', Γ', R', q'⟩ => ⟨k, Nat.lt_succ_self _, f', Γ', R', q'⟩, cn, f, Γ, R1, M.wp_mono (M.wp_bind.mp q) (fun r q => ?_) fun _ x => x⟩
      obtain ⟨c, Γ3⟩ := r
      cases c with
      | nx => exact fun f3 σ3 H3 s3 R3 => ⟨f3, Γ3, R3, M.wp_mono q (fun r q => q.pre ((Hs.kx k1).trans s3)) fun _ x => x⟩
      | ct => exact fun f3 σ3 H3 s3 R3 => ⟨f3, Γ3, R3, M.wp_mono q (fun r q => q.pre ((Hs.kx k1).trans s3)) fun _ x => x⟩
      | bk => exact fun f3 σ3 H3 s3 R3 => q f3 σ3 H3 ((Hs.kx k1).trans s3) R3
      | rt d => exact q
    | false => exact q f σ H1 (.kx k1) R1
end
end Px

set_option Elab.async false
set_option linter.all false
set_option maxRecDepth 100000
set_option autoImplicit false
namespace Px
open PySem PySem.Spec PyProof.Rows L2

/-! ### list comprehensions -/
def wipeG (Γ : Ga) : List Nat → Ga
  | [] => Γ
  | v :: vs => (wipeG Γ vs).set v .un
def Sl.isOwn : Sl → Bool
  | .own _ => true
  | _ => false
def ownFree (vs : List Nat) (Γ : Ga) : Bool := vs.all fun i => match Γ[i]? with
  | some s => !s.isOwn
  | none => true
section
variable {K : PySem.W.Frag} {A : Am} {E : EN} {cn : Cn} {f : Nat → Addr} {σ σ' : L2.St} {H H' H1 : Hp} {Γ Γ' : Ga} {a b : Addr} {w : V} {d : D} {md : Md}
theorem wipeG_len : ∀ vs : List Nat, (wipeG Γ vs).length = Γ.length
  | [] => rfl
  | v :: vs => by unfold wipeG; rw [List.length_set, wipeG_len vs]
theorem wipeG_get : ∀ {vs : List Nat} {i : Nat} {s : Sl}, (wipeG Γ vs)[i]? = some s → s ≠ .un → Γ[i]? = some s ∧ i ∉ vs
  | [], _, _, h, _ => ⟨h, by simp⟩
  | v :: vs, i, s, h, hs => by
    unfold wipeG at h
    rcases set_get h with ⟨_, e, _⟩ | ⟨ne, h⟩
    · exact absurd e hs
    · obtain ⟨h1, h2⟩ := wipeG_get h hs
      exact ⟨h1, fun z => (List.mem_cons.mp z).elim ne h2⟩
theorem wipeG_out : ∀ {vs : List Nat} {i : Nat}, i ∉ vs → (wipeG Γ vs)[i]? = Γ[i]?
  | [], _, _ => rfl
  | v :: vs, i, h => by
    unfold wipeG
    rw [List.mem_cons, not_or] at h
    rw [set_ne h.1, wipeG_out h.2]
theorem wipe_out : ∀ {vs : List Nat} {i : Nat}, i ∉ vs → (wipe σ vs)[i]? = σ[i]?
  | [], _, _ => rfl
  | v :: vs, i, h => by
    unfold wipe
    rw [List.mem_cons, not_or] at h
    rw [set_ne h.1, wipe_out h.2]
theorem wipe_in : ∀ {vs : List Nat} {i : Nat}, i ∈ vs → i < σ.length → (wipe σ vs)[i]? = some none
  | v :: vs, i, h, hl => by
    unfold wipe
    by_cases e : i = v
    · subst e
      exact set_at (by rw [wipe_length]; exact hl)
    · rw [set_ne e]
      exact wipe_in ((List.mem_cons.mp h).elim (fun z => absurd z e) id) hl
theorem wipe_ag {vs ts : List Nat} (ht : ∀ j, j ∈ ts → j ∈ vs) (ag : Ag ts (wipe σ vs) σ' Γ Γ') : wipe σ' vs = wipe σ vs := by
  have hl : σ'.length = σ.length := by rw [ag.1, wipe_length]
  refine List.ext_getElem? fun j => ?_
  by_cases hj : j ∈ vs
  · by_cases hlt : j < σ.length
    · rw [wipe_in hj hlt, wipe_in hj (by rw [hl]; exact hlt)]
    · rw [List.getElem?_eq_none (by rw [wipe_length]; omega), List.getElem?_eq_none (by rw [wipe_length]; omega)]
  · rw [wipe_out hj, ag.2.1 j (fun z => hj (ht j z)), wipe_out hj]
theorem ownFree_at {vs : List Nat} (h : ownFree vs Γ = true) {i : Nat} {d : D} (e : Γ[i]? = some (.own d)) : i ∉ vs := fun hm => by
  have := List.all_eq_true.mp h i hm
  rw [e] at this
  exact absurd (show false = true from this) Bool.false_ne_true
theorem fz_wipe {vs : List Nat} (h : ownFree vs Γ = true) : Fz A cn f (wipeG Γ vs) b ↔ Fz A cn f Γ b :=
  ⟨fun p => ⟨p.1, p.2.1, fun i d e => p.2.2 i d (by rw [wipeG_out (ownFree_at h e)]; exact e)⟩, fun p => ⟨p.1, p.2.1, fun i d e => p.2.2 i d (wipeG_get e (by simp)).1⟩⟩
theorem Rl.wipe (R : Rl K A cn f σ H Γ) {vs : List Nat} (h : ownFree vs Γ = true) : Rl K A cn f (L2.wipe σ vs) H (wipeG Γ vs) := by
  refine ⟨by rw [wipe_length, wipeG_len]; exact R.len, R.g, R.keep, fun b ob hb => ⟨(fz_wipe h).mpr (R.lkf b ob hb).1, (R.lkf b ob hb).2⟩, R.hdm, fun i d e => ?_, fun i d e => ?_, fun i j d e h1 h2 => R.inj i j d e (wipeG_get h1 (by simp)).1 (wipeG_get h2 (by simp)).1⟩
  · obtain ⟨e1, e2⟩ := wipeG_get e (by simp)
    obtain ⟨w, h1, h2⟩ := R.sl i d e1
    exact ⟨w, by rw [wipe_out e2]; exact h1, h2.mono .refl fun _ _ p _ => (fz_wipe h).mpr p⟩
  · obtain ⟨e1, e2⟩ := wipeG_get e (by simp)
    obtain ⟨h1, h2, h3, h4⟩ := R.ow i d e1
    exact ⟨by rw [wipe_out e2]; exact h1, h2, h3, h4.mono .refl (fun _ _ p _ => (fz_wipe h).mpr p) fun _ z => z⟩
/-- one item's part -/
def lcOne (bnd : D → Ga → M Ga) (cond : Ga → M Bool) (elt : Ga → M D) (Γ : Ga) (d : D) : M (List D) := (bnd d Γ >>= fun Γ2 => cond Γ2 >>= fun k => if k = true then (elt Γ2 >>= fun e => .ret [e]) else .ret []).noexc
def lcGo (one : D → M (List D)) : List D → M (List D)
  | [] => .ret []
  | d :: r => one d >>= fun l => lcGo one r >>= fun es => .ret (l ++ es)
def lcM (vs : List Nat) (mi : Ga → M (List D)) (bnd : D → Ga → M Ga) (cond : Ga → M Bool) (elt : Ga → M D) : Ga → M D := fun Γ =>
  if ownFree vs Γ = true then mi Γ >>= fun ds => lcGo (lcOne bnd cond elt (wipeG Γ vs)) ds >>= fun es => .ret (.lst es) else .stuck
theorem tLc_of {vs ts : List Nat} {mi : Ga → M (List D)} {bnd : D → Ga → M Ga} {cond : Ga → M Bool} {elt : Ga → M D} (hts : ∀ j, j ∈ ts → j ∈ vs) (ht : TameG bnd) {Q : VK} (h : tV K A E .f (lcM vs mi bnd cond elt) σ H Q) :
    tLc (tI K A E md mi) (tG K A ts bnd) (tT K A never cond) (tV K A never .s elt) vs σ H Q := by
  obtain ⟨cn, f, Γ, R, h⟩ := h
  unfold lcM at h
  by_cases ho : ownFree vs Γ = true
  · rw [if_pos ho] at h
    refine ⟨cn, f, Γ, R, M.wp_mono (M.wp_bind.mp h) (fun ds q J H1 k1 g1 hz it D hD => ?_) fun _ x => x⟩
    have R1 := R.kx k1 g1
    have hDz : ¬ A.gh.Z D := fun z => by obtain ⟨_, e, _⟩ := A.gh.gz H1 D g1 z; rw [hD] at e; cases e
    have hn := R.kx_none k1 g1 hD
    -- the state at a turn
    have st : ∀ {H2 : Hp} {o : HO}, Kx A.gh.Z H1 H2 → A.gh.G H2 → H2 D = some o → Mut (some o) → Rl K A (cn.plus [D]) f (L2.wipe σ vs) H2 (wipeG Γ vs) := fun k g e m =>
      (R1.wipe ho).hide k g fun a ha => by
        have ea : a = D := by simpa using ha
        subst ea
        exact ⟨hD, _, e, m⟩
    have sub : ∀ b, Fz A (cn.plus [D]) f (wipeG Γ vs) b → Fz A cn f Γ b ∧ b ≠ D := fun b p => by
      obtain ⟨p1, p2⟩ := (fz_plus [D]).mp p
      exact ⟨(fz_wipe ho).mp p1, fun z => p2 (by simp [z])⟩
    have sub' : ∀ b, Fz A cn f Γ b → b ≠ D → Fz A (cn.plus [D]) f (wipeG Γ vs) b := fun b p n => (fz_plus [D]).mpr ⟨(fz_wipe ho).mpr p, by simpa using n⟩
    refine ⟨fun i k H2 => ∃ acc es, H2 D = some (.lst acc) ∧ acc.length ≤ i ∧ i ≤ ds.length ∧ k = ds.length - i ∧ RpL K H2 (Fz A (cn.plus [D]) f (wipeG Γ vs)) acc es ∧ Kx A.gh.Z H1 H2 ∧ A.gh.G H2 ∧
      (lcGo (lcOne bnd cond elt (wipeG Γ vs)) (ds.drop i)).wp (fun es' => ∀ w H', Kx A.gh.Z H H' → A.gh.G H' → Rq .f K H H' (Fz A cn f Γ) (nZ A) w (.lst (es ++ es')) → Q w H') (xP A E cn),
      ⟨ds.length, [], [], upd_same, Nat.le_refl _, Nat.zero_le _, rfl, .nil, Kx.upd hD, A.gh.same g1 (same_new hD), M.wp_mono (M.wp_bind.mp q) (fun es' q => q) fun _ x => x⟩, ?_⟩
    rintro i k H2 ⟨acc, es, hacc, hal, hi, rfl, rl, k2, g2, q⟩
    have R2 := st k2 g2 hacc trivial
    obtain ⟨go, yl, stop⟩ := it (Fz A (cn.plus [D]) f (wipeG Γ vs)) H2 (fun a u p e => k2 a u (by cases md with | b => exact p | s => exact Fz.nz p | f => exact Fz.nz p) e) (fun a u p e => sub' a p fun z => by rw [z, hD] at e; cases e)
    by_cases hlt : i < ds.length
    · rw [List.drop_eq_getElem_cons hlt] at q
      have q := M.wp_bind.mp q
      refine .inr ⟨go i hlt, fun H3 => ∃ acc es, H3 D = some (.lst acc) ∧ acc.length ≤ i + 1 ∧ RpL K H3 (Fz A (cn.plus [D]) f (wipeG Γ vs)) acc es ∧ Kx A.gh.Z H1 H3 ∧ A.gh.G H3 ∧
        (lcGo (lcOne bnd cond elt (wipeG Γ vs)) (ds.drop (i + 1))).wp (fun es' => ∀ w H', Kx A.gh.Z H H' → A.gh.G H' → Rq .f K H H' (Fz A cn f Γ) (nZ A) w (.lst (es ++ es')) → Q w H') (xP A E cn),
        fun H3 ⟨acc, es, a1, a2, a3, a4, a5, a6⟩ => ⟨ds.length - (i + 1), by omega, acc, es, a1, a2, hlt, rfl, a3, a4, a5, a6⟩, fun x H3 y => ?_⟩
      obtain ⟨sm, rx⟩ := yl i _ x H3 (List.getElem?_eq_getElem hlt) y
      have kk3 : Kx A.gh.Z H2 H3 := same_kx sm
      have g3 := A.gh.same g2 sm
      have R3 := R2.kx kk3 g3
      have q := M.wp_bind.mp (M.wp_noexc q)
      refine ⟨cn.plus [D], f, wipeG Γ vs, _, R3, rx, M.wp_mono q (fun Γ2 q σ2 s2 R4 ag => ⟨wipe_ag hts ag, ?_⟩) fun _ x => x⟩
      have back : ∀ b, Fz A (cn.plus [D]) f Γ2 b → Fz A (cn.plus [D]) f (wipeG Γ vs) b := fun b p => ⟨p.1, p.2.1, fun j d e => p.2.2 j d (by
        rw [ag.2.2 j fun z => (wipeG_get e (by simp)).2 (hts j z)]; exact e)⟩
      refine ⟨cn.plus [D], f, Γ2, R4, M.wp_mono (M.wp_bind.mp q) (fun b q H4 k4 g4 => ?_) fun _ x => x.elim⟩
      have hD4 : H4 D = some (.lst acc) := k4 _ _ hDz (kk3 _ _ hDz hacc)
      have k24 : Kx A.gh.Z H2 H4 := kk3.trans k4
      cases b with
      | true =>
        refine if_pos rfl |>.mpr ⟨cn.plus [D], f, Γ2, R4.kx k4 g4, M.wp_mono (M.wp_bind.mp q) (fun e q y H5 k5 g5 r5 => ?_) fun _ x => x.elim⟩
        have hD5 : H5 D = some (.lst acc) := k5 _ _ hDz hD4
        have k25 : Kx A.gh.Z H2 H5 := k24.trans k5
        have o5 : Ho (Fz A (cn.plus [D]) f (wipeG Γ vs)) H5 (upd H5 D (.lst (acc ++ [y]))) := ⟨fun a u p r => by
          rw [upd_ne (sub a p).2]; exact r, fun a xs r => by
          have ne : a ≠ D := fun z => by
            rw [z] at r
            exact mut_not_frz hD5 trivial r
          rw [upd_ne ne]; exact r⟩
        refine ⟨acc, hD5, by have := hal; omega, acc ++ [y], es ++ [e], upd_same, by rw [List.length_append]; simp; omega, ?_, ?_, ?_, ?_⟩
        · refine RpL.append ((rl.mono (R2.ho k25) fun _ _ p _ => p).mono o5 fun _ _ p _ => p) (.cons ?_ .nil)
          exact (Rp.mono .refl (fun b _ p _ => back b p) r5).mono o5 fun _ _ p _ => p
        · intro a u z e
          have ne : a ≠ D := fun zz => by rw [zz, hD] at e; cases e
          rw [upd_ne ne]
          exact (k2.trans k25) a u z e
        · exact A.gh.gk H5 _ g5 (fun a z => upd_ne fun zz => hDz (zz ▸ z)) (ext_upd hD5 fun _ z => by cases z)
        · refine M.wp_mono (M.wp_bind.mp q) (fun es' q => ?_) fun _ x => x
          rw [List.append_assoc]
          exact q
      | false =>
        refine if_neg Bool.false_ne_true |>.mpr ⟨acc, es, hD4, by omega, rl.mono (R2.ho k24) fun _ _ p _ => p, k2.trans k24, g4, ?_⟩
        exact M.wp_mono (M.wp_bind.mp q) (fun es' q => q) fun _ x => x
    · have e : i = ds.length := by omega
      subst e
      rw [List.drop_length] at q
      have q : ∀ w H', Kx A.gh.Z H H' → A.gh.G H' → Rq .f K H H' (Fz A cn f Γ) (nZ A) w (.lst (es ++ [])) → Q w H' := q
      rw [List.append_nil] at q
      exact .inl ⟨stop, q _ H2 (k1.trans k2) g2 ⟨D, rfl, hn, acc, hacc, rl.mono .refl fun b _ p _ => sub b p⟩⟩
  · rw [if_neg ho] at h; exact h.elim
end
end Px

set_option Elab.async false
set_option linter.all false
set_option maxRecDepth 100000
set_option autoImplicit false
namespace Px
open PySem PySem.Spec PyProof.Rows L2

/-! ### a body's surroundings -/
structure Bd' (cm : Bool) (X : Cx) (A : Am) (E : EN) (k : Nat) : Prop where
  cl : cm = true → X.calm = true
  nd : X.N.Nodup
  hr0 : cm = true → Room k X.A
  un : X.A.units + 16 * k + 200 < cLine
  gd : X.A.guards = some []
  hx : Passes (L2.CX X.prog X.w) X (EK X.mg E)
  kle : KLe A.K X.K
abbrev Bd (X : Cx) (A : Am) (E : EN) (k : Nat) : Prop := Bd' true X A E k
section
variable {X : Cx} {A : Am} {E : EN} {k : Nat} {cm : Bool}
theorem Bd'.u1 (B : Bd' cm X A E k) : X.A.units + 1 < cLine := by have := B.un; omega
theorem Bd'.u64 (B : Bd' cm X A E k) : X.A.units + 64 < cLine := by have := B.un; omega
theorem Bd'.u0 (B : Bd' cm X A E k) : X.A.units < cLine := by have := B.un; omega
theorem Bd'.u100 (B : Bd' cm X A E k) : X.A.units + 100 < cLine := by have := B.un; omega
theorem Bd'.calm (B : Bd' true X A E k) : X.calm = true := B.cl rfl
theorem Bd'.hr (B : Bd' true X A E k) : Room k X.A := B.hr0 rfl
theorem Bd.mk6 (calm : X.calm = true) (nd : X.N.Nodup) (hr : Room k X.A) (gd : X.A.guards = some []) (hx : Passes (L2.CX X.prog X.w) X (EK X.mg E)) (kle : KLe A.K X.K) : Bd X A E k := ⟨fun _ => calm, nd, fun _ => hr, hr.un, gd, hx, kle⟩
theorem Bd'.blk (B : Bd' cm X A E k) {s : Shared} {H : Hp} {scope : Scope} {cenv : Env} {fp : List Addr} : Bd' cm (X.blk s H scope cenv fp) A never k :=
  ⟨B.cl, B.nd, B.hr0, B.un, B.gd, fun pins σ H s e s' I h => by
    obtain ⟨_, _, _, _, _, _, _, _, _, _, _, _, ⟨_, _, z⟩⟩ := h
    exact z.elim, B.kle⟩
end

/-! ### comprehensions -/
section
variable {X : Cx} {A : Am} {E : EN} {k : Nat} {md md1 md2 : Md} {e a b c tg : Expr} {es rest : List Expr} {st : Stmt} {sts st2 : List Stmt} {m ma mb mc : Ga → M D} {mi : Ga → M (List D)} {mT mU : Ga → M Bool} {ml : Ga → M (List D)} {m1 m2 : Ga → M (Ct × Ga)} {pos p : Pos} {x : Str}
def yesT : Ga → M Bool := fun _ => .ret true
structure PTsV (X : Cx) (A : Am) (E : EN) (ifs : List Expr) (m : Ga → M Bool) : Prop where
  pts : PTs X ifs (tT A.K A E m)
theorem ptsv_nil : PTsV X A E [] yesT := ⟨⟨fun pins s σ H Q I ⟨cn, f, Γ, R, h⟩ => pts_nil.run pins s σ H Q I (h H .refl R.g)⟩⟩
theorem ptsv_one (h : PTV X A E c mT) : PTsV X A E [c] mT := ⟨pts_one h.pt⟩
theorem pev_lc {elt iter : Expr} {ifs : List Expr} {scope : Scope} {own : List (Str × Nat)} {ts : List Nat} {bnd : D → Ga → M Ga} {cond : Ga → M Bool} {me : Ga → M D} (B : Bd X A E k) (hi : PIV X A E md tg iter mi) (ok : BlkOk X.N X.env.scope scope own)
    (hg : ∀ (s : Shared) (H : Hp) (C : Addr) (cl : List (Str × Addr)) (fp : List Addr), PGV (X.blk s H scope (compEnvC scope cl C X.env) fp) A tg ts bnd) (tb : TameG bnd) (hts : ∀ j, j ∈ ts → j ∈ own.map (·.2))
    (hc : ∀ (s : Shared) (H : Hp) (C : Addr) (cl : List (Str × Addr)) (fp : List Addr), PTsV (X.blk s H scope (compEnvC scope cl C X.env) fp) A never ifs cond)
    (he : ∀ (s : Shared) (H : Hp) (C : Addr) (cl : List (Str × Addr)) (fp : List Addr), PEV (X.blk s H scope (compEnvC scope cl C X.env) fp) A never .s elt me) (hs : ∀ x, foldedSetIterable iter X.env x = pure x := by intro _; rfl) :
    PEV X A E .f (.ListComp elt [⟨tg, iter, ifs, 0⟩] scope pos) (lcM (own.map (·.2)) mi bnd cond me) :=
  ⟨imp_pe (pe_lc B.calm B.nd hi.pi ok (fun s H C cl fp => (hg s H C cl fp).pg) (fun s H C cl fp => (hc s H C cl fp).pts) (fun s H C cl fp => (he s H C cl fp).pe) hs) fun _ _ _ h => tLc_of hts tb h⟩
theorem psv_setLc {i : Nat} {y : Str} {py : Pos} {spos : Pos} {elt iter : Expr} {ifs : List Expr} {scope : Scope} {own : List (Str × Nat)} {ts : List Nat} {bnd : D → Ga → M Ga} {cond : Ga → M Bool} {me : Ga → M D} (B : Bd X A E k) (hy : X.N[i]? = some y) (hyl : X.env.scope.names.lookup y = some .local)
    (hsw : swapsWith (.ListComp elt [⟨tg, iter, ifs, 0⟩] scope pos) (some (.Name y py)) spos.line X.env = pure true) (hi : PIV X A E md1 tg iter mi) (ok : BlkOk X.N X.env.scope scope own)
    (hg : ∀ (s : Shared) (H : Hp) (C : Addr) (cl : List (Str × Addr)) (fp : List Addr), PGV (X.blk s H scope (compEnvC scope cl C X.env) fp) A tg ts bnd) (tb : TameG bnd) (hts : ∀ j, j ∈ ts → j ∈ own.map (·.2))
    (hc : ∀ (s : Shared) (H : Hp) (C : Addr) (cl : List (Str × Addr)) (fp : List Addr), PTsV (X.blk s H scope (compEnvC scope cl C X.env) fp) A never ifs cond)
    (he : ∀ (s : Shared) (H : Hp) (C : Addr) (cl : List (Str × Addr)) (fp : List Addr), PEV (X.blk s H scope (compEnvC scope cl C X.env) fp) A never .s elt me) (hs : ∀ x, foldedSetIterable iter X.env x = pure x := by intro _; rfl) :
    PSV X A E md (.Assign [.Name y py] (.ListComp elt [⟨tg, iter, ifs, 0⟩] scope pos) spos) (setM i (lcM (own.map (·.2)) mi bnd cond me)) := by
  refine ⟨imp_ps (ps_setLc B.calm B.nd hy hyl hsw hi.pi ok (fun s H C cl fp => (hg s H C cl fp).pg) (fun s H C cl fp => (hc s H C cl fp).pts) (fun s H C cl fp => (he s H C cl fp).pe) hs) fun Dn σ H ⟨cn, f, Γ, R, h⟩ => ?_⟩
  refine tLc_of hts tb ⟨cn, f, Γ, R, M.wp_mono (M.wp_bind.mp h) (fun d q w H1 k1 g1 r1 => ?_) fun _ x => x⟩
  obtain ⟨f', R', s'⟩ := R.setF k1 g1 (i := i) r1
  exact q f' _ H1 s' R'

/-! ### names, short -/
theorem vS (i : Nat) (hN : X.N[i]? = some x := by rfl) (hv : Vis X.env.scope x := by first | exact Or.inl rfl | exact Or.inr (Or.inl rfl) | exact Or.inr (Or.inr rfl)) (hd : (x == ("__debug__" : Str)) = false := by decide)
    (hcd : (x == ("__classdict__" : Str)) = false := by decide) : PEV X A E .s (.Name x pos) (getS i) := pev_var hN hv hd hcd
theorem vB (i : Nat) (hN : X.N[i]? = some x := by rfl) (hv : Vis X.env.scope x := by first | exact Or.inl rfl | exact Or.inr (Or.inl rfl) | exact Or.inr (Or.inr rfl)) (hd : (x == ("__debug__" : Str)) = false := by decide)
    (hcd : (x == ("__classdict__" : Str)) = false := by decide) : PEV X A E .b (.Name x pos) (getB i) := pev_varB hN hv hd hcd
theorem gN (i : Nat) {cm : Bool} (B : Bd' cm X A E k) (hi : X.N[i]? = some x := by rfl) (hx : Loc X.env.scope x := by first | exact Or.inl rfl | exact Or.inr rfl) (hf : X.fn x = true ∨ X.env.scope.names.lookup x = some .local := by first | exact .inl rfl | exact .inr rfl | assumption) : PGV X A (.Name x pos) [i] (bndN i) :=
  pgv_name B.nd hi hx hf

/-! ### a def -/
def fnEnd (r : Ct × Ga) : M D := match r.1 with
  | .rt d => .ret d
  | .nx => .ret .non
  | _ => .stuck
def fnM (np n : Nat) (body : Ga → M (Ct × Ga)) : List D → M D := fun ds => if ds.length = np then body (ds.map Sl.v ++ List.replicate (n - np) Sl.un) >>= fnEnd else .stuck
theorem RpL.at_ {K : PySem.W.Frag} {H : Hp} {P : Addr → Prop} {vs : List V} {ds : List D} (r : RpL K H P vs ds) {i : Nat} {d : D} (h : ds[i]? = some d) : ∃ v, vs[i]? = some v ∧ Rp K H P v d := r.get h
/-- the wish of a body about exceptions -/
def enOf (mg : Str → Option Value) (E : XK) : EN := fun x H' => ∀ c dd, xIs mg x c dd H' → E c dd H'
theorem okXGc {P : Program} {w : World} {K : PySem.W.Frag} {mg : Str → Option Value} {base : Heap} {x qual : Str} {st : Stmt} {f : Addr} {fd : FuncData} {N ps : List Str} {k : Nat} {sp : Sp} (F : Fun K x qual st f fd) (S : FnScope N ps (defScope st)) (len : ∀ vs H Q E, sp vs H Q E → vs.length = ps.length)
    (hbody : ∀ (cdv : Value) (A : Around) (outer : List Env) (s : Shared) (H : Hp) (vs : List V) (Q : VK) (E : XK), fd.code = cdv → Room k (A.deeper (envOfC qual (defScope st) s.heap.objs.size f cdv)) → (A.deeper (envOfC qual (defScope st) s.heap.objs.size f cdv)).guards = some [] → sp vs H Q E →
      ∃ t, PSs (cxOf (L2.CX P w) P w K mg base N qual (defScope st) f cdv A outer s H E) (defBody st) t ∧ t { nx := fun _ H' => Q .non H', rt := Q } (start N vs) H) : FnG P w K mg base (L2.CX P w) (k + 1) f fd ps sp := by
  obtain ⟨oc, od, kV, doc, pm, an, cdv, ct, osl, rfl, lk, hcd⟩ := F.ex
  refine ⟨len, fun A outer s H args us vs Q E hr gd e0 hb r hsp => ?_⟩
  have hl := len _ _ _ _ hsp
  have KX : K.In s.heap := e0.mod.kin.keeps fun b o e => (e0.bs b o e).1
  have lim : s.heap.NoLimit := e0.mod.nolimit.keeps fun b o e => (e0.bs b o e).1
  have hkind : ∀ y ∈ ps.zip us, (defScope st).names.lookup y.1 = some .local ∨ ((defScope st).names.lookup y.1 = some .cell ∧ ((cellsFrom (s.heap.objs.size + 1) (defScope st).names []).lookup y.1).isSome = true) := fun ⟨n, v⟩ hy => by
    rcases S.par n (List.of_mem_zip hy).1 with q | q
    · exact .inl q
    · exact .inr ⟨q, PySem.W.cellsFrom_some _ _ _ (.inl q)⟩
  refine codeAny_call_function hr.depth (KX _ _ lk) rfl S.co S.gen rfl (PySem.W.codeRec_of KX hcd) (hb _ _ _ _ ?_)
  refine wpAny_newFunctionEnv_cells S.kind hkind fun env he s1 x => ?_
  subst he
  refine ⟨lim.keeps x.toInCall.keep, codeAny_func ?_⟩
  obtain ⟨t, ht, hq⟩ := hbody cdv A outer s H vs Q E rfl (hr.deeper _) gd hsp
  have I : Inv (cxOf (L2.CX P w) P w K mg base N qual (defScope st) f cdv A outer s H E) [] (start N vs) H s1 := inv_start S hr.hd e0 hl r x
  refine wpAny_mono (ht.run [] s1 (start N vs) H _ I hq) (fun fl s' hs => ?_) fun e s' hs => hs
  have fin : ∀ {σ' : L2.St} {H' : Hp} {v : V} {u : Value}, Inv (cxOf (L2.CX P w) P w K mg base N qual (defScope st) f cdv A outer s H E) [] σ' H' s' → RelV v u → Q v H' → CE outer P w H s Q u s' :=
    fun {σ' H' v u} J rv q => ⟨v, H', J.os, J.bare, J.base, J.hok, rv, q⟩
  cases fl with
  | ret u =>
    obtain ⟨v, σ', H', J, rv, q⟩ := hs
    exact fin J rv q
  | next =>
    obtain ⟨σ', H', J, q⟩ := hs
    exact fin (v := V.non) (u := Value.none) J rfl q
  | brk =>
    obtain ⟨_, _, _, q⟩ := hs
    exact False.elim q
  | cont =>
    obtain ⟨_, _, _, q⟩ := hs
    exact False.elim q
theorem okXG {P : Program} {w : World} {K : PySem.W.Frag} {mg : Str → Option Value} {base : Heap} {x qual : Str} {st : Stmt} {f : Addr} {fd : FuncData} {N ps : List Str} {k : Nat} {sp : Sp} (F : Fun K x qual st f fd) (S : FnScope N ps (defScope st)) (len : ∀ vs H Q E, sp vs H Q E → vs.length = ps.length)
    (hbody : ∀ (cdv : Value) (A : Around) (outer : List Env) (s : Shared) (H : Hp) (vs : List V) (Q : VK) (E : XK), Room k (A.deeper (envOfC qual (defScope st) s.heap.objs.size f cdv)) → (A.deeper (envOfC qual (defScope st) s.heap.objs.size f cdv)).guards = some [] → sp vs H Q E →
      ∃ t, PSs (cxOf (L2.CX P w) P w K mg base N qual (defScope st) f cdv A outer s H E) (defBody st) t ∧ t { nx := fun _ H' => Q .non H', rt := Q } (start N vs) H) : FnG P w K mg base (L2.CX P w) (k + 1) f fd ps sp :=
  okXGc F S len fun cdv A outer s H vs Q E _ hr gd hsp => hbody cdv A outer s H vs Q E hr gd hsp
theorem fn_okc {P : Program} {w : World} {K : PySem.W.Frag} {mg : Str → Option Value} {base : Heap} {x qual : Str} {st : Stmt} {f : Addr} {fd : FuncData} {N ps : List Str} {k : Nat} {gh : Gh} {KA : PySem.W.Frag} {body : Ga → M (Ct × Ga)} (hmd : md = .f ∨ md = .s) (F : Fun K x qual st f fd) (S : FnScope N ps (defScope st)) (kle : KLe KA K)
    (h : ∀ (cdv : Value) (A' : Around) (outer : List Env) (s : Shared) (H : Hp) (E : XK) (P0 : Addr → Prop) (g0 : gh.G H) (zp : ∀ a, gh.Z a → ¬ P0 a) (p0 : ∀ a, ¬ P0 a → ¬ gh.Z a → ∃ o, H a = some o ∧ Mb o),
      fd.code = cdv → Bd (cxOf (L2.CX P w) P w K mg base N qual (defScope st) f cdv A' outer s H E) ⟨gh, KA, H, P0, g0, zp, p0⟩ (enOf mg E) k →
      PSVs (cxOf (L2.CX P w) P w K mg base N qual (defScope st) f cdv A' outer s H E) ⟨gh, KA, H, P0, g0, zp, p0⟩ (enOf mg E) md (defBody st) body) :
    FnG P w K mg base (L2.CX P w) (k + 1) f fd ps (spM KA mg gh md (fnM ps.length N.length body)) := by
  have npl : ps.length ≤ N.length := by have := congrArg List.length S.pre; rw [List.length_take] at this; omega
  have len : ∀ vs H Q E, spM KA mg gh md (fnM ps.length N.length body) vs H Q E → vs.length = ps.length := fun vs H Q E ⟨P0, ds, _, _, _, r, h⟩ => by
    unfold fnM at h
    by_cases hl : ds.length = ps.length
    · rw [r.length]; exact hl
    · rw [if_neg hl] at h; exact h.elim
  refine okXGc F S len fun cdv A' outer s H vs Q E hcd hr gd hsp => ?_
  have hl := len vs H Q E hsp
  obtain ⟨P0, ds, zp, p0, g0, r, hw⟩ := hsp
  have hld : ds.length = ps.length := by rw [← r.length]; exact hl
  have tk : Takes (cxOf (L2.CX P w) P w K mg base N qual (defScope st) f cdv A' outer s H E) (fun cls d _ H => E cls d H) := takes_of rfl rfl rfl rfl
  have B : Bd (cxOf (L2.CX P w) P w K mg base N qual (defScope st) f cdv A' outer s H E) ⟨gh, KA, H, P0, g0, zp, p0⟩ (enOf mg E) k :=
    .mk6 rfl S.nd hr gd (passes_call tk fun cls d σ H' ⟨x, h1, h2⟩ => h2 cls d h1) kle
  refine ⟨_, (h cdv A' outer s H E P0 g0 zp p0 hcd B).ps, ⟨⟨[], [], rfl⟩, fun _ => 0, ds.map Sl.v ++ List.replicate (N.length - ps.length) Sl.un, ?_, ?_⟩⟩
  · have noOwn : ∀ (i : Nat) (d : D), (ds.map Sl.v ++ List.replicate (N.length - ps.length) Sl.un)[i]? ≠ some (.own d) := fun i d e => by
      have hm := List.mem_of_getElem? e
      rcases List.mem_append.mp hm with hm | hm
      · obtain ⟨_, _, z⟩ := List.mem_map.mp hm; cases z
      · have := List.eq_of_mem_replicate hm; cases this
    refine ⟨?_, g0, fun a o z e => .inl e, fun a ob hm => absurd hm (by simp), fun a hm => absurd hm (by simp), fun i d e => ?_, fun i d e => absurd e (noOwn i d), fun i j d e h1 _ => absurd h1 (noOwn i d)⟩
    · unfold L2.start
      rw [List.length_append, List.length_append, List.length_map, List.length_map, List.length_replicate, List.length_replicate, hl, hld]
    have hi : i < ds.length := by
      by_cases hi : i < ds.length
      · exact hi
      · rw [List.getElem?_append_right (by simpa using hi)] at e
        rw [List.getElem?_replicate] at e
        split at e <;> cases e
    rw [List.getElem?_append_left (by simpa using hi), List.getElem?_map] at e
    obtain ⟨d', hd'⟩ : ∃ d', ds[i]? = some d' := ⟨_, List.getElem?_eq_getElem hi⟩
    rw [hd'] at e
    cases e
    obtain ⟨v, h1, h2⟩ := r.get hd'
    refine ⟨v, ?_, h2.mono .refl fun b u pb _ => ⟨pb, by simp, fun j e hj => absurd hj (noOwn j e)⟩⟩
    unfold L2.start
    have hv : i < vs.length := by rw [r.length]; exact hi
    rw [List.getElem?_append_left (by simpa using hv), List.getElem?_map, h1]
    rfl
  · unfold fnM at hw
    rw [if_pos hld] at hw
    refine M.wp_mono (M.wp_bind.mp hw) (fun r q => ?_) fun x hx => ⟨rfl, fun H' k1 g1 c dd hc => hx c dd H' k1 g1 hc⟩
    obtain ⟨c, Γ'⟩ := r
    cases c with
    | nx =>
      intro f' σ' H' s' R'
      have k' : Kx gh.Z H H' := fun a o z e => by
        rcases R'.keep a o z e with q | ⟨ob, hl, _⟩
        · exact q
        · cases hl
      refine q .non H' k' R'.g ?_
      rcases hmd with rfl | rfl
      · exact .non
      · exact .non
    | rt d =>
      intro w' H' k' g' r'
      exact q w' H' (fun a o z e => by
        rcases k' a o z e with q | ⟨ob, hl, _⟩
        · exact q
        · cases hl) g' r'
    | bk => exact False.elim q
    | ct => exact False.elim q
theorem fn_ok {P : Program} {w : World} {K : PySem.W.Frag} {mg : Str → Option Value} {base : Heap} {x qual : Str} {st : Stmt} {f : Addr} {fd : FuncData} {N ps : List Str} {k : Nat} {gh : Gh} {KA : PySem.W.Frag} {body : Ga → M (Ct × Ga)} (hmd : md = .f ∨ md = .s) (F : Fun K x qual st f fd) (S : FnScope N ps (defScope st)) (kle : KLe KA K)
    (h : ∀ (cdv : Value) (A' : Around) (outer : List Env) (s : Shared) (H : Hp) (E : XK) (P0 : Addr → Prop) (g0 : gh.G H) (zp : ∀ a, gh.Z a → ¬ P0 a) (p0 : ∀ a, ¬ P0 a → ¬ gh.Z a → ∃ o, H a = some o ∧ Mb o),
      Bd (cxOf (L2.CX P w) P w K mg base N qual (defScope st) f cdv A' outer s H E) ⟨gh, KA, H, P0, g0, zp, p0⟩ (enOf mg E) k →
      PSVs (cxOf (L2.CX P w) P w K mg base N qual (defScope st) f cdv A' outer s H E) ⟨gh, KA, H, P0, g0, zp, p0⟩ (enOf mg E) md (defBody st) body) :
    FnG P w K mg base (L2.CX P w) (k + 1) f fd ps (spM KA mg gh md (fnM ps.length N.length body)) :=
  fn_okc hmd F S kle fun cdv A' outer s H E P0 g0 zp p0 _ B => h cdv A' outer s H E P0 g0 zp p0 B

/-! ### raise X() -/
theorem pmk0 {C : Addr} {bmB : List Value} {N newId initId : String} (F : ExcBaseFacts N newId initId bmB) (q : PySem.W.excIn X.K C bmB newId = true) (gC : X.mg x = some (.ref C)) (kC : PySem.W.keepIn X.K (.ref C) = true) (r : Raises X (.ref C)) (hg : Gl X x)
    (hdb : (x == ("__debug__" : Str)) = false := by decide) : PMk X (.Call (.Name x p) [] [] pos) (fun _ H Q => Q (.ref C) none H) := by
  intro pins s σ H Q I h
  refine wpAny_Call_Name_kw (ld_glob I hg gC ?_ hdb)
  refine PySem.W.callWith_K0 I.kIn kC ?_
  show wpAny _ _ (call (.ref C) []) _ _ _
  obtain ⟨bm, N, nm, qn, bs, hdct, sn, sub, ab, col, dd, k0, k1, k2, k3, k5, mN, hC, hN, hni, T⟩ := exc_obj I.kIn q
  refine wpAny_call_exc_subT F T hC hN hni (fun h' e hm => ?_) (by show 0 ≤ sizeLine; exact Nat.zero_le _)
  exact mk_of I hm r h (I.hok.gone hm.new)
/-- what is known of an exception class of the text, without a body -/
structure ExCls (K : PySem.W.Frag) (mg : Str → Option Value) (x : Str) (C : Addr) : Prop where
  g : mg x = some (.ref C)
  ex : PySem.W.excIn K C [.type "ValueError", .type "Exception", .type "BaseException", .type "object"] "ValueError.__new__" = true
  kp : PySem.W.keepIn K (.ref C) = true
  b : PySem.W.subIn K (.ref C) (.type "BaseException") = some true
  t : PySem.W.typeIn K (.ref C) = some (.type "type")
theorem psv_raise0 {P : Program} {w : World} {K : PySem.W.Frag} {mg : Str → Option Value} {base : Heap} {N : List Str} {qual : Str} {sc : Scope} {fa : Addr} {cdv : Value} {A' : Around} {outer : List Env} {s : Shared} {H : Hp} {E : XK} {C : Addr} {A : Am} {pos2 : Pos} (T : ExCls K mg x C)
    (hg : Gl (cxOf (L2.CX P w) P w K mg base N qual sc fa cdv A' outer s H E) x := by rfl) (hdb : (x == ("__debug__" : Str)) = false := by decide) :
    PSV (cxOf (L2.CX P w) P w K mg base N qual sc fa cdv A' outer s H E) A (enOf mg E) md (.Raise (some (.Call (.Name x p) [] [] pos)) none pos2) (raiseM (x, none)) :=
  psv_raise rfl (takes_of rfl rfl rfl rfl) (pmk0 PySem.F.excBase_ValueError T.ex T.g T.kp (raises_own T.b T.t) hg hdb) T.g fun c d σ H' ⟨x, h1, h2⟩ => h2 c d h1
theorem passes_body {P : Program} {w : World} {K : PySem.W.Frag} {mg : Str → Option Value} {base : Heap} {N : List Str} {qual : Str} {sc : Scope} {fa : Addr} {cdv : Value} {A' : Around} {outer : List Env} {s : Shared} {H : Hp} {E : XK} :
    PassesOwn (model P w) (cxOf (L2.CX P w) P w K mg base N qual sc fa cdv A' outer s H E).A (cxOf (L2.CX P w) P w K mg base N qual sc fa cdv A' outer s H E).env (cxOf (L2.CX P w) P w K mg base N qual sc fa cdv A' outer s H E).xe := passes_of (X := cxOf (L2.CX P w) P w K mg base N qual sc fa cdv A' outer s H E) rfl
end
end Px

set_option Elab.async false
set_option linter.all false
set_option maxRecDepth 100000
set_option autoImplicit false
namespace Px
open PySem PySem.Spec PyProof.Rows L2

/-! ### data without dicts, as the library's data -/
mutual
def toPy : D → PyData
  | .non => .none
  | .bl b => .bool b
  | .int i => .int i
  | .str x => .str x
  | .tup ds => .tuple (toPyL ds)
  | .lst ds => .list (toPyL ds)
  | .dct _ _ => .none
  | .raw _ => .none
def toPyL : List D → List PyData
  | [] => []
  | d :: r => toPy d :: toPyL r
end
mutual
/-- no dict, nothing raw within -/
def D.pl : D → Bool
  | .tup ds => D.plL ds
  | .lst ds => D.plL ds
  | .dct _ _ => false
  | .raw _ => false
  | _ => true
def D.plL : List D → Bool
  | [] => true
  | d :: r => D.pl d && D.plL r
end
mutual
def D.dep : D → Nat
  | .tup ds => D.depL ds + 1
  | .lst ds => D.depL ds + 1
  | .dct _ _ => 0
  | _ => 0
def D.depL : List D → Nat
  | [] => 0
  | d :: r => max (D.dep d) (D.depL r)
end
theorem toPyL_map : ∀ ds : List D, toPyL ds = ds.map toPy
  | [] => rfl
  | d :: r => congrArg (toPy d :: ·) (toPyL_map r)
theorem plL_all : ∀ ds : List D, D.plL ds = ds.all D.pl
  | [] => rfl
  | d :: r => by
    show (d.pl && D.plL r) = (d.pl && r.all D.pl)
    rw [plL_all r]
mutual
theorem toPy_plain : ∀ d : D, d.pl = true → (toPy d).plain = true
  | .non, _ => rfl
  | .bl _, _ => rfl
  | .int _, _ => rfl
  | .str _, _ => rfl
  | .tup ds, h => toPyL_plain ds h
  | .lst ds, h => toPyL_plain ds h
  | .dct _ _, h => nomatch h
  | .raw _, h => nomatch h
theorem toPyL_plain : ∀ ds : List D, D.plL ds = true → PyData.plainAll (toPyL ds) = true
  | [], _ => rfl
  | d :: r, h => by
    have h : (d.pl && D.plL r) = true := h
    rw [Bool.and_eq_true] at h
    show ((toPy d).plain && PyData.plainAll (toPyL r)) = true
    rw [toPy_plain d h.1, toPyL_plain r h.2]; rfl
end
mutual
theorem toPy_dep : ∀ d : D, (toPy d).depth ≤ d.dep
  | .non => Nat.le_refl _
  | .bl _ => Nat.le_refl _
  | .int _ => Nat.le_refl _
  | .str _ => Nat.le_refl _
  | .tup ds => by
    have := toPyL_dep ds
    show PyData.depth (.tuple (toPyL ds)) ≤ D.depL ds + 1
    simp only [PyData.depth]
    omega
  | .lst ds => by
    have := toPyL_dep ds
    show PyData.depth (.list (toPyL ds)) ≤ D.depL ds + 1
    simp only [PyData.depth]
    omega
  | .dct _ _ => Nat.zero_le _
  | .raw _ => Nat.zero_le _
theorem toPyL_dep : ∀ ds : List D, PyData.depthAll (toPyL ds) ≤ D.depL ds
  | [] => Nat.le_refl _
  | d :: r => by
    have h1 := toPy_dep d
    have h2 := toPyL_dep r
    show PyData.depthAll (toPy d :: toPyL r) ≤ max d.dep (D.depL r)
    simp only [PyData.depthAll]
    omega
end
section
variable {X : Cx} {A : Am} {pins : List (Addr × Obj)} {σ : L2.St} {H : Hp} {s : Shared} {P W : Addr → Prop}
mutual
theorem Rp.dp {K K' : PySem.W.Frag} (kle : KLe K K') : ∀ {v : V} {d : D}, Rp K H P v d → d.pl = true → Dp K' H v (toPy d)
  | _, _, .non, _ => .non
  | _, _, .bl b, _ => .bl b
  | _, _, .int i, _ => .int i
  | _, _, .str x, _ => .str x
  | _, _, .raw v, h => nomatch h
  | _, _, .tup h r, e => .tup (TpX.kle kle h) (RpL.dp kle r e)
  | _, _, .lst _ h r, e => .lst (.of h) (RpL.dp kle r e)
  | _, _, .dK _ _ _, e => nomatch e
  | _, _, .dT _ _ _, e => nomatch e
theorem RpL.dp {K K' : PySem.W.Frag} (kle : KLe K K') : ∀ {vs : List V} {ds : List D}, RpL K H P vs ds → D.plL ds = true → DpAll K' H vs (toPyL ds)
  | _, _, .nil, _ => .nil
  | _, _, .cons (d := d) (ds := ds) h r, e => by
    have e' : (d.pl && D.plL ds) = true := e
    rw [Bool.and_eq_true] at e'
    exact .cons (Rp.dp kle h e'.1) (RpL.dp kle r e'.2)
end
theorem Rb.dp {K K' : PySem.W.Frag} (kle : KLe K K') {v : V} {d : D} (h : Rb K H P W v d) (e : d.pl = true) : Dp K' H v (toPy d) := by
  cases d with
  | lst ds => obtain ⟨a, xs, rfl, _, hx, r⟩ := h; exact .lst (.of hx) (r.dp kle e)
  | dct t kvs => cases e
  | non => exact Rp.dp kle (show Rp K H P v .non from h) e
  | bl b => exact Rp.dp kle (show Rp K H P v (.bl b) from h) e
  | int i => exact Rp.dp kle (show Rp K H P v (.int i) from h) e
  | str x => exact Rp.dp kle (show Rp K H P v (.str x) from h) e
  | tup ds => exact Rp.dp kle (show Rp K H P v (.tup ds) from h) e
  | raw w => cases e
theorem Rb.reads (kle : KLe A.K X.K) (I : Inv X pins σ H s) {v : V} {u : Value} {d : D} (h : Rb A.K H P W v d) (e : d.pl = true) (r : RelV v u) : ∃ as, Reads s.heap u (toPy d) as := Dp.reads I _ v u (h.dp kle e) r
end

/-! ### operations -/
def addD : D → D → M D
  | .int i, .int j => .ret (.int (i + j))
  | .str x, .str y => if x.length + y.length ≤ 16777216 then .ret (.str (x ++ y)) else .stuck
  | .tup xs, .tup ys => if xs.length + ys.length ≤ 16777216 then .ret (.tup (xs ++ ys)) else .stuck
  | .lst xs, .lst ys => if xs.length + ys.length ≤ 16777216 then .ret (.lst (xs ++ ys)) else .stuck
  | _, _ => .stuck
def subD : D → D → M D
  | .int i, .int j => .ret (.int (i - j))
  | _, _ => .stuck
def smallI (i : Int) : Bool := decide (-(2 ^ 64) < i) && decide (i < 2 ^ 64)
def mulD : D → D → M D
  | .int i, .int j => if (smallI i || smallI j) = true then .ret (.int (i * j)) else .stuck
  | _, _ => .stuck
def fdivD : D → D → M D
  | .int i, .int j => if 0 < j ∧ j < 1073741824 then .ret (.int (i / j)) else .stuck
  | _, _ => .stuck
def modD : D → D → M D
  | .int i, .int j => if 0 < j then .ret (.int (i % j)) else .stuck
  | _, _ => .stuck
def negD : D → M D
  | .int i => .ret (.int (-i))
  | _ => .stuck
def okD (d e : D) : Bool := d.pl && e.pl && decide (min d.dep e.dep ≤ 60)
/-- equal, as Python has it (1 and True are) -/
def eqB (d e : D) : Bool := PyData.eqv (toPy d) (toPy e)
def eqD (d e : D) : M D := if okD d e = true then .ret (.bl (eqB d e)) else .stuck
def neD (d e : D) : M D := if okD d e = true then .ret (.bl (!eqB d e)) else .stuck
def inD (x c : D) : M D := match c with
  | .lst ds => if (D.plL ds && x.pl && decide (min (D.depL ds) x.dep ≤ 60)) = true then .ret (.bl (ds.any fun y => eqB y x)) else .stuck
  | .tup ds => if (D.plL ds && x.pl && decide (min (D.depL ds) x.dep ≤ 60)) = true then .ret (.bl (ds.any fun y => eqB y x)) else .stuck
  | _ => .stuck
def bnotM (m : M D) : M D := m >>= fun d => match d with
  | .bl b => .ret (.bl (!b))
  | _ => .stuck
def notInD (x c : D) : M D := bnotM (inD x c)
def ltD (d e : D) : M D := match d, e with
  | .int i, .int j => .ret (.bl (decide (i < j)))
  | .tup xs, .tup ys => if (okD d e && PySem.W.alike (toPy d) (toPy e)) = true then .ret (.bl (PySem.W.dataLt (toPy d) (toPy e))) else .stuck
  | _, _ => .stuck
def leD (d e : D) : M D := match d, e with
  | .int i, .int j => .ret (.bl (decide (i ≤ j)))
  | _, _ => .stuck
def gtD (d e : D) : M D := match d, e with
  | .int i, .int j => .ret (.bl (decide (j < i)))
  | _, _ => .stuck
def geD (d e : D) : M D := match d, e with
  | .int i, .int j => .ret (.bl (decide (j ≤ i)))
  | _, _ => .stuck
def isND (x y : D) : M D := match y, x with
  | .non, .non => .ret (.bl true)
  | .non, .raw _ => .stuck
  | .non, _ => .ret (.bl false)
  | .bl b, .bl c => .ret (.bl (b == c))
  | _, _ => .stuck
def isNotD (x y : D) : M D := bnotM (isND x y)
theorem tame_if {c : Prop} [Decidable c] {d : D} : Tame (if c then M.ret d else .stuck) := by
  by_cases h : c
  · rw [if_pos h]; trivial
  · rw [if_neg h]; trivial
theorem tame_add (x y : D) : Tame (addD x y) := by
  cases x <;> cases y <;> first | trivial | exact tame_if
theorem tame_sub (x y : D) : Tame (subD x y) := by cases x <;> cases y <;> trivial
theorem tame_mul (x y : D) : Tame (mulD x y) := by cases x <;> cases y <;> first | trivial | exact tame_if
theorem tame_fdiv (x y : D) : Tame (fdivD x y) := by cases x <;> cases y <;> first | trivial | exact tame_if
theorem tame_mod (x y : D) : Tame (modD x y) := by cases x <;> cases y <;> first | trivial | exact tame_if
theorem tame_neg (x : D) : Tame (negD x) := by cases x <;> trivial
theorem tame_eq (x y : D) : Tame (eqD x y) := tame_if
theorem tame_ne (x y : D) : Tame (neD x y) := tame_if
theorem tame_in (x y : D) : Tame (inD x y) := by cases y <;> first | trivial | exact tame_if
theorem tame_bnot {m : M D} (h : Tame m) : Tame (bnotM m) := by
  cases m with
  | ret d => cases d <;> trivial
  | stuck => trivial
  | exc x => exact h
  | draw n k => exact h
theorem tame_notIn (x y : D) : Tame (notInD x y) := tame_bnot (tame_in x y)
theorem tame_lt (x y : D) : Tame (ltD x y) := by cases x <;> cases y <;> first | trivial | exact tame_if
theorem tame_le (x y : D) : Tame (leD x y) := by cases x <;> cases y <;> trivial
theorem tame_gt (x y : D) : Tame (gtD x y) := by cases x <;> cases y <;> trivial
theorem tame_ge (x y : D) : Tame (geD x y) := by cases x <;> cases y <;> trivial
theorem tame_is (x y : D) : Tame (isND x y) := by cases y <;> cases x <;> trivial
theorem tame_isNot (x y : D) : Tame (isNotD x y) := tame_bnot (tame_is x y)
section
variable {X : Cx} {A : Am} {E : EN} {k : Nat}
theorem rb_int {K : PySem.W.Frag} {H : Hp} {P W : Addr → Prop} {w : V} {i : Int} (h : Rb K H P W w (.int i)) : w = .int i := by cases h; rfl
theorem rb_str {K : PySem.W.Frag} {H : Hp} {P W : Addr → Prop} {w : V} {i : Str} (h : Rb K H P W w (.str i)) : w = .str i := by cases h; rfl
theorem rb_non {K : PySem.W.Frag} {H : Hp} {P W : Addr → Prop} {w : V} (h : Rb K H P W w .non) : w = .non := by cases h; rfl
theorem rb_tup {K : PySem.W.Frag} {H : Hp} {P W : Addr → Prop} {w : V} {ds : List D} (h : Rb K H P W w (.tup ds)) : ∃ a xs, w = .ref a ∧ TpX K H a xs ∧ RpL K H P xs ds := by
  cases h with
  | tup hx r => exact ⟨_, _, rfl, hx, r⟩
/-- ints in, under C -/
theorem op_ints {f : Value → Value → Sem Value} {C : Int → Int → Prop} {gv : Int → Int → V} {g : D → D → M D} {gd : Int → Int → D} (ho : OpR X f (rI C gv)) (hg : ∀ d e Q, (g d e).wp Q (fun _ => False) → ∃ i j, d = .int i ∧ e = .int j ∧ C i j ∧ Q (gd i j)) (hd : ∀ i j K H0 H P, Rf K H0 H P (gv i j) (gd i j)) :
    OpR X f (rD A.K g) := by
  intro pins s σ H x y v u Q I rx ry ⟨P, W, d, e, r1, r2, h⟩
  obtain ⟨i, j, rfl, rfl, c, q⟩ := hg d e _ h
  cases rb_int r1
  cases rb_int r2
  exact ho pins s σ H _ _ v u Q I rx ry ⟨i, j, rfl, rfl, c, q _ H (Same.refl _) (hd _ _ _ _ _ _)⟩
theorem op_ints0 {f : Value → Value → Sem Value} {gv : Int → Int → V} {g : D → D → M D} {gd : Int → Int → D} (ho : OpR X f (rI0 gv)) (hg : ∀ d e Q, (g d e).wp Q (fun _ => False) → ∃ i j, d = .int i ∧ e = .int j ∧ Q (gd i j)) (hd : ∀ i j K H0 H P, Rf K H0 H P (gv i j) (gd i j)) :
    OpR X f (rD A.K g) := by
  intro pins s σ H x y v u Q I rx ry ⟨P, W, d, e, r1, r2, h⟩
  obtain ⟨i, j, rfl, rfl, q⟩ := hg d e _ h
  cases rb_int r1
  cases rb_int r2
  exact ho pins s σ H _ _ v u Q I rx ry ⟨i, j, rfl, rfl, q _ H (Same.refl _) (hd _ _ _ _ _ _)⟩
theorem o_sub : OpR X (binaryOp .Sub) (rD A.K subD) := op_ints0 (gd := fun i j => .int (i - j)) op_sub (fun d e Q h => by cases d <;> cases e <;> first | exact h.elim | exact ⟨_, _, rfl, rfl, h⟩) fun _ _ _ _ _ _ => .int _
theorem wp_if {c : Prop} [Decidable c] {d : D} {Q : D → Prop} {E' : Exn → Prop} (h : (if c then M.ret d else .stuck).wp Q E') : c ∧ Q d := by
  by_cases hc : c
  · rw [if_pos hc] at h; exact ⟨hc, h⟩
  · rw [if_neg hc] at h; exact h.elim
theorem cmul_of {i j : Int} (h : (smallI i || smallI j) = true) : CMul i j := by
  unfold smallI at h
  simp only [Bool.or_eq_true, Bool.and_eq_true, decide_eq_true_eq] at h
  exact h
theorem o_mul : OpR X (binaryOp .Mult) (rD A.K mulD) := op_ints (gd := fun i j => .int (i * j)) op_mul (fun d e Q h => by
  cases d <;> cases e <;> first
    | exact h.elim
    | (obtain ⟨c, q⟩ := wp_if h; exact ⟨_, _, rfl, rfl, cmul_of c, q⟩)) fun _ _ _ _ _ _ => .int _
theorem o_fdiv : OpR X (binaryOp .FloorDiv) (rD A.K fdivD) := op_ints (gd := fun i j => .int (i / j)) op_fdiv (fun d e Q h => by
  cases d <;> cases e <;> first
    | exact h.elim
    | (obtain ⟨c, q⟩ := wp_if h; exact ⟨_, _, rfl, rfl, c, q⟩)) fun _ _ _ _ _ _ => .int _
theorem o_mod : OpR X (binaryOp .Mod) (rD A.K modD) := op_ints (gd := fun i j => .int (i % j)) op_mod (fun d e Q h => by
  cases d <;> cases e <;> first
    | exact h.elim
    | (obtain ⟨c, q⟩ := wp_if h; exact ⟨_, _, rfl, rfl, c, q⟩)) fun _ _ _ _ _ _ => .int _
theorem o_neg : UnR X (unaryOp .USub) (uD A.K negD) := by
  intro pins s σ H x v Q I rx ⟨P, W, d, r1, h⟩
  cases d with
  | int i =>
    cases rb_int r1
    exact un_neg pins s σ H _ v Q I rx ⟨i, rfl, h _ H (Same.refl _) (.int _)⟩
  | _ => exact h.elim
theorem o_le : OpR X (compareOp .LtE) (rD A.K leD) := op_ints0 (gd := fun i j => .bl (decide (i ≤ j))) op_le (fun d e Q h => by cases d <;> cases e <;> first | exact h.elim | exact ⟨_, _, rfl, rfl, h⟩) fun _ _ _ _ _ _ => .bl _
theorem o_gt : OpR X (compareOp .Gt) (rD A.K gtD) := op_ints0 (gd := fun i j => .bl (decide (j < i))) op_gt (fun d e Q h => by cases d <;> cases e <;> first | exact h.elim | exact ⟨_, _, rfl, rfl, h⟩) fun _ _ _ _ _ _ => .bl _
theorem o_ge : OpR X (compareOp .GtE) (rD A.K geD) := op_ints0 (gd := fun i j => .bl (decide (j ≤ i))) op_ge (fun d e Q h => by cases d <;> cases e <;> first | exact h.elim | exact ⟨_, _, rfl, rfl, h⟩) fun _ _ _ _ _ _ => .bl _
theorem o_lt {cm : Bool} (B : Bd' cm X A E k) : OpR X (compareOp .Lt) (rD A.K ltD) := by
  intro pins s σ H x y v u Q I rx ry ⟨P, W, d, e, r1, r2, h⟩
  cases d with
  | int i =>
    cases e with
    | int j =>
      cases rb_int r1
      cases rb_int r2
      exact op_lt pins s σ H _ _ v u Q I rx ry ⟨i, j, rfl, rfl, h _ H (Same.refl _) (.bl _)⟩
    | _ => exact h.elim
  | tup xs =>
    cases e with
    | tup ys =>
      obtain ⟨c, q⟩ := wp_if h
      rw [Bool.and_eq_true] at c
      obtain ⟨ok, al⟩ := c
      unfold okD at ok
      simp only [Bool.and_eq_true, decide_eq_true_eq] at ok
      obtain ⟨as, ra⟩ := r1.reads B.kle I ok.1.1 rx
      obtain ⟨bs, rb⟩ := r2.reads B.kle I ok.1.2 ry
      have d1 := toPy_dep (.tup xs)
      have d2 := toPy_dep (.tup ys)
      have hu := B.u64
      refine PySem.W.rcLt_alike _ _ X.A s v u as bs ra rb al (fun z => nomatch z) (by have := ok.2; omega) X.prog X.w _ _ ?_
      exact ⟨.bl _, H, I, rfl, q _ H (Same.refl _) (.bl _)⟩
    | _ => exact h.elim
  | _ => exact h.elim
theorem o_eq {cm : Bool} (B : Bd' cm X A E k) : OpR X (compareOp .Eq) (rD A.K eqD) := by
  intro pins s σ H x y v u Q I rx ry ⟨P, W, d, e, r1, r2, h⟩
  obtain ⟨ok, q⟩ := wp_if h
  unfold okD at ok
  simp only [Bool.and_eq_true, decide_eq_true_eq] at ok
  obtain ⟨as, ra⟩ := r1.reads B.kle I ok.1.1 rx
  obtain ⟨bs, rb⟩ := r2.reads B.kle I ok.1.2 ry
  have d1 := toPy_dep d
  have d2 := toPy_dep e
  have hu := B.u64
  exact SeqAt.eq_plain ra rb (toPy_plain d ok.1.1) (toPy_plain e ok.1.2) (by have := ok.2; omega) ⟨.bl _, H, I, rfl, q _ H (Same.refl _) (.bl _)⟩
theorem o_ne {cm : Bool} (B : Bd' cm X A E k) : OpR X (compareOp .NotEq) (rD A.K neD) := by
  intro pins s σ H x y v u Q I rx ry ⟨P, W, d, e, r1, r2, h⟩
  obtain ⟨ok, q⟩ := wp_if h
  unfold okD at ok
  simp only [Bool.and_eq_true, decide_eq_true_eq] at ok
  obtain ⟨as, ra⟩ := r1.reads B.kle I ok.1.1 rx
  obtain ⟨bs, rb⟩ := r2.reads B.kle I ok.1.2 ry
  have d1 := toPy_dep d
  have d2 := toPy_dep e
  have hu := B.u64
  exact SeqAt.ne_plain ra rb (toPy_plain d ok.1.1) (toPy_plain e ok.1.2) (by have := ok.2; omega) ⟨.bl _, H, I, rfl, q _ H (Same.refl _) (.bl _)⟩
theorem any_toPy {x : D} : ∀ ds : List D, ((toPyL ds).any fun y => PyData.eqv y (toPy x)) = ds.any fun y => eqB y x
  | [] => rfl
  | d :: r => by
    show (PyData.eqv (toPy d) (toPy x) || _) = (eqB d x || _)
    rw [any_toPy r]; rfl
theorem in_core {pins : List (Addr × Obj)} {σ : L2.St} {H : Hp} {s : Shared} {P W : Addr → Prop} {x y : V} {v u : Value} {d c : D} {cm : Bool} (B : Bd' cm X A E k) (I : Inv X pins σ H s) (rx : RelV x v) (ry : RelV y u) (r1 : Rb A.K H P W x d) (r2 : Rb A.K H P W y c) {Q : D → Prop} (h : (inD d c).wp Q fun _ => False) :
    ∃ b, Q (.bl b) ∧ inD d c = .ret (.bl b) ∧ (∀ {Q' : Value → Shared → Prop} {E' : Value → Shared → Prop}, Q' (.bool b) s → wpAny (model X.prog X.w) X.A (compareOp .In v u) Q' E' s) ∧ ∀ {Q' : Value → Shared → Prop} {E' : Value → Shared → Prop}, Q' (.bool (!b)) s → wpAny (model X.prog X.w) X.A (compareOp .NotIn v u) Q' E' s := by
  have hu := B.u64
  cases c with
  | lst ds =>
    obtain ⟨ok, q⟩ := wp_if h
    refine ⟨_, q, if_pos ok, ?_⟩
    simp only [Bool.and_eq_true, decide_eq_true_eq] at ok
    obtain ⟨as, ra⟩ := r1.reads B.kle I ok.1.2 rx
    obtain ⟨bs, rb⟩ := r2.reads B.kle I (show D.plL ds = true from ok.1.1) ry
    have d1 := toPy_dep d
    have d2 := toPyL_dep ds
    rw [← any_toPy]
    exact ⟨fun q => SeqAt.in_list_data rb ra (toPyL_plain ds ok.1.1) (toPy_plain d ok.1.2) (by have := ok.2; omega) q, fun q => SeqAt.notIn_list_data rb ra (toPyL_plain ds ok.1.1) (toPy_plain d ok.1.2) (by have := ok.2; omega) q⟩
  | tup ds =>
    obtain ⟨ok, q⟩ := wp_if h
    refine ⟨_, q, if_pos ok, ?_⟩
    simp only [Bool.and_eq_true, decide_eq_true_eq] at ok
    obtain ⟨as, ra⟩ := r1.reads B.kle I ok.1.2 rx
    obtain ⟨bs, rb⟩ := r2.reads B.kle I (show D.plL ds = true from ok.1.1) ry
    have d1 := toPy_dep d
    have d2 := toPyL_dep ds
    rw [← any_toPy]
    exact ⟨fun q => SeqAt.in_tuple_data rb ra (toPyL_plain ds ok.1.1) (toPy_plain d ok.1.2) (by have := ok.2; omega) q, fun q => SeqAt.notIn_tuple_data rb ra (toPyL_plain ds ok.1.1) (toPy_plain d ok.1.2) (by have := ok.2; omega) q⟩
  | _ => exact h.elim
theorem o_in {cm : Bool} (B : Bd' cm X A E k) : OpR X (compareOp .In) (rD A.K inD) := by
  intro pins s σ H x y v u Q I rx ry ⟨P, W, d, e, r1, r2, h⟩
  obtain ⟨b, q, _, h1, _⟩ := in_core B I rx ry r1 r2 h
  exact h1 ⟨.bl _, H, I, rfl, q _ H (Same.refl _) (.bl _)⟩
theorem o_notIn {cm : Bool} (B : Bd' cm X A E k) : OpR X (compareOp .NotIn) (rD A.K notInD) := by
  intro pins s σ H x y v u Q I rx ry ⟨P, W, d, e, r1, r2, h⟩
  have h' := M.wp_bind.mp h
  obtain ⟨b, q, _, _, h1⟩ := in_core B I rx ry r1 r2 h'
  exact h1 ⟨.bl _, H, I, rfl, q _ H (Same.refl _) (.bl _)⟩
end
end Px

set_option Elab.async false
set_option linter.all false
set_option maxRecDepth 100000
set_option autoImplicit false
namespace Px
open PySem PySem.Spec PyProof.Rows L2

/-! ### more operations, items, slices -/
section
variable {X : Cx} {A : Am} {E : EN} {k : Nat} {md md1 md2 : Md} {e a b c : Expr} {es : List Expr} {m ma mb mc : Ga → M D} {pos p p1 p2 p3 : Pos} {x : Str}
theorem o_add {cm : Bool} (B : Bd' cm X A E k) : OpR X (binaryOp .Add) (rD A.K addD) := by
  intro pins s σ H x y v u Q I rx ry ⟨P, W, d, e, r1, r2, h⟩
  cases d with
  | int i =>
    cases e with
    | int j =>
      cases rb_int r1
      cases rb_int r2
      exact op_add pins s σ H _ _ v u Q I rx ry ⟨i, j, rfl, rfl, h _ H (Same.refl _) (.int _)⟩
    | _ => exact h.elim
  | str i =>
    cases e with
    | str j =>
      cases rb_str r1
      cases rb_str r2
      obtain ⟨c, q⟩ := wp_if h
      exact op_add_str pins s σ H _ _ v u Q I rx ry ⟨i, j, rfl, rfl, by rw [sizeLine_eq]; exact c, q _ H (Same.refl _) (.str _)⟩
    | _ => exact h.elim
  | tup xs =>
    cases e with
    | tup ys =>
      obtain ⟨c, q⟩ := wp_if h
      obtain ⟨a, xs1, rfl, h1, l1⟩ := rb_tup r1
      obtain ⟨b, ys1, rfl, h2, l2⟩ := rb_tup r2
      refine op_catA pins s σ H _ _ v u Q I rx ry ⟨a, b, xs1, ys1, rfl, rfl, TpX.kle B.kle h1, TpX.kle B.kle h2, by rw [l1.length, l2.length, sizeLine_eq]; exact c, fun z => ?_, fun _ z => ?_, fun _ _ p hp => ?_⟩
      · subst z
        cases l1
        exact q _ H (Same.refl _) (.tup h2 l2)
      · subst z
        cases l2
        exact q _ H (Same.refl _) (.tup h1 (by rw [List.append_nil]; exact l1))
      · have s1 := same_new (o := .tup (xs1 ++ ys1)) hp
        exact q _ _ s1 (.tup (.inl upd_same) ((l1.append l2).mono (same_ho s1) fun _ _ p _ => p))
    | _ => exact h.elim
  | lst xs =>
    cases e with
    | lst ys =>
      obtain ⟨c, q⟩ := wp_if h
      obtain ⟨a, xs1, rfl, _, h1, l1⟩ := r1
      obtain ⟨b, ys1, rfl, _, h2, l2⟩ := r2
      refine op_cat pins s σ H _ _ v u Q I rx ry ⟨a, b, xs1, ys1, rfl, rfl, h1, h2, by rw [l1.length, l2.length, sizeLine_eq]; exact c, fun p hp => ?_⟩
      have s1 := same_new (o := .lst (xs1 ++ ys1)) hp
      exact q _ _ s1 ⟨p, rfl, hp, _, upd_same, (l1.append l2).mono (same_ho s1) fun b _ q r => ⟨q, fun e => by subst e; obtain ⟨o, r⟩ := rd_some r; rw [hp] at r; cases r⟩⟩
    | _ => exact h.elim
  | _ => exact h.elim
/-- a list times a number -/
def repD : D → D → M D
  | .lst xs, .int j => if xs.length * j.toNat ≤ 16777216 ∧ j < 2 ^ 62 ∧ -(2 ^ 62) ≤ j then .ret (.lst (List.replicate j.toNat xs).flatten) else .stuck
  | _, _ => .stuck
theorem tame_rep (x y : D) : Tame (repD x y) := by cases x <;> cases y <;> first | trivial | exact tame_if
theorem RpL.repn {K : PySem.W.Frag} {H : Hp} {P : Addr → Prop} {vs : List V} {ds : List D} (h : RpL K H P vs ds) : ∀ n : Nat, RpL K H P (List.replicate n vs).flatten (List.replicate n ds).flatten
  | 0 => .nil
  | n + 1 => by
    rw [List.replicate_succ, List.replicate_succ, List.flatten_cons, List.flatten_cons]
    exact h.append (h.repn n)
theorem new_ne {K : PySem.W.Frag} {H : Hp} {P : Addr → Prop} {p : Addr} {o : HO} {vs : List V} {ds : List D} (hp : H p = none) (h : RpL K H P vs ds) : RpL K (upd H p o) (fun b => P b ∧ b ≠ p) vs ds :=
  h.mono (same_ho (same_new hp)) fun b _ q r => ⟨q, fun e => by subst e; obtain ⟨o, r⟩ := rd_some r; rw [hp] at r; cases r⟩
theorem o_rep : OpR X (binaryOp .Mult) (rD A.K repD) := by
  intro pins s σ H x y v u Q I rx ry ⟨P, W, d, e, r1, r2, h⟩
  cases d with
  | lst xs =>
    cases e with
    | int j =>
      obtain ⟨c, q⟩ := wp_if h
      obtain ⟨a, xs1, rfl, _, h1, l1⟩ := r1
      cases rb_int r2
      refine op_rep pins s σ H _ _ v u Q I rx ry ⟨a, j, xs1, rfl, rfl, h1, by omega, by omega, by rw [l1.length, sizeLine_eq]; exact c.1, fun p hp => ?_⟩
      exact q _ _ (same_new hp) ⟨p, rfl, hp, _, upd_same, new_ne hp (l1.repn _)⟩
    | _ => exact h.elim
  | _ => exact h.elim
def powD : D → D → M D
  | .int i, .int j => if 0 ≤ j ∧ j ≤ 64 ∧ 0 ≤ i ∧ i ≤ 16 then .ret (.int (i ^ j.toNat)) else .stuck
  | _, _ => .stuck
theorem tame_pow (x y : D) : Tame (powD x y) := by cases x <;> cases y <;> first | trivial | exact tame_if
theorem cpow_of {i j : Int} (h : 0 ≤ j ∧ j ≤ 64 ∧ 0 ≤ i ∧ i ≤ 16) : CPow i j := by
  refine ⟨h.1, by omega, ?_⟩
  have : i.natAbs ≤ 16 := by omega
  exact Nat.lt_of_le_of_lt this (by decide)
theorem o_pow : OpR X (binaryOp .Pow) (rD A.K powD) := op_ints (gd := fun i j => .int (i ^ j.toNat)) op_pow (fun d e Q h => by
  cases d <;> cases e <;> first
    | exact h.elim
    | (obtain ⟨c, q⟩ := wp_if h; exact ⟨_, _, rfl, rfl, cpow_of c, q⟩)) fun _ _ _ _ _ _ => .int _
theorem is_core {pins : List (Addr × Obj)} {σ : L2.St} {H : Hp} {s : Shared} {P W : Addr → Prop} {x y : V} {v u : Value} {d c : D} (I : Inv X pins σ H s) (rx : RelV x v) (ry : RelV y u) (r1 : Rb A.K H P W x d) (r2 : Rb A.K H P W y c) {Q : D → Prop} (h : (isND d c).wp Q fun _ => False) :
    (∃ b, Q (.bl b) ∧ isND d c = .ret (.bl b) ∧ y = .non ∧ decide (x = .non) = b) ∨ (∃ b b1 b2, Q (.bl b) ∧ isND d c = .ret (.bl b) ∧ x = .bl b1 ∧ y = .bl b2 ∧ decide (b1 = b2) = b) := by
  cases c with
  | non =>
    cases rb_non r2
    left
    cases d with
    | non => cases rb_non r1; exact ⟨true, h, rfl, rfl, rfl⟩
    | bl b => cases rb_bl r1; exact ⟨false, h, rfl, rfl, rfl⟩
    | int i => cases rb_int r1; exact ⟨false, h, rfl, rfl, rfl⟩
    | str i => cases rb_str r1; exact ⟨false, h, rfl, rfl, rfl⟩
    | tup ds => obtain ⟨a, xs, rfl, _⟩ := rb_tup r1; exact ⟨false, h, rfl, rfl, rfl⟩
    | lst ds => obtain ⟨a, xs, rfl, _⟩ := r1; exact ⟨false, h, rfl, rfl, rfl⟩
    | dct t ds => obtain ⟨a, rfl, _⟩ := r1; exact ⟨false, h, rfl, rfl, rfl⟩
    | raw v => exact h.elim
  | bl b2 =>
    cases rb_bl r2
    right
    cases d with
    | bl b1 => cases rb_bl r1; exact ⟨_, b1, b2, h, rfl, rfl, rfl, by cases b1 <;> cases b2 <;> rfl⟩
    | _ => exact h.elim
  | _ => exact h.elim
theorem o_is : OpR X (compareOp .Is) (rD A.K isND) := by
  intro pins s σ H x y v u Q I rx ry ⟨P, W, d, e, r1, r2, h⟩
  rcases is_core I rx ry r1 r2 h with ⟨b, q, _, e1, e2⟩ | ⟨b, b1, b2, q, _, e1, e2, e3⟩
  · exact op_isN pins s σ H x y v u Q I rx ry ⟨e1, by rw [e2]; exact q _ H (Same.refl _) (.bl _)⟩
  · exact op_isBl pins s σ H x y v u Q I rx ry ⟨b1, b2, e1, e2, by rw [e3]; exact q _ H (Same.refl _) (.bl _)⟩
theorem o_isNot : OpR X (compareOp .IsNot) (rD A.K isNotD) := by
  intro pins s σ H x y v u Q I rx ry ⟨P, W, d, e, r1, r2, h⟩
  rcases is_core I rx ry r1 r2 (M.wp_bind.mp h) with ⟨b, q, _, e1, e2⟩ | ⟨b, b1, b2, q, _, e1, e2, e3⟩
  · exact op_notN pins s σ H x y v u Q I rx ry ⟨e1, by rw [e2]; exact q _ H (Same.refl _) (.bl _)⟩
  · exact op_notBl pins s σ H x y v u Q I rx ry ⟨b1, b2, e1, e2, by rw [e3]; exact q _ H (Same.refl _) (.bl _)⟩

/-! items -/
def atD (ds : List D) (i : Int) : M D := match atI ds i with
  | some d => .ret d
  | none => .stuck
def itemD : D → D → M D
  | .lst ds, .int i => atD ds i
  | .tup ds, .int i => atD ds i
  | .str z, .int i => if z.length ≤ 16777216 then (match atI z.cps.toList i with
    | some c => .ret (.str ⟨#[c]⟩)
    | none => .stuck) else .stuck
  | _, _ => .stuck
theorem tame_at (ds : List D) (i : Int) : Tame (atD ds i) := by unfold atD; split <;> trivial
theorem tame_item (x y : D) : Tame (itemD x y) := by
  cases x <;> cases y <;> first | trivial | exact tame_at _ _ | skip
  show Tame (if _ then _ else _)
  split
  · split <;> trivial
  · trivial
theorem RpL.atI {K : PySem.W.Frag} {H : Hp} {P : Addr → Prop} {vs : List V} {ds : List D} (r : RpL K H P vs ds) {i : Int} {d : D} (h : L2.atI ds i = some d) : ∃ v, L2.atI vs i = some v ∧ Rp K H P v d := by
  unfold L2.atI at h ⊢
  rw [← r.length] at h
  cases e : ixN vs.length i with
  | none => rw [e] at h; cases h
  | some j => rw [e] at h; exact r.get h
theorem wp_at {ds : List D} {i : Int} {Q : D → Prop} (h : (atD ds i).wp Q fun _ => False) : ∃ d, L2.atI ds i = some d ∧ Q d := by
  unfold atD at h
  split at h
  · rename_i d e; exact ⟨d, e, h⟩
  · exact h.elim
theorem ix_item {cm : Bool} (B : Bd' cm X A E k) : IxR X (rDs A.K itemD) := by
  intro value slice pins s σ H x y v u Q I rx ry ⟨P, W, d, e, r1, r2, h⟩ hs
  cases d with
  | lst ds =>
    cases e with
    | int i =>
      obtain ⟨d, e, q⟩ := wp_at h
      obtain ⟨a, xs, rfl, _, hx, l⟩ := r1
      cases rb_int r2
      obtain ⟨z, e1, r⟩ := l.atI e
      exact ix_list value slice pins s σ H _ _ v u Q I rx ry ⟨a, xs, i, z, rfl, rfl, .of hx, e1, q _ r⟩ hs
    | _ => exact h.elim
  | tup ds =>
    cases e with
    | int i =>
      obtain ⟨d, e, q⟩ := wp_at h
      obtain ⟨a, xs, rfl, hx, l⟩ := rb_tup r1
      cases rb_int r2
      obtain ⟨z, e1, r⟩ := l.atI e
      exact ix_tup value slice pins s σ H _ _ v u Q I rx ry ⟨a, xs, i, z, rfl, rfl, TpX.kle B.kle hx, e1, q _ r⟩ hs
    | _ => exact h.elim
  | str z =>
    cases e with
    | int i =>
      cases rb_str r1
      cases rb_int r2
      have h : (if z.length ≤ 16777216 then (match L2.atI z.cps.toList i with
        | some c => M.ret (D.str ⟨#[c]⟩)
        | none => .stuck) else .stuck).wp _ _ := h
      split at h
      · rename_i hl
        split at h
        · rename_i c e1
          exact ix_str value slice pins s σ H _ _ v u Q I rx ry ⟨z, i, c, rfl, rfl, by rw [sizeLine_eq]; exact hl, e1, h _ (.str _)⟩ hs
        · exact h.elim
      · exact h.elim
    | _ => exact h.elim
  | _ => exact h.elim
theorem pev_item {cm : Bool} (B : Bd' cm X A E k) (ha : PEV X A E md1 a ma) (hb : PEV X A E md2 b mb) (hs : PlainIx b := by exact fun _ _ => rfl) : PEV X A E .s (.Subscript a b pos) (bin ma mb itemD) := pev_ixs (ix_item B) tame_item ha hb hs

/-! slices -/
def cutD (xs : List D) (lo hi : Option Int) : List D := (xs.drop (HT.sIx xs.length 0 lo)).take (HT.sIx xs.length xs.length hi - HT.sIx xs.length 0 lo)
theorem RpL.cut {K : PySem.W.Frag} {H : Hp} {P : Addr → Prop} {vs : List V} {ds : List D} (r : RpL K H P vs ds) (lo hi : Option Int) : RpL K H P (cutV vs lo hi) (cutD ds lo hi) := by
  unfold cutV cutD
  rw [r.length]
  exact (r.drop _).take _
def sliceD (lo hi : Option Int) : D → M D
  | .lst ds => .ret (.lst (cutD ds lo hi))
  | .tup ds => .ret (.tup (cutD ds lo hi))
  | .str z => if z.length ≤ 16777216 then .ret (.str (cutS z lo hi)) else .stuck
  | _ => .stuck
theorem tame_slice (lo hi : Option Int) (x : D) : Tame (sliceD lo hi x) := by cases x <;> first | trivial | exact tame_if
def rSD (K : PySem.W.Frag) (g : Option Int → Option Int → D → M D) : V → Option Int → Option Int → Hp → VK → Prop := fun x lo hi H Q => ∃ P W d, Rb K H P W x d ∧ (g lo hi d).wp (fun r => ∀ w H', Same H H' → Rf K H H' P w r → Q w H') fun _ => False
theorem sl_slice {cm : Bool} (B : Bd' cm X A E k) : SlR X (rSD A.K sliceD) := by
  intro pins s σ H x v vl vu lo hi sl Q I rx hs pl pu ⟨P, W, d, r1, h⟩
  cases d with
  | lst ds =>
    obtain ⟨a, xs, rfl, _, hx, l⟩ := r1
    exact sl_list pins s σ H _ v vl vu lo hi sl Q I rx hs pl pu ⟨a, xs, rfl, .of hx, fun p hp => h _ _ (same_new hp) ⟨p, rfl, hp, _, upd_same, new_ne hp (l.cut lo hi)⟩⟩
  | tup ds =>
    obtain ⟨a, xs, rfl, hx, l⟩ := rb_tup r1
    refine sl_tupA pins s σ H _ v vl vu lo hi sl Q I rx hs pl pu ⟨a, xs, rfl, TpX.kle B.kle hx, fun z => h _ _ (Same.refl _) ?_, fun z p hp => h _ _ (same_new hp) (.tup (.inl upd_same) ((l.cut lo hi).mono (same_ho (same_new hp)) fun _ _ p _ => p))⟩
    have e : cutD ds lo hi = ds := by
      unfold cutD
      rw [l.length] at z
      rw [z.1, z.2]
      simp
    rw [e]
    exact .tup hx l
  | str z =>
    obtain ⟨c, q⟩ := wp_if h
    cases rb_str r1
    exact sl_str pins s σ H _ v vl vu lo hi sl Q I rx hs pl pu ⟨z, rfl, by rw [sizeLine_eq]; exact c, q _ _ (Same.refl _) (.str _)⟩
  | _ => exact h.elim
/-- a part of a slice -/
def tO (K : PySem.W.Frag) (A : Am) (E : EN) (m : Ga → M (Option Int)) : TO := fun σ H Q => ∃ cn f Γ, Rl K A cn f σ H Γ ∧
  (m Γ).wp (fun d => ∀ H', Kx A.gh.Z H H' → A.gh.G H' → Q d H') (xP A E cn)
structure POV (X : Cx) (A : Am) (E : EN) (e : Option Expr) (m : Ga → M (Option Int)) : Prop where
  po : PO X e (tO A.K A E m)
def toI : D → M (Option Int)
  | .int i => .ret (some i)
  | _ => .stuck
def noO : Ga → M (Option Int) := fun _ => .ret none
def smO (m : Ga → M D) : Ga → M (Option Int) := fun Γ => m Γ >>= toI
theorem pov_none : POV X A E none noO := by
  refine ⟨⟨fun pins s σ H Q I ⟨cn, f, Γ, R, h⟩ => po_none.run pins s σ H Q I ?_⟩⟩
  exact h H .refl R.g
theorem pov_some (ha : PEV X A E md e m) : POV X A E (some e) (smO m) := by
  refine ⟨⟨fun pins s σ H Q I ⟨cn, f, Γ, R, h⟩ => (po_some ha.pe).run pins s σ H Q I ?_⟩⟩
  refine ⟨cn, f, Γ, R, M.wp_mono (M.wp_bind.mp h) (fun d q w H1 k1 g1 r1 => ?_) fun _ x => x⟩
  cases d with
  | int i => exact ⟨i, rb_int (R.rb r1), q H1 k1 g1⟩
  | _ => exact q.elim
def slV (ma : Ga → M D) (ml mh : Ga → M (Option Int)) : Ga → M D := fun Γ => ma Γ >>= fun d => ml Γ >>= fun l => mh Γ >>= fun h => sliceD l h d
theorem pev_slice {lo hi : Option Expr} {ml mh : Ga → M (Option Int)} {cm : Bool} (B : Bd' cm X A E k) (ha : PEV X A E md a ma) (hl : POV X A E lo ml) (hh : POV X A E hi mh) : PEV X A E .f (.Subscript a (.Slice lo hi none p2) pos) (slV ma ml mh) := by
  refine ⟨imp_pe (pe_slice (sl_slice B) ha.pe hl.po hh.po) fun σ H Q ⟨cn, f, Γ, R, h⟩ => ⟨cn, f, Γ, R, M.wp_mono (M.wp_bind.mp h) (fun d q w H1 k1 g1 r1 => ?_) fun _ x => x⟩⟩
  have R1 := R.kx k1 g1
  refine ⟨cn, f, Γ, R1, M.wp_mono (M.wp_bind.mp q) (fun l q H2 k2 g2 => ?_) fun _ x => x⟩
  have R2 := R1.kx k2 g2
  refine ⟨cn, f, Γ, R2, M.wp_mono (M.wp_bind.mp q) (fun u q H3 k3 g3 => ?_) fun _ x => x⟩
  refine ⟨Fz A cn f Γ, nZ A, d, R2.rbk k3 (R1.rbk k2 (R.rb r1)), ?_⟩
  exact tD R ((k1.trans k2).trans k3) g3 (tame_slice l u d) q
/-! xs[::-1] of a list, a tuple -/
theorem adjust_back (n : Nat) : Builtin.Slice.sliceAdjust none none (-1) (n : Int) = ((n : Int) - 1, -1) := by
  unfold Builtin.Slice.sliceAdjust
  have h1 : ((-1 : Int) < 0) := by omega
  simp only [h1, if_true]
theorem places_back (n : Nat) : Builtin.Slice.slicePlaces ((n : Int) - 1) (-1) (-1) = n := by
  unfold Builtin.Slice.slicePlaces
  have h1 : ¬ ((-1 : Int) > 0) := by omega
  simp only [h1, if_false]
  rw [show (- -1 : Int) = 1 by decide, Int.ediv_one]
  split <;> omega
theorem pick_back (xs : Array Value) : ((List.range xs.size).filterMap fun (m : Nat) => xs[(((xs.size : Int) - 1) + (m : Int) * (-1)).toNat]?).toArray = xs.toList.reverse.toArray := by
  have e : (List.range xs.size).filterMap (fun (m : Nat) => xs[(((xs.size : Int) - 1) + (m : Int) * (-1)).toNat]?) = ((List.range xs.size).map fun k => xs.size - 1 - k).filterMap (xs[·]?) := by
    rw [List.filterMap_map]
    have cg : ∀ (l : List Nat) (f g : Nat → Option Value), (∀ m, m ∈ l → f m = g m) → l.filterMap f = l.filterMap g := fun l f g hl => by
      induction l with
      | nil => rfl
      | cons a r ih => rw [List.filterMap_cons, List.filterMap_cons, hl a List.mem_cons_self, ih fun m hm => hl m (List.mem_cons_of_mem _ hm)]
    refine cg _ _ _ fun m hm => ?_
    have := List.mem_range.mp hm
    have e : (((xs.size : Int) - 1) + (m : Int) * (-1)).toNat = xs.size - 1 - m := by omega
    show xs[_]? = xs[_]?
    rw [e]
  rw [e, PySem.W.krv_range, List.filterMap_reverse, PySem.W.krv_all]
section
variable {prog : Program} {w : World} {A : Around} {E : Value → Shared → Prop} {s : Shared}
theorem sliceApplied_back {sl : Addr} {vs : Value} {n : Nat} {Q : Int × Int × Nat → Shared → Prop} (hs : s.heap.IsSliceOf sl .none .none vs) (ps : IsPart vs (some (-1)))
    (h : Q ((n : Int) - 1, -1, n) s) : wpAny (model prog w) A (Builtin.Slice.sliceApplied (.ref sl) (pure (n : Int))) Q E s := by
  obtain ⟨os, hos, hcs, hds⟩ := id hs
  unfold Builtin.Slice.sliceApplied Builtin.Slice.sliceFields
  refine wpAny_bind (wpAny_bind (wpAny_field hos hds (x := .none) rfl (wpAny_bind (wpAny_field hos hds (x := .none) rfl (wpAny_bind (wpAny_field hos hds (x := vs) rfl (wpAny_pure ?_)))))))
  refine wpAny_bind (HT.slicePart_ ps ?_)
  show wpAny _ _ (if ((-1 : Int) == 0) = true then _ else _) _ _ s
  rw [if_neg (by decide)]
  refine wpAny_bind (slicePart_none (wpAny_bind (slicePart_none (wpAny_bind (wpAny_pure ?_)))))
  show wpAny _ _ (match Builtin.Slice.sliceAdjust none none (-1) (n : Int) with | (lo, hi) => pure (lo, (-1 : Int), Builtin.Slice.slicePlaces lo hi (-1))) _ _ s
  rw [adjust_back n]
  show wpAny _ _ (pure ((n : Int) - 1, (-1 : Int), Builtin.Slice.slicePlaces ((n : Int) - 1) (-1) (-1))) _ _ s
  rw [places_back]
  exact wpAny_pure h
theorem getItem_tuple_back {t sl : Addr} {items : Array Value} {vs : Value} {Q : Value → Shared → Prop} (ht : IsTup s.heap t items) (hs : s.heap.IsSliceOf sl .none .none vs) (ps : IsPart vs (some (-1)))
    (h : Q (.ref s.heap.objs.size) { s with heap := s.heap.push { cls := .type "tuple", data := .seq items.toList.reverse.toArray } })
    (hsz : items.size ≤ sizeLine) : wpAny (model prog w) A (getItem (.ref t) (.ref sl)) Q E s := by
  have htake : sizeOk (.seq items.toList.reverse.toArray) := by
    show items.toList.reverse.toArray.size ≤ sizeLine
    rw [List.size_toArray, List.length_reverse, Array.length_toList]
    exact hsz
  obtain ⟨os, hos, hcs, hds⟩ := id hs
  have hTs : s.TypeIs (.ref sl) "slice" := ⟨os, hos, hcs⟩
  unfold getItem
  try with_reducible refine wpAny_holding ?_
  first | refine wpAny_bind (wpAny_pure ?_) | skip
  refine wpAny_bind (wpAny_sequenceKey ht.typeIs (by decide) ?_)
  refine wpAny_bind (wpAny_callSpecial?_slot (name := Str.ofString "__getitem__") ht.typeIs PyProof.Rows.slot_tuple_getitem
    (wpAny_call_entry PyProof.Rows.slot_tuple_getitem ht.typeIs entry_tuple_getitem ?_ (args_tuple_getitem _ _)))
  show wpAny _ _ (Builtin.Tuple.tupleItemsOf (.ref t) >>= _) _ _ s
  refine wpAny_bind (tupleItemsOf_ ht ?_)
  refine wpAny_bind (wpAny_typeOf hTs ?_)
  rw [if_pos (by decide)]
  refine wpAny_bind (sliceApplied_back hs ps ?_)
  have hno : ¬ (((items.size : Int) - 1 == 0 && (-1 : Int) == 1 && items.size == items.size) = true) := by
    intro q
    rw [Bool.and_eq_true, Bool.and_eq_true] at q
    exact absurd (eq_of_beq q.1.2) (by decide)
  show wpAny _ _ (if ((items.size : Int) - 1 == 0 && (-1 : Int) == 1 && items.size == items.size) = true then _ else _) _ _ s
  rw [if_neg hno, pick_back]
  first
    | exact wpAny_bind (m := Builtin.Tuple.tupleExact _) (wpAny_newObj_type (wpAny_pure ⟨_, rfl, wpAny_pure h⟩) htake)
    | exact wpAny_bind (m := Builtin.Tuple.tupleExact _) (wpAny_newObj_type (wpAny_bind (wpAny_pure (wpAny_pure ⟨_, rfl, wpAny_pure h⟩))) htake)
    | exact wpAny_bind (wpAny_bind (m := Builtin.Tuple.tupleExact _) (wpAny_newObj_type (wpAny_pure (wpAny_pure ⟨_, rfl, wpAny_pure h⟩)) htake))
    | exact wpAny_bind (wpAny_bind (m := Builtin.Tuple.tupleExact _) (wpAny_newObj_type (wpAny_pure ⟨_, rfl, wpAny_pure h⟩) htake))
end
def tRevA (K : PySem.W.Frag) (te : TE) : TE := fun σ H Q => te σ H fun x H1 => ∃ a xs, x = .ref a ∧ ((H1 a = some (.lst xs) ∧ ∀ p, H1 p = none → Q (.ref p) (upd H1 p (.lst xs.reverse))) ∨ (SqT K H1 a xs ∧ ∀ p, H1 p = none → Q (.ref p) (upd H1 p (.tup xs.reverse))))
theorem pe_revA {e : Expr} {te : TE} {k : Nat} {p1 p2 p3 pos : Pos} (he : PE X e te) : PE X (.Subscript e (.Slice none none (some (.UnaryOp .USub (.Constant (.int 1) k p1) p2)) p3) pos) (tRevA X.K te) := by
  refine ⟨fun pins s σ H Q I h => ?_⟩
  refine Subscript_ (thn (he.run pins s σ H _ I h) fun v s1 ⟨x, H1, I1, r1, q1⟩ => ?_)
  obtain ⟨a, xs, ex, q⟩ := q1
  subst ex
  cases r1
  have hst : PO X (some (.UnaryOp .USub (.Constant (.int 1) k p1) p2)) (tPart (tUn (rU fun i => .int (-i)) (tC (.int 1)))) := po_some (pe_un un_neg pe_int)
  refine wpAny_Slice (thn (po_none.run pins s1 σ H1 (fun o H2 => o = none ∧ H2 = H1) I1 ⟨rfl, rfl⟩) fun vl s2 ⟨l, H2, I2, pl, el, e2⟩ => ?_)
  subst el e2
  refine thn (po_none.run pins s2 σ H2 (fun o H3 => o = none ∧ H3 = H2) I2 ⟨rfl, rfl⟩) fun vu s3 ⟨u, H3, I3, pu, eu, e3⟩ => ?_
  subst eu e3
  refine thn (hst.run pins s3 σ H3 (fun o H4 => o = some (-1) ∧ H4 = H3) I3 ⟨1, rfl, -1, rfl, rfl, rfl⟩) fun vs s4 ⟨o, H4, I4, ps, eo, e4⟩ => ?_
  subst eo e4
  have I5 : Inv X pins σ H4 { s4 with heap := s4.heap.push { cls := .type "slice", data := .fields #[vl, vu, vs] } } := I4.kept (t' := s4.toks) fun b ob q => Heap.get?_push_of_some _ q
  rcases q with ⟨hx, q⟩ | ⟨hx, q⟩
  · obtain ⟨its, r, ht, hz⟩ := I5.list (SqL.of hx)
    have hlen := r.length
    show wpAny (model X.prog X.w) X.A (subscriptTail e (.Slice none none (some (.UnaryOp .USub (.Constant (.int 1) k p1) p2)) p3) (.ref a) (.ref s4.heap.objs.size)) (EP X pins σ Q) X.xe { s4 with heap := s4.heap.push { cls := .type "slice", data := .fields #[vl, vu, vs] } }
    refine tail_any (ops := [.ref a, .ref s4.heap.objs.size]) ht.isList.typeIs (PySem.slot_list_getitem.lookup) ?_ (by with_unfolding_all rfl)
    refine wpAny_getItem_list_slice ht.isList (Heap.IsSliceOf.new _ vl vu vs) pl pu ps (by decide) ?_ (by rw [List.size_toArray]; omega)
    rw [PySem.W.krv_pick]
    refine ⟨.ref _, _, I5.laid (t' := s4.toks) (o := .lst xs.reverse) (fun b ob q => Heap.get?_push_of_some _ q) (Nat.le_refl _) ?_, rfl, q _ (I5.hok.fresh (Nat.le_refl _))⟩
    exact ⟨by rw [List.length_reverse]; exact hz, _, 0, r.reverse, Heap.get?_push_size _ rfl⟩
  · obtain ⟨its, r, ht, hz⟩ := I5.tuple hx
    have hlen := r.length
    cases pl
    cases pu
    show wpAny (model X.prog X.w) X.A (subscriptTail e (.Slice none none (some (.UnaryOp .USub (.Constant (.int 1) k p1) p2)) p3) (.ref a) (.ref s4.heap.objs.size)) (EP X pins σ Q) X.xe { s4 with heap := s4.heap.push { cls := .type "slice", data := .fields #[.none, .none, vs] } }
    refine tail_any (ops := [.ref a, .ref s4.heap.objs.size]) ht.typeIs (PyProof.Rows.slot_tuple_getitem.lookup) ?_ (by with_unfolding_all rfl)
    refine getItem_tuple_back ht (Heap.IsSliceOf.new _ .none .none vs) ps ?_ (by rw [List.size_toArray]; omega)
    refine ⟨.ref _, _, I5.laid (t' := s4.toks) (o := .tup xs.reverse) (fun b ob q => Heap.get?_push_of_some _ q) (Nat.le_refl _) ?_, rfl, q _ (I5.hok.fresh (Nat.le_refl _))⟩
    exact ⟨by rw [List.length_reverse]; exact hz, _, r.reverse, IsTup.new _ _⟩
def revD : D → M D
  | .lst ds => .ret (.lst ds.reverse)
  | .tup ds => .ret (.tup ds.reverse)
  | _ => .stuck
theorem tame_rev (x : D) : Tame (revD x) := by cases x <;> trivial
theorem pev_rev {kk : Nat} {cm : Bool} (B : Bd' cm X A E k) (ha : PEV X A E md a ma) : PEV X A E .f (.Subscript a (.Slice none none (some (.UnaryOp .USub (.Constant (.int 1) kk p1) p2)) p3) pos) (una ma revD) := by
  refine ⟨imp_pe (pe_revA ha.pe) fun σ H Q ⟨cn, f, Γ, R, h⟩ => ⟨cn, f, Γ, R, M.wp_mono (M.wp_bind.mp h) (fun d q w H1 k1 g1 r1 => ?_) fun _ x => x⟩⟩
  have b := R.rb r1
  have q := tD R k1 g1 (tame_rev d) q
  cases d with
  | lst ds =>
    obtain ⟨a, xs, rfl, _, hx, l⟩ := b
    exact ⟨a, xs, rfl, .inl ⟨hx, fun p hp => q _ _ (same_new hp) ⟨p, rfl, hp, _, upd_same, new_ne hp l.reverse⟩⟩⟩
  | tup ds =>
    obtain ⟨a, xs, rfl, hx, l⟩ := rb_tup b
    exact ⟨a, xs, rfl, .inr ⟨TpX.kle B.kle hx, fun p hp => q _ _ (same_new hp) (.tup (.inl upd_same) (l.reverse.mono (same_ho (same_new hp)) fun _ _ p _ => p))⟩⟩
  | _ => exact q.elim
end
end Px

set_option Elab.async false
set_option linter.all false
set_option maxRecDepth 100000
set_option autoImplicit false
namespace Px
open PySem PySem.Spec PyProof.Rows L2

/-! ### what is built in -/
section
variable {X : Cx} {A : Am} {E : EN} {k : Nat} {md md1 md2 : Md} {e a b c : Expr} {es : List Expr} {m ma mb mc : Ga → M D} {pos p p1 p2 p3 : Pos} {x : Str}
theorem rq1 {K : PySem.W.Frag} {H : Hp} {P W : Addr → Prop} {vs : List V} {d : D} (h : RqL .b K H P W vs [d]) : ∃ v, vs = [v] ∧ Rb K H P W v d := by
  cases h with
  | cons h1 h2 => cases h2; exact ⟨_, rfl, h1⟩
theorem rq2 {K : PySem.W.Frag} {H : Hp} {P W : Addr → Prop} {vs : List V} {d e : D} (h : RqL .b K H P W vs [d, e]) : ∃ v w, vs = [v, w] ∧ Rb K H P W v d ∧ Rb K H P W w e := by
  cases h with
  | cons h1 h2 =>
    cases h2 with
    | cons h2 h3 => cases h3; exact ⟨_, _, rfl, h1, h2⟩
def lenD : List D → M D
  | [.lst ds] => .ret (.int ds.length)
  | [.tup ds] => .ret (.int ds.length)
  | [.str z] => if z.length ≤ 16777216 then .ret (.int z.length) else .stuck
  | _ => .stuck
theorem tame_len : ∀ ds, Tame (lenD ds)
  | [] => trivial
  | [d] => by cases d <;> first | trivial | exact tame_if
  | d :: e :: r => by unfold lenD; split <;> first | trivial | exact tame_if
theorem c_len {cm : Bool} (B : Bd' cm X A E k) : CallR X (.builtin "len") (cD A.K lenD) := by
  intro pins s σ H vs us Q I r ⟨P, W, ds, h1, h⟩
  match ds with
  | [] => exact h.elim
  | _ :: _ :: _ => unfold lenD at h; split at h <;> simp_all [M.wp]
  | [d] =>
    obtain ⟨v, rfl, rb⟩ := rq1 h1
    cases d with
    | lst ds =>
      obtain ⟨a, xs, rfl, _, hx, l⟩ := rb
      exact call_len_seq pins s σ H _ us Q I r ⟨a, xs, rfl, .inl (.of hx), by rw [l.length]; exact h _ H (Same.refl _) (.int _)⟩
    | tup ds =>
      obtain ⟨a, xs, rfl, hx, l⟩ := rb_tup rb
      exact call_len_seq pins s σ H _ us Q I r ⟨a, xs, rfl, .inr (TpX.kle B.kle hx), by rw [l.length]; exact h _ H (Same.refl _) (.int _)⟩
    | str z =>
      cases rb_str rb
      obtain ⟨c, q⟩ := wp_if h
      exact call_len_str pins s σ H _ us Q I r ⟨z, rfl, by rw [sizeLine_eq]; exact c, q _ H (Same.refl _) (.int _)⟩
    | _ => exact h.elim
/-! lists of ints, of bools -/
def intsOf : List D → Option (List Int)
  | [] => some []
  | .int i :: r => (intsOf r).map (i :: ·)
  | _ => none
def blsOf : List D → Option (List Bool)
  | [] => some []
  | .bl i :: r => (blsOf r).map (i :: ·)
  | _ => none
theorem intsOf_eq : ∀ {ds : List D} {ns : List Int}, intsOf ds = some ns → ds = ns.map .int
  | [], ns, h => by cases h; rfl
  | d :: r, ns, h => by
    cases d with
    | int i =>
      have h : (intsOf r).map (i :: ·) = some ns := h
      cases e : intsOf r with
      | none => rw [e] at h; cases h
      | some ms => rw [e] at h; cases h; rw [intsOf_eq e]; rfl
    | _ => cases h
theorem blsOf_eq : ∀ {ds : List D} {ns : List Bool}, blsOf ds = some ns → ds = ns.map .bl
  | [], ns, h => by cases h; rfl
  | d :: r, ns, h => by
    cases d with
    | bl i =>
      have h : (blsOf r).map (i :: ·) = some ns := h
      cases e : blsOf r with
      | none => rw [e] at h; cases h
      | some ms => rw [e] at h; cases h; rw [blsOf_eq e]; rfl
    | _ => cases h
theorem intsOf_map : ∀ ns : List Int, intsOf (ns.map .int) = some ns
  | [] => rfl
  | n :: r => by show (intsOf (r.map .int)).map (n :: ·) = _; rw [intsOf_map r]; rfl
theorem blsOf_map : ∀ ns : List Bool, blsOf (ns.map .bl) = some ns
  | [] => rfl
  | n :: r => by show (blsOf (r.map .bl)).map (n :: ·) = _; rw [blsOf_map r]; rfl
theorem rpl_ints {K : PySem.W.Frag} {H : Hp} {P : Addr → Prop} : ∀ {ns : List Int} {vs : List V}, RpL K H P vs (ns.map .int) → vs = ns.map V.int
  | [], _, .nil => rfl
  | _ :: _, _, .cons h r => by cases h; rw [rpl_ints r]; rfl
theorem rpl_bls {K : PySem.W.Frag} {H : Hp} {P : Addr → Prop} : ∀ {ns : List Bool} {vs : List V}, RpL K H P vs (ns.map .bl) → vs = ns.map V.bl
  | [], _, .nil => rfl
  | _ :: _, _, .cons h r => by cases h; rw [rpl_bls r]; rfl
def onInts (ds : List D) (f : List Int → M D) : M D := match intsOf ds with
  | some ns => f ns
  | none => .stuck
def onBls (ds : List D) (f : List Bool → M D) : M D := match blsOf ds with
  | some ns => f ns
  | none => .stuck
def sumD : List D → M D
  | [.lst ds] => onInts ds fun ns => .ret (.int ns.sum)
  | _ => .stuck
def allD : List D → M D
  | [.lst ds] => onBls ds fun ns => .ret (.bl (ns.all id))
  | _ => .stuck
def anyD : List D → M D
  | [.lst ds] => onBls ds fun ns => .ret (.bl (ns.any id))
  | _ => .stuck
theorem tame_onInts {ds : List D} {f : List Int → M D} (h : ∀ ns, Tame (f ns)) : Tame (onInts ds f) := by unfold onInts; split <;> first | trivial | exact h _
theorem tame_onBls {ds : List D} {f : List Bool → M D} (h : ∀ ns, Tame (f ns)) : Tame (onBls ds f) := by unfold onBls; split <;> first | trivial | exact h _
theorem tame_sum : ∀ ds, Tame (sumD ds) := fun ds => by unfold sumD; split <;> first | trivial | exact tame_onInts fun _ => trivial
theorem tame_all : ∀ ds, Tame (allD ds) := fun ds => by unfold allD; split <;> first | trivial | exact tame_onBls fun _ => trivial
theorem tame_any : ∀ ds, Tame (anyD ds) := fun ds => by unfold anyD; split <;> first | trivial | exact tame_onBls fun _ => trivial
theorem wp_onInts {ds : List D} {f : List Int → M D} {Q : D → Prop} {E' : Exn → Prop} (h : (onInts ds f).wp Q E') : ∃ ns, ds = ns.map .int ∧ (f ns).wp Q E' := by
  unfold onInts at h; split at h
  · rename_i ns e; exact ⟨ns, intsOf_eq e, h⟩
  · exact h.elim
theorem wp_onBls {ds : List D} {f : List Bool → M D} {Q : D → Prop} {E' : Exn → Prop} (h : (onBls ds f).wp Q E') : ∃ ns, ds = ns.map .bl ∧ (f ns).wp Q E' := by
  unfold onBls at h; split at h
  · rename_i ns e; exact ⟨ns, blsOf_eq e, h⟩
  · exact h.elim
theorem c_sum (B : Bd X A E k) : CallR X (.builtin "sum") (cD A.K sumD) := by
  intro pins s σ H vs us Q I r ⟨P, W, ds, h1, h⟩
  unfold sumD at h
  split at h
  · rename_i ds
    obtain ⟨ns, rfl, q⟩ := wp_onInts h
    obtain ⟨v, rfl, a, xs, rfl, _, hx, l⟩ := rq1 h1
    cases rpl_ints l
    exact cr_sum B.calm pins s σ H _ us Q I r ⟨a, ns, rfl, .of hx, q _ H (Same.refl _) (.int _)⟩
  · exact h.elim
theorem c_all (B : Bd X A E k) : CallR X (.builtin "all") (cD A.K allD) := by
  intro pins s σ H vs us Q I r ⟨P, W, ds, h1, h⟩
  unfold allD at h
  split at h
  · rename_i ds
    obtain ⟨ns, rfl, q⟩ := wp_onBls h
    obtain ⟨v, rfl, a, xs, rfl, _, hx, l⟩ := rq1 h1
    cases rpl_bls l
    exact cr_all B.calm pins s σ H _ us Q I r ⟨a, ns, rfl, .of hx, q _ H (Same.refl _) (.bl _)⟩
  · exact h.elim
theorem c_any (B : Bd X A E k) : CallR X (.builtin "any") (cD A.K anyD) := by
  intro pins s σ H vs us Q I r ⟨P, W, ds, h1, h⟩
  unfold anyD at h
  split at h
  · rename_i ds
    obtain ⟨ns, rfl, q⟩ := wp_onBls h
    obtain ⟨v, rfl, a, xs, rfl, _, hx, l⟩ := rq1 h1
    cases rpl_bls l
    exact cr_any B.calm pins s σ H _ us Q I r ⟨a, ns, rfl, .of hx, q _ H (Same.refl _) (.bl _)⟩
  · exact h.elim
def tupleD : List D → M D
  | [.lst ds] => .ret (.tup ds)
  | [.tup ds] => .ret (.tup ds)
  | _ => .stuck
theorem tame_tuple : ∀ ds, Tame (tupleD ds) := fun ds => by unfold tupleD; split <;> trivial
theorem c_tuple {cm : Bool} (B : Bd' cm X A E k) : CallR X (.type "tuple") (cD A.K tupleD) := by
  intro pins s σ H vs us Q I r ⟨P, W, ds, h1, h⟩
  unfold tupleD at h
  split at h
  · obtain ⟨v, rfl, a, xs, rfl, _, hx, l⟩ := rq1 h1
    exact call_tuple_of pins s σ H _ us Q I r ⟨a, xs, rfl, .inl ⟨.of hx, fun p hp => h _ _ (same_new hp) (.tup (.inl upd_same) (l.mono (same_ho (same_new hp)) fun _ _ p _ => p))⟩⟩
  · obtain ⟨v, rfl, rb⟩ := rq1 h1
    obtain ⟨a, xs, rfl, hx, l⟩ := rb_tup rb
    exact call_tuple_of pins s σ H _ us Q I r ⟨a, xs, rfl, .inr ⟨TpX.kle B.kle hx, h _ _ (Same.refl _) rb⟩⟩
  · exact h.elim
def listD : List D → M D
  | [.lst ds] => .ret (.lst ds)
  | [.tup ds] => .ret (.lst ds)
  | _ => .stuck
theorem tame_list : ∀ ds, Tame (listD ds) := fun ds => by unfold listD; split <;> trivial
theorem c_list {cm : Bool} (B : Bd' cm X A E k) : CallR X (.type "list") (cD A.K listD) := by
  intro pins s σ H vs us Q I r ⟨P, W, ds, h1, h⟩
  unfold listD at h
  split at h
  · obtain ⟨v, rfl, a, xs, rfl, _, hx, l⟩ := rq1 h1
    exact call_list_of pins s σ H _ us Q I r ⟨a, xs, rfl, .inl (.of hx), fun p hp => h _ _ (same_new hp) ⟨p, rfl, hp, _, upd_same, new_ne hp l⟩⟩
  · obtain ⟨v, rfl, rb⟩ := rq1 h1
    obtain ⟨a, xs, rfl, hx, l⟩ := rb_tup rb
    exact call_list_of pins s σ H _ us Q I r ⟨a, xs, rfl, .inr (TpX.kle B.kle hx), fun p hp => h _ _ (same_new hp) ⟨p, rfl, hp, _, upd_same, new_ne hp l⟩⟩
  · exact h.elim
def absD : List D → M D
  | [.int i] => .ret (.int (if i < 0 then -i else i))
  | _ => .stuck
theorem tame_abs : ∀ ds, Tame (absD ds) := fun ds => by unfold absD; split <;> trivial
theorem c_abs : CallR X (.builtin "abs") (cD A.K absD) := by
  intro pins s σ H vs us Q I r ⟨P, W, ds, h1, h⟩
  unfold absD at h
  split at h
  · obtain ⟨v, rfl, rb⟩ := rq1 h1
    cases rb_int rb
    exact call_abs pins s σ H _ us Q I r ⟨_, rfl, h _ _ (Same.refl _) (.int _)⟩
  · exact h.elim
def intD : List D → M D
  | [.int i] => .ret (.int i)
  | [.bl b] => .ret (.int (if b then 1 else 0))
  | _ => .stuck
theorem tame_int : ∀ ds, Tame (intD ds) := fun ds => by unfold intD; split <;> trivial
theorem c_int : CallR X (.type "int") (cD A.K intD) := by
  intro pins s σ H vs us Q I r ⟨P, W, ds, h1, h⟩
  unfold intD at h
  split at h
  · obtain ⟨v, rfl, rb⟩ := rq1 h1
    cases rb_int rb
    exact call_int1 pins s σ H _ us Q I r (.inl ⟨_, rfl, h _ _ (Same.refl _) (.int _)⟩)
  · obtain ⟨v, rfl, rb⟩ := rq1 h1
    cases rb_bl rb
    exact call_int1 pins s σ H _ us Q I r (.inr ⟨_, rfl, h _ _ (Same.refl _) (.int _)⟩)
  · exact h.elim
/-! min, max -/
def alikeD (ds : List D) : Bool := ds.all (fun x => ds.all fun y => PySem.W.alike (toPy x) (toPy y)) && ds.all fun x => match x with
  | .non => false
  | _ => true
def minL (d : D) (ds : List D) : D := ds.foldl (fun a y => if PySem.W.dataLt (toPy y) (toPy a) = true then y else a) d
def maxL (d : D) (ds : List D) : D := ds.foldl (fun a y => if PySem.W.dataLt (toPy a) (toPy y) = true then y else a) d
def minD : List D → M D
  | [.lst (d :: ds)] => if (D.plL (d :: ds) && alikeD (d :: ds) && decide (D.depL (d :: ds) ≤ 60)) = true then keepB (minL d ds) else .stuck
  | [.tup (d :: ds)] => if (D.plL (d :: ds) && alikeD (d :: ds) && decide (D.depL (d :: ds) ≤ 60)) = true then keepB (minL d ds) else .stuck
  | [.int i, .int j] => .ret (.int (if j < i then j else i))
  | _ => .stuck
def maxD : List D → M D
  | [.lst (d :: ds)] => if (D.plL (d :: ds) && alikeD (d :: ds) && decide (D.depL (d :: ds) ≤ 60)) = true then keepB (maxL d ds) else .stuck
  | [.tup (d :: ds)] => if (D.plL (d :: ds) && alikeD (d :: ds) && decide (D.depL (d :: ds) ≤ 60)) = true then keepB (maxL d ds) else .stuck
  | [.int i, .int j] => .ret (.int (if i < j then j else i))
  | _ => .stuck
theorem tame_keepB {d : D} : Tame (keepB d) := by unfold keepB; split <;> trivial
theorem tame_ifk {c : Prop} [Decidable c] {m : M D} (h : Tame m) : Tame (if c then m else .stuck) := by
  split
  · exact h
  · trivial
theorem tame_min : ∀ ds, Tame (minD ds) := fun ds => by unfold minD; split <;> first | trivial | exact tame_ifk tame_keepB
theorem tame_max : ∀ ds, Tame (maxD ds) := fun ds => by unfold maxD; split <;> first | trivial | exact tame_ifk tame_keepB
mutual
theorem toPy_inj : ∀ {d e : D}, d.pl = true → e.pl = true → toPy d = toPy e → d = e
  | .non, e, _, h2, h => by
    cases e with
    | non => rfl
    | dct t _ => exact absurd (show false = true from h2) Bool.false_ne_true
    | raw _ => exact absurd (show false = true from h2) Bool.false_ne_true
    | _ => cases h
  | .bl b, e, _, h2, h => by cases e <;> first | (cases h; rfl) | cases h | cases h2
  | .int i, e, _, h2, h => by cases e <;> first | (cases h; rfl) | cases h | cases h2
  | .str x, e, _, h2, h => by cases e <;> first | (cases h; rfl) | cases h | cases h2
  | .tup ds, e, h1, h2, h => by
    cases e with
    | tup es => rw [toPyL_inj h1 h2 (PyData.tuple.inj h)]
    | dct t _ => cases h2
    | raw _ => cases h2
    | _ => cases h
  | .lst ds, e, h1, h2, h => by
    cases e with
    | lst es => rw [toPyL_inj h1 h2 (PyData.list.inj h)]
    | dct t _ => cases h2
    | raw _ => cases h2
    | _ => cases h
  | .dct _ _, _, h, _, _ => nomatch h
  | .raw _, _, h, _, _ => nomatch h
theorem toPyL_inj : ∀ {ds es : List D}, D.plL ds = true → D.plL es = true → toPyL ds = toPyL es → ds = es
  | [], [], _, _, _ => rfl
  | [], _ :: _, _, _, h => nomatch h
  | _ :: _, [], _, _, h => nomatch h
  | d :: ds, e :: es, h1, h2, h => by
    have h1 : (d.pl && D.plL ds) = true := h1
    have h2 : (e.pl && D.plL es) = true := h2
    rw [Bool.and_eq_true] at h1 h2
    have h : toPy d :: toPyL ds = toPy e :: toPyL es := h
    rw [toPy_inj h1.1 h2.1 (List.cons.inj h).1, toPyL_inj h1.2 h2.2 (List.cons.inj h).2]
end
theorem alikeD_ok {ds : List D} (h : alikeD ds = true) (hp : D.plL ds = true) : PySem.W.AlikeAll (toPyL ds) := by
  unfold alikeD at h
  rw [Bool.and_eq_true] at h
  rw [toPyL_map]
  refine ⟨fun x hx y hy => ?_, fun x hx => ?_⟩
  · obtain ⟨d, hd, rfl⟩ := List.mem_map.mp hx
    obtain ⟨e, he, rfl⟩ := List.mem_map.mp hy
    exact List.all_eq_true.mp (List.all_eq_true.mp h.1 d hd) e he
  · obtain ⟨d, hd, rfl⟩ := List.mem_map.mp hx
    have h1 := List.all_eq_true.mp h.2 d hd
    rw [plL_all] at hp
    have h2 := List.all_eq_true.mp hp d hd
    cases d with
    | non => exact absurd (show false = true from h1) Bool.false_ne_true
    | dct t _ => exact absurd (show false = true from h2) Bool.false_ne_true
    | raw _ => exact absurd (show false = true from h2) Bool.false_ne_true
    | _ => intro z; cases z
theorem foldl_toPy {f : PyData → PyData → Bool} : ∀ (ds : List D) (d : D), (toPyL ds).foldl (fun a y => if f a y = true then y else a) (toPy d) = toPy (ds.foldl (fun a y => if f (toPy a) (toPy y) = true then y else a) d)
  | [], _ => rfl
  | y :: r, d => by
    show (toPyL r).foldl _ (if f (toPy d) (toPy y) = true then toPy y else toPy d) = toPy (r.foldl _ (if f (toPy d) (toPy y) = true then y else d))
    rw [← foldl_toPy r]
    by_cases h : f (toPy d) (toPy y) = true
    · rw [if_pos h, if_pos h]
    · rw [if_neg h, if_neg h]
theorem foldl_mem {f : D → D → Bool} : ∀ (ds : List D) (d : D), ds.foldl (fun a y => if f a y = true then y else a) d ∈ d :: ds
  | [], d => List.mem_cons_self
  | y :: r, d => by
    show r.foldl _ (if f d y = true then y else d) ∈ _
    have := foldl_mem (f := f) r (if f d y = true then y else d)
    rcases List.mem_cons.mp this with h | h
    · rw [h]
      by_cases c : f d y = true
      · rw [if_pos c]; exact List.mem_cons_of_mem _ List.mem_cons_self
      · rw [if_neg c]; exact List.mem_cons_self
    · exact List.mem_cons_of_mem _ (List.mem_cons_of_mem _ h)
theorem RpL.at' {K : PySem.W.Frag} {H : Hp} {P : Addr → Prop} : ∀ {vs : List V} {ds : List D} {i : Nat} {v : V}, RpL K H P vs ds → vs[i]? = some v → ∃ d, d ∈ ds ∧ Rp K H P v d
  | _, _, _, _, .nil, e => by simp at e
  | _, _, 0, _, .cons h _, e => by simp at e; subst e; exact ⟨_, List.mem_cons_self, h⟩
  | _, _, i + 1, v, .cons _ r, e => by
    obtain ⟨d, h1, h2⟩ := r.at' (i := i) (v := v) (by simpa using e)
    exact ⟨d, List.mem_cons_of_mem _ h1, h2⟩
theorem paired_at {α β : Type} {R : α → β → Prop} : ∀ {xs : List α} {ys : List β} {i : Nat} {y : β}, Paired R xs ys → ys[i]? = some y → ∃ x, xs[i]? = some x ∧ R x y
  | _, _, _, _, .nil, e => by simp at e
  | _, _, 0, _, .cons h _, e => by simp at e; subst e; exact ⟨_, rfl, h⟩
  | _, _, i + 1, v, .cons _ r, e => by
    obtain ⟨x, h1, h2⟩ := paired_at r (i := i) (by simpa using e)
    exact ⟨x, by simpa using h1, h2⟩
/-- the item that min or max has picked -/
theorem picked {cm : Bool} (B : Bd' cm X A E k) {pins : List (Addr × Obj)} {σ : L2.St} {H : Hp} {s : Shared} {P : Addr → Prop} {vs : List V} {its : List Value} {ds : List D} {d : D} {v : Value} {h' : Heap} {i : Nat} {as : List Addr}
    (I : Inv X pins σ H s) (l : RpL A.K H P vs ds) (r : Paired RelV vs its) (hp : D.plL ds = true) (hd : d ∈ ds) (hv : its[i]? = some v) (hr : Reads h' v (toPy d) as) (hk : ∀ b o, s.heap.get? b = some o → h'.get? b = some o) :
    ∃ w, RelV w v ∧ Rp A.K H P w d := by
  obtain ⟨w, hw, rw'⟩ := paired_at r hv
  obtain ⟨e, he, re⟩ := l.at' hw
  have hpe : e.pl = true := by rw [plL_all] at hp; exact List.all_eq_true.mp hp e he
  have hpd : d.pl = true := by rw [plL_all] at hp; exact List.all_eq_true.mp hp d hd
  obtain ⟨bs, rd⟩ := Rb.reads B.kle I (re.rb (W := P) fun _ p => p) hpe rw'
  have := (Reads.unique hr _ _ (PySem.W.reads_keeps hk rd)).1
  rw [toPy_inj hpd hpe this]
  exact ⟨w, rw', re⟩
theorem rp_rf {K : PySem.W.Frag} {H0 H : Hp} {P : Addr → Prop} {w : V} {d : D} {Q : D → Prop} {E' : Exn → Prop} (h : (keepB d).wp Q E') (r : Rp K H P w d) : Rf K H0 H P w d ∧ Q d := by
  cases d with
  | lst ds => exact h.elim
  | dct t ds => exact h.elim
  | non => exact ⟨r, h⟩
  | bl b => exact ⟨r, h⟩
  | int b => exact ⟨r, h⟩
  | str b => exact ⟨r, h⟩
  | tup b => exact ⟨r, h⟩
  | raw b => exact ⟨r, h⟩
theorem readsAll_of {cm : Bool} (B : Bd' cm X A E k) {pins : List (Addr × Obj)} {σ : L2.St} {H : Hp} {s : Shared} {P : Addr → Prop} (I : Inv X pins σ H s) : ∀ {vs : List V} {ds : List D} {its : List Value}, RpL A.K H P vs ds → D.plL ds = true → Paired RelV vs its → ∃ as, ReadsAll s.heap its (toPyL ds) as
  | _, _, _, .nil, _, .nil => ⟨[], .nil⟩
  | _, _, _, .cons (d := d) (ds := ds) h r, hp, .cons r1 r2 => by
    have hp : (d.pl && D.plL ds) = true := hp
    rw [Bool.and_eq_true] at hp
    obtain ⟨as, h1⟩ := Rb.reads B.kle I (h.rb (W := P) fun _ p => p) hp.1 r1
    obtain ⟨bs, h2⟩ := readsAll_of B I r hp.2 r2
    exact ⟨_, .cons h1 h2⟩
theorem dep_all (d : D) (ds : List D) : PyData.depthAll (toPy d :: toPyL ds) ≤ D.depL (d :: ds) := toPyL_dep (d :: ds)
theorem c_min (B : Bd X A E k) : CallR X (.builtin "min") (cD A.K minD) := by
  intro pins s σ H vs us Q I r ⟨P, W, ds, h1, h⟩
  have hu := B.u64
  unfold minD at h
  split at h
  · rename_i d ds
    split at h
    · rename_i c
      simp only [Bool.and_eq_true, decide_eq_true_eq] at c
      obtain ⟨v, rfl, a, xs, rfl, _, hx, l⟩ := rq1 h1
      obtain ⟨u, rfl, ru⟩ := vals1 r
      cases ru
      obtain ⟨its, rv, hl, _⟩ := I.list (SqL.of hx)
      obtain ⟨as, ra⟩ := readsAll_of B I l c.1.1 rv
      have hd := dep_all d ds
      refine PySem.W.min_list_data (vs := its.toArray) (I.ok.hd B.calm) hl.isList (x := toPy d) (xs := toPyL ds) ra (alikeD_ok c.1.2 c.1.1) (by have := c.2; omega) fun i v h' tk bs hv hr hk => ?_
      unfold PySem.W.minD at hr
      rw [foldl_toPy (f := fun a y => PySem.W.dataLt y a)] at hr
      obtain ⟨w, r1, r2⟩ := picked B I l rv c.1.1 (foldl_mem (f := fun a y => PySem.W.dataLt (toPy y) (toPy a)) ds d) (by simpa using hv) hr hk
      obtain ⟨r3, q⟩ := rp_rf (H0 := H) h r2
      exact ⟨w, H, I.kept hk, r1, q _ _ (Same.refl _) r3⟩
    · exact h.elim
  · rename_i d ds
    split at h
    · rename_i c
      simp only [Bool.and_eq_true, decide_eq_true_eq] at c
      obtain ⟨v, rfl, rb⟩ := rq1 h1
      obtain ⟨a, xs, rfl, hx, l⟩ := rb_tup rb
      obtain ⟨u, rfl, ru⟩ := vals1 r
      cases ru
      obtain ⟨its, rv, hl, _⟩ := I.tuple (TpX.kle B.kle hx)
      obtain ⟨as, ra⟩ := readsAll_of B I l c.1.1 rv
      have hd := dep_all d ds
      refine PySem.W.min_tuple_data (vs := its.toArray) (I.ok.hd B.calm) hl (x := toPy d) (xs := toPyL ds) ra (alikeD_ok c.1.2 c.1.1) (by have := c.2; omega) fun i v h' tk bs hv hr hk => ?_
      unfold PySem.W.minD at hr
      rw [foldl_toPy (f := fun a y => PySem.W.dataLt y a)] at hr
      obtain ⟨w, r1, r2⟩ := picked B I l rv c.1.1 (foldl_mem (f := fun a y => PySem.W.dataLt (toPy y) (toPy a)) ds d) (by simpa using hv) hr hk
      obtain ⟨r3, q⟩ := rp_rf (H0 := H) h r2
      exact ⟨w, H, I.kept hk, r1, q _ _ (Same.refl _) r3⟩
    · exact h.elim
  · obtain ⟨v, w, rfl, r1, r2⟩ := rq2 h1
    cases rb_int r1
    cases rb_int r2
    exact call_min2 B.calm pins s σ H _ us Q I r ⟨_, _, rfl, h _ _ (Same.refl _) (.int _)⟩
  · exact h.elim
theorem c_max (B : Bd X A E k) : CallR X (.builtin "max") (cD A.K maxD) := by
  intro pins s σ H vs us Q I r ⟨P, W, ds, h1, h⟩
  have hu := B.u64
  unfold maxD at h
  split at h
  · rename_i d ds
    split at h
    · rename_i c
      simp only [Bool.and_eq_true, decide_eq_true_eq] at c
      obtain ⟨v, rfl, a, xs, rfl, _, hx, l⟩ := rq1 h1
      obtain ⟨u, rfl, ru⟩ := vals1 r
      cases ru
      obtain ⟨its, rv, hl, _⟩ := I.list (SqL.of hx)
      obtain ⟨as, ra⟩ := readsAll_of B I l c.1.1 rv
      have hd := dep_all d ds
      refine PySem.W.max_list_data (vs := its.toArray) (I.ok.hd B.calm) hl.isList (x := toPy d) (xs := toPyL ds) ra (alikeD_ok c.1.2 c.1.1) (by have := c.2; omega) fun i v h' tk bs hv hr hk => ?_
      unfold PySem.W.maxD at hr
      rw [foldl_toPy (f := fun a y => PySem.W.dataLt a y)] at hr
      obtain ⟨w, r1, r2⟩ := picked B I l rv c.1.1 (foldl_mem (f := fun a y => PySem.W.dataLt (toPy a) (toPy y)) ds d) (by simpa using hv) hr hk
      obtain ⟨r3, q⟩ := rp_rf (H0 := H) h r2
      exact ⟨w, H, I.kept hk, r1, q _ _ (Same.refl _) r3⟩
    · exact h.elim
  · rename_i d ds
    split at h
    · rename_i c
      simp only [Bool.and_eq_true, decide_eq_true_eq] at c
      obtain ⟨v, rfl, rb⟩ := rq1 h1
      obtain ⟨a, xs, rfl, hx, l⟩ := rb_tup rb
      obtain ⟨u, rfl, ru⟩ := vals1 r
      cases ru
      obtain ⟨its, rv, hl, _⟩ := I.tuple (TpX.kle B.kle hx)
      obtain ⟨as, ra⟩ := readsAll_of B I l c.1.1 rv
      have hd := dep_all d ds
      refine PySem.W.max_tuple_data (vs := its.toArray) (I.ok.hd B.calm) hl (x := toPy d) (xs := toPyL ds) ra (alikeD_ok c.1.2 c.1.1) (by have := c.2; omega) fun i v h' tk bs hv hr hk => ?_
      unfold PySem.W.maxD at hr
      rw [foldl_toPy (f := fun a y => PySem.W.dataLt a y)] at hr
      obtain ⟨w, r1, r2⟩ := picked B I l rv c.1.1 (foldl_mem (f := fun a y => PySem.W.dataLt (toPy a) (toPy y)) ds d) (by simpa using hv) hr hk
      obtain ⟨r3, q⟩ := rp_rf (H0 := H) h r2
      exact ⟨w, H, I.kept hk, r1, q _ _ (Same.refl _) r3⟩
    · exact h.elim
  · obtain ⟨v, w, rfl, r1, r2⟩ := rq2 h1
    cases rb_int r1
    cases rb_int r2
    exact call_max2 B.calm pins s σ H _ us Q I r ⟨_, _, rfl, h _ _ (Same.refl _) (.int _)⟩
  · exact h.elim
/-! isinstance -/
def isaP (T : String) (d : D) : M D :=
  if d.pl = true then (if T = "int" then .ret (.bl (toPy d).isInt) else if T = "bool" then .ret (.bl (toPy d).isBool) else if T = "tuple" then .ret (.bl (toPy d).isTuple) else if T = "str" then .ret (.bl (toPy d).isStr) else if T = "list" then .ret (.bl (toPy d).isList) else if T = "dict" then .ret (.bl (toPy d).isDict) else .stuck) else .stuck
def isaD : List D → M D
  | [d, .raw (.ty T)] => isaP T d
  | _ => .stuck
theorem tame_isaP (T : String) (d : D) : Tame (isaP T d) := by
  unfold isaP
  repeat' split
  all_goals trivial
theorem tame_isa : ∀ ds, Tame (isaD ds) := fun ds => by unfold isaD; split <;> first | trivial | exact tame_isaP _ _
theorem c_isa {cm : Bool} (B : Bd' cm X A E k) : CallR X (.builtin "isinstance") (cD A.K isaD) := by
  intro pins s σ H vs us Q I r ⟨P, W, ds, h1, h⟩
  unfold isaD at h
  split at h
  · rename_i d T
    obtain ⟨v, w, rfl, r1, r2⟩ := rq2 h1
    have ew : w = .ty T := by cases r2; rfl
    subst ew
    obtain ⟨u1, u2, rfl, q1, q2⟩ := vals2 r
    cases (show u2 = Value.type T from q2)
    unfold isaP at h
    split at h
    · rename_i hp
      obtain ⟨as, rd⟩ := r1.reads B.kle I hp q1
      have fin : ∀ b : Bool, (∀ w H', Same H H' → Rf A.K H H' P w (.bl b) → Q w H') → ∀ tk, s.toks ≤ tk → EP X pins σ Q (.bool b) { s with toks := tk } := fun b q tk _ => ⟨.bl b, H, I.tok _, rfl, q _ _ (Same.refl _) (.bl _)⟩
      split at h
      · rename_i e; subst e; exact PySem.W.isinstance_int_data rd (fin _ h)
      split at h
      · rename_i e; subst e; exact PySem.W.isinstance_bool_data rd (fin _ h)
      split at h
      · rename_i e; subst e; exact PySem.W.isinstance_tuple_data rd (fin _ h)
      split at h
      · rename_i e; subst e; exact PySem.W.isinstance_str_data rd (fin _ h)
      split at h
      · rename_i e; subst e; exact PySem.W.isinstance_list_data rd (fin _ h)
      split at h
      · rename_i e; subst e; exact PySem.W.isinstance_dict_data rd (fin _ h)
      · exact h.elim
    · exact h.elim
  · exact h.elim
/-- the name of a built-in class -/
theorem pev_cls {T : String} (hg : Gl X x) (hm : X.mg x = none) (hv : bootBuiltins x = some (.type T)) (hn : x ≠ "__name__" := by decide) (hd : (x == ("__debug__" : Str)) = false := by decide) : PEV X A E .b (.Name x pos) (fun _ => .ret (.raw (.ty T))) :=
  pav_raw (pe_bltn (v := .ty T) hg hm hv rfl hn hd) fun H P => .raw _
end
end Px

set_option Elab.async false
set_option linter.all false
set_option maxRecDepth 100000
set_option autoImplicit false
namespace Px
open PySem PySem.Spec PyProof.Rows L2

/-! ### what is one's own is changed -/
section
variable {K : PySem.W.Frag} {A : Am} {cn : Cn} {f : Nat → Addr} {σ : L2.St} {H H' : Hp} {Γ : Ga} {a b : Addr} {d d' : D} {w : V} {i : Nat} {o : HO}
theorem fz_own (e : Γ[i]? = some (.own d)) : Fz A cn f (Γ.set i (.own d')) a ↔ Fz A cn f Γ a := by
  have hl : i < Γ.length := (List.getElem?_eq_some_iff.mp e).1
  refine ⟨fun h => ⟨h.1, h.2.1, fun j x hj => ?_⟩, fun h => ⟨h.1, h.2.1, fun j x hj => ?_⟩⟩
  · by_cases q : j = i
    · rw [q]; exact h.2.2 i d' (set_at hl)
    · exact h.2.2 j x (by rw [set_ne q]; exact hj)
  · rcases set_get hj with ⟨q, _, _⟩ | ⟨_, hj⟩
    · rw [q]; exact h.2.2 i d e
    · exact h.2.2 j x hj
theorem Fz.ne (h : Fz A cn f Γ b) (e : Γ[i]? = some (.own d)) : b ≠ f i := fun z => h.2.2 i d e z.symm
/-- nothing that is safe changes when an object of one's own does -/
theorem Rl.ho_put (R : Rl K A cn f σ H Γ) (e : Γ[i]? = some (.own d)) : Ho (Fz A cn f Γ) H (upd H (f i) o) := by
  obtain ⟨_, _, _, h4⟩ := R.ow i d e
  obtain ⟨u, hu, mu⟩ := h4.mut
  refine ⟨fun b u p r => ?_, fun b xs r => ?_⟩
  · rw [upd_ne (p.ne e)]; exact r
  · have ne : b ≠ f i := fun z => by rw [z] at r; exact mut_not_frz hu mu r
    rw [upd_ne ne]; exact r
theorem Rl.put (R : Rl K A cn f σ H Γ) (e : Γ[i]? = some (.own d)) (m : Mut (some o)) (ow : Ow K (upd H (f i) o) (Fz A cn f Γ) (f i) d') :
    Rl K A cn f σ (upd H (f i) o) (Γ.set i (.own d')) ∧ Hs A cn f Γ H f (Γ.set i (.own d')) (upd H (f i) o) := by
  obtain ⟨h1, h2, h3, h4⟩ := R.ow i d e
  have hl : i < Γ.length := (List.getElem?_eq_some_iff.mp e).1
  have ho : Ho (Fz A cn f Γ) H (upd H (f i) o) := R.ho_put e
  have pp : ∀ b, Fz A cn f Γ b → Fz A cn f (Γ.set i (.own d')) b := fun b p => (fz_own e).mpr p
  refine ⟨⟨by rw [List.length_set]; exact R.len, A.gh.gk H _ R.g (fun b z => upd_ne fun q => (R.own_nz e).1 (q ▸ z)) (let ⟨_, hu', _, n'⟩ := h4.mutx; ext_upd hu' n'), fun b u z q => ?_, fun b ob hb => ?_, fun b hb => ?_, fun j x hj => ?_, fun j x hj => ?_, fun j l x y hj hk q => ?_⟩, fun b p u q => ⟨pp b p, by rw [upd_ne (p.ne e)]; exact q⟩⟩
  · have ne : b ≠ f i := fun y => by rw [y, h2] at q; cases q
    rcases R.keep b u z q with r | ⟨ob, hk, r⟩
    · exact .inl (by rw [upd_ne ne]; exact r)
    · exact .inr ⟨ob, hk, by rw [upd_ne ne]; exact r⟩
  · obtain ⟨p, u, q⟩ := R.lkf b ob hb
    exact ⟨pp b p, u, by rw [upd_ne (p.ne e)]; exact q⟩
  · obtain ⟨z, u, q, mu⟩ := R.hdm b hb
    exact ⟨z, u, by
      have ne : b ≠ f i := fun y => by rw [y] at hb; exact h3 hb
      rw [upd_ne ne]; exact q, mu⟩
  · rcases set_get hj with ⟨_, q, _⟩ | ⟨_, hj⟩
    · cases q
    · obtain ⟨w, q1, q2⟩ := R.sl j x hj
      exact ⟨w, q1, q2.mono ho fun b _ p _ => pp b p⟩
  · rcases set_get hj with ⟨q1, q2, _⟩ | ⟨ne, hj⟩
    · cases q2
      subst q1
      exact ⟨h1, h2, h3, ow.mono .refl (fun b _ p _ => pp b p) fun _ z => z⟩
    · obtain ⟨q1, q2, q3, q4⟩ := R.ow j x hj
      refine ⟨q1, q2, q3, q4.mono ho (fun b _ p _ => pp b p) fun u z => ?_⟩
      rw [upd_ne fun y => ne (R.inj j i x d hj e y)]
      exact z
  · have back : ∀ {j : Nat} {x : D}, (Γ.set i (.own d'))[j]? = some (.own x) → ∃ y, Γ[j]? = some (.own y) := fun {j x} hj => by
      rcases set_get hj with ⟨q1, _, _⟩ | ⟨_, hj⟩
      · rw [q1]; exact ⟨_, e⟩
      · exact ⟨_, hj⟩
    obtain ⟨x', hj⟩ := back hj
    obtain ⟨y', hk⟩ := back hk
    exact R.inj j l x' y' hj hk q
theorem Rl.putL (R : Rl K A cn f σ H Γ) (e : Γ[i]? = some (.own d)) {xs : List V} {ds : List D} (r : RpL K H (Fz A cn f Γ) xs ds) :
    Rl K A cn f σ (upd H (f i) (.lst xs)) (Γ.set i (.own (.lst ds))) ∧ Hs A cn f Γ H f (Γ.set i (.own (.lst ds))) (upd H (f i) (.lst xs)) :=
  R.put e trivial ⟨xs, upd_same, r.mono (R.ho_put e) fun _ _ p _ => p⟩
end
section
variable {X : Cx} {A : Am} {E : EN} {k : Nat} {md md1 md2 : Md} {e a b c : Expr} {es : List Expr} {m ma mb mc : Ga → M D} {ml : Ga → M (List D)} {pos p p1 p2 p3 apos : Pos} {x y : Str} {i j : Nat}
def ownL (i : Nat) (Γ : Ga) (f : List D → M (Ct × Ga)) : M (Ct × Ga) := match Γ[i]? with
  | some (.own (.lst ds)) => f ds
  | _ => .stuck
theorem wp_ownL {Γ : Ga} {f : List D → M (Ct × Ga)} {Q : Ct × Ga → Prop} {E' : Exn → Prop} (h : (ownL i Γ f).wp Q E') : ∃ ds, Γ[i]? = some (.own (.lst ds)) ∧ (f ds).wp Q E' := by
  unfold ownL at h
  split at h
  · rename_i ds e; exact ⟨ds, e, h⟩
  · exact h.elim
/-- a method of lists: what it gives, what the list is then -/
def MthOk (K : PySem.W.Frag) (md : Md) (r : V → List V → Hp → VK → Prop) (g : List D → List D → Option (D × List D)) : Prop := ∀ (l : Addr) (xs : List V) (ds : List D) (vs : List V) (es : List D) (H : Hp) (Q : VK) (P W : Addr → Prop) (d : D) (ds' : List D),
  H l = some (.lst xs) → RpL K H P xs ds → RqL md K H P W vs es → g ds es = some (d, ds') → (∀ w xs', Rp K H P w d → RpL K H P xs' ds' → Q w (upd H l (.lst xs'))) → r (.ref l) vs H Q
def appG : List D → List D → Option (D × List D) := fun ds es => match es with
  | [d] => if ds.length < 16777216 then some (.non, ds ++ [d]) else none
  | _ => none
def extG : List D → List D → Option (D × List D) := fun ds es => match es with
  | [.lst es] => if ds.length + es.length ≤ 16777216 then some (.non, ds ++ es) else none
  | _ => none
def pop0G : List D → List D → Option (D × List D) := fun ds es => match es with
  | [] => match ds[ds.length - 1]? with
    | some d => some (d, ds.dropLast)
    | none => none
  | _ => none
def popG : List D → List D → Option (D × List D) := fun ds es => match es with
  | [.int i] => match seqIndex? i ds.length with
    | some k => match ds[k]? with
      | some d => if -(2 ^ 62) ≤ i ∧ i < 2 ^ 62 then some (d, ds.eraseIdx k) else none
      | none => none
    | none => none
  | _ => none
theorem mth_append {K : PySem.W.Frag} : MthOk K .s rAppend appG := fun l xs ds vs es H Q P W d ds' hx r rv e q => by
  unfold appG at e
  split at e
  · split at e
    · rename_i d hl
      cases e
      cases rv with
      | cons h1 h2 =>
        cases h2
        exact ⟨l, xs, _, rfl, rfl, hx, by rw [r.length, sizeLine_eq]; exact hl, q _ _ .non (r.append (.cons h1 .nil))⟩
    · cases e
  · cases e
theorem mth_extend {K : PySem.W.Frag} : MthOk K .b rExtend extG := fun l xs ds vs es H Q P W d ds' hx r rv e q => by
  unfold extG at e
  split at e
  · split at e
    · rename_i es hl
      cases e
      obtain ⟨v, rfl, a, ys, rfl, _, hy, r2⟩ := rq1 rv
      exact ⟨l, a, xs, ys, rfl, rfl, hx, hy, by rw [r.length, r2.length, sizeLine_eq]; exact hl, q _ _ .non (r.append r2)⟩
    · cases e
  · cases e
theorem mth_popAt {K : PySem.W.Frag} : MthOk K .b rPopAt popG := fun l xs ds vs es H Q P W d ds' hx r rv e q => by
  unfold popG at e
  split at e
  · rename_i i
    obtain ⟨v, rfl, rb⟩ := rq1 rv
    cases rb_int rb
    split at e
    · rename_i k hk
      split at e
      · rename_i y hy
        split at e
        · rename_i hl
          cases e
          obtain ⟨w, h1, h2⟩ := r.get hy
          exact ⟨l, xs, i, k, w, rfl, rfl, hx, by omega, by omega, by rw [r.length]; exact hk, h1, q _ _ h2 (r.erase k)⟩
        · cases e
      · cases e
    · cases e
  · cases e
theorem mth_pop {K : PySem.W.Frag} : MthOk K .b rPop pop0G := fun l xs ds vs es H Q P W d ds' hx r rv e q => by
  unfold pop0G at e
  split at e
  · cases rv
    split at e
    · rename_i y hy
      cases e
      obtain ⟨w, h1, h2⟩ := r.get hy
      exact ⟨l, xs, w, rfl, rfl, hx, by rw [r.length]; exact h1, q _ _ h2 r.dropLast⟩
    · cases e
  · cases e
def mthM (i : Nat) (ml : Ga → M (List D)) (g : List D → List D → Option (D × List D)) (kk : D → Ga → M (Ct × Ga)) : Ga → M (Ct × Ga) := fun Γ => ownL i Γ fun ds => ml Γ >>= fun es => match g ds es with
  | some (d, ds') => kk d (Γ.set i (.own (.lst ds')))
  | none => .stuck
theorem mth_run {r : V → List V → Hp → VK → Prop} {g : List D → List D → Option (D × List D)} {kk : D → Ga → M (Ct × Ga)} (hr : MthOk A.K md r g) {Dn : Ends} {md' : Md} {σ : L2.St} {H : Hp} {Q : VK} {cn : Cn} {f : Nat → Addr} {Γ : Ga} (R : Rl A.K A cn f σ H Γ) (h : (mthM i ml g kk Γ).wp (sP A.K A cn md' f Γ H Dn) (xP A E cn))
    (hQ : ∀ d ds' w xs' H1, Kx A.gh.Z H H1 → Rl A.K A cn f σ (upd H1 (f i) (.lst xs')) (Γ.set i (.own (.lst ds'))) → Rp A.K (upd H1 (f i) (.lst xs')) (Fz A cn f (Γ.set i (.own (.lst ds')))) w d →
      (kk d (Γ.set i (.own (.lst ds')))).wp (sP A.K A cn md' f (Γ.set i (.own (.lst ds'))) (upd H1 (f i) (.lst xs')) Dn) (xP A E cn) → Q w (upd H1 (f i) (.lst xs'))) {K' : PySem.W.Frag} :
    tBM K' "list" r (tVar i) (tA A.K A E md ml) σ H Q := by
  obtain ⟨ds, e, h⟩ := wp_ownL h
  obtain ⟨h1, _, _, xs0, hx0, _⟩ := R.ow i _ e
  refine ⟨_, h1, .inl ⟨rfl, xs0, SqL.of hx0⟩, cn, f, Γ, R, M.wp_mono (M.wp_bind.mp h) (fun es q ws H1 k1 g1 r1 => ?_) fun _ x => x⟩
  have R1 := R.kx k1 g1
  obtain ⟨_, _, _, xs, hx, rx⟩ := R1.ow i _ e
  split at q
  · rename_i d ds' eg
    refine hr (f i) xs ds ws es H1 Q _ _ d ds' hx rx r1 eg fun w xs' rw' rx' => ?_
    obtain ⟨R2, s2⟩ := R1.putL e rx'
    exact hQ d ds' w xs' H1 k1 R2 (rw'.mono (R1.ho_put e) fun b _ p _ => (fz_own e).mpr p) (M.wp_mono q (fun r q => q.pre ((Hs.kx k1).trans s2)) fun _ x => x)
  · exact q.elim
theorem mth_run0 {r : V → List V → Hp → VK → Prop} {g : List D → List D → Option (D × List D)} {kk : D → Ga → M (Ct × Ga)} (hr : MthOk A.K .b r g) {Dn : Ends} {md' : Md} {σ : L2.St} {H : Hp} {Q : VK} {cn : Cn} {f : Nat → Addr} {Γ : Ga} (R : Rl A.K A cn f σ H Γ) (h : (mthM i nilL g kk Γ).wp (sP A.K A cn md' f Γ H Dn) (xP A E cn))
    (hQ : ∀ d ds' w xs' H1, Kx A.gh.Z H H1 → Rl A.K A cn f σ (upd H1 (f i) (.lst xs')) (Γ.set i (.own (.lst ds'))) → Rp A.K (upd H1 (f i) (.lst xs')) (Fz A cn f (Γ.set i (.own (.lst ds')))) w d →
      (kk d (Γ.set i (.own (.lst ds')))).wp (sP A.K A cn md' f (Γ.set i (.own (.lst ds'))) (upd H1 (f i) (.lst xs')) Dn) (xP A E cn) → Q w (upd H1 (f i) (.lst xs'))) {K' : PySem.W.Frag} :
    tBM0 K' "list" r (tVar i) σ H Q := by
  obtain ⟨ds, e, h⟩ := wp_ownL h
  obtain ⟨h1, _, _, xs, hx, rx⟩ := R.ow i _ e
  refine ⟨_, h1, .inl ⟨rfl, xs, SqL.of hx⟩, ?_⟩
  have q : (match g ds [] with
    | some (d, ds') => kk d (Γ.set i (.own (.lst ds')))
    | none => M.stuck).wp _ _ := h
  split at q
  · rename_i d ds' eg
    refine hr (f i) xs ds [] [] H Q (Fz A cn f Γ) (nZ A) d ds' hx rx .nil eg fun w xs' rw' rx' => ?_
    obtain ⟨R2, s2⟩ := R.putL e rx'
    exact hQ d ds' w xs' H .refl R2 (rw'.mono (R.ho_put e) fun b _ p _ => (fz_own e).mpr p) (M.wp_mono q (fun r q => q.pre s2) fun _ x => x)
  · exact q.elim
/-- its value is let go -/
def dropK' : D → Ga → M (Ct × Ga) := fun _ Γ => .ret (.nx, Γ)
/-- its value is assigned -/
def bndK (bnd : D → Ga → M Ga) : D → Ga → M (Ct × Ga) := fun d Γ => bnd d Γ >>= fun Γ' => .ret (.nx, Γ')
section
variable {name : Str} {id : String} {r : V → List V → Hp → VK → Prop} {g : List D → List D → Option (D × List D)}
theorem psv_mexp (hr : MthOk A.K md1 r g) (slot : Slot "list" name id) (hty : typeOf (.builtin id) = pure (.type "method_descriptor")) (hm : MtR X id r) (he : PAVL X A E md1 (e :: es) ml) (hN : X.N[i]? = some x := by rfl) (hv : Vis X.env.scope x := by first | exact Or.inl rfl | exact Or.inr (Or.inl rfl) | exact Or.inr (Or.inr rfl)) (hd : (x == ("__debug__" : Str)) = false := by decide) (hcd : (x == ("__classdict__" : Str)) = false := by decide)
    (hbase : attributeBase (.Name x p) name X.env (eval (.Name x p) X.env) = eval (.Name x p) X.env := by rfl)
    (hfew : ((backTo p1 (starEach (e :: es) X.env)).all (fun x => !x.1) && (backToKw p1 (keywordEach [] X.env)).all (fun x => x.1.isSome) && decide ((e :: es).length + ([] : List Keyword).length + (if ([] : List Keyword).isEmpty then 0 else 1) < 30)) = true := by rfl)
    (hline : (apos.endLine == p1.line) = true := by rfl) (hs : starEach (e :: es) X.env = (false, eval e X.env) :: starEach es X.env := by rfl) (hplain : (backTo p1 (starEach es X.env)).any (·.1) = false := by rfl)
    (hsw : swapsWith (.Call (.Attribute (.Name x p) name apos) (e :: es) [] p1) none pos.line X.env = pure false := by rfl) :
    PSV X A E md (.Expr (.Call (.Attribute (.Name x p) name apos) (e :: es) [] p1) pos) (mthM i ml g dropK') :=
  ⟨imp_ps (ps_expr (pe_bm PySem.F.plainAttrs_list slot hty hm (pe_var hN hv hd hcd) he.pa hbase hfew hline hs hplain) hsw) fun Dn σ H ⟨cn, f, Γ, R, h⟩ =>
    mth_run hr R h fun d ds' w xs' H1 k1 R2 rw' q => q f σ _ .refl R2⟩
theorem psv_mexp0 (hr : MthOk A.K .b r g) (slot : Slot "list" name id) (hty : typeOf (.builtin id) = pure (.type "method_descriptor")) (hm : MtR X id r) (hN : X.N[i]? = some x := by rfl) (hv : Vis X.env.scope x := by first | exact Or.inl rfl | exact Or.inr (Or.inl rfl) | exact Or.inr (Or.inr rfl)) (hd : (x == ("__debug__" : Str)) = false := by decide) (hcd : (x == ("__classdict__" : Str)) = false := by decide)
    (hbase : attributeBase (.Name x p) name X.env (eval (.Name x p) X.env) = eval (.Name x p) X.env := by rfl)
    (hline : (apos.endLine == p1.line) = true := by rfl)
    (hsw : swapsWith (.Call (.Attribute (.Name x p) name apos) [] [] p1) none pos.line X.env = pure false := by rfl) :
    PSV X A E md (.Expr (.Call (.Attribute (.Name x p) name apos) [] [] p1) pos) (mthM i nilL g dropK') :=
  ⟨imp_ps (ps_expr (pe_bm0 PySem.F.plainAttrs_list slot hty hm (pe_var hN hv hd hcd) hbase hline) hsw) fun Dn σ H ⟨cn, f, Γ, R, h⟩ =>
    mth_run0 hr R h fun d ds' w xs' H1 k1 R2 rw' q => q f σ _ .refl R2⟩
theorem psv_masg {tg : Expr} {ts : List Nat} {bnd : D → Ga → M Ga} (hg : PGV X A tg ts bnd) (ht : TameG bnd) (hr : MthOk A.K md1 r g) (slot : Slot "list" name id) (hty : typeOf (.builtin id) = pure (.type "method_descriptor")) (hm : MtR X id r) (he : PAVL X A E md1 (e :: es) ml) (hN : X.N[i]? = some x := by rfl) (hv : Vis X.env.scope x := by first | exact Or.inl rfl | exact Or.inr (Or.inl rfl) | exact Or.inr (Or.inr rfl)) (hd : (x == ("__debug__" : Str)) = false := by decide) (hcd : (x == ("__classdict__" : Str)) = false := by decide)
    (hbase : attributeBase (.Name x p) name X.env (eval (.Name x p) X.env) = eval (.Name x p) X.env := by rfl)
    (hfew : ((backTo p1 (starEach (e :: es) X.env)).all (fun x => !x.1) && (backToKw p1 (keywordEach [] X.env)).all (fun x => x.1.isSome) && decide ((e :: es).length + ([] : List Keyword).length + (if ([] : List Keyword).isEmpty then 0 else 1) < 30)) = true := by rfl)
    (hline : (apos.endLine == p1.line) = true := by rfl) (hs : starEach (e :: es) X.env = (false, eval e X.env) :: starEach es X.env := by rfl) (hplain : (backTo p1 (starEach es X.env)).any (·.1) = false := by rfl)
    (hsw : swapsWithSole [tg] (.Call (.Attribute (.Name x p) name apos) (e :: es) [] p1) pos.line X.env = pure false := by rfl) (hw : swappedStores [tg] (.Call (.Attribute (.Name x p) name apos) (e :: es) [] p1) X.env = pure none := by rfl)
    (h1 : (assignEach [tg] X.env).map (·.2) = [assign tg X.env] := by rfl) :
    PSV X A E md (.Assign [tg] (.Call (.Attribute (.Name x p) name apos) (e :: es) [] p1) pos) (mthM i ml g (bndK bnd)) :=
  ⟨imp_ps (ps_asg (pe_bm PySem.F.plainAttrs_list slot hty hm (pe_var hN hv hd hcd) he.pa hbase hfew hline hs hplain) hg.pg hsw hw h1) fun Dn σ H ⟨cn, f, Γ, R, h⟩ =>
    mth_run hr R h fun d ds' w xs' H1 k1 R2 rw' q => ⟨cn, f, _, d, R2, rw', M.wp_mono (ht _ _ _ _ (M.wp_bind.mp q)) (fun Γ' q σ' s' R' _ => q f σ' _ s' R') fun _ z => z⟩⟩
theorem psv_masg0 {tg : Expr} {ts : List Nat} {bnd : D → Ga → M Ga} (hg : PGV X A tg ts bnd) (ht : TameG bnd) (hr : MthOk A.K .b r g) (slot : Slot "list" name id) (hty : typeOf (.builtin id) = pure (.type "method_descriptor")) (hm : MtR X id r) (hN : X.N[i]? = some x := by rfl) (hv : Vis X.env.scope x := by first | exact Or.inl rfl | exact Or.inr (Or.inl rfl) | exact Or.inr (Or.inr rfl)) (hd : (x == ("__debug__" : Str)) = false := by decide) (hcd : (x == ("__classdict__" : Str)) = false := by decide)
    (hbase : attributeBase (.Name x p) name X.env (eval (.Name x p) X.env) = eval (.Name x p) X.env := by rfl)
    (hline : (apos.endLine == p1.line) = true := by rfl)
    (hsw : swapsWithSole [tg] (.Call (.Attribute (.Name x p) name apos) [] [] p1) pos.line X.env = pure false := by rfl) (hw : swappedStores [tg] (.Call (.Attribute (.Name x p) name apos) [] [] p1) X.env = pure none := by rfl)
    (h1 : (assignEach [tg] X.env).map (·.2) = [assign tg X.env] := by rfl) :
    PSV X A E md (.Assign [tg] (.Call (.Attribute (.Name x p) name apos) [] [] p1) pos) (mthM i nilL g (bndK bnd)) :=
  ⟨imp_ps (ps_asg (pe_bm0 PySem.F.plainAttrs_list slot hty hm (pe_var hN hv hd hcd) hbase hline) hg.pg hsw hw h1) fun Dn σ H ⟨cn, f, Γ, R, h⟩ =>
    mth_run0 hr R h fun d ds' w xs' H1 k1 R2 rw' q => ⟨cn, f, _, d, R2, rw', M.wp_mono (ht _ _ _ _ (M.wp_bind.mp q)) (fun Γ' q σ' s' R' _ => q f σ' _ s' R') fun _ z => z⟩⟩
end
end
end Px

set_option Elab.async false
set_option linter.all false
set_option maxRecDepth 100000
set_option autoImplicit false
namespace Px
open PySem PySem.Spec PyProof.Rows L2

/-! ### keys -/
def keyD : D → Option Key
  | .int i => some (.inl i)
  | .str x => some (.inr x)
  | _ => none
def keysD : List D → Option (List Key)
  | [] => some []
  | d :: r => match keyD d, keysD r with
    | some k, some ks => some (k :: ks)
    | _, _ => none
def ktuD : D → Option (List Key)
  | .tup ds => keysD ds
  | _ => none
theorem keyD_k (k : Key) : keyD (kD k) = some k := by cases k <;> rfl
theorem keyD_eq {d : D} {k : Key} (h : keyD d = some k) : d = kD k := by
  cases d <;> first | (cases h; rfl) | cases h
theorem keysD_k : ∀ ks : List Key, keysD (ks.map kD) = some ks
  | [] => rfl
  | k :: r => by
    show (match keyD (kD k), keysD (r.map kD) with | some k, some ks => some (k :: ks) | _, _ => none) = _
    rw [keyD_k, keysD_k r]
theorem keysD_eq : ∀ {ds : List D} {ks : List Key}, keysD ds = some ks → ds = ks.map kD
  | [], ks, h => by cases h; rfl
  | d :: r, ks, h => by
    have h : (match keyD d, keysD r with | some k, some ks => some (k :: ks) | _, _ => none) = some ks := h
    cases e1 : keyD d with
    | none => rw [e1] at h; cases h
    | some k =>
      cases e2 : keysD r with
      | none => rw [e1, e2] at h; cases h
      | some ks' =>
        rw [e1, e2] at h
        cases h
        rw [keyD_eq e1, keysD_eq e2]; rfl
theorem ktuD_k (ks : List Key) : ktuD (ktD ks) = some ks := keysD_k ks
theorem ktuD_eq {d : D} {ks : List Key} (h : ktuD d = some ks) : d = ktD ks := by
  cases d with
  | tup ds => rw [keysD_eq (show keysD ds = some ks from h)]; rfl
  | _ => cases h
/-- two keys of a dict of the kind t -/
def sameK (t : Bool) (a b : D) : Bool := match t with
  | false => decide (keyD a = keyD b)
  | true => decide (ktuD a = ktuD b)
def isKeyD (t : Bool) (d : D) : Bool := match t with
  | false => (keyD d).isSome
  | true => (ktuD d).isSome
def dval (t : Bool) (kvs : List (D × D)) (k : D) : Option D := (kvs.find? fun p => sameK t p.1 k).map (·.2)
def dput (t : Bool) (kvs : List (D × D)) (k v : D) : List (D × D) :=
  if (kvs.any fun p => sameK t p.1 k) = true then kvs.map (fun p => if sameK t p.1 k = true then (p.1, v) else p) else kvs ++ [(k, v)]
inductive RpO (K : PySem.W.Frag) (H : Hp) (P : Addr → Prop) : Option V → Option D → Prop
  | none : RpO K H P none none
  | some {v : V} {d : D} : Rp K H P v d → RpO K H P (some v) (some d)
section
variable {K : PySem.W.Frag} {H : Hp} {P : Addr → Prop}
theorem RpO.isSome {o : Option V} {d : Option D} (h : RpO K H P o d) : o.isSome = d.isSome := by cases h <;> rfl
theorem RpK.val {k : Key} {d : D} (hk : keyD d = some k) : ∀ {l : List (Key × V)} {kvs : List (D × D)}, RpK K H P l kvs → RpO K H P (valV l k) (dval false kvs d)
  | _, _, .nil => .none
  | _, _, .cons (k := k') (v := v) (l := l) (d := d') (kvs := kvs) h r => by
    have hs : sameK false (kD k') d = decide (k' = k) := by
      unfold sameK
      rw [keyD_k, hk]
      simp
    by_cases e : k' = k
    · rw [valV_pos (p := (k', v)) e]
      have : dval false ((kD k', d') :: kvs) d = some d' := by unfold dval; rw [List.find?_cons, show sameK false (kD k', d').1 d = true by rw [show (kD k', d').1 = kD k' from rfl, hs]; simp [e]]; rfl
      rw [this]
      exact .some h
    · rw [valV_neg (p := (k', v)) e]
      have : dval false ((kD k', d') :: kvs) d = dval false kvs d := by unfold dval; rw [List.find?_cons, show sameK false (kD k', d').1 d = false by rw [show (kD k', d').1 = kD k' from rfl, hs]; simp [e]]
      rw [this]
      exact r.val hk
theorem RpT.val {k : List Key} {d : D} (hk : ktuD d = some k) : ∀ {l : List (List Key × V)} {kvs : List (D × D)}, RpT K H P l kvs → RpO K H P (valV l k) (dval true kvs d)
  | _, _, .nil => .none
  | _, _, .cons (k := k') (v := v) (l := l) (d := d') (kvs := kvs) h r => by
    have hs : sameK true (ktD k') d = decide (k' = k) := by
      unfold sameK
      rw [ktuD_k, hk]
      simp
    by_cases e : k' = k
    · rw [valV_pos (p := (k', v)) e]
      have : dval true ((ktD k', d') :: kvs) d = some d' := by unfold dval; rw [List.find?_cons, show sameK true (ktD k', d').1 d = true by rw [show (ktD k', d').1 = ktD k' from rfl, hs]; simp [e]]; rfl
      rw [this]
      exact .some h
    · rw [valV_neg (p := (k', v)) e]
      have : dval true ((ktD k', d') :: kvs) d = dval true kvs d := by unfold dval; rw [List.find?_cons, show sameK true (ktD k', d').1 d = false by rw [show (ktD k', d').1 = ktD k' from rfl, hs]; simp [e]]
      rw [this]
      exact r.val hk
theorem RpK.any {k : Key} {d : D} (hk : keyD d = some k) : ∀ {l : List (Key × V)} {kvs : List (D × D)}, RpK K H P l kvs → (l.any fun p => decide (p.1 = k)) = kvs.any fun p => sameK false p.1 d
  | _, _, .nil => rfl
  | _, _, .cons (k := k') h r => by
    have hs : sameK false (kD k') d = decide (k' = k) := by unfold sameK; rw [keyD_k, hk]; simp
    rw [List.any_cons, List.any_cons, r.any hk, hs]
theorem RpT.any {k : List Key} {d : D} (hk : ktuD d = some k) : ∀ {l : List (List Key × V)} {kvs : List (D × D)}, RpT K H P l kvs → (l.any fun p => decide (p.1 = k)) = kvs.any fun p => sameK true p.1 d
  | _, _, .nil => rfl
  | _, _, .cons (k := k') h r => by
    have hs : sameK true (ktD k') d = decide (k' = k) := by unfold sameK; rw [ktuD_k, hk]; simp
    rw [List.any_cons, List.any_cons, r.any hk, hs]
theorem RpK.repl {k : Key} {d e : D} {v : V} (hk : keyD d = some k) (hv : Rp K H P v e) : ∀ {l : List (Key × V)} {kvs : List (D × D)}, RpK K H P l kvs → RpK K H P (l.map fun p => if p.1 = k then (p.1, v) else p) (kvs.map fun p => if sameK false p.1 d = true then (p.1, e) else p)
  | _, _, .nil => .nil
  | _, _, .cons (k := k') (v := v') (d := d') h r => by
    have hs : sameK false (kD k') d = decide (k' = k) := by unfold sameK; rw [keyD_k, hk]; simp
    rw [List.map_cons, List.map_cons]
    by_cases q : k' = k
    · rw [if_pos (show (k', v').1 = k from q), if_pos (show sameK false (kD k', d').1 d = true by rw [show (kD k', d').1 = kD k' from rfl, hs]; simp [q])]
      exact .cons hv (r.repl hk hv)
    · rw [if_neg (show ¬ (k', v').1 = k from q), if_neg (show ¬ sameK false (kD k', d').1 d = true by rw [show (kD k', d').1 = kD k' from rfl, hs]; simp [q])]
      exact .cons h (r.repl hk hv)
theorem RpT.repl {k : List Key} {d e : D} {v : V} (hk : ktuD d = some k) (hv : Rp K H P v e) : ∀ {l : List (List Key × V)} {kvs : List (D × D)}, RpT K H P l kvs → RpT K H P (l.map fun p => if p.1 = k then (p.1, v) else p) (kvs.map fun p => if sameK true p.1 d = true then (p.1, e) else p)
  | _, _, .nil => .nil
  | _, _, .cons (k := k') (v := v') (d := d') h r => by
    have hs : sameK true (ktD k') d = decide (k' = k) := by unfold sameK; rw [ktuD_k, hk]; simp
    rw [List.map_cons, List.map_cons]
    by_cases q : k' = k
    · rw [if_pos (show (k', v').1 = k from q), if_pos (show sameK true (ktD k', d').1 d = true by rw [show (ktD k', d').1 = ktD k' from rfl, hs]; simp [q])]
      exact .cons hv (r.repl hk hv)
    · rw [if_neg (show ¬ (k', v').1 = k from q), if_neg (show ¬ sameK true (ktD k', d').1 d = true by rw [show (ktD k', d').1 = ktD k' from rfl, hs]; simp [q])]
      exact .cons h (r.repl hk hv)
theorem RpK.snoc {k : Key} {v : V} {e : D} (hv : Rp K H P v e) : ∀ {l : List (Key × V)} {kvs : List (D × D)}, RpK K H P l kvs → RpK K H P (l ++ [(k, v)]) (kvs ++ [(kD k, e)])
  | _, _, .nil => .cons hv .nil
  | _, _, .cons h r => .cons h (r.snoc hv)
theorem RpT.snoc {k : List Key} {v : V} {e : D} (hv : Rp K H P v e) : ∀ {l : List (List Key × V)} {kvs : List (D × D)}, RpT K H P l kvs → RpT K H P (l ++ [(k, v)]) (kvs ++ [(ktD k, e)])
  | _, _, .nil => .cons hv .nil
  | _, _, .cons h r => .cons h (r.snoc hv)
theorem RpK.put {k : Key} {d e : D} {v : V} {l : List (Key × V)} {kvs : List (D × D)} (r : RpK K H P l kvs) (hk : keyD d = some k) (hv : Rp K H P v e) : RpK K H P (putK l k v) (dput false kvs d e) := by
  unfold putK dput
  rw [r.any hk]
  by_cases q : (kvs.any fun p => sameK false p.1 d) = true
  · rw [if_pos q, if_pos q]; exact r.repl hk hv
  · rw [if_neg q, if_neg q, keyD_eq hk]; exact r.snoc hv
theorem RpT.put {k : List Key} {d e : D} {v : V} {l : List (List Key × V)} {kvs : List (D × D)} (r : RpT K H P l kvs) (hk : ktuD d = some k) (hv : Rp K H P v e) : RpT K H P (putK l k v) (dput true kvs d e) := by
  unfold putK dput
  rw [r.any hk]
  by_cases q : (kvs.any fun p => sameK true p.1 d) = true
  · rw [if_pos q, if_pos q]; exact r.repl hk hv
  · rw [if_neg q, if_neg q, ktuD_eq hk]; exact r.snoc hv
theorem rb_key {W : Addr → Prop} {w : V} {d : D} {k : Key} (h : Rb K H P W w d) (hk : keyD d = some k) : w = kV k := by
  cases d with
  | int i => cases hk; exact rb_int h
  | str i => cases hk; exact rb_str h
  | _ => cases hk
theorem rpl_keys : ∀ {ks : List Key} {vs : List V}, RpL K H P vs (ks.map kD) → vs = ks.map kV
  | [], _, .nil => rfl
  | k :: _, _, .cons h r => by
    rw [rpl_keys r, rb_key (W := P) (h.rb fun _ p => p) (keyD_k k)]; rfl
theorem rb_ktu {W : Addr → Prop} {w : V} {d : D} {ks : List Key} (h : Rb K H P W w d) (hk : ktuD d = some ks) : ∃ b, w = .ref b ∧ TpX K H b (ks.map kV) := by
  cases d with
  | tup ds =>
    obtain ⟨b, xs, e, hx, l⟩ := rb_tup h
    rw [keysD_eq (show keysD ds = some ks from hk)] at l
    rw [rpl_keys l] at hx
    exact ⟨b, e, hx⟩
  | _ => cases hk
end

/-! ### a dict is read -/
/-- what the dict at a holds at the key y; the key may be a constant of the module -/
def DGS (K : PySem.W.Frag) (H : Hp) (a : Addr) (y : V) (r : Option V) : Prop :=
  (∃ kvs k, Rd H a (.dK kvs) ∧ y = kV k ∧ r = valV kvs k) ∨ ∃ kvs k b, Rd H a (.dT kvs) ∧ y = .ref b ∧ SqT K H b (k.map kV) ∧ r = valV kvs k
section
variable {X : Cx} {pins : List (Addr × Obj)} {σ : L2.St} {H : Hp} {s : Shared} {a : Addr} {y v d : V} {u r : Value} {o : Option V} {A : Around} {E : Value → Shared → Prop}
theorem key_ofS {b : Addr} {ks : List Key} (I : Inv X pins σ H s) (h : SqT X.K H b (ks.map kV)) : (tupleKind (mixKind X.prog X.w)).is s.heap ks b := by
  obtain ⟨its, rl, ht, hz⟩ := I.tuple h
  obtain ⟨o, h1, h2, n, h3⟩ := ht
  exact ⟨o, its.toArray, n, h1, h2, h3, by simpa using items_are rl⟩
theorem dgs_typeIs (I : Inv X pins σ H s) (g : DGS X.K H a y o) : s.TypeIs (.ref a) "dict" := by
  rcases g with ⟨kvs, k, e, _, _⟩ | ⟨kvs, k, b, e, _, _, _⟩
  · obtain ⟨_, _, vs, _, dd⟩ := dk_rd I.hok e
    exact dd.typeIs
  · obtain ⟨_, _, xs, _, dd⟩ := dt_rd I.hok e
    exact dd.typeIs
theorem s_getItem {Q : Value → Shared → Prop} (hu : A.units + 1 < cLine) (I : Inv X pins σ H s) (g : DGS X.K H a y (some v)) (ry : RelV y u) (h : ∀ w' s', Inv X pins σ H s' → RelV v w' → Q w' s') :
    wpAny (model X.prog X.w) A (getItem (.ref a) u) Q E s := by
  rcases g with ⟨kvs, k, e, ey, l⟩ | ⟨kvs, k, b, e, ey, eb, l⟩
  · exact d_getItem hu I (.inl ⟨kvs, k, e, ey, l⟩) ry h
  · subst ey
    cases (show u = Value.ref b from ry)
    obtain ⟨z, hd, xs, rel, dd⟩ := dt_rd I.hok e
    obtain ⟨w', hw, rw'⟩ := RelO.some_of (v := v) (o := (atKey xs k).map (·.2)) (by rw [l]; exact rel.val k)
    obtain ⟨p, hp, hp2⟩ := Option.map_eq_some_iff.mp hw
    refine wpAny_getItem_heap (tupleKind_room_in1 hu) (key_ofS I eb) dd hp ?_
    rw [hp2]
    exact h w' _ (I.tok _) rw'
theorem s_in {Q : Value → Shared → Prop} (hu : A.units + 1 < cLine) (I : Inv X pins σ H s) (g : DGS X.K H a y o) (ry : RelV y u) (h : ∀ s', Inv X pins σ H s' → Q (.bool o.isSome) s') :
    wpAny (model X.prog X.w) A (compareOp .In u (.ref a)) Q E s := by
  rcases g with ⟨kvs, k, e, ey, l⟩ | ⟨kvs, k, b, e, ey, eb, l⟩
  · exact d_in hu I (.inl ⟨kvs, k, e, ey, l⟩) ry h
  · subst ey
    cases (show u = Value.ref b from ry)
    obtain ⟨z, hd, xs, rel, dd⟩ := dt_rd I.hok e
    refine wpAny_in_heap (tupleKind_room_in1 hu) (key_ofS I eb) hd dd ?_
    have q := (rel.val k).isSome_eq
    rw [Option.isSome_map] at q
    rw [← q, ← l]
    exact h _ (I.tok _)
theorem s_notIn {Q : Value → Shared → Prop} (hu : A.units + 1 < cLine) (I : Inv X pins σ H s) (g : DGS X.K H a y o) (ry : RelV y u) (h : ∀ s', Inv X pins σ H s' → Q (.bool (!o.isSome)) s') :
    wpAny (model X.prog X.w) A (compareOp .NotIn u (.ref a)) Q E s := by
  rcases g with ⟨kvs, k, e, ey, l⟩ | ⟨kvs, k, b, e, ey, eb, l⟩
  · exact d_notIn hu I (.inl ⟨kvs, k, e, ey, l⟩) ry h
  · subst ey
    cases (show u = Value.ref b from ry)
    obtain ⟨z, hd, xs, rel, dd⟩ := dt_rd I.hok e
    refine wpAny_notIn_heap (tupleKind_room_in1 hu) (key_ofS I eb) hd dd ?_
    have q := (rel.val k).isSome_eq
    rw [Option.isSome_map] at q
    rw [← q, ← l]
    exact h _ (I.tok _)
theorem s_get2 {Q : Value → Shared → Prop} (hu : A.units + 1 < cLine) (I : Inv X pins σ H s) (g : DGS X.K H a y o) (ry : RelV y u) (rd : RelV d r) (h : ∀ w' s', Inv X pins σ H s' → RelV (o.getD d) w' → Q w' s') :
    wpAny (model X.prog X.w) A (call (.builtin "dict.get") [.ref a, u, r]) Q E s := by
  rcases g with ⟨kvs, k, e, ey, l⟩ | ⟨kvs, k, b, e, ey, eb, l⟩
  · exact d_get2 hu I (.inl ⟨kvs, k, e, ey, l⟩) ry rd h
  · subst ey
    cases (show u = Value.ref b from ry)
    obtain ⟨z, hd, xs, rel, dd⟩ := dt_rd I.hok e
    refine call_meetsIn PySem.F.slot_dict_get dd.typeIs PySem.F.entry_dict_get (PySem.F.args_dict_get_3 _ _ _) (meetsH_dict_get_default (tupleKind (mixKind X.prog X.w)) a b hd r) ⟨tupleKind_room_in1 hu, k, xs, key_ofS I eb, dd, h _ _ (I.tok _) ?_⟩
    rw [l]
    exact (rel.val k).getD rd
end
section
variable {X : Cx} {A : Am} {E : EN} {k : Nat} {md md1 md2 md3 : Md} {e a b c f : Expr} {es : List Expr} {m ma mb mc : Ga → M D} {ml : Ga → M (List D)} {pos pos' p p1 p2 p3 apos cpos : Pos} {x y : Str} {i j : Nat}
/-- the dict and the key, at hand -/
theorem dgs_of {H : Hp} {P W : Addr → Prop} {w v : V} {t : Bool} {kvs : List (D × D)} {d : D} (kle : KLe A.K X.K) (h : Rb A.K H P W w (.dct t kvs)) (hk : Rb A.K H P W v d) (ik : isKeyD t d = true) : ∃ a o, w = .ref a ∧ DGS X.K H a v o ∧ RpO A.K H P o (dval t kvs d) := by
  obtain ⟨a, rfl, _, h⟩ := h
  rcases h with ⟨rfl, l, hx, r⟩ | ⟨rfl, l, hx, r⟩
  · obtain ⟨kk, ek⟩ := Option.isSome_iff_exists.mp (show (keyD d).isSome = true from ik)
    exact ⟨a, _, rfl, .inl ⟨l, kk, hx, rb_key hk ek, rfl⟩, r.val ek⟩
  · obtain ⟨kk, ek⟩ := Option.isSome_iff_exists.mp (show (ktuD d).isSome = true from ik)
    obtain ⟨b, rfl, hb⟩ := rb_ktu hk ek
    exact ⟨a, _, rfl, .inr ⟨l, kk, b, hx, rfl, hb.kle kle, rfl⟩, r.val ek⟩
def getD' (x y : D) : M D := match x with
  | .dct t kvs => if isKeyD t y = true then (match dval t kvs y with
    | some d => .ret d
    | none => .stuck) else .stuck
  | x => itemD x y
theorem tame_get (x y : D) : Tame (getD' x y) := by
  unfold getD'
  split
  · split
    · split <;> trivial
    · trivial
  · exact tame_item _ _
theorem ix_get {cm : Bool} (B : Bd' cm X A E k) : IxR X (rDs A.K getD') := by
  intro value slice pins s σ H x y v u Q I rx ry ⟨P, W, d, e, r1, r2, h⟩ hs
  unfold getD' at h
  split at h
  · split at h
    · rename_i t kvs ik
      obtain ⟨a, o, rfl, g, ro⟩ := dgs_of B.kle r1 r2 ik
      split at h
      · rename_i d hd
        rw [hd] at ro
        cases ro with
        | some rv =>
          cases rx
          exact tail_any (dgs_typeIs I g) PySem.F.slot_dict_getitem.lookup (s_getItem B.u1 I g ry fun w' s' I' rw' => ⟨_, H, I', rw', h _ rv⟩) hs
      · exact h.elim
    · exact h.elim
  · exact ix_item B value slice pins s σ H x y v u Q I rx ry ⟨P, W, _, e, r1, r2, h⟩ hs
/-- a[b]: a list, a tuple, a text, a dict -/
theorem pev_get {cm : Bool} (B : Bd' cm X A E k) (ha : PEV X A E md1 a ma) (hb : PEV X A E md2 b mb) (hs : PlainIx b := by exact fun _ _ => rfl) : PEV X A E .s (.Subscript a b pos) (bin ma mb getD') := pev_ixs (ix_get B) tame_get ha hb hs
def hasD (x c : D) : M D := match c with
  | .dct t kvs => if isKeyD t x = true then .ret (.bl (dval t kvs x).isSome) else .stuck
  | c => inD x c
def hasNotD (x c : D) : M D := bnotM (hasD x c)
theorem tame_has (x y : D) : Tame (hasD x y) := by
  unfold hasD
  split
  · exact tame_if
  · exact tame_in _ _
theorem tame_hasNot (x y : D) : Tame (hasNotD x y) := tame_bnot (tame_has x y)
theorem o_has {cm : Bool} (B : Bd' cm X A E k) : OpR X (compareOp .In) (rD A.K hasD) := by
  intro pins s σ H x y v u Q I rx ry ⟨P, W, d, e, r1, r2, h⟩
  unfold hasD at h
  split at h
  · obtain ⟨ik, q⟩ := wp_if h
    obtain ⟨a, o, rfl, g, ro⟩ := dgs_of B.kle r2 r1 ik
    cases ry
    refine s_in B.u1 I g rx fun s' I' => ⟨.bl o.isSome, H, I', rfl, ?_⟩
    rw [ro.isSome]
    exact q _ H (Same.refl _) (.bl _)
  · exact o_in B pins s σ H x y v u Q I rx ry ⟨P, W, d, _, r1, r2, h⟩
theorem o_hasNot {cm : Bool} (B : Bd' cm X A E k) : OpR X (compareOp .NotIn) (rD A.K hasNotD) := by
  intro pins s σ H x y v u Q I rx ry ⟨P, W, d, e, r1, r2, h⟩
  unfold hasNotD hasD at h
  split at h
  · have h := M.wp_bind.mp h
    obtain ⟨ik, q⟩ := wp_if h
    obtain ⟨a, o, rfl, g, ro⟩ := dgs_of B.kle r2 r1 ik
    cases ry
    refine s_notIn B.u1 I g rx fun s' I' => ⟨.bl (!o.isSome), H, I', rfl, ?_⟩
    rw [ro.isSome]
    exact q _ H (Same.refl _) (.bl _)
  · exact o_notIn B pins s σ H x y v u Q I rx ry ⟨P, W, d, _, r1, r2, h⟩
/-- d.get(k, x) -/
def dget2 (c k x : D) : M D := match c with
  | .dct t kvs => if isKeyD t k = true then .ret ((dval t kvs k).getD x) else .stuck
  | _ => .stuck
def get2V (mc mk mx : Ga → M D) : Ga → M D := fun Γ => mc Γ >>= fun c => mk Γ >>= fun k => mx Γ >>= fun x => dget2 c k x
def tDGS2 (K : PySem.W.Frag) (td ty tx : TE) : TE := fun σ H Q => td σ H fun x H1 => ∃ a, x = .ref a ∧ IsD H1 a ∧ ty σ H1 fun y H2 => tx σ H2 fun z H3 => ∃ o, DGS K H3 a y o ∧ Q (o.getD z) H3
theorem pe_dgs2 {td ty tx : TE} (hu : X.A.units + 1 < cLine) (ho : PE X a td) (he : PE X b ty) (hf : PE X f tx) (m : M2 X a "get" apos b f cpos) : PE X (.Call (.Attribute a "get" apos) [b, f] [] cpos) (tDGS2 X.K td ty tx) := by
  refine ⟨fun pins s σ H Q I h => ?_⟩
  refine wpAny_Call_method m.base m.few m.line PySem.F.plainAttrs_dict PySem.F.slot_dict_get PySem.F.type_dict_get (thn (ho.run pins s σ H _ I h) fun u s1 ⟨x, H1, I1, rx, a, ex, d, q1⟩ => ?_)
  subst ex
  obtain rfl : u = Value.ref a := rx
  obtain ⟨t1, t2, _⟩ := isD_at I1 d
  refine ⟨t1, t2, ?_⟩
  rw [m.trees]
  refine Calls.callWith_builtin rfl (Calls.evalArgs_plain (Calls.spliced_cons (thn (he.run pins s1 σ H1 _ I1 q1) fun iv s2 ⟨y, H2, I2, ry, q2⟩ =>
    Calls.spliced_cons (thn (hf.run pins s2 σ H2 _ I2 q2) fun fv s3 ⟨z, H3, I3, rz, ov, g, q3⟩ => Calls.spliced_nil ?_))))
  exact s_get2 hu I3 g ry rz fun w' s4 I4 rw' => ⟨_, H3, I4, rw', q3⟩
theorem wp_dget2 {c k x : D} {Q : D → Prop} {E' : Exn → Prop} (h : (dget2 c k x).wp Q E') : ∃ t kvs, c = .dct t kvs ∧ isKeyD t k = true ∧ Q ((dval t kvs k).getD x) := by
  unfold dget2 at h
  split at h
  · split at h
    · rename_i t kvs ik; exact ⟨t, kvs, rfl, ik, h⟩
    · exact h.elim
  · exact h.elim
/-- it is a dict: told ahead of the key -/
def asDct (m : Ga → M D) : Ga → M D := fun Γ => m Γ >>= fun d => match d with
  | .dct t kvs => .ret (.dct t kvs)
  | _ => .stuck
theorem pev_get2 {cm : Bool} (B : Bd' cm X A E k) (ha : PEV X A E md1 a ma) (hb : PEV X A E md2 b mb) (hf : PEV X A E .s f mc) (m : M2 X a "get" apos b f cpos) : PEV X A E .s (.Call (.Attribute a "get" apos) [b, f] [] cpos) (get2V (asDct ma) mb mc) := by
  refine ⟨imp_pe (pe_dgs2 B.u1 ha.pe hb.pe hf.pe m) fun σ H Q ⟨cn, f, Γ, R, h⟩ => ⟨cn, f, Γ, R, M.wp_mono (M.wp_bind.mp (M.wp_bind.mp h)) (fun d q w H1 k1 g1 r1 => ?_) fun _ x => x⟩⟩
  cases d with
  | dct t kvs =>
    have rb := R.rb r1
    obtain ⟨a, rfl, wa, hh⟩ := id rb
    refine ⟨a, rfl, ?_, cn, f, Γ, R.kx k1 g1, M.wp_mono (M.wp_bind.mp q) (fun kd q w2 H2 k2 g2 r2 => ?_) fun _ x => x⟩
    · rcases hh with ⟨_, l, hx, _⟩ | ⟨_, l, hx, _⟩
      · exact .inl ⟨l, hx⟩
      · exact .inr ⟨l, hx⟩
    · have R1 := R.kx k1 g1
      have R2 := R1.kx k2 g2
      refine ⟨cn, f, Γ, R2, M.wp_mono (M.wp_bind.mp q) (fun xd q w3 H3 k3 g3 r3 => ?_) fun _ x => x⟩
      have h2 : (dget2 (.dct t kvs) kd xd).wp _ _ := q
      obtain ⟨_, _, e, ik, q⟩ := wp_dget2 h2
      cases e
      obtain ⟨a', o, e, g, ro⟩ := dgs_of B.kle (R2.rbk k3 (R1.rbk k2 rb)) (R2.rbk k3 (R1.rb r2)) ik
      cases e
      refine ⟨o, g, q _ H3 ((k1.trans k2).trans k3) g3 ?_⟩
      generalize dval t kvs kd = od at ro
      cases ro with
      | none => exact r3
      | some rv => exact rv
  | _ => exact q.elim
theorem m2_of (h1 : attributeBase a x X.env (eval a X.env) = eval a X.env := by rfl) (h2 : ((backTo cpos (starEach [b, f] X.env)).all (fun x => !x.1) && (backToKw cpos (keywordEach [] X.env)).all (fun x => x.1.isSome)
    && decide (([b, f] : List Expr).length + ([] : List Keyword).length + (if ([] : List Keyword).isEmpty then 0 else 1) < 30)) = true := by rfl) (h3 : (apos.endLine == cpos.line) = true := by rfl) (h4 : backTo cpos (starEach [b, f] X.env) = [(false, eval b X.env), (false, eval f X.env)] := by rfl) : M2 X a x apos b f cpos := ⟨h1, h2, h3, h4⟩
/-- {} -/
def dct0 (t : Bool) : Ga → M D := fun _ => .ret (.dct t [])
theorem pev_dict0 (t : Bool) : PEV X A E .f (.Dict [] [] pos) (dct0 t) := by
  cases t with
  | false =>
    refine ⟨imp_pe pe_dnewK fun σ H Q ⟨cn, f, Γ, R, h⟩ => fun p hp => ?_⟩
    have s := same_new (o := .dK []) hp
    exact h _ _ (same_kx s) (A.gh.same R.g s) ⟨p, rfl, hp, .inl ⟨rfl, _, upd_same, .nil⟩⟩
  | true =>
    refine ⟨imp_pe pe_dnewT fun σ H Q ⟨cn, f, Γ, R, h⟩ => fun p hp => ?_⟩
    have s := same_new (o := .dT []) hp
    exact h _ _ (same_kx s) (A.gh.same R.g s) ⟨p, rfl, hp, .inr ⟨rfl, _, upd_same, .nil⟩⟩
theorem call_len_rawB {prog : Program} {w : World} {A : Around} {E : Value → Shared → Prop} {s : Shared} {d : Addr} {es : Array DictEntry} {ep : Nat} {Q : Value → Shared → Prop} (hd : (d == sysModules) = false) (hm : PySem.Heap.DictRaw s.heap d es ep) (hfit : (es.size : Int) < 2 ^ 63)
    (h : Q (.int es.size (s.toks + 1)) { s with toks := s.toks + 1 + 1 }) : wpAny (model prog w) A (call (.builtin "len") [.ref d]) Q E s := by
  refine Calls.call_function_entry kind_len plain_len entry_len (args_len1 _) ?_
  refine wpAny_bind (m := oneArg "len" _) (wpAny_pure ?_)
  refine wpAny_bind (m := callSpecial? (.ref d) (Str.ofString "__len__")) (wpAny_callSpecial?_slot (name := Str.ofString "__len__") (PySem.Heap.DictRaw.typeIs hm) F.slot_dict_len
    (PySem.call_len_raw hd hm ?_))
  show wpAny _ _ _ _ _ { s with toks := s.toks + 1 }
  refine wpAny_bind (wpAny_holding (wpAny_pure ?_))
  refine wpAny_bind (wpAny_letGo ?_)
  show wpAny _ _ (if ((es.size : Nat) : Int) < 0 then _ else _) _ _ _
  rw [if_neg (by omega)]
  show wpAny _ _ (if ((es.size : Nat) : Int) ≥ 2 ^ 63 then _ else _) _ _ _
  rw [if_neg (by omega)]
  exact wpAny_bind (wpAny_mkInt (wpAny_pure ⟨_, rfl, h⟩))
/-- len of a dict too -/
def len2D (ds : List D) : M D := match ds with
  | [.dct _ kvs] => .ret (.int kvs.length)
  | ds => lenD ds
theorem tame_len2 : ∀ ds, Tame (len2D ds) := fun ds => by
  unfold len2D
  split
  · trivial
  · exact tame_len _
theorem c_len2 {cm : Bool} (B : Bd' cm X A E k) : CallR X (.builtin "len") (cD A.K len2D) := by
  intro pins s σ H vs us Q I r ⟨P, W, ds, h1, h⟩
  unfold len2D at h
  split at h
  · obtain ⟨v, rfl, a, rfl, _, hx⟩ := rq1 h1
    obtain ⟨u, rfl, ru⟩ := vals1 r
    cases ru
    rcases hx with ⟨rfl, l, hx, rl⟩ | ⟨rfl, l, hx, rl⟩
    · refine d_len I hx fun t s' I' => ⟨.int l.length, H, I', ⟨t, rfl⟩, ?_⟩
      rw [rl.length]
      exact h _ H (Same.refl _) (.int _)
    · obtain ⟨z, hd, xs, rel, dd⟩ := dt_rd I.hok hx
      obtain ⟨es, ep, raw, hsz, _⟩ := PySem.Heap.DictOfH.raw dd
      have hl : es.size = l.length := by rw [hsz, Paired.length rel]
      refine call_len_rawB hd raw (by rw [hl]; rw [sizeLine_eq] at z; omega) ⟨.int l.length, H, I.tok _, ⟨_, by rw [hl]⟩, ?_⟩
      rw [rl.length]
      exact h _ H (Same.refl _) (.int _)
  · exact c_len B pins s σ H vs us Q I r ⟨P, W, _, h1, h⟩
end
end Px

set_option Elab.async false
set_option linter.all false
set_option maxRecDepth 100000
set_option autoImplicit false
namespace Px
open PySem PySem.Spec PyProof.Rows L2

/-! ### two dicts compared -/
section
variable {prog : Program} {w : World} {K : Type} [DecidableEq K] {knd : HeapKind prog w K} {A : Around} {E : Value → Shared → Prop} {s : Shared}
inductive HitsT {K : Type} [DecidableEq K] (A : Around) (s : Shared) (xb : List (K × Addr × Value)) : List (K × Addr × Value) → Bool → Prop
  | nil : HitsT A s xb [] true
  | miss {x : K × Addr × Value} {r : List (K × Addr × Value)} : atKey xb x.1 = none → HitsT A s xb (x :: r) false
  | hit {x : K × Addr × Value} {p : Addr × Value} {r : List (K × Addr × Value)} {e b : Bool} : atKey xb x.1 = some p → SeqAt.EqAt A s x.2.2 p.2 e → HitsT A s xb r b → HitsT A s xb (x :: r) (e && b)
theorem samePairsT {nm : String} {a b : Addr} {xa xb : List (K × Addr × Value)} {r : Bool} {Q : Bool → Shared → Prop} (hu : knd.room A) (ha : (a == sysModules) = false) (hb : (b == sysModules) = false)
    (da : s.heap.DictOfH knd a xa) (db : s.heap.DictOfH knd b xb) (hits : xa.length = xb.length → HitsT A s xb xa r) (h : Q (xa.length == xb.length && r) s) :
    wpAny (model prog w) A (Builtin.Dict.samePairs nm a b) Q E s := by
  obtain ⟨oa, es, ep, hoa, _, hda, hea, hia, hna⟩ := da
  obtain ⟨ob, es', ep', hob, _, hdb, heb, hib, hnb⟩ := db
  have hla : xa.length = es.size := (size_of_entries hea).symm
  have hlb : xb.length = es'.size := (size_of_entries heb).symm
  rw [hla, hlb] at h
  unfold Builtin.Dict.samePairs Builtin.Dict.showsAll
  rw [if_neg (show ¬ (a == sysModules) = true by rw [ha]; exact Bool.false_ne_true), if_neg (show ¬ (b == sysModules) = true by rw [hb]; exact Bool.false_ne_true)]
  refine wpAny_bind (wpAny_pure (wpAny_bind (wpAny_pure ?_)))
  refine wpAny_bind (wpAny_dictEntries hoa hda ?_)
  dsimp only
  refine wpAny_bind (wpAny_dictEntries hob hdb ?_)
  by_cases hsz : es.size = es'.size
  case neg =>
    rw [if_pos (by simpa using hsz)]
    have hbf : (es.size == es'.size) = false := by simpa using hsz
    rw [hbf, Bool.false_and] at h
    exact wpAny_bind (wpAny_rule (wpAny_pure h))
  case pos =>
    have h' : Q r s := by simpa [hsz] using h
    have hits' := hits (by rw [hla, hlb]; exact hsz)
    rw [if_neg (by rw [hsz]; simp)]
    refine wpAny_bind (wpAny_dictEpoch hoa hda ?_)
    refine wpAny_bind ?_
    rw [Std.Legacy.Range.forIn_eq_forIn_range']
    simp only [Std.Legacy.Range.size, Nat.sub_zero, Nat.add_sub_cancel, Nat.div_one]
    refine wpAny_forIn_list _
      (fun rest q s' => s' = s ∧ q = (none, ()) ∧ ∃ i, rest = List.range' i (es.size - i) ∧ i ≤ es.size ∧ HitsT A s xb (xa.drop i) r)
      _ ?_ ?_ _ _ ⟨rfl, rfl, 0, by simp, Nat.zero_le _, hits'⟩
    · rintro x rest q s' ⟨rfl, rfl, i, hr, hi, hpre⟩
      have hlt : i < es.size := by
        rcases Nat.lt_or_ge i es.size with h | h
        · exact h
        · rw [Nat.sub_eq_zero_of_le h] at hr; simp at hr
      obtain ⟨rfl, hrest⟩ : x = i ∧ rest = List.range' (i + 1) (es.size - (i + 1)) := by
        have e : es.size - i = (es.size - (i + 1)) + 1 := by omega
        rw [e, List.range'_succ] at hr
        injection hr with h1 h2
        exact ⟨h1, h2⟩
      refine wpAny_bind (wpAny_dictEntries hoa hda ?_)
      have hlt' : x < xa.length := by rw [hla]; exact hlt
      rw [entry_at hea x, List.getElem?_eq_getElem hlt']
      obtain ⟨k, ka, v, hkv⟩ : ∃ k ka v, xa[x] = (k, ka, v) := ⟨_, _, _, rfl⟩
      have hdrop : xa.drop x = (k, ka, v) :: xa.drop (x + 1) := by rw [← hkv]; exact List.drop_eq_getElem_cons hlt'
      have hkey : knd.is s'.heap k ka := by
        have := hia xa[x] (List.getElem_mem hlt')
        rw [hkv] at this; exact this
      rw [hdrop] at hpre
      rw [hkv]
      show wpAny _ _ (holding [Value.ref ka, v] (dictFind b (.ref ka) (knd.hash k) >>= _) >>= _) _ _ _
      refine wpAny_bind (wpAny_holding (wpAny_bind (wpAny_dictFind_heap hu hkey hob hdb heb hib hnb (fun hno => ?_) fun j p hj => ?_)))
      · have hn := atKey_none_of_get hno
        have er : r = false := by
          cases hpre with
          | miss _ => rfl
          | hit hy _ _ => rw [hn] at hy; exact nomatch hy
        rw [er] at h'
        refine wpAny_pure ?_
        show wpAny _ _ (if (!false) = true then _ else _) _ _ _
        rw [if_pos (by decide)]
        exact wpAny_pure (wpAny_pure h')
      · have hv' := atKey_of_get hnb hj
        refine wpAny_bind (wpAny_dictEntries hob hdb ?_)
        rw [entry_at heb j, hj]
        cases hpre with
        | miss hn => rw [hv'] at hn; exact nomatch hn
        | @hit _ p' _ e b' hy he hrr =>
          rw [hv'] at hy
          cases hy
          refine wpAny_holding (he prog w _ _ ?_)
          cases e with
          | false =>
            rw [Bool.false_and] at h'
            show wpAny _ _ (if (!false) = true then _ else _) _ _ _
            rw [if_pos (by decide)]
            exact wpAny_pure (wpAny_pure h')
          | true =>
            rw [Bool.true_and] at h' ⊢
            show wpAny _ _ (if (!true) = true then _ else _) _ _ _
            rw [if_neg (by decide)]
            refine wpAny_bind (wpAny_dictEpoch hoa hda ?_)
            rw [if_neg (by simp)]
            exact wpAny_pure ⟨rfl, rfl, x + 1, hrest, hlt, hrr⟩
    · rintro q s' ⟨rfl, rfl, i, hr, hi, hpre⟩
      have hin : i = es.size := by
        rcases Nat.lt_or_ge i es.size with h | h
        · have e : es.size - i = (es.size - (i + 1)) + 1 := by omega
          rw [e, List.range'_succ] at hr; exact nomatch hr
        · exact Nat.le_antisymm hi h
      refine wpAny_pure ?_
      rw [hin, ← hla, List.drop_length] at hpre
      cases hpre
      exact h'
theorem eqT {a b : Addr} {xa xb : List (K × Addr × Value)} {r : Bool} {Q : Value → Shared → Prop} (hr : knd.room A.in1) (ha : (a == sysModules) = false) (hb : (b == sysModules) = false)
    (da : s.heap.DictOfH knd a xa) (db : s.heap.DictOfH knd b xb) (hu : A.units < cLine) (hits : xa.length = xb.length → HitsT A.in1 s xb xa r) (h : Q (.bool (xa.length == xb.length && r)) s) :
    wpAny (model prog w) A (compareOp .Eq (.ref a) (.ref b)) Q E s := by
  refine wpAny_richCompare_same_room (op := .Eq) da.typeIs db.typeIs PySem.F.slot_dict_eq (wpAny_call_entry PySem.F.slot_dict_eq da.typeIs PySem.F.entry_dict_eq ?_ (PySem.F.args_dict_eq_2 _ _)) hu
  show wpAny _ _ (Builtin.Dict.dictSlotArgs "__eq__" ⟨[.ref a, .ref b], []⟩ >>= _) _ _ s
  refine wpAny_bind ?_
  unfold Builtin.Dict.dictSlotArgs
  refine wpAny_bind (wpAny_notOrdered_dict da.typeIs ?_)
  show wpAny _ _ (pure (Value.ref a, Value.ref b)) _ _ s
  refine wpAny_pure ?_
  refine wpAny_bind (wpAny_isInstance (T := "dict") db.typeIs PySem.F.sub_dict_dict ?_)
  simp only [Bool.not_true, Bool.false_eq_true, if_false]
  refine wpAny_bind (wpAny_pure (wpAny_bind (wpAny_pure ?_)))
  refine wpAny_bind (samePairsT hr ha hb da db hits ?_)
  refine wpAny_pure ⟨_, rfl, ?_, ?_⟩
  · exact fun x => nomatch x
  · simpa using h
theorem neT {a b : Addr} {xa xb : List (K × Addr × Value)} {r : Bool} {Q : Value → Shared → Prop} (hr : knd.room A.in1) (ha : (a == sysModules) = false) (hb : (b == sysModules) = false)
    (da : s.heap.DictOfH knd a xa) (db : s.heap.DictOfH knd b xb) (hu : A.units < cLine) (hits : xa.length = xb.length → HitsT A.in1 s xb xa r) (h : Q (.bool (!(xa.length == xb.length && r))) s) :
    wpAny (model prog w) A (compareOp .NotEq (.ref a) (.ref b)) Q E s := by
  refine wpAny_richCompare_same_room (op := .NotEq) da.typeIs db.typeIs PySem.F.slot_dict_ne (wpAny_call_entry PySem.F.slot_dict_ne da.typeIs PySem.F.entry_dict_ne ?_ (PySem.F.args_dict_ne_2 _ _)) hu
  show wpAny _ _ (Builtin.Dict.dictSlotArgs "__ne__" ⟨[.ref a, .ref b], []⟩ >>= _) _ _ s
  refine wpAny_bind ?_
  unfold Builtin.Dict.dictSlotArgs
  refine wpAny_bind (wpAny_notOrdered_dict da.typeIs ?_)
  show wpAny _ _ (pure (Value.ref a, Value.ref b)) _ _ s
  refine wpAny_pure ?_
  refine wpAny_bind (wpAny_isInstance (T := "dict") db.typeIs PySem.F.sub_dict_dict ?_)
  simp only [Bool.not_true, Bool.false_eq_true, if_false]
  refine wpAny_bind (wpAny_pure (wpAny_bind (wpAny_pure ?_)))
  refine wpAny_bind (samePairsT hr ha hb da db hits ?_)
  refine wpAny_pure ⟨_, rfl, ?_, ?_⟩
  · exact fun x => nomatch x
  · simpa using h
end
/-! by trees -/
/-- each of the left ones stands in the right dict with an equal value -/
def subDct (t : Bool) (kvs' : List (D × D)) : List (D × D) → Bool
  | [] => true
  | p :: r => (match dval t kvs' p.1 with
    | some y => eqB p.2 y
    | none => false) && subDct t kvs' r
def plV (kvs : List (D × D)) : Bool := kvs.all fun p => p.2.pl && decide (p.2.dep ≤ 50)
section
variable {X : Cx} {A : Am} {E : EN} {k : Nat} {K : PySem.W.Frag} {H : Hp} {P P' : Addr → Prop}
theorem eqAt_of {cm : Bool} (B : Bd' cm X A E k) {pins : List (Addr × Obj)} {σ : L2.St} {s : Shared} (I : Inv X pins σ H s) {v w : V} {u r : Value} {d e : D} (h1 : Rp A.K H P v d) (h2 : Rp A.K H P' w e) (r1 : RelV v u) (r2 : RelV w r) (p1 : (d.pl && decide (d.dep ≤ 50)) = true) (p2 : (e.pl && decide (e.dep ≤ 50)) = true) :
    SeqAt.EqAt X.A.in1 s u r (eqB d e) := by
  rw [Bool.and_eq_true] at p1 p2
  obtain ⟨as, ra⟩ := Rb.reads B.kle I (h1.rb (W := P) fun _ p => p) p1.1 r1
  obtain ⟨bs, rb⟩ := Rb.reads B.kle I (h2.rb (W := P') fun _ p => p) p2.1 r2
  have d1 := toPy_dep d
  have hu := B.u64
  have := of_decide_eq_true p1.2
  refine SeqAt.eqAt_plain _ _ _ _ _ _ _ _ ra rb (toPy_plain d p1.1) (toPy_plain e p2.1) ?_
  show X.A.units + 1 + _ < _
  have := Nat.min_le_left (toPy d).depth (toPy e).depth
  omega
theorem hitsK {cm : Bool} (B : Bd' cm X A E k) {pins : List (Addr × Obj)} {σ : L2.St} {s : Shared} (I : Inv X pins σ H s) {lb : List (Key × V)} {vb : List (Key × Value)} {kb : List (D × D)} (rb : RpK A.K H P' lb kb) (qb : KV lb vb) (pb : plV kb = true) :
    ∀ {la : List (Key × V)} {va : List (Key × Value)} {ka : List (D × D)}, RpK A.K H P la ka → KV la va → plV ka = true → PySem.W.KeqHits X.A.in1 s vb va (subDct false kb ka)
  | _, _, _, .nil, .nil, _ => .nil
  | _, _, _, .cons (k := kk) (v := v) (d := d) (kvs := ka) h r, .cons (b := (_, u)) q qr, pa => by
    obtain ⟨e1, ru⟩ := q
    cases e1
    have pa : (((d.pl && decide (d.dep ≤ 50))) && plV ka) = true := pa
    rw [Bool.and_eq_true] at pa
    have ih := hitsK B I rb qb pb r qr pa.2
    have g := rb.val (keyD_k kk)
    have g2 := qb.val kk
    show PySem.W.KeqHits _ _ _ _ ((match dval false kb (kD kk) with | some y => eqB d y | none => false) && subDct false kb ka)
    cases e2 : dval false kb (kD kk) with
    | none =>
      rw [e2] at g
      cases e3 : valV lb kk with
      | some y => rw [e3] at g; cases g
      | none =>
        rw [e3] at g2
        cases e4 : valueAt vb kk with
        | some y => rw [e4] at g2; exact g2.elim
        | none => exact .miss e4
    | some y =>
      rw [e2] at g
      cases e3 : valV lb kk with
      | none => rw [e3] at g; cases g
      | some y' =>
        rw [e3] at g g2
        cases e4 : valueAt vb kk with
        | none => rw [e4] at g2; exact g2.elim
        | some u' =>
          rw [e4] at g2
          cases g with
          | some ry =>
            refine .hit e4 (eqAt_of B I h ry ru g2 pa.1 ?_) ih
            unfold dval at e2
            obtain ⟨p, hp, hp2⟩ := Option.map_eq_some_iff.mp e2
            have := List.all_eq_true.mp pb p (List.mem_of_find?_eq_some hp)
            rw [← hp2]; exact this
theorem hitsT {cm : Bool} (B : Bd' cm X A E k) {pins : List (Addr × Obj)} {σ : L2.St} {s : Shared} (I : Inv X pins σ H s) {lb : List (List Key × V)} {vb : List (List Key × Addr × Value)} {kb : List (D × D)} (rb : RpT A.K H P' lb kb) (qb : KT H lb vb) (pb : plV kb = true) :
    ∀ {la : List (List Key × V)} {va : List (List Key × Addr × Value)} {ka : List (D × D)}, RpT A.K H P la ka → KT H la va → plV ka = true → HitsT X.A.in1 s vb va (subDct true kb ka)
  | _, _, _, .nil, .nil, _ => .nil
  | _, _, _, .cons (k := kk) (v := v) (d := d) (kvs := ka) h r, .cons (b := (_, ad, u)) q qr, pa => by
    obtain ⟨e1, _, ru⟩ := q
    cases e1
    have pa : (((d.pl && decide (d.dep ≤ 50))) && plV ka) = true := pa
    rw [Bool.and_eq_true] at pa
    have ih := hitsT B I rb qb pb r qr pa.2
    have g := rb.val (ktuD_k kk)
    have g2 := qb.val kk
    show HitsT _ _ _ _ ((match dval true kb (ktD kk) with | some y => eqB d y | none => false) && subDct true kb ka)
    cases e2 : dval true kb (ktD kk) with
    | none =>
      rw [e2] at g
      cases e3 : valV lb kk with
      | some y => rw [e3] at g; cases g
      | none =>
        rw [e3] at g2
        cases e4 : atKey vb kk with
        | some y => rw [e4] at g2; exact g2.elim
        | none => exact .miss e4
    | some y =>
      rw [e2] at g
      cases e3 : valV lb kk with
      | none => rw [e3] at g; cases g
      | some y' =>
        rw [e3] at g g2
        cases e4 : atKey vb kk with
        | none => rw [e4] at g2; exact g2.elim
        | some u' =>
          rw [e4] at g2
          cases g with
          | some ry =>
            refine .hit e4 (eqAt_of B I h ry ru g2 pa.1 ?_) ih
            unfold dval at e2
            obtain ⟨p, hp, hp2⟩ := Option.map_eq_some_iff.mp e2
            have := List.all_eq_true.mp pb p (List.mem_of_find?_eq_some hp)
            rw [← hp2]; exact this
def eqDctB (t : Bool) (ka kb : List (D × D)) : Bool := ka.length == kb.length && subDct t kb ka
def equD (x y : D) : M D := match x, y with
  | .dct t ka, .dct t' kb => if (t == t' && (plV ka && plV kb)) = true then .ret (.bl (eqDctB t ka kb)) else .stuck
  | x, y => eqD x y
def neuD (x y : D) : M D := match x, y with
  | .dct t ka, .dct t' kb => if (t == t' && (plV ka && plV kb)) = true then .ret (.bl (!eqDctB t ka kb)) else .stuck
  | x, y => neD x y
theorem tame_equ (x y : D) : Tame (equD x y) := by
  unfold equD
  split
  · exact tame_if
  · exact tame_eq _ _
theorem tame_neu (x y : D) : Tame (neuD x y) := by
  unfold neuD
  split
  · exact tame_if
  · exact tame_ne _ _
theorem dcts_cmp {cm : Bool} (B : Bd' cm X A E k) {pins : List (Addr × Obj)} {σ : L2.St} {s : Shared} (I : Inv X pins σ H s) {x y : V} {u v : Value} {W W' : Addr → Prop} {t t' : Bool} {ka kb : List (D × D)} (r1 : Rb A.K H P W x (.dct t ka)) (r2 : Rb A.K H P' W' y (.dct t' kb)) (rx : RelV x u) (ry : RelV y v)
    (c : (t == t' && (plV ka && plV kb)) = true) :
    (∀ {E' : Value → Shared → Prop} {Q : Value → Shared → Prop}, Q (.bool (eqDctB t ka kb)) s → wpAny (model X.prog X.w) X.A (compareOp .Eq u v) Q E' s) ∧ ∀ {E' : Value → Shared → Prop} {Q : Value → Shared → Prop}, Q (.bool (!eqDctB t ka kb)) s → wpAny (model X.prog X.w) X.A (compareOp .NotEq u v) Q E' s := by
  rw [Bool.and_eq_true, Bool.and_eq_true] at c
  obtain ⟨ct, pa, pb⟩ := c
  have ct : t = t' := eq_of_beq ct
  subst ct
  obtain ⟨a, rfl, _, h1⟩ := r1
  obtain ⟨b, rfl, _, h2⟩ := r2
  cases rx
  cases ry
  rcases h1 with ⟨rfl, la, ha, ra⟩ | ⟨rfl, la, ha, ra⟩
  · rcases h2 with ⟨_, lb, hb, rb⟩ | ⟨z, _⟩
    · obtain ⟨z1, y1, va, qa, da⟩ := dk_rd I.hok ha
      obtain ⟨z2, y2, vb, qb, db⟩ := dk_rd I.hok hb
      have hh := hitsK B I rb qb pb ra qa pa
      have e : (va.length == vb.length && subDct false kb ka) = eqDctB false ka kb := by
        unfold eqDctB
        rw [← qa.length, ← qb.length, ra.length, rb.length]
      exact ⟨fun q => PySem.W.keq_eq y1 y2 da db B.u0 (fun _ => hh) (by rw [e]; exact q), fun q => PySem.W.keq_ne y1 y2 da db B.u0 (fun _ => hh) (by rw [e]; exact q)⟩
    · cases z
  · rcases h2 with ⟨z, _⟩ | ⟨_, lb, hb, rb⟩
    · cases z
    · obtain ⟨z1, y1, va, qa, da⟩ := dt_rd I.hok ha
      obtain ⟨z2, y2, vb, qb, db⟩ := dt_rd I.hok hb
      have hh := hitsT B I rb qb pb ra qa pa
      have e : (va.length == vb.length && subDct true kb ka) = eqDctB true ka kb := by
        unfold eqDctB
        rw [← Paired.length qa, ← Paired.length qb, ra.length, rb.length]
      exact ⟨fun q => eqT (tupleKind_room_in1 B.u1) y1 y2 da db B.u0 (fun _ => hh) (by rw [e]; exact q), fun q => neT (tupleKind_room_in1 B.u1) y1 y2 da db B.u0 (fun _ => hh) (by rw [e]; exact q)⟩
theorem o_equ {cm : Bool} (B : Bd' cm X A E k) : OpR X (compareOp .Eq) (rD A.K equD) := by
  intro pins s σ H x y v u Q I rx ry ⟨P, W, d, e, r1, r2, h⟩
  unfold equD at h
  split at h
  · obtain ⟨c, q⟩ := wp_if h
    exact (dcts_cmp B I r1 r2 rx ry c).1 ⟨.bl _, H, I, rfl, q _ H (Same.refl _) (.bl _)⟩
  · exact o_eq B pins s σ H x y v u Q I rx ry ⟨P, W, _, _, r1, r2, h⟩
theorem o_neu {cm : Bool} (B : Bd' cm X A E k) : OpR X (compareOp .NotEq) (rD A.K neuD) := by
  intro pins s σ H x y v u Q I rx ry ⟨P, W, d, e, r1, r2, h⟩
  unfold neuD at h
  split at h
  · obtain ⟨c, q⟩ := wp_if h
    exact (dcts_cmp B I r1 r2 rx ry c).2 ⟨.bl _, H, I, rfl, q _ H (Same.refl _) (.bl _)⟩
  · exact o_ne B pins s σ H x y v u Q I rx ry ⟨P, W, _, _, r1, r2, h⟩
end
end Px

set_option Elab.async false
set_option linter.all false
set_option maxRecDepth 100000
set_option autoImplicit false
namespace Px
open PySem PySem.Spec PyProof.Rows L2

/-! ### dicts are walked -/
section
variable {X : Cx} {A : Am} {E : EN} {k : Nat} {md md1 md2 md3 : Md} {e a b c f tg : Expr} {es : List Expr} {m ma mb mc : Ga → M D} {ml : Ga → M (List D)} {pos pos' p p1 p2 p3 apos cpos : Pos} {x y : Str} {i j : Nat}
theorem keys_at {pins : List (Addr × Obj)} {s1 : Shared} {σ : L2.St} {H1 : Hp} {R : It → Hp → Prop} {d : Addr} {o : Obj} (I1 : Inv X pins σ H1 s1) (q : (∃ kvs, H1 d = some (.frz o (.dK kvs)) ∧ R (Itk d o kvs) H1) ∨ ∃ kvs, H1 d = some (.frz o (.dT kvs)) ∧ R (Itkt d o kvs) H1) :
    wpAny (model X.prog X.w) X.A (pyIter (.ref d)) (PIE X pins σ tg R) X.xe s1 := by
  rcases q with ⟨kvs, hd, q⟩ | ⟨kvs, hd, q⟩
  · obtain ⟨hs, hgd, hx, es, ep, vs, hdt, hsz, kv, hm⟩ := I1.frzK hd
    refine iter_keys hs hgd hx hdt (pi_one (tk := s1.toks) I1 _ (turn_keys _ hdt) ⟨_, Heap.get?_push_size _ rfl, rfl, ?_⟩ q)
    rw [hsz] <;> rfl
  · obtain ⟨hs, hgd, hx, es, ep, hdt, hsz, ent⟩ := I1.frzT hd
    refine iter_keys hs hgd hx hdt (pi_one (tk := s1.toks) I1 _ (turn_keysT _ hdt) ⟨_, Heap.get?_push_size _ rfl, rfl, ?_⟩ q)
    rw [hsz] <;> rfl
def iAny (K : PySem.W.Frag) (te : TE) : TI := fun σ H R => te σ H fun v H1 => (∃ src : Src, v = src.v ∧ src.ok K H1 ∧ (src.n ≤ sizeLine ∨ (∃ z, src = .z z) → R (Itsq K src) H1)) ∨
  ∃ d o, v = .ref d ∧ ((∃ kvs, H1 d = some (.frz o (.dK kvs)) ∧ (kvs.length ≤ sizeLine → R (Itk d o kvs) H1)) ∨ ∃ kvs, H1 d = some (.frz o (.dT kvs)) ∧ (kvs.length ≤ sizeLine → R (Itkt d o kvs) H1))
theorem pi_any {te : TE} (he : PE X e te) : PI X tg e (iAny X.K te) := by
  refine ⟨fun pins s σ H R I h => ?_⟩
  refine thn (he.run pins s σ H _ I h) fun v s1 ⟨y, H1, I1, r1, q⟩ => ?_
  rcases q with ⟨src, ex, ok, q⟩ | ⟨d, o, ex, q⟩
  · subst ex
    exact sq_at I1 r1 ok q
  · subst ex
    cases r1
    refine keys_at I1 (o := o) ?_
    rcases q with ⟨kvs, hd, q⟩ | ⟨kvs, hd, q⟩
    · exact .inl ⟨kvs, hd, q (dk_rd I1.hok (.inr ⟨o, hd⟩)).1⟩
    · exact .inr ⟨kvs, hd, q (dt_rd I1.hok (.inr ⟨o, hd⟩)).1⟩
def itemsK (d : D) : M (List D) := match d with
  | .dct _ kvs => .ret (kvs.map (·.1))
  | d => itemsD d
theorem RpK.keyAt {K : PySem.W.Frag} {H : Hp} {P : Addr → Prop} : ∀ {l : List (Key × V)} {kvs : List (D × D)} {i : Nat} {d : D}, RpK K H P l kvs → (kvs.map (·.1))[i]? = some d → ∃ k v, l[i]? = some (k, v) ∧ d = kD k
  | _, _, _, _, .nil, e => by simp at e
  | _, _, 0, _, .cons h _, e => by simp at e; subst e; exact ⟨_, _, rfl, rfl⟩
  | _, _, i + 1, d, .cons _ r, e => by
    obtain ⟨k, v, h1, h2⟩ := r.keyAt (i := i) (d := d) (by simpa using e)
    exact ⟨k, v, by simpa using h1, h2⟩
theorem RpT.keyAt {K : PySem.W.Frag} {H : Hp} {P : Addr → Prop} : ∀ {l : List (List Key × V)} {kvs : List (D × D)} {i : Nat} {d : D}, RpT K H P l kvs → (kvs.map (·.1))[i]? = some d → ∃ k v, l[i]? = some (k, v) ∧ d = ktD k
  | _, _, _, _, .nil, e => by simp at e
  | _, _, 0, _, .cons h _, e => by simp at e; subst e; exact ⟨_, _, rfl, rfl⟩
  | _, _, i + 1, d, .cons _ r, e => by
    obtain ⟨k, v, h1, h2⟩ := r.keyAt (i := i) (d := d) (by simpa using e)
    exact ⟨k, v, by simpa using h1, h2⟩
theorem rp_kD {K : PySem.W.Frag} {H : Hp} {P : Addr → Prop} (k : Key) : Rp K H P (kV k) (kD k) := by
  cases k with
  | inl i => exact .int i
  | inr x => exact .str x
theorem rpl_kD {K : PySem.W.Frag} {H : Hp} {P : Addr → Prop} : ∀ ks : List Key, RpL K H P (ks.map kV) (ks.map kD)
  | [] => .nil
  | k :: r => .cons (rp_kD k) (rpl_kD r)
/-- a list, a tuple, a text, a dict (its keys) is walked -/
def anyM (ma : Ga → M D) : Ga → M (List D) := fun Γ => ma Γ >>= itemsK
theorem piv_any {cm : Bool} (B : Bd' cm X A E k) (he : PEV X A E .s e ma) : PIV X A E .s tg e (anyM ma) := by
  refine ⟨imp_pi (pi_any he.pe) fun σ H R' ⟨cn, f, Γ, R, h⟩ => ⟨cn, f, Γ, R, M.wp_mono (M.wp_bind.mp h) (fun d q w H1 k1 g1 r1 => ?_) fun _ x => x⟩⟩
  have R1 := R.kx k1 g1
  unfold itemsK at q
  split at q
  · rename_i t kvs
    right
    have r1 : Rp A.K H1 (Fz A cn f Γ) w (.dct t kvs) := r1
    have q : ∀ J H', Kx A.gh.Z H H' → A.gh.G H' → (kvs.map (·.1)).length ≤ sizeLine → ItOk A.K (Fz A cn f Γ) (Fz A cn f Γ) H' J (kvs.map (·.1)) → R' J H' := q
    cases r1 with
    | @dK a ob l _ pa hx rl =>
      refine ⟨a, ob, rfl, .inl ⟨l, hx, fun z => q _ H1 k1 g1 (by rw [List.length_map, ← rl.length]; exact z) fun P' H' ks kp => ?_⟩⟩
      have hx' := ks a _ pa hx
      refine ⟨fun i hi => ⟨hx', by rw [List.length_map, ← rl.length] at hi; exact hi⟩, fun i d x H'' hd y => ?_, hx', by rw [List.length_map, rl.length]; exact Nat.le_refl _⟩
      obtain ⟨e, kk, v, h1, h2⟩ := y
      subst e
      obtain ⟨k', v', h3, h4⟩ := rl.keyAt hd
      rw [h1] at h3
      cases h3
      rw [h4, h2]
      exact ⟨Same.refl _, rp_kD _⟩
    | @dT a ob l _ pa hx rl =>
      refine ⟨a, ob, rfl, .inr ⟨l, hx, fun z => q _ H1 k1 g1 (by rw [List.length_map, ← rl.length]; exact z) fun P' H' ks kp => ?_⟩⟩
      have hx' := ks a _ pa hx
      refine ⟨fun i hi => ⟨hx', by rw [List.length_map, ← rl.length] at hi; exact hi⟩, fun i d x H'' hd y => ?_, hx', by rw [List.length_map, rl.length]; exact Nat.le_refl _⟩
      obtain ⟨e, kk, v, qa, h1, h2, h5⟩ := y
      subst e
      obtain ⟨k', v', h3, h4⟩ := rl.keyAt hd
      rw [h1] at h3
      cases h3
      rw [h4, h2]
      exact ⟨Same.refl _, .tup (.inl h5) (rpl_kD _)⟩
  · left
    obtain ⟨src, ds, e1, q, ew, s, hz⟩ := src_of B.kle (S := Sm .s A cn f Γ) (sm_tup R1) (R.rbm r1) q (ds := [])
    exact ⟨src, ew, s.ok H1 fun _ _ _ e => e, fun z => q _ H1 k1 g1 (hz z) (it_sq (sm_tup R1) sm_fz s)⟩

/-! ### d[k] = v, xs[i] = v -/
theorem ps_sput {td ti tv : TE} {o i value : Expr} (ho : PE X o td) (hi : PE X i ti) (hv : PE X value tv) (hs : swapsWith value (some (.Subscript o i pos')) pos.line X.env = pure false) {t : TS}
    (ht : ∀ Dn σ H, t Dn σ H → tv σ H fun v H1 => td σ H1 fun x H2 => ti σ H2 fun y H3 => ∃ a H4, x = .ref a ∧ (DPut H3 a y v H4 ∧ X.A.units + 1 < cLine ∨ rSetL (.ref a) y v H3 fun H' => H' = H4) ∧ Dn.nx σ H4) :
    PS X (.Assign [.Subscript o i pos'] value pos) t := by
  refine ⟨fun pins s σ H D I h => ?_⟩
  refine wpAny_Assign_Subscript (thn (hv.run pins s σ H _ I (ht D σ H h)) fun r s1 ⟨v, H1, I1, rv, q1⟩ => thn (ho.run pins s1 σ H1 _ I1 q1) fun u s2 ⟨x, H2, I2, rx, q2⟩ => thn (hi.run pins s2 σ H2 _ I2 q2) fun iv s3 ⟨y, H3, I3, ry, a, H4, ex, g, q3⟩ => ?_) hs
  subst ex
  rcases g with ⟨g, hu⟩ | g
  · obtain rfl : u = Value.ref a := rx
    exact d_setItem hu I3 g ry rv fun s4 I4 => ⟨σ, H4, I4, q3⟩
  · refine wpAny_mono (set_list pins s3 σ H3 (.ref a) y v u iv r _ I3 rx ry rv g) (fun _ s4 ⟨H', I4, e⟩ => ?_) fun _ _ x => x
    subst e
    exact ⟨σ, H', I4, q3⟩
def sputG (tt : Bool) (i : Nat) (k v : D) (Γ : Ga) : M (Ct × Ga) := match Γ[i]? with
  | some (.own (.dct t kvs)) => if (isKeyD t k && (decide (kvs.length < 16777216) && (tt || !t))) = true then .ret (.nx, Γ.set i (.own (.dct t (dput t kvs k v)))) else .stuck
  | some (.own (.lst ds)) => match k with
    | .int n => match ixN ds.length n with
      | some j => .ret (.nx, Γ.set i (.own (.lst (ds.set j v))))
      | none => .stuck
    | _ => .stuck
  | _ => .stuck
def sputM (tt : Bool) (i : Nat) (mk mv : Ga → M D) : Ga → M (Ct × Ga) := fun Γ => match Γ[i]? with
  | some (.own _) => mv Γ >>= fun v => mk Γ >>= fun k => sputG tt i k v Γ
  | _ => .stuck
/-- no constant of the module is data -/
def NoC (A : Am) : Prop := ∀ a, A.K.lookup a = none
theorem psv_sput (tt : Bool) (hT : tt = true → NoC A) {cm : Bool} (B : Bd' cm X A E k) (hi : PEV X A E md1 b mb) (hv : PEV X A E .s e mc) (hN : X.N[i]? = some x := by rfl) (hvi : Vis X.env.scope x := by first | exact Or.inl rfl | exact Or.inr (Or.inl rfl) | exact Or.inr (Or.inr rfl))
    (hs : swapsWith e (some (.Subscript (.Name x p) b pos')) pos.line X.env = pure false := by rfl) (hd : (x == ("__debug__" : Str)) = false := by decide) (hcd : (x == ("__classdict__" : Str)) = false := by decide) :
    PSV X A E md (.Assign [.Subscript (.Name x p) b pos'] e pos) (sputM tt i mb mc) := by
  refine ⟨ps_sput (pe_var hN hvi hd hcd) hi.pe hv.pe hs fun Dn σ H ⟨cn, f, Γ, R, h⟩ => ?_⟩
  unfold sputM at h
  split at h
  case h_2 => exact h.elim
  rename_i d0 e0
  have h := M.wp_bind.mp h
  refine ⟨cn, f, Γ, R, M.wp_mono h (fun v q w H1 k1 g1 r1 => ?_) fun _ x => x⟩
  have R1 := R.kx k1 g1
  obtain ⟨hsig, _, _, _⟩ := R.ow i _ e0
  refine ⟨_, hsig, cn, f, Γ, R1, M.wp_mono (M.wp_bind.mp q) (fun kd q w2 H2 k2 g2 r2 => ?_) fun _ x => x⟩
  have R2 := R1.kx k2 g2
  have rv : Rp A.K H2 (Fz A cn f Γ) w v := R1.rpk k2 r1
  have rk := R1.rb r2
  unfold sputG at q
  split at q
  · rename_i t kvs es
    split at q
    · rename_i c
      simp only [Bool.and_eq_true, decide_eq_true_eq] at c
      obtain ⟨ik, hl, ct⟩ := c
      obtain ⟨_, _, _, ow⟩ := R2.ow i _ es
      rcases ow with ⟨rfl, l, hx, rl⟩ | ⟨rfl, l, hx, rl⟩
      · obtain ⟨kk, ek⟩ := Option.isSome_iff_exists.mp (show (keyD kd).isSome = true from ik)
        have ew := rb_key rk ek
        subst ew
        obtain ⟨R3, s3⟩ := R2.put es (o := .dK (putK l kk w)) (d' := .dct false (dput false kvs kd v)) trivial (.inl ⟨rfl, _, upd_same, (rl.put ek rv).mono (R2.ho_put es) fun _ _ p _ => p⟩)
        exact ⟨_, _, rfl, .inl ⟨DPut.k hx (by rw [rl.length, sizeLine_eq]; exact hl), B.u1⟩, q f σ _ ((Hs.kx (k1.trans k2)).trans s3) R3⟩
      · obtain ⟨kk, ek⟩ := Option.isSome_iff_exists.mp (show (ktuD kd).isSome = true from ik)
        obtain ⟨b, rfl, hb⟩ := rb_ktu rk ek
        have ht : tt = true := by
          rcases Bool.or_eq_true_iff.mp ct with z | z
          · exact z
          · cases z
        have hb' : H2 b = some (.tup (kk.map kV)) := by
          rcases hb with z | ⟨o, _, _, z, _⟩
          · exact z
          · rw [hT ht b] at z; cases z
        obtain ⟨R3, s3⟩ := R2.put es (o := .dT (putK l kk w)) (d' := .dct true (dput true kvs kd v)) trivial (.inr ⟨rfl, _, upd_same, (rl.put ek rv).mono (R2.ho_put es) fun _ _ p _ => p⟩)
        exact ⟨_, _, rfl, .inl ⟨DPut.t hx hb' (by rw [rl.length, sizeLine_eq]; exact hl), B.u1⟩, q f σ _ ((Hs.kx (k1.trans k2)).trans s3) R3⟩
    · exact q.elim
  · rename_i ds es
    split at q
    · rename_i n
      split at q
      · rename_i j hj
        obtain ⟨_, _, _, xs, hx, rx⟩ := R2.ow i _ es
        have ew := rb_int rk
        subst ew
        obtain ⟨R3, s3⟩ := R2.putL es (RpL.set rv j rx)
        exact ⟨_, _, rfl, .inr ⟨f i, xs, n, j, rfl, rfl, hx, by rw [rx.length]; exact hj, rfl⟩, q f σ _ ((Hs.kx (k1.trans k2)).trans s3) R3⟩
      · exact q.elim
    · exact q.elim
  · exact q.elim
end
end Px

set_option Elab.async false
set_option linter.all false
set_option maxRecDepth 100000
set_option autoImplicit false
namespace Px
open PySem PySem.Spec PyProof.Rows L2

/-! ### dict comprehensions, keys ints or texts -/
section
variable {K : PySem.W.Frag} {A : Am} {E : EN} {cn : Cn} {f : Nat → Addr} {σ σ' : L2.St} {H H' H1 : Hp} {Γ Γ' : Ga} {a b : Addr} {w : V} {d : D} {md : Md}
def dcOne (bnd : D → Ga → M Ga) (cond : Ga → M Bool) (mk mv : Ga → M D) (Γ : Ga) (d : D) : M (List (D × D)) := (bnd d Γ >>= fun Γ2 => cond Γ2 >>= fun k => if k = true then (mk Γ2 >>= fun y => mv Γ2 >>= fun z => if (keyD y).isSome = true then .ret [(y, z)] else .stuck) else .ret []).noexc
def dputs (acc l : List (D × D)) : List (D × D) := l.foldl (fun a p => dput false a p.1 p.2) acc
def dcGo (one : D → M (List (D × D))) : List D → List (D × D) → M (List (D × D))
  | [], acc => .ret acc
  | d :: r, acc => one d >>= fun l => dcGo one r (dputs acc l)
def dcM (vs : List Nat) (mi : Ga → M (List D)) (bnd : D → Ga → M Ga) (cond : Ga → M Bool) (mk mv : Ga → M D) : Ga → M D := fun Γ =>
  if ownFree vs Γ = true then mi Γ >>= fun ds => dcGo (dcOne bnd cond mk mv (wipeG Γ vs)) ds [] >>= fun es => .ret (.dct false es) else .stuck
theorem tDc_of {vs ts : List Nat} {mi : Ga → M (List D)} {bnd : D → Ga → M Ga} {cond : Ga → M Bool} {mk mv : Ga → M D} {mdk : Md} (hts : ∀ j, j ∈ ts → j ∈ vs) (ht : TameG bnd) {Q : VK} (h : tV K A E .f (dcM vs mi bnd cond mk mv) σ H Q) :
    tDc (tI K A E md mi) (tG K A ts bnd) (tT K A never cond) (tV K A never mdk mk) (tV K A never .s mv) vs σ H Q := by
  obtain ⟨cn, f, Γ, R, h⟩ := h
  unfold dcM at h
  by_cases ho : ownFree vs Γ = true
  · rw [if_pos ho] at h
    refine ⟨cn, f, Γ, R, M.wp_mono (M.wp_bind.mp h) (fun ds q J H1 k1 g1 hz it D hD => ?_) fun _ x => x⟩
    have R1 := R.kx k1 g1
    have hDz : ¬ A.gh.Z D := fun z => by obtain ⟨_, e, _⟩ := A.gh.gz H1 D g1 z; rw [hD] at e; cases e
    have hn := R.kx_none k1 g1 hD
    have st : ∀ {H2 : Hp} {o : HO}, Kx A.gh.Z H1 H2 → A.gh.G H2 → H2 D = some o → Mut (some o) → Rl K A (cn.plus [D]) f (L2.wipe σ vs) H2 (wipeG Γ vs) := fun k g e m =>
      (R1.wipe ho).hide k g fun a ha => by
        have ea : a = D := by simpa using ha
        subst ea
        exact ⟨hD, _, e, m⟩
    have sub : ∀ b, Fz A (cn.plus [D]) f (wipeG Γ vs) b → Fz A cn f Γ b ∧ b ≠ D := fun b p => by
      obtain ⟨p1, p2⟩ := (fz_plus [D]).mp p
      exact ⟨(fz_wipe ho).mp p1, fun z => p2 (by simp [z])⟩
    have sub' : ∀ b, Fz A cn f Γ b → b ≠ D → Fz A (cn.plus [D]) f (wipeG Γ vs) b := fun b p n => (fz_plus [D]).mpr ⟨(fz_wipe ho).mpr p, by simpa using n⟩
    refine ⟨fun i k H2 => ∃ acc es, H2 D = some (.dK acc) ∧ acc.length ≤ i ∧ i ≤ ds.length ∧ k = ds.length - i ∧ RpK K H2 (Fz A (cn.plus [D]) f (wipeG Γ vs)) acc es ∧ Kx A.gh.Z H1 H2 ∧ A.gh.G H2 ∧
      (dcGo (dcOne bnd cond mk mv (wipeG Γ vs)) (ds.drop i) es).wp (fun es' => ∀ w H', Kx A.gh.Z H H' → A.gh.G H' → Rq .f K H H' (Fz A cn f Γ) (nZ A) w (.dct false es') → Q w H') (xP A E cn),
      ⟨ds.length, [], [], upd_same, Nat.le_refl _, Nat.zero_le _, rfl, .nil, Kx.upd hD, A.gh.same g1 (same_new hD), M.wp_mono (M.wp_bind.mp q) (fun es' q => q) fun _ x => x⟩, ?_⟩
    rintro i k H2 ⟨acc, es, hacc, hal, hi, rfl, rl, k2, g2, q⟩
    have R2 := st k2 g2 hacc trivial
    obtain ⟨go, yl, stop⟩ := it (Fz A (cn.plus [D]) f (wipeG Γ vs)) H2 (fun a u p e => k2 a u (by cases md with | b => exact p | s => exact Fz.nz p | f => exact Fz.nz p) e) (fun a u p e => sub' a p fun z => by rw [z, hD] at e; cases e)
    by_cases hlt : i < ds.length
    · rw [List.drop_eq_getElem_cons hlt] at q
      have q := M.wp_bind.mp q
      refine .inr ⟨go i hlt, fun H3 => ∃ acc es, H3 D = some (.dK acc) ∧ acc.length ≤ i + 1 ∧ RpK K H3 (Fz A (cn.plus [D]) f (wipeG Γ vs)) acc es ∧ Kx A.gh.Z H1 H3 ∧ A.gh.G H3 ∧
        (dcGo (dcOne bnd cond mk mv (wipeG Γ vs)) (ds.drop (i + 1)) es).wp (fun es' => ∀ w H', Kx A.gh.Z H H' → A.gh.G H' → Rq .f K H H' (Fz A cn f Γ) (nZ A) w (.dct false es') → Q w H') (xP A E cn),
        fun H3 ⟨acc, es, a1, a2, a3, a4, a5, a6⟩ => ⟨ds.length - (i + 1), by omega, acc, es, a1, a2, hlt, rfl, a3, a4, a5, a6⟩, fun x H3 y => ?_⟩
      obtain ⟨sm, rx⟩ := yl i _ x H3 (List.getElem?_eq_getElem hlt) y
      have kk3 : Kx A.gh.Z H2 H3 := same_kx sm
      have g3 := A.gh.same g2 sm
      have R3 := R2.kx kk3 g3
      have q := M.wp_bind.mp (M.wp_noexc q)
      refine ⟨cn.plus [D], f, wipeG Γ vs, _, R3, rx, M.wp_mono q (fun Γ2 q σ2 s2 R4 ag => ⟨wipe_ag hts ag, ?_⟩) fun _ x => x⟩
      have back : ∀ b, Fz A (cn.plus [D]) f Γ2 b → Fz A (cn.plus [D]) f (wipeG Γ vs) b := fun b p => ⟨p.1, p.2.1, fun j d e => p.2.2 j d (by
        rw [ag.2.2 j fun z => (wipeG_get e (by simp)).2 (hts j z)]; exact e)⟩
      refine ⟨cn.plus [D], f, Γ2, R4, M.wp_mono (M.wp_bind.mp q) (fun b q H4 k4 g4 => ?_) fun _ x => x.elim⟩
      have hD4 : H4 D = some (.dK acc) := k4 _ _ hDz (kk3 _ _ hDz hacc)
      have k24 : Kx A.gh.Z H2 H4 := kk3.trans k4
      cases b with
      | true =>
        refine if_pos rfl |>.mpr ⟨cn.plus [D], f, Γ2, R4.kx k4 g4, M.wp_mono (M.wp_bind.mp q) (fun yk q y H5 k5 g5 r5 => ?_) fun _ x => x.elim⟩
        have R5 := (R4.kx k4 g4).kx k5 g5
        refine ⟨cn.plus [D], f, Γ2, R5, M.wp_mono (M.wp_bind.mp q) (fun zv q z H6 k6 g6 r6 => ?_) fun _ x => x.elim⟩
        split at q
        · rename_i ik
          obtain ⟨kk, ek⟩ := Option.isSome_iff_exists.mp ik
          have ey : y = kV kk := rb_key ((R4.kx k4 g4).rb r5) ek
          have hD6 : H6 D = some (.dK acc) := k6 _ _ hDz (k5 _ _ hDz hD4)
          have k26 : Kx A.gh.Z H2 H6 := (k24.trans k5).trans k6
          have o6 : Ho (Fz A (cn.plus [D]) f (wipeG Γ vs)) H6 (upd H6 D (.dK (putK acc kk z))) := ⟨fun a u p r => by
            rw [upd_ne (sub a p).2]; exact r, fun a xs r => by
            have ne : a ≠ D := fun zz => by
              rw [zz] at r
              exact mut_not_frz hD6 trivial r
            rw [upd_ne ne]; exact r⟩
          refine ⟨acc, kk, ey, hD6, by have := hal; omega, putK acc kk z, dput false es yk zv, upd_same, by have := length_putK acc kk z; omega, ?_, ?_, ?_, ?_⟩
          · refine RpK.mono o6 (fun _ _ p _ => p) (RpK.put (rl.mono (R2.ho k26) fun _ _ p _ => p) ek ?_)
            exact Rp.mono .refl (fun b _ p _ => back b p) r6
          · intro a u zz e
            have ne : a ≠ D := fun z2 => by rw [z2, hD] at e; cases e
            rw [upd_ne ne]
            exact (k2.trans k26) a u zz e
          · exact A.gh.gk H6 _ g6 (fun a zz => upd_ne fun z2 => hDz (z2 ▸ zz)) (ext_upd hD6 fun _ z => by cases z)
          · exact q
        · exact q.elim
      | false =>
        refine if_neg Bool.false_ne_true |>.mpr ⟨acc, es, hD4, by omega, rl.mono (R2.ho k24) fun _ _ p _ => p, k2.trans k24, g4, ?_⟩
        exact q
    · have e : i = ds.length := by omega
      subst e
      rw [List.drop_length] at q
      exact .inl ⟨stop, q _ H2 (k1.trans k2) g2 ⟨D, rfl, hn, .inl ⟨rfl, acc, hacc, rl.mono .refl fun b _ p _ => sub b p⟩⟩⟩
  · rw [if_neg ho] at h; exact h.elim
end
section
variable {X : Cx} {A : Am} {E : EN} {k : Nat} {md md1 md2 : Md} {e a b c tg : Expr} {es rest : List Expr} {st : Stmt} {sts st2 : List Stmt} {m ma mb mc : Ga → M D} {mi : Ga → M (List D)} {mT mU : Ga → M Bool} {ml : Ga → M (List D)} {m1 m2 : Ga → M (Ct × Ga)} {pos p : Pos} {x : Str}
theorem pev_dc {kx vx iter : Expr} {ifs : List Expr} {scope : Scope} {own : List (Str × Nat)} {ts : List Nat} {bnd : D → Ga → M Ga} {cond : Ga → M Bool} {mk mv : Ga → M D} (B : Bd X A E k) (hi : PIV X A E md tg iter mi) (ok : BlkOk X.N X.env.scope scope own)
    (hg : ∀ (s : Shared) (H : Hp) (C : Addr) (cl : List (Str × Addr)) (fp : List Addr), PGV (X.blk s H scope (compEnvC scope cl C X.env) fp) A tg ts bnd) (tb : TameG bnd) (hts : ∀ j, j ∈ ts → j ∈ own.map (·.2))
    (hc : ∀ (s : Shared) (H : Hp) (C : Addr) (cl : List (Str × Addr)) (fp : List Addr), PTsV (X.blk s H scope (compEnvC scope cl C X.env) fp) A never ifs cond)
    (hk : ∀ (s : Shared) (H : Hp) (C : Addr) (cl : List (Str × Addr)) (fp : List Addr), PEV (X.blk s H scope (compEnvC scope cl C X.env) fp) A never md2 kx mk)
    (he : ∀ (s : Shared) (H : Hp) (C : Addr) (cl : List (Str × Addr)) (fp : List Addr), PEV (X.blk s H scope (compEnvC scope cl C X.env) fp) A never .s vx mv) (hs : ∀ x, foldedSetIterable iter X.env x = pure x := by intro _; rfl) :
    PEV X A E .f (.DictComp kx vx [⟨tg, iter, ifs, 0⟩] scope pos) (dcM (own.map (·.2)) mi bnd cond mk mv) :=
  ⟨imp_pe (pe_dc B.calm B.nd hi.pi ok (fun s H C cl fp => (hg s H C cl fp).pg) (fun s H C cl fp => (hc s H C cl fp).pts) (fun s H C cl fp => (hk s H C cl fp).pe) (fun s H C cl fp => (he s H C cl fp).pe) hs) fun _ _ _ h => tDc_of hts tb h⟩
theorem ps_setDc {i : Nat} {y : Str} {py : Pos} {kx vx tg iter : Expr} {ifs : List Expr} {scope : Scope} {own : List (Str × Nat)} {pos spos : Pos} {wi : TI} {g : TG} {tt : TT} {tk tv : TE} (hc : X.calm = true) (hN : X.N.Nodup) (hy : X.N[i]? = some y) (hyl : X.env.scope.names.lookup y = some .local)
    (hsw : swapsWith (.DictComp kx vx [⟨tg, iter, ifs, 0⟩] scope pos) (some (.Name y py)) spos.line X.env = pure true) (hi : PI X tg iter wi) (ok : BlkOk X.N X.env.scope scope own)
    (hg : ∀ (s : Shared) (H : Hp) (C : Addr) (cl : List (Str × Addr)) (fp : List Addr), PG (X.blk s H scope (compEnvC scope cl C X.env) fp) tg g) (ht : ∀ (s : Shared) (H : Hp) (C : Addr) (cl : List (Str × Addr)) (fp : List Addr), PTs (X.blk s H scope (compEnvC scope cl C X.env) fp) ifs tt)
    (hk : ∀ (s : Shared) (H : Hp) (C : Addr) (cl : List (Str × Addr)) (fp : List Addr), PE (X.blk s H scope (compEnvC scope cl C X.env) fp) kx tk)
    (he : ∀ (s : Shared) (H : Hp) (C : Addr) (cl : List (Str × Addr)) (fp : List Addr), PE (X.blk s H scope (compEnvC scope cl C X.env) fp) vx tv) (hs : ∀ x, foldedSetIterable iter X.env x = pure x := by intro _; rfl) :
    PS X (.Assign [.Name y py] (.DictComp kx vx [⟨tg, iter, ifs, 0⟩] scope pos) spos) (tAsg (tDc wi g tt tk tv (own.map (·.2))) (gName i)) := by
  refine ⟨fun pins s σ H D I h => ?_⟩
  rw [exec_Assign_Name_used _ _ _ _ hsw]
  refine wpAny_bind (wpAny_standAt (wpAny_bind ?_))
  show wpAny _ X.A (do let _ ← comprehension (.DictComp kx vx [⟨tg, iter, ifs, 0⟩] scope pos) scope X.env (firstIterPos [⟨tg, iter, ifs, 0⟩] pos) newDict false (eval iter X.env) (some (assign (.Name y py) X.env))) _ _ s
  have h : tDc wi g tt tk tv (own.map (·.2)) σ H (fun x H1 => gName i x σ H1 D.nx) := h
  refine wpAny_bind (thn (dc_core (Qf := fun _ s' => SP X pins D .next s') hc hN I hi ok hg ht hk he hs h fun L C s' m H' I' q hn f => ?_) fun _ s' hq => wpAny_pure (wpAny_pure hq))
  show wpAny _ _ (assign (.Name y py) X.env (.ref L)) _ _ _
  refine wpAny_assign_Name (store_ok2 (v := V.ref L) I' hN hy (.inl hyl) rfl (fun s2 I2 ⟨a, sb, ha⟩ => ?_) (.inr hyl))
  obtain ⟨f0, f1, f2, f3, f4, f5⟩ := f
  have haC : C ≠ a := by
    rcases ha with z | z
    · rw [z]; exact f1
    · exact fun e => f4 y a z e.symm
  refine ⟨m, hn.sameBut sb haC, fun h3 sb3 => ?_⟩
  exact ⟨_, H', I2.turned (t' := s2.toks) (fun b o hb e => (sb3.2 b hb).trans e) f0 f1 f3 f4 f5, q⟩
theorem sw_trueD {kx vx : Expr} {gs : List Comprehension} {scope : Scope} {pos py : Pos} {y : Str} {l : Nat} {env : Env} (hk : env.scope.kind = .function) (hy : env.scope.names.lookup y = some .local) (hl : (py.line == pos.line) = true)
    (ha : (scope.names.any fun (n, k) => n == y && (k == .local || k == .cell)) = false) : swapsWith (.DictComp kx vx gs scope pos) (some (.Name y py)) l env = pure true := by
  have ky : env.kindOf y = some .local := hy
  have hb : env.blockKind = .function := by unfold Env.blockKind; rw [hk]; rfl
  unfold swapsWith
  simp only [hb, ky, ha, Expr.pos, hl]
  rfl
theorem psv_setDc {i : Nat} {y : Str} {py : Pos} {spos : Pos} {kx vx iter : Expr} {ifs : List Expr} {scope : Scope} {own : List (Str × Nat)} {ts : List Nat} {bnd : D → Ga → M Ga} {cond : Ga → M Bool} {mk mv : Ga → M D} (B : Bd X A E k) (hy : X.N[i]? = some y) (hyl : X.env.scope.names.lookup y = some .local)
    (hsw : swapsWith (.DictComp kx vx [⟨tg, iter, ifs, 0⟩] scope pos) (some (.Name y py)) spos.line X.env = pure true) (hi : PIV X A E md1 tg iter mi) (ok : BlkOk X.N X.env.scope scope own)
    (hg : ∀ (s : Shared) (H : Hp) (C : Addr) (cl : List (Str × Addr)) (fp : List Addr), PGV (X.blk s H scope (compEnvC scope cl C X.env) fp) A tg ts bnd) (tb : TameG bnd) (hts : ∀ j, j ∈ ts → j ∈ own.map (·.2))
    (hc : ∀ (s : Shared) (H : Hp) (C : Addr) (cl : List (Str × Addr)) (fp : List Addr), PTsV (X.blk s H scope (compEnvC scope cl C X.env) fp) A never ifs cond)
    (hk : ∀ (s : Shared) (H : Hp) (C : Addr) (cl : List (Str × Addr)) (fp : List Addr), PEV (X.blk s H scope (compEnvC scope cl C X.env) fp) A never md2 kx mk)
    (he : ∀ (s : Shared) (H : Hp) (C : Addr) (cl : List (Str × Addr)) (fp : List Addr), PEV (X.blk s H scope (compEnvC scope cl C X.env) fp) A never .s vx mv) (hs : ∀ x, foldedSetIterable iter X.env x = pure x := by intro _; rfl) :
    PSV X A E md (.Assign [.Name y py] (.DictComp kx vx [⟨tg, iter, ifs, 0⟩] scope pos) spos) (setM i (dcM (own.map (·.2)) mi bnd cond mk mv)) := by
  refine ⟨imp_ps (ps_setDc B.calm B.nd hy hyl hsw hi.pi ok (fun s H C cl fp => (hg s H C cl fp).pg) (fun s H C cl fp => (hc s H C cl fp).pts) (fun s H C cl fp => (hk s H C cl fp).pe) (fun s H C cl fp => (he s H C cl fp).pe) hs) fun Dn σ H ⟨cn, f, Γ, R, h⟩ => ?_⟩
  refine tDc_of hts tb ⟨cn, f, Γ, R, M.wp_mono (M.wp_bind.mp h) (fun d q w H1 k1 g1 r1 => ?_) fun _ x => x⟩
  obtain ⟨f', R', s'⟩ := R.setF k1 g1 (i := i) r1
  exact q f' _ H1 s' R'
end
end Px

set_option Elab.async false
set_option linter.all false
set_option maxRecDepth 100000
set_option autoImplicit false
namespace Px
open PySem PySem.Spec PyProof.Rows L2

/-! ### short words for the printed terms -/
theorem bt_len : bootBuiltins "len" = some (.builtin "len") := by decide +kernel
theorem bt_isinstance : bootBuiltins "isinstance" = some (.builtin "isinstance") := by decide +kernel
theorem bt_sum : bootBuiltins "sum" = some (.builtin "sum") := by decide +kernel
theorem bt_min : bootBuiltins "min" = some (.builtin "min") := by decide +kernel
theorem bt_max : bootBuiltins "max" = some (.builtin "max") := by decide +kernel
theorem bt_all : bootBuiltins "all" = some (.builtin "all") := by decide +kernel
theorem bt_any : bootBuiltins "any" = some (.builtin "any") := by decide +kernel
theorem bt_abs : bootBuiltins "abs" = some (.builtin "abs") := by decide +kernel
theorem bt_repr : bootBuiltins "repr" = some (.builtin "repr") := by decide +kernel
theorem bt_sorted : bootBuiltins "sorted" = some (.builtin "sorted") := by decide +kernel
theorem bt_int : bootBuiltins "int" = some (.type "int") := by decide +kernel
theorem bt_bool : bootBuiltins "bool" = some (.type "bool") := by decide +kernel
theorem bt_str : bootBuiltins "str" = some (.type "str") := by decide +kernel
theorem bt_tuple : bootBuiltins "tuple" = some (.type "tuple") := by decide +kernel
theorem bt_list : bootBuiltins "list" = some (.type "list") := by decide +kernel
theorem bt_dict : bootBuiltins "dict" = some (.type "dict") := by decide +kernel
theorem bt_set : bootBuiltins "set" = some (.type "set") := by decide +kernel
/-- no constant of the module is data -/
def K0 : PySem.W.Frag := []
theorem k0_le {K : PySem.W.Frag} : KLe K0 K := fun _ _ h => nomatch h
section
variable {X : Cx} {A : Am} {E : EN} {k : Nat} {md md1 md2 : Md} {e a b c : Expr} {es : List Expr} {m ma mb mc : Ga → M D} {ml : Ga → M (List D)} {mi : Ga → M (List D)} {pos p p1 p2 p3 : Pos} {x : Str} {tg : Expr}
def cI (i : Int) : Ga → M D := fun _ => .ret (.int i)
def cB (i : Bool) : Ga → M D := fun _ => .ret (.bl i)
def cS (i : Str) : Ga → M D := fun _ => .ret (.str i)
def cN : Ga → M D := fun _ => .ret .non
def cTy (T : String) : Ga → M D := fun _ => .ret (.raw (.ty T))
def kb (m : Ga → M D) : Ga → M D := fun Γ => m Γ >>= keepB
theorem e_int {i : Int} {j} : PEV X A E .f (.Constant (.int i) j pos) (cI i) := pev_int
theorem e_bl {i : Bool} {j} : PEV X A E .f (.Constant (.bool i) j pos) (cB i) := pev_bl
theorem e_str {i : Str} {j} : PEV X A E .f (.Constant (.str i) j pos) (cS i) := pev_str
theorem e_non {j} : PEV X A E .f (.Constant .none j pos) cN := pev_non
/-- a number of the module -/
theorem g_int {i : Int} {t : Tok} (hm : X.mg x = some (.int i t)) (hg : Gl X x := by rfl) (hd : (x == ("__debug__" : Str)) = false := by decide) : PEV X A E .f (.Name x pos) (cI i) := pev_glob (v := .int i) hg hm ⟨t, rfl⟩ (fun _ _ _ => .int i) hd
theorem g_str {i : Str} {t : Tok} (hm : X.mg x = some (.str i t)) (hg : Gl X x := by rfl) (hd : (x == ("__debug__" : Str)) = false := by decide) : PEV X A E .f (.Name x pos) (cS i) := pev_glob (v := .str i) hg hm ⟨t, rfl⟩ (fun _ _ _ => .str i) hd
theorem f_s (h : PEV X A E .s e m) : PEV X A E .f e (kb m) := pev_sf h
theorem f_b (h : PEV X A E .b e m) : PEV X A E .f e (kb (kb m)) := pev_sf (pev_bs h)
theorem s_b (h : PEV X A E .b e m) : PEV X A E .s e (kb m) := pev_bs h
theorem s_f (h : PEV X A E .f e m) : PEV X A E .s e m := pev_fs h
theorem b_s (h : PEV X A E .s e m) : PEV X A E .b e m := pev_sb h
theorem b_f (h : PEV X A E .f e m) : PEV X A E .b e m := pev_fb h
/-- int * int, list * int -/
def mulU (x y : D) : M D := match x with
  | .lst ds => repD (.lst ds) y
  | x => mulD x y
theorem tame_mulU (x y : D) : Tame (mulU x y) := by
  unfold mulU
  split
  · exact tame_rep _ _
  · exact tame_mul _ _
theorem o_mulU : OpR X (binaryOp .Mult) (rD A.K mulU) := by
  intro pins s σ H x y v u Q I rx ry ⟨P, W, d, e, r1, r2, h⟩
  unfold mulU at h
  split at h
  · exact o_rep pins s σ H x y v u Q I rx ry ⟨P, W, _, e, r1, r2, h⟩
  · exact o_mul pins s σ H x y v u Q I rx ry ⟨P, W, d, e, r1, r2, h⟩
def rgM (ml : Ga → M (List D)) : Ga → M (List D) := fun Γ => ml Γ >>= rangeD
theorem i_range1 (hm : X.mg "range" = none) (ha : PAVL X A E .b [a] ml) (hg : Gl X "range" := by rfl) (hs : starEach [a] X.env = [(false, eval a X.env)] := by rfl) : PIV X A E .s tg (.Call (.Name "range" p) [a] [] pos) (rgM ml) := piv_range1 hg hm ha hs
theorem i_range2 (hm : X.mg "range" = none) (ha : PAVL X A E .b [a, b] ml) (hg : Gl X "range" := by rfl) (hs : starEach [a, b] X.env = [(false, eval a X.env), (false, eval b X.env)] := by rfl) (hs2 : starEach [b] X.env = [(false, eval b X.env)] := by rfl) : PIV X A E .s tg (.Call (.Name "range" p) [a, b] [] pos) (rgM ml) := piv_range2 hg hm ha hs hs2
/-- a built-in function, a built-in class called -/
theorem e_bi {id : String} {g : List D → M D} (hm : X.mg x = none) (hv : bootBuiltins x = some (.builtin id)) (hc : CallR X (.builtin id) (cD A.K g)) (tm : ∀ ds, Tame (g ds)) (ha : PAVL X A E .b (e :: es) ml) (hg : Gl X x := by rfl) (hn : x ≠ "__name__" := by decide) (hdb : (x == ("__debug__" : Str)) = false := by decide)
    (he : starEach (e :: es) X.env = (false, eval e X.env) :: starEach es X.env := by rfl) (hpl : (backTo pos (starEach es X.env)).any (·.1) = false := by rfl) : PEV X A E .f (.Call (.Name x p) (e :: es) [] pos) (callV ml g) := pev_bi hc tm hg hm hv ha hn hdb he hpl
theorem e_ty {T : String} {g : List D → M D} (hm : X.mg x = none) (hv : bootBuiltins x = some (.type T)) (hc : CallR X (.type T) (cD A.K g)) (tm : ∀ ds, Tame (g ds)) (ha : PAVL X A E .b (e :: es) ml) (hg : Gl X x := by rfl) (hn : x ≠ "__name__" := by decide) (hdb : (x == ("__debug__" : Str)) = false := by decide)
    (he : starEach (e :: es) X.env = (false, eval e X.env) :: starEach es X.env := by rfl) (hpl : (backTo pos (starEach es X.env)).any (·.1) = false := by rfl) : PEV X A E .f (.Call (.Name x p) (e :: es) [] pos) (callV ml g) := pev_ty hc tm hg hm hv ha hn hdb he hpl
/-- a def of the text called -/
theorem e_call {f : Addr} {fd : FuncData} {ps : List Str} {F : List D → M D} {qual : Str} {st : Stmt} {x' : Str} (B : Bd X A E k) (hF : FnG X.prog X.w X.K X.mg X.base (L2.CX X.prog X.w) k f fd ps (spM A.K X.mg A.gh md F)) (hm : X.mg x = some (.ref f)) (hk : Fun X.K x' qual st f fd)
    (hb : Binds X.K fd ps []) (ha : PAVL X A E .s (e :: es) ml) (hg : Gl X x := by rfl) (hdb : (x == ("__debug__" : Str)) = false := by decide) (he : starEach (e :: es) X.env = (false, eval e X.env) :: starEach es X.env := by rfl) (hpl : (backTo pos (starEach es X.env)).any (·.1) = false := by rfl) :
    PEV X A E md (.Call (.Name x p) (e :: es) [] pos) (callV ml F) := pev_call hF B.hr B.gd hg hm hk.kp hb B.hx ha hdb he hpl
theorem e_callB {f : Addr} {fd : FuncData} {ps : List Str} {F : List D → M D} {qual : Str} {st : Stmt} {x' : Str} (hmd : md = .f ∨ md = .s) (B : Bd X A E k) (hF : FnG X.prog X.w X.K X.mg X.base (L2.CX X.prog X.w) k f fd ps (spM A.K X.mg A.gh md F)) (hm : X.mg x = some (.ref f)) (hk : Fun X.K x' qual st f fd)
    (hb : Binds X.K fd ps []) (ha : PAVL X A E .b (e :: es) ml) (hg : Gl X x := by rfl) (hdb : (x == ("__debug__" : Str)) = false := by decide) (he : starEach (e :: es) X.env = (false, eval e X.env) :: starEach es X.env := by rfl) (hpl : (backTo pos (starEach es X.env)).any (·.1) = false := by rfl) :
    PEV X A E md (.Call (.Name x p) (e :: es) [] pos) (callB md ml F) := pev_callB hF hmd B.hr B.gd hg hm hk.kp hb B.hx ha hdb he hpl
theorem e_call0 {f : Addr} {fd : FuncData} {ps : List Str} {F : List D → M D} {qual : Str} {st : Stmt} {x' : Str} (B : Bd X A E k) (hF : FnG X.prog X.w X.K X.mg X.base (L2.CX X.prog X.w) k f fd ps (spM A.K X.mg A.gh md F)) (hm : X.mg x = some (.ref f)) (hk : Fun X.K x' qual st f fd)
    (hb : Binds X.K fd ps []) (hg : Gl X x := by rfl) (hdb : (x == ("__debug__" : Str)) = false := by decide) : PEV X A E md (.Call (.Name x p) [] [] pos) (callV nilL F) := pev_call0 hF B.hr B.gd hg hm hk.kp hb B.hx hdb
theorem e_cls {T : String} (hm : X.mg x = none) (hv : bootBuiltins x = some (.type T)) (hg : Gl X x := by rfl) (hn : x ≠ "__name__" := by decide) (hd : (x == ("__debug__" : Str)) = false := by decide) : PEV X A E .b (.Name x pos) (cTy T) := pev_cls hg hm hv hn hd
end
end Px

set_option Elab.async false
set_option linter.all false
set_option maxRecDepth 100000
set_option autoImplicit false
namespace Px
open PySem PySem.Spec PyProof.Rows L2

/-! ### a display of a dict with tuple keys -/
section
variable {X : Cx} {A : Am} {E : EN} {k : Nat} {md md1 md2 : Md} {e a b c : Expr} {es : List Expr} {m ma mb mc : Ga → M D} {m1 : Ga → M (Ct × Ga)} {ml : Ga → M (List D)} {mi : Ga → M (List D)} {pos p p1 p2 p3 : Pos} {x : Str} {tg : Expr}
def fzM (i : Nat) (m : Ga → M (Ct × Ga)) : Ga → M (Ct × Ga) := fun Γ => m (fz i Γ)
abbrev MP := List ((Ga → M D) × (Ga → M D))
def evPs : MP → Ga → M (List (D × D))
  | [], _ => .ret []
  | (mk, mv) :: r, Γ => mk Γ >>= fun x => mv Γ >>= fun y => evPs r Γ >>= fun l => .ret ((x, y) :: l)
def trsOf (A : Am) (E : EN) (mps : MP) : List (TE × TE) := mps.map fun p => (tV A.K A E .s p.1, tV A.K A E .s p.2)
structure PPV (X : Cx) (A : Am) (E : EN) (pos : Pos) (keys : List (Option Expr)) (values : List Expr) (mps : MP) : Prop where
  pp : PPs X pos keys values (trsOf A E mps)
  len : mps.length = keys.length
theorem ppv_nil : PPV X A E pos [] [] [] := ⟨pps_nil, rfl⟩
theorem ppv_cons {kx vx : Expr} {ks : List (Option Expr)} {vs : List Expr} {mk mv : Ga → M D} {mps : MP} (h1 : PEV X A E .s kx mk) (h2 : PEV X A E .s vx mv) (h3 : PPV X A E pos ks vs mps) : PPV X A E pos (some kx :: ks) (vx :: vs) ((mk, mv) :: mps) :=
  ⟨pps_cons h1.pe h2.pe h3.pp, by rw [List.length_cons, List.length_cons, h3.len]⟩
inductive RpP (K : PySem.W.Frag) (H : Hp) (P : Addr → Prop) : List (V × V) → List (D × D) → Prop
  | nil : RpP K H P [] []
  | cons {x y : V} {d e : D} {vs : List (V × V)} {ds : List (D × D)} : Rp K H P x d → Rp K H P y e → RpP K H P vs ds → RpP K H P ((x, y) :: vs) ((d, e) :: ds)
theorem RpP.length {K : PySem.W.Frag} {H : Hp} {P : Addr → Prop} : ∀ {vs : List (V × V)} {ds : List (D × D)}, RpP K H P vs ds → vs.length = ds.length
  | _, _, .nil => rfl
  | _, _, .cons _ _ r => congrArg (· + 1) r.length
theorem pairs_run {cn : Cn} {f : Nat → Addr} {Γ : Ga} : ∀ (mps : MP) {σ : L2.St} {H : Hp} {Q : List (V × V) → Hp → Prop}, Rl A.K A cn f σ H Γ →
    (evPs mps Γ).wp (fun ps => ∀ vs H', Kx A.gh.Z H H' → A.gh.G H' → RpP A.K H' (Fz A cn f Γ) vs ps → Q vs H') (xP A E cn) → tPairs (trsOf A E mps) σ H Q
  | [], σ, H, Q, R, h => h [] H .refl R.g .nil
  | (mk, mv) :: r, σ, H, Q, R, h => by
    refine ⟨cn, f, Γ, R, M.wp_mono (M.wp_bind.mp h) (fun d q w H1 k1 g1 r1 => ?_) fun _ x => x⟩
    have R1 := R.kx k1 g1
    refine ⟨cn, f, Γ, R1, M.wp_mono (M.wp_bind.mp q) (fun e q w2 H2 k2 g2 r2 => ?_) fun _ x => x⟩
    have R2 := R1.kx k2 g2
    refine pairs_run r R2 (M.wp_mono (M.wp_bind.mp q) (fun l q vs H3 k3 g3 r3 => ?_) fun _ x => x)
    exact q _ H3 ((k1.trans k2).trans k3) g3 (.cons (R2.rpk k3 (R1.rpk k2 r1)) (R2.rpk k3 r2) r3)
def dputsT (acc l : List (D × D)) : List (D × D) := l.foldl (fun a p => dput true a p.1 p.2) acc
def dispT (mps : MP) : Ga → M D := fun Γ => evPs mps Γ >>= fun l => if ((l.all fun p => (ktuD p.1).isSome) && decide (l.length ≤ 15)) = true then .ret (.dct true (dputsT [] l)) else .stuck
def putsT (acc : List (List Key × V)) (l : List (List Key × V)) : List (List Key × V) := l.foldl (fun a p => putK a p.1 p.2) acc
theorem dputsT_rp {K : PySem.W.Frag} {H : Hp} {P : Addr → Prop} : ∀ {l : List (D × D)} {vs : List (V × V)} {acc : List (List Key × V)} {da : List (D × D)}, RpP K H P vs l → (l.all fun p => (ktuD p.1).isSome) = true → RpT K H P acc da →
    ∃ ks : List (List Key × V), Paired (fun (p : V × V) (q : List Key × V) => (∃ b, p.1 = .ref b ∧ TpX K H b (q.1.map kV)) ∧ p.2 = q.2) vs ks ∧ RpT K H P (putsT acc ks) (dputsT da l)
  | _, _, acc, da, .nil, _, r => ⟨[], .nil, r⟩
  | (d, e) :: l, _, acc, da, .cons (x := x) (y := y) h1 h2 h3, ha, r => by
    rw [List.all_cons, Bool.and_eq_true] at ha
    obtain ⟨kk, ek⟩ := Option.isSome_iff_exists.mp ha.1
    obtain ⟨b, eb, hb⟩ := rb_ktu (W := P) (h1.rb fun _ p => p) ek
    obtain ⟨ks, p, q⟩ := dputsT_rp h3 ha.2 (r.put ek h2)
    exact ⟨(kk, y) :: ks, .cons ⟨⟨b, eb, hb⟩, rfl⟩ p, q⟩
theorem storedAllT {H : Hp} : ∀ {ks : List (List Key × V)} {ps : List (List Key × Addr × Value)} {acc : List (List Key × V)} {xs : List (List Key × Addr × Value)}, KT H ks ps → KT H acc xs → KT H (putsT acc ks) (storedAllH xs ps)
  | _, _, acc, xs, .nil, r => r
  | k :: ks, (kk, ad, u) :: ps, acc, xs, .cons h t, r => by
    obtain ⟨e1, hb, rv⟩ := h
    cases e1
    exact storedAllT (ks := ks) (ps := ps) t (r.put _ hb rv)
theorem putsT_len : ∀ (ks acc : List (List Key × V)), (putsT acc ks).length ≤ acc.length + ks.length
  | [], acc => Nat.le_refl _
  | k :: r, acc => by
    have h1 := putsT_len r (putK acc k.1 k.2)
    have h2 := length_putK acc k.1 k.2
    show (putsT (putK acc k.1 k.2) r).length ≤ _
    rw [List.length_cons]; omega
theorem carries_tup {P : Program} {w : World} {K : PySem.W.Frag} {H : Hp} {h : Heap} (ok : HOk P w H h) (hT : ∀ a, K.lookup a = none) : ∀ {vs : List (V × V)} {ws : List (Value × Value)} {ks : List (List Key × V)},
    Paired (fun (p : V × V) (q : List Key × V) => (∃ b, p.1 = .ref b ∧ TpX K H b (q.1.map kV)) ∧ p.2 = q.2) vs ks → VV vs ws → ∃ ps, CarriesH (tupleKind (mixKind P w)) h ws ps ∧ KT H ks ps
  | _, _, _, .nil, .nil => ⟨[], True.intro, .nil⟩
  | (x, y) :: _, (u, v) :: _, (kk, y') :: _, .cons h1 t1, .cons h2 t2 => by
    obtain ⟨⟨b, eb, hb⟩, ey⟩ := h1
    obtain ⟨r1, r2⟩ := h2
    obtain ⟨ps, c, q⟩ := carries_tup ok hT t1 t2
    have hb' : H b = some (.tup (kk.map kV)) := by
      rcases hb with z | ⟨o, _, _, z, _⟩
      · exact z
      · rw [hT b] at z; cases z
    have eb : x = .ref b := eb
    have ey : y = y' := ey
    subst eb ey
    have eu : u = Value.ref b := r1
    subst eu
    exact ⟨(kk, b, v) :: ps, ⟨rfl, rfl, key_of ok hb', c⟩, .cons ⟨rfl, hb', r2⟩ q⟩
/-- {k: v, ..}, the keys tuples -/
theorem pev_dispT {keys : List (Option Expr)} {values : List Expr} {mps : MP} (hT : NoC A) {cm : Bool} (B : Bd' cm X A E k) (h : PPV X A E pos keys values mps) (hall : keys.all (·.isSome) = true := by rfl) (hl : keys.length = values.length := by rfl) (h0 : keys ≠ [] := by (intro z; cases z)) (h15 : keys.length ≤ 15 := by decide) :
    PEV X A E .f (.Dict keys values pos) (dispT mps) := by
  refine ⟨⟨fun pins s σ H Q I ⟨cn, f, Γ, R, q⟩ => ?_⟩⟩
  have hn := I.hok.fresh (Nat.le_refl s.heap.objs.size)
  have I1 := I.laid (a := s.heap.objs.size) (o := .dT []) (h' := s.heap.push { cls := .type "dict", data := .dict #[] }) (t' := s.toks) (fun _ _ q => Heap.get?_push_of_some _ q) (Nat.le_refl _) (dt_empty s.heap I.big)
  have sm := same_new (o := .dT []) hn
  have R1 : Rl A.K A (cn.plus [s.heap.objs.size]) f σ (upd H s.heap.objs.size (.dT [])) Γ := R.hide (same_kx sm) (A.gh.same R.g sm) fun a ha => by
    have e : a = s.heap.objs.size := by simpa using ha
    subst e
    exact ⟨hn, _, upd_same, trivial⟩
  have hp := pairTrees_length keys values X.env pos hall hl
  have hz : ¬ A.gh.Z s.heap.objs.size := A.nz0 (R.h0_none hn)
  have t1 := pairs_run mps (Q := fun vs H2 => ∃ ps, Kx A.gh.Z (upd H s.heap.objs.size (.dT [])) H2 ∧ A.gh.G H2 ∧ RpP A.K H2 (Fz A (cn.plus [s.heap.objs.size]) f Γ) vs ps ∧ ((ps.all fun p => (ktuD p.1).isSome) && decide (ps.length ≤ 15)) = true ∧
      ∀ w H', Kx A.gh.Z H H' → A.gh.G H' → Rq .f A.K H H' (Fz A cn f Γ) (nZ A) w (.dct true (dputsT [] ps)) → Q w H') R1 (E := E) (by
    refine M.wp_mono (M.wp_bind.mp q) (fun ps z vs H2 k2 g2 r2 => ?_) fun _ x => x
    split at z
    · rename_i c; exact ⟨ps, k2, g2, r2, c, z⟩
    · exact z.elim)
  rw [arm_eval_Dict, zip_pairTrees keys values X.env pos hall hl, dictDisplay_pairs (pairTrees keys values X.env pos) (fun z => by rw [z] at hp; exact h0 (List.length_eq_zero_iff.mp hp.symm)) (by rw [hp]; omega)]
  refine wpAny_bind (wpAny_standAt (wpAny_bind (wpAny_subDictH (knd := tupleKind (mixKind X.prog X.w)) (Q := fun d s' => wpAny (model X.prog X.w) X.A (pure (Value.ref d)) (EP X pins σ Q) X.xe s') (show X.A.units < cLine from B.u0) (by rw [hp]; exact h15) ?_)))
  refine thn (h.pp.run pins _ σ _ _ I1 t1) fun ws s2 ⟨vs, H2, I2, rel, ps, k2, g2, r2, c, q2⟩ => ?_
  have hd2 : H2 s.heap.objs.size = some (.dT []) := k2 _ _ hz upd_same
  rw [Bool.and_eq_true, decide_eq_true_eq] at c
  obtain ⟨c, c15⟩ := c
  obtain ⟨ks, pk, rt⟩ := dputsT_rp r2 c (acc := []) (da := []) .nil
  obtain ⟨xs, cr, kt⟩ := carries_tup I2.hok hT pk rel
  obtain ⟨z, hd, xs0, r0, dd⟩ := dt_of I2.hok hd2
  cases r0
  refine ⟨xs, cr, dd, fun h' tk dd' hs => wpAny_pure ?_⟩
  have hlen : ks.length ≤ 15 := by
    have e1 : vs.length = ks.length := Paired.length pk
    have e2 := r2.length
    omega
  have hl' : (putsT [] ks).length ≤ sizeLine := by
    have h1 := putsT_len ks []
    rw [List.length_nil] at h1
    rw [sizeLine_eq]; omega
  obtain ⟨qo, es, ep, hq, h2, h3, h4, _, h5⟩ := dd'
  have kt' : KT H2 (putsT [] ks) (storedAllH [] xs) := storedAllT kt .nil
  have I3 : Inv X pins σ (upd H2 s.heap.objs.size (.dT (putsT [] ks))) { s2 with heap := h', toks := tk } := by
    refine d_write I2 (by rw [hd2]; exact True.intro) hs ⟨qo, hq⟩ ⟨hl', hd, _, kt'.keeps fun c ys ec => ?_, qo, es, ep, hq, h2, h3, h4, h5⟩
    rw [upd_ne (ne_of ec hd2 (fun z => nomatch z))]
    exact ec
  have kf : Kx A.gh.Z H (upd H2 s.heap.objs.size (.dT (putsT [] ks))) := fun b o nz e => by
    have ne : b ≠ s.heap.objs.size := fun y => by rw [y, hn] at e; cases e
    rw [upd_ne ne]
    exact k2 b o nz (by rw [upd_ne ne]; exact e)
  refine ⟨.ref s.heap.objs.size, _, I3, rfl, q2 _ _ kf (A.gh.gk H2 _ g2 (fun b zz => upd_ne fun y => hz (y ▸ zz)) (ext_upd hd2 fun _ z => by cases z)) ⟨s.heap.objs.size, rfl, hn, .inr ⟨rfl, _, upd_same, ?_⟩⟩⟩
  refine rt.mono ⟨fun b u p e => ?_, fun b xs e => ?_⟩ fun b u p _ => ?_
  · have ne : b ≠ s.heap.objs.size := fun y => ((fz_plus _).mp p).2 (by simp [y])
    rw [upd_ne ne]; exact e
  · rw [upd_ne (ne_of e hd2 (fun z => nomatch z))]; exact e
  · obtain ⟨p1, p2⟩ := (fz_plus _).mp p
    exact ⟨p1, fun y => p2 (by simp [y])⟩
/-! repr -/
mutual
theorem toPy_noDict : ∀ d : D, (toPy d).hasDict = false ∨ d.pl = false
  | .non => .inl rfl
  | .bl _ => .inl rfl
  | .int _ => .inl rfl
  | .str _ => .inl rfl
  | .raw _ => .inr rfl
  | .dct _ _ => .inr rfl
  | .tup ds => (toPyL_noDict ds)
  | .lst ds => (toPyL_noDict ds)
theorem toPyL_noDict : ∀ ds : List D, PyData.hasDictAll (toPyL ds) = false ∨ D.plL ds = false
  | [] => .inl rfl
  | d :: r => by
    rcases toPy_noDict d with h | h
    · rcases toPyL_noDict r with h2 | h2
      · left
        show ((toPy d).hasDict || PyData.hasDictAll (toPyL r)) = false
        rw [h, h2]; rfl
      · right
        show (d.pl && D.plL r) = false
        rw [h2, Bool.and_false]
    · right
      show (d.pl && D.plL r) = false
      rw [h, Bool.false_and]
end
def shownD (d : D) : Str := (toPy d).shown
def reprOk (d : D) : Bool := d.pl && ((toPy d).showable && (decide (d.dep ≤ 60) && decide ((toPy d).shown.length ≤ 16777216)))
def reprD : List D → M D
  | [d] => if reprOk d = true then .ret (.str (shownD d)) else .stuck
  | _ => .stuck
theorem tame_repr : ∀ ds, Tame (reprD ds) := fun ds => by unfold reprD; split <;> first | trivial | exact tame_if
theorem c_repr {cm : Bool} (B : Bd' cm X A E k) : CallR X (.builtin "repr") (cD A.K reprD) := by
  intro pins s σ H vs us Q I r ⟨P, W, ds, h1, h⟩
  unfold reprD at h
  split at h
  · rename_i d
    obtain ⟨c, q⟩ := wp_if h
    unfold reprOk at c
    simp only [Bool.and_eq_true, decide_eq_true_eq] at c
    obtain ⟨hp, hsh, hd, hl⟩ := c
    obtain ⟨v, rfl, rb⟩ := rq1 h1
    obtain ⟨u, rfl, ru⟩ := vals1 r
    obtain ⟨as, rd⟩ := rb.reads B.kle I hp ru
    have dd := toPy_dep d
    have hu := B.u64
    have nd : (toPy d).hasDict = false := by
      rcases toPy_noDict d with z | z
      · exact z
      · rw [hp] at z; cases z
    have fin : ∀ h' t tk, (∀ b o, s.heap.get? b = some o → h'.get? b = some o) → EP X pins σ Q (.str (shownD d) t) { s with heap := h', toks := tk } := fun h' t tk hk => ⟨.str (shownD d), H, I.kept hk, ⟨t, rfl⟩, q _ _ (Same.refl _) (.str _)⟩
    have byRef : ∀ a, u = .ref a → wpAny (model X.prog X.w) X.A (call (.builtin "repr") [u]) (EP X pins σ Q) X.xe s := fun a e => by
      subst e
      exact repr_of_reads' rd hsh (fun z => by rw [nd] at z; cases z) B.gd (by omega) (fun _ _ e => e) (fun h' t tk hk => fin h' t tk hk) (by rw [sizeLine_eq]; exact hl)
    cases d with
    | non =>
      cases rb_non rb
      cases ru
      exact PySem.P.repr_of_none (fin s.heap _ _ fun _ _ e => e)
    | bl b =>
      cases rb_bl rb
      cases ru
      exact PySem.P.repr_of_bool (fin s.heap _ _ fun _ _ e => e)
    | int i =>
      cases rb_int rb
      obtain ⟨t, rfl⟩ := ru
      exact PySem.P.repr_of_int (of_decide_eq_true hsh) (fin s.heap _ _ fun _ _ e => e)
    | str x =>
      cases rb_str rb
      obtain ⟨t, rfl⟩ := ru
      exact PySem.P.repr_of_str (fin s.heap _ _ fun _ _ e => e) (by rw [sizeLine_eq]; exact hl)
    | tup ds =>
      obtain ⟨a, xs, rfl, _⟩ := rb_tup rb
      exact byRef a ru
    | lst ds =>
      obtain ⟨a, xs, rfl, _⟩ := rb
      exact byRef a ru
    | dct t kvs => cases hp
    | raw v => cases hp
  · exact h.elim
end
end Px

set_option Elab.async false
set_option linter.all false
set_option maxRecDepth 100000
set_option autoImplicit false
namespace Px
open PySem PySem.Spec PyProof.Rows L2

/-! ### the script -/
/-- the activation's entry holds the script's numbers at sc -/
def Scr (X : Cx) (A : Am) (sc : Addr) (ns : List Int) : Prop := SqL X.K A.H0 sc (ns.map V.int) ∧ ¬ A.gh.Z sc
section
variable {X : Cx} {A : Am} {E : EN} {k : Nat} {md md1 md2 : Md} {e a b c : Expr} {m ma mb mc : Ga → M D} {pos p p1 p2 p3 : Pos} {x : Str} {sc : Addr} {ns : List Int} {i : Nat}
theorem scr_at {cn : Cn} {f : Nat → Addr} {σ : L2.St} {H : Hp} {Γ : Ga} (S : Scr X A sc ns) (R : Rl A.K A cn f σ H Γ) : SqL X.K H sc (ns.map V.int) := by
  obtain ⟨h | h, z⟩ := S
  · rcases h with h | ⟨ob, h⟩
    · exact .inl (.inl (R.keep _ _ z h).eq)
    · exact .inl (.inr ⟨ob, (R.keep _ _ z h).eq⟩)
  · exact .inr h
def scrS (sc : Addr) (i : Nat) (d : D) : Ga → M D := fun Γ => match Γ[i]? with
  | some (.v (.raw (.ref b))) => if b = sc then .ret d else .stuck
  | _ => .stuck
theorem wp_scr {Γ : Ga} {d : D} {Q : D → Prop} {E' : Exn → Prop} (h : (scrS sc i d Γ).wp Q E') : Γ[i]? = some (.v (.raw (.ref sc))) ∧ Q d := by
  unfold scrS at h
  split at h
  · rename_i b e
    split at h
    · rename_i c; rw [c] at e; exact ⟨e, h⟩
    · exact h.elim
  · exact h.elim
/-- script[:n] -/
theorem pev_scrSlice {n : Int} {j : Nat} (S : Scr X A sc ns) (hN : X.N[i]? = some x := by rfl) (hv : Vis X.env.scope x := by first | exact Or.inl rfl | exact Or.inr (Or.inl rfl) | exact Or.inr (Or.inr rfl)) (hd : (x == ("__debug__" : Str)) = false := by decide) (hcd : (x == ("__classdict__" : Str)) = false := by decide) :
    PEV X A E .f (.Subscript (.Name x p) (.Slice none (some (.Constant (.int n) j p1)) none p2) pos) (scrS sc i (.lst (cutD (ns.map D.int) none (some n)))) := by
  refine ⟨imp_pe (pe_slice sl_list (pe_var hN hv hd hcd) po_none (po_some pe_int)) fun σ H Q ⟨cn, f, Γ, R, h⟩ => ?_⟩
  obtain ⟨e, q⟩ := wp_scr h
  obtain ⟨w, h1, h2⟩ := R.sl i _ e
  cases h2
  refine ⟨_, h1, n, rfl, sc, _, rfl, scr_at S R, fun p hp => q _ _ (same_kx (same_new hp)) (A.gh.same R.g (same_new hp)) ⟨p, rfl, hp, _, upd_same, ?_⟩⟩
  exact new_ne hp ((RpL.ints ns).cut none (some n))
/-- len(script) -/
theorem pev_scrLen (hg : Gl X "len") (hm : X.mg "len" = none) (S : Scr X A sc ns) (hN : X.N[i]? = some x := by rfl) (hv : Vis X.env.scope x := by first | exact Or.inl rfl | exact Or.inr (Or.inl rfl) | exact Or.inr (Or.inr rfl)) (hd : (x == ("__debug__" : Str)) = false := by decide) (hcd : (x == ("__classdict__" : Str)) = false := by decide) :
    PEV X A E .f (.Call (.Name "len" p1) [.Name x p] [] pos) (scrS sc i (.int (ns.length : Nat))) := by
  refine ⟨imp_pe (pe_callB call_len_seq hg hm bt_len (pa_cons (pe_var hN hv hd hcd) pa_nil)) fun σ H Q ⟨cn, f, Γ, R, h⟩ => ?_⟩
  obtain ⟨e, q⟩ := wp_scr h
  obtain ⟨w, h1, h2⟩ := R.sl i _ e
  cases h2
  refine ⟨_, h1, sc, _, rfl, .inl (scr_at S R), ?_⟩
  rw [List.length_map]
  exact q _ H .refl R.g (.int _)
end
end Px

set_option Elab.async false
set_option linter.all false
set_option maxRecDepth 100000
set_option maxHeartbeats 4000000
set_option autoImplicit false
namespace Px
open PySem PySem.Spec PyProof.Rows PySem.W L2

/-! ### the law's end, for promises of the kind FnG -/
theorem law_callG {P : Program} {w : World} {K : PySem.W.Frag} {mg mb : Str → Option Value} {CX : CXT} {k : Nat} {fa a : Addr} {fd : FuncData} {x : Str} {sp : Sp} {s₁ : Shared} {vs : List Value} {ns : List Int}
    (KX : K.In s₁.heap) (hns : s₁.heap.Ns mainGlobals mg) (hb : s₁.heap.Ns builtinsNs mb) (hbb : ∀ x : Str, x ≠ "__name__" → mb x = bootBuiltins x) (hlim : s₁.heap.NoLimit) (hg : s₁.gens = #[])
    (ha : s₁.heap.get? a = some { cls := .type "list", data := .seq vs.toArray }) (hi : IntsAre vs ns) (hl : ns.length ≤ sizeLine) (hr : Room k callerA)
    (F : ∀ base : Heap, K.In base → base.Ns mainGlobals mg → FnG P w K mg base CX k fa fd [x] sp) (hbind : ∀ (s : Shared) (u : Value), BindsTo s fd ⟨[u], []⟩ [(x, u)])
    (hsp : ∀ H : Hp, Only H → SqL K H a (ns.map V.int) → sp [.ref a] H (fun v _ => v = .bl true) fun _ _ _ => False)
    (hCX : ∀ H e s', CX [] H s₁ (fun _ _ _ => False) e s' → False) :
    codeAny (model P w) callerA (.call (.ref fa) ⟨[.ref a], []⟩) (fun r s' => r = .ok (.ret (.bool true)) ∧ OldK s₁.heap s'.heap ∧ s'.os = s₁.os ∧ AllBare s'.gens) s₁ := by
  have rv := vals_ints hi
  have lenV := hi.length
  have core : ∀ H : Hp, Only H → SqL K H a (ns.map V.int) → HOk P w H s₁.heap → (∀ b, H b ≠ none → b = a) → (H a ≠ none → K.lookup a = none) →
      codeAny (model P w) callerA (.call (.ref fa) ⟨[.ref a], []⟩) (fun r s' => r = .ok (.ret (.bool true)) ∧ OldK s₁.heap s'.heap ∧ s'.os = s₁.os ∧ AllBare s'.gens) s₁ := by
    intro H hO hS hok hA hK
    have onlyA : ∀ {b : Addr}, H b ≠ none → b = a := fun {b} => hA b
    have base_of : ∀ {b : Addr} {o : Obj}, s₁.heap.get? b = some o → H b = none → (hidT s₁.heap H).get? b = some o := fun e n => hidT_get e n
    have noA : ∀ {b : Addr} {o : Obj} {es : Array DictEntry} {ep : Nat}, s₁.heap.get? b = some o → o.data = .dict es ep → H b = none := fun {b o es ep} e d => by
      cases q : H b with
      | none => rfl
      | some u =>
        have e' : b = a := onlyA (by rw [q]; simp)
        subst e'
        rw [ha] at e; cases e
        have d' : Data.seq vs.toArray _ = Data.dict es ep := d
        cases d'
    have nsK : ∀ {b : Addr} {m : Str → Option Value}, s₁.heap.Ns b m → (hidT s₁.heap H).Ns b m := fun {b m} ⟨o, es, ep, e, d, r⟩ => ⟨o, es, ep, base_of e (noA e d), d, r⟩
    have hKb : K.In (hidT s₁.heap H) := fun b o e => base_of (KX b o e) (by
      cases q : H b with
      | none => rfl
      | some u =>
        have e' : b = a := onlyA (by rw [q]; simp)
        subst e'
        rw [hK (by rw [q]; simp)] at e; cases e)
    have hM : Mod K mg (hidT s₁.heap H) := ⟨hKb, nsK hns, ⟨mb, nsK hb, hbb⟩, let ⟨mc, h1, h2⟩ := hlim; ⟨mc, nsK h1, h2⟩⟩
    have e0 : Env0 P w K mg (hidT s₁.heap H) callerA [] s₁ H := ⟨rfl, hM, fun b o e => of_hidT e, Nat.le_of_eq (hidT_size _ _), trivial, fun b hb => absurd (show b ∈ ([] : List Addr) from hb) (by simp), hok, .of_eq hg⟩
    refine codeAny_mono ((F _ hKb (nsK hns)).run callerA [] s₁ H ⟨[.ref a], []⟩ [.ref a] [.ref a] _ _ hr rfl e0 (hbind s₁ (.ref a)) (.cons rfl .nil) (hsp H hO hS)) fun r s' h => ?_
    cases r with
    | error e => exact (hCX H e s' h).elim
    | ok fl =>
      cases fl with
      | next => exact False.elim h
      | brk => exact False.elim h
      | cont => exact False.elim h
      | ret u =>
        obtain ⟨v, H', os, bare, un, hok', r', q⟩ := h
        have q' : v = .bl true := q
        subst q'
        obtain rfl : u = Value.bool true := r'
        refine ⟨rfl, OldK.of_keep fun b o e => ?_, os, bare⟩
        cases q : H b with
        | none => exact un.keep b o e q (by intro z; exact absurd (show b ∈ ([] : List Addr) from z) (by simp)) (by simp)
        | some u =>
          rcases hO b with z | ⟨ob, xs, z⟩
          · rw [q] at z; cases z
          · have z2 := un.frzs b ob _ z
            obtain ⟨e1, _⟩ := hok b _ z
            obtain ⟨e2, _⟩ := hok' b _ z2
            rw [e] at e1; cases e1
            exact e2
  cases hk : K.lookup a with
  | some o =>
    have e := KX a o hk
    rw [ha] at e
    cases e
    refine core (fun _ => none) (fun _ => .inl rfl) (.inr ⟨_, vs.toArray, _, hk, rfl, rfl, rfl, by rw [List.size_toArray, lenV]; exact hl, by simpa using rv⟩) (fun b u z => by have z' : (none : Option HO) = some u := z; cases z') (fun b z => absurd rfl z) fun z => absurd rfl z
  | none =>
    refine core (fun b => if b = a then some (.frz { cls := .type "list", data := .seq vs.toArray } (.lst (ns.map V.int))) else none) (fun b => ?_) (.inl (.inr ⟨{ cls := .type "list", data := .seq vs.toArray }, if_pos rfl⟩)) (fun b u z => ?_) (fun b z => ?_) fun _ => hk
    · by_cases hb : b = a
      · exact .inr ⟨_, _, if_pos hb⟩
      · exact .inl (if_neg hb)
    · by_cases hb : b = a
      · have z' := (if_pos hb).symm.trans z
        cases z'
        subst hb
        exact ⟨ha, by rw [List.length_map]; exact hl, vs, _, rv, ha⟩
      · have z' := (if_neg hb).symm.trans z
        cases z'
    · by_cases hb : b = a
      · exact hb
      · exact absurd (if_neg hb) z
theorem walk_ofG {l : PySem.W.OpenLaw} {n k : Nat} {q : Program} {loose : List Str} {XP : (Str → Option Value) → Heap → Prop} {YP : World → Heap → Prop} {d : DefRec} {K : Params → PySem.W.Frag} {CX : World → CXT} {sp : World → Sp} {x : Str}
    (hn : l.most = some n) (hn2 : n ≤ sizeLine) (hdf : d.params.defaults = []) (hr : Room k callerA)
    (hY : ∀ (w : World) (h : Heap), YP w h → (K w.params).In h)
    (F : ∀ (w : World) (mg : Str → Option Value) (fa : Addr) (h : Heap), (K w.params).In h → h.Ns mainGlobals mg → mg d.name = some (.ref fa) →
      ∃ fd : FuncData, (∀ (s : Shared) (u : Value), BindsTo s fd ⟨[u], []⟩ [(x, u)]) ∧
        ∀ base : Heap, (K w.params).In base → base.Ns mainGlobals mg → FnG l.prog w (K w.params) mg base (CX w) k fa fd [x] (sp w))
    (hsp : ∀ (w : World) (H : Hp) (a : Addr) (ns : List Int), ns.length ≤ n → Only H → SqL (K w.params) H a (ns.map V.int) → sp w [.ref a] H (fun v _ => v = .bl true) fun _ _ _ => False)
    (hCX : ∀ (w : World) (H : Hp) (s : Shared) (e : Value) (s' : Shared), CX w [] H s (fun _ _ _ => False) e s' → False) :
    PySem.W.WalkO q loose XP YP l.row.toRowW d [] (fun f vs => PySem.call f vs) := by
  refine Att.attach_call hn hdf fun w s₀ s₁ mg mb fa o pm cd doc a vs ns G Y ho hd hcd hmg hobj hints hlen hg => ?_
  have KX := hY w _ Y
  obtain ⟨fd, hb, hF⟩ := F w mg fa _ KX G.T.g hmg
  exact law_callG KX G.T.g G.T.b G.T.builtins G.T.nolimit hg hobj hints (Nat.le_trans hlen hn2) hr hF hb (fun H hO hS => hsp w H a ns hlen hO hS) fun H e s' => hCX w H s₁ e s'
theorem ex_pss {ι : Type} {X : Cx} {sts : List Stmt} {t : ι → TS} (h : ∀ i, PSs X sts (t i)) : PSs X sts (fun D σ H => ∃ i, t i D σ H) := ⟨fun pins s σ H D I ⟨i, q⟩ => (h i).run pins s σ H D I q⟩
def ghNone : Gh := ⟨fun _ => False, fun _ => True, fun _ _ _ _ _ => trivial, fun _ _ _ z => z.elim⟩
theorem cx_none {P : Program} {w : World} {H : Hp} {s : Shared} {e : Value} {s' : Shared} (h : L2.CX P w [] H s (fun _ _ _ => False) e s') : False := by
  obtain ⟨_, _, _, _, _, _, _, _, _, _, _, _, z⟩ := h
  exact z
end Px

set_option Elab.async false
set_option linter.all false
set_option maxRecDepth 100000
set_option autoImplicit false
namespace Px
open PySem PySem.Spec PyProof.Rows L2

/-! ### the plain functions are worked out -/
section
variable {α β : Type} {Γ : Ga} {m m1 m2 : Ga → M (Ct × Ga)} {ma mb mc : Ga → M D} {ml : Ga → M (List D)} {mS : Ga → M (List Sl)} {mi : Ga → M (List D)} {t u : Ga → M Bool} {g g' : D → D → M D} {h : D → M D} {F : List D → M D} {i n : Nat} {d : D} {bnd : D → Ga → M Ga} {bs : List D → Ga → M Ga} {Q : α → Prop} {E' : Exn → Prop} {k : Bool} {x : Exn} {ds : List D}
@[simp] theorem wp_ret {a : α} : (M.ret a).wp Q E' ↔ Q a := Iff.rfl
@[simp] theorem wp_exc : (M.exc x : M α).wp Q E' ↔ E' x := Iff.rfl
@[simp] theorem wp_stuck : (M.stuck : M α).wp Q E' ↔ False := Iff.rfl
@[simp] theorem wp_draw {n : Nat} {k : Nat → M α} : (M.draw n k).wp Q E' ↔ ∀ r, r < n → (k r).wp Q E' := Iff.rfl
@[simp] theorem ret_b {a : α} {f : α → M β} : (M.ret a >>= f) = f a := rfl
@[simp] theorem exc_b {f : α → M β} : ((M.exc x : M α) >>= f) = M.exc x := rfl
@[simp] theorem stuck_b {f : α → M β} : ((M.stuck : M α) >>= f) = M.stuck := rfl
@[simp] theorem draw_b {n : Nat} {k : Nat → M α} {f : α → M β} : (M.draw n k >>= f) = M.draw n fun r => k r >>= f := rfl
@[simp] theorem noexc_ret {a : α} : (M.ret a).noexc = M.ret a := rfl
@[simp] theorem getS_ : getS i Γ = match Γ[i]? with | some (.v d) => .ret d | _ => .stuck := rfl
@[simp] theorem getB_ : getB i Γ = match Γ[i]? with | some (.v d) => .ret d | some (.own d) => .ret d | _ => .stuck := rfl
@[simp] theorem getO_ : getO i Γ = match Γ[i]? with | some (.own d) => .ret d | _ => .stuck := rfl
@[simp] theorem cI_ {j : Int} : cI j Γ = .ret (.int j) := rfl
@[simp] theorem cB_ : cB k Γ = .ret (.bl k) := rfl
@[simp] theorem cS_ {s : Str} : cS s Γ = .ret (.str s) := rfl
@[simp] theorem cN_ : cN Γ = .ret .non := rfl
@[simp] theorem cTy_ {T : String} : cTy T Γ = .ret (.raw (.ty T)) := rfl
@[simp] theorem kb_ : kb ma Γ = ma Γ >>= keepB := rfl
@[simp] theorem bin_ : bin ma mb g Γ = ma Γ >>= fun x => mb Γ >>= fun y => g x y := rfl
@[simp] theorem una_ : una ma h Γ = ma Γ >>= h := rfl
@[simp] theorem tst_ : tst ma Γ = ma Γ >>= toB := rfl
@[simp] theorem toB_ : toB (.bl k) = .ret k := rfl
@[simp] theorem andT_ : andT t u Γ = t Γ >>= fun k => if k = true then u Γ else .ret false := rfl
@[simp] theorem orT_ : orT t u Γ = t Γ >>= fun k => if k = true then .ret true else u Γ := rfl
@[simp] theorem notT_ : notT t Γ = t Γ >>= fun k => .ret (!k) := rfl
@[simp] theorem andV_ : andV ma mb Γ = ma Γ >>= toB >>= fun k => if k = true then mb Γ else .ret (.bl false) := rfl
@[simp] theorem orV_ : orV ma mb Γ = ma Γ >>= toB >>= fun k => if k = true then .ret (.bl true) else mb Γ := rfl
@[simp] theorem notV_ : notV ma Γ = ma Γ >>= toB >>= fun k => .ret (.bl (!k)) := rfl
@[simp] theorem ifV_ : ifV t ma mb Γ = t Γ >>= fun k => if k = true then ma Γ else mb Γ := rfl
@[simp] theorem chn_ : chn ma mb mc g g' Γ = ma Γ >>= fun x => mb Γ >>= fun y => g x y >>= toB >>= fun k => if k = true then mc Γ >>= fun z => g' y z else .ret (.bl false) := rfl
@[simp] theorem nilL_ : nilL Γ = .ret [] := rfl
@[simp] theorem consL_ : consL ma ml Γ = ma Γ >>= fun d => ml Γ >>= fun ds => .ret (d :: ds) := rfl
@[simp] theorem nilS_ : nilS Γ = .ret [] := rfl
@[simp] theorem consS_ : consS ma mS Γ = ma Γ >>= fun d => mS Γ >>= fun ss => .ret (.v d :: ss) := rfl
@[simp] theorem consF_ : consF ma mS Γ = ma Γ >>= fun d => mS Γ >>= fun ss => .ret (slF d :: ss) := rfl
@[simp] theorem tupV_ : tupV ml Γ = ml Γ >>= fun ds => .ret (.tup ds) := rfl
@[simp] theorem lstV_ : lstV ml Γ = ml Γ >>= fun ds => .ret (.lst ds) := rfl
@[simp] theorem callV_ : callV ml F Γ = ml Γ >>= F := rfl
@[simp] theorem callB_ {md : Md} : callB md ml F Γ = ml Γ >>= fun ds => if noDct ds = true then F ds >>= keepC md else .stuck := rfl
@[simp] theorem nextM_ : nextM Γ = .ret (.nx, Γ) := rfl
@[simp] theorem breakM_ : breakM Γ = .ret (.bk, Γ) := rfl
@[simp] theorem contM_ : contM Γ = .ret (.ct, Γ) := rfl
@[simp] theorem seqM_ : seqM m1 m2 Γ = m1 Γ >>= fun r => andThen r m2 := rfl
@[simp] theorem then_nx {k : Ga → M (Ct × Ga)} : andThen (.nx, Γ) k = k Γ := rfl
@[simp] theorem then_rt {k : Ga → M (Ct × Ga)} : andThen (.rt d, Γ) k = .ret (.rt d, Γ) := rfl
@[simp] theorem then_bk {k : Ga → M (Ct × Ga)} : andThen (.bk, Γ) k = .ret (.bk, Γ) := rfl
@[simp] theorem then_ct {k : Ga → M (Ct × Ga)} : andThen (.ct, Γ) k = .ret (.ct, Γ) := rfl
@[simp] theorem ifM_ : ifM t m1 m2 Γ = t Γ >>= fun k => if k = true then m1 Γ else m2 Γ := rfl
@[simp] theorem retM_ : retM ma Γ = ma Γ >>= fun d => .ret (.rt d, Γ) := rfl
@[simp] theorem exprM_ : exprM ma Γ = ma Γ >>= fun _ => .ret (.nx, Γ) := rfl
@[simp] theorem raiseM_ : raiseM x Γ = .exc x := rfl
@[simp] theorem setM_ : setM i ma Γ = ma Γ >>= fun d => .ret (.nx, Γ.set i (slF d)) := rfl
@[simp] theorem setSM_ : setSM i ma Γ = ma Γ >>= fun d => .ret (.nx, Γ.set i (.v d)) := rfl
@[simp] theorem asgM_ : asgM ma bnd Γ = ma Γ >>= fun d => bnd d Γ >>= fun Γ' => .ret (.nx, Γ') := rfl
@[simp] theorem parM_ {is : List Nat} : parM is mS Γ = mS Γ >>= fun ss => .ret (.nx, setAll is ss Γ) := rfl
@[simp] theorem setAll_c {j : Nat} {is : List Nat} {s : α} {ss l : List α} : setAll (j :: is) (s :: ss) l = setAll is ss (l.set j s) := rfl
@[simp] theorem setAll_n {l : List α} : setAll [] [] l = l := rfl
@[simp] theorem fzM_ : fzM i m Γ = m (fz i Γ) := rfl
@[simp] theorem bndN_ : bndN i d Γ = .ret (Γ.set i (.v d)) := rfl
@[simp] theorem bndNil_ : bndNil [] Γ = .ret Γ := rfl
@[simp] theorem bndCons_ : bndCons bnd bs (d :: ds) Γ = bnd d Γ >>= bs ds := rfl
@[simp] theorem bndT_ : bndT n bs (.tup ds) Γ = if ds.length = n then bs ds Γ else .stuck := rfl
@[simp] theorem slF_lst : slF (.lst ds) = .own (.lst ds) := rfl
@[simp] theorem slF_dct {b : Bool} {kvs : List (D × D)} : slF (.dct b kvs) = .own (.dct b kvs) := rfl
@[simp] theorem slF_int {j : Int} : slF (.int j) = .v (.int j) := rfl
@[simp] theorem slF_bl : slF (.bl k) = .v (.bl k) := rfl
@[simp] theorem slF_str {s : Str} : slF (.str s) = .v (.str s) := rfl
@[simp] theorem slF_non : slF .non = .v .non := rfl
@[simp] theorem slF_tup : slF (.tup ds) = .v (.tup ds) := rfl
@[simp] theorem yesT_ : yesT Γ = .ret true := rfl
@[simp] theorem anyM_ : anyM ma Γ = ma Γ >>= itemsK := rfl
@[simp] theorem itM_ : itM ma Γ = ma Γ >>= itemsD := rfl
@[simp] theorem enM_ : enM ma Γ = ma Γ >>= itemsD >>= fun ds => .ret (enumL ds) := rfl
@[simp] theorem zpM_ : zpM ma mb Γ = ma Γ >>= fun d => mb Γ >>= fun e => itemsD d >>= fun ds => itemsD e >>= fun es => .ret (zipL ds es) := rfl
@[simp] theorem rgM_ : rgM ml Γ = ml Γ >>= rangeD := rfl
@[simp] theorem itemsK_lst : itemsK (.lst ds) = .ret ds := rfl
@[simp] theorem itemsK_tup : itemsK (.tup ds) = .ret ds := rfl
@[simp] theorem itemsK_dct {b : Bool} {kvs : List (D × D)} : itemsK (.dct b kvs) = .ret (kvs.map (·.1)) := rfl
@[simp] theorem itemsD_lst : itemsD (.lst ds) = .ret ds := rfl
@[simp] theorem itemsD_tup : itemsD (.tup ds) = .ret ds := rfl
@[simp] theorem forS_ : forS mi bnd m Γ = mi Γ >>= fun ds => forM (fun d Γ => bnd d Γ >>= m) ds Γ := rfl
@[simp] theorem lcM_ {vs : List Nat} : lcM vs mi bnd t ma Γ = if ownFree vs Γ = true then mi Γ >>= fun ds => lcGo (lcOne bnd t ma (wipeG Γ vs)) ds >>= fun es => .ret (.lst es) else .stuck := rfl
@[simp] theorem lcOne_ : lcOne bnd t ma Γ d = (bnd d Γ >>= fun Γ2 => t Γ2 >>= fun k => if k = true then (ma Γ2 >>= fun e => .ret [e]) else .ret []).noexc := rfl
@[simp] theorem dcM_ {vs : List Nat} : dcM vs mi bnd t ma mb Γ = if ownFree vs Γ = true then mi Γ >>= fun ds => dcGo (dcOne bnd t ma mb (wipeG Γ vs)) ds [] >>= fun es => .ret (.dct false es) else .stuck := rfl
@[simp] theorem dcOne_ : dcOne bnd t ma mb Γ d = (bnd d Γ >>= fun Γ2 => t Γ2 >>= fun k => if k = true then (ma Γ2 >>= fun y => mb Γ2 >>= fun z => if (keyD y).isSome = true then .ret [(y, z)] else .stuck) else .ret []).noexc := rfl
@[simp] theorem get2V_ : get2V ma mb mc Γ = ma Γ >>= fun c => mb Γ >>= fun k => mc Γ >>= fun x => dget2 c k x := rfl
@[simp] theorem asDct_ : asDct ma Γ = ma Γ >>= fun d => match d with | .dct t kvs => .ret (.dct t kvs) | _ => .stuck := rfl
@[simp] theorem dct0_ : dct0 k Γ = .ret (.dct k []) := rfl
@[simp] theorem slV_ {m1 m2 : Ga → M (Option Int)} : slV ma m1 m2 Γ = ma Γ >>= fun d => m1 Γ >>= fun l => m2 Γ >>= fun h => sliceD l h d := rfl
@[simp] theorem noO_ : noO Γ = .ret none := rfl
@[simp] theorem smO_ : smO ma Γ = ma Γ >>= toI := rfl
@[simp] theorem toI_ {j : Int} : toI (.int j) = .ret (some j) := rfl
@[simp] theorem keepB_int {j : Int} : keepB (.int j) = .ret (.int j) := rfl
@[simp] theorem keepB_bl : keepB (.bl k) = .ret (.bl k) := rfl
@[simp] theorem keepB_str {s : Str} : keepB (.str s) = .ret (.str s) := rfl
@[simp] theorem keepB_non : keepB .non = .ret .non := rfl
@[simp] theorem keepB_tup : keepB (.tup ds) = .ret (.tup ds) := rfl
@[simp] theorem add_int {i j : Int} : addD (.int i) (.int j) = .ret (.int (i + j)) := rfl
@[simp] theorem sub_int' {i j : Int} : subD (.int i) (.int j) = .ret (.int (i - j)) := rfl
@[simp] theorem neg_int' {i : Int} : negD (.int i) = .ret (.int (-i)) := rfl
@[simp] theorem lt_int' {i j : Int} : ltD (.int i) (.int j) = .ret (.bl (decide (i < j))) := rfl
@[simp] theorem le_int' {i j : Int} : leD (.int i) (.int j) = .ret (.bl (decide (i ≤ j))) := rfl
@[simp] theorem gt_int' {i j : Int} : gtD (.int i) (.int j) = .ret (.bl (decide (j < i))) := rfl
@[simp] theorem ge_int' {i j : Int} : geD (.int i) (.int j) = .ret (.bl (decide (j ≤ i))) := rfl
@[simp] theorem intD_int {i : Int} : intD [.int i] = .ret (.int i) := rfl
@[simp] theorem intD_bl : intD [.bl k] = .ret (.int (if k = true then 1 else 0)) := rfl
@[simp] theorem absD_int {i : Int} : absD [.int i] = .ret (.int (if i < 0 then -i else i)) := rfl
@[simp] theorem tupleD_lst : tupleD [.lst ds] = .ret (.tup ds) := rfl
@[simp] theorem tupleD_tup : tupleD [.tup ds] = .ret (.tup ds) := rfl
@[simp] theorem listD_lst : listD [.lst ds] = .ret (.lst ds) := rfl
@[simp] theorem listD_tup : listD [.tup ds] = .ret (.lst ds) := rfl
@[simp] theorem len_lst : len2D [.lst ds] = .ret (.int (ds.length : Nat)) := rfl
@[simp] theorem len_tup : len2D [.tup ds] = .ret (.int (ds.length : Nat)) := rfl
@[simp] theorem len_dct {b : Bool} {kvs : List (D × D)} : len2D [.dct b kvs] = .ret (.int (kvs.length : Nat)) := rfl
@[simp] theorem rev_lst : revD (.lst ds) = .ret (.lst ds.reverse) := rfl
@[simp] theorem rev_tup : revD (.tup ds) = .ret (.tup ds.reverse) := rfl
@[simp] theorem slice_lst {l h : Option Int} : sliceD l h (.lst ds) = .ret (.lst (cutD ds l h)) := rfl
@[simp] theorem slice_tup {l h : Option Int} : sliceD l h (.tup ds) = .ret (.tup (cutD ds l h)) := rfl
@[simp] theorem get_lst {j : Int} : getD' (.lst ds) (.int j) = atD ds j := rfl
@[simp] theorem get_tup {j : Int} : getD' (.tup ds) (.int j) = atD ds j := rfl
@[simp] theorem get_dct {b : Bool} {kvs : List (D × D)} {y : D} : getD' (.dct b kvs) y = if isKeyD b y = true then (match dval b kvs y with | some d => .ret d | none => .stuck) else .stuck := rfl
@[simp] theorem fnEnd_rt : fnEnd (.rt d, Γ) = .ret d := rfl
@[simp] theorem fnEnd_nx : fnEnd (.nx, Γ) = .ret .non := rfl
theorem mul_l {i j : Int} (h : smallI i = true) : mulU (.int i) (.int j) = .ret (.int (i * j)) := by
  show (if (smallI i || smallI j) = true then M.ret (D.int (i * j)) else .stuck) = _
  rw [h]; rfl
theorem mul_r {i j : Int} (h : smallI j = true) : mulU (.int i) (.int j) = .ret (.int (i * j)) := by
  show (if (smallI i || smallI j) = true then M.ret (D.int (i * j)) else .stuck) = _
  rw [h, Bool.or_true]; rfl
theorem small_of {i : Int} (h : -(2 ^ 64) < i ∧ i < 2 ^ 64) : smallI i = true := by
  unfold smallI
  rw [decide_eq_true h.1, decide_eq_true h.2]; rfl
theorem mod_p {i j : Int} (h : 0 < j) : modD (.int i) (.int j) = .ret (.int (i % j)) := if_pos h
theorem fdiv_p {i j : Int} (h : 0 < j ∧ j < 1073741824) : fdivD (.int i) (.int j) = .ret (.int (i / j)) := if_pos h
theorem pow_p {i j : Int} (h : 0 ≤ j ∧ j ≤ 64 ∧ 0 ≤ i ∧ i ≤ 16) : powD (.int i) (.int j) = .ret (.int (i ^ j.toNat)) := if_pos h
theorem at_nat {ds : List D} {j : Nat} {d : D} (h : ds[j]? = some d) : atD ds (j : Int) = .ret d := by
  unfold atD
  rw [atI_nat h]
/-! lists -/
theorem lcGo_ret {one : D → M (List D)} {f : D → List D} : ∀ {ds : List D}, (∀ d ∈ ds, one d = .ret (f d)) → lcGo one ds = .ret (ds.flatMap f)
  | [], _ => rfl
  | d :: r, h => by
    show (one d >>= fun l => lcGo one r >>= fun es => M.ret (l ++ es)) = _
    rw [h d List.mem_cons_self, lcGo_ret fun e he => h e (List.mem_cons_of_mem _ he)]
    rfl
theorem lcGo_map {γ : Type} {enc : γ → D} {one : D → M (List D)} {f : γ → List D} : ∀ {xs : List γ}, (∀ x ∈ xs, one (enc x) = .ret (f x)) → lcGo one (xs.map enc) = .ret (xs.flatMap f)
  | [], _ => rfl
  | d :: r, h => by
    show (one (enc d) >>= fun l => lcGo one (r.map enc) >>= fun es => M.ret (l ++ es)) = _
    rw [h d List.mem_cons_self, lcGo_map fun e he => h e (List.mem_cons_of_mem _ he)]
    rfl
theorem flat_map1 {γ : Type} {xs : List γ} {f : γ → D} : (xs.flatMap fun x => [f x]) = xs.map f := by
  induction xs with
  | nil => rfl
  | cons x r ih => rw [List.flatMap_cons, ih]; rfl
/-- a loop with an invariant of the slots: the items are enc x -/
theorem forM_inv {γ : Type} {enc : γ → D} {body : D → Ga → M (Ct × Ga)} {I : List γ → Ga → Prop} {Q : Ct × Ga → Prop} {E' : Exn → Prop} : ∀ {xs : List γ} {Γ : Ga}, I xs Γ →
    (∀ x r Γ, I (x :: r) Γ → (body (enc x) Γ).wp (fun z => match z.1 with | .nx => I r z.2 | .ct => I r z.2 | .bk => Q (.nx, z.2) | .rt d => Q (.rt d, z.2)) E') → (∀ Γ, I [] Γ → Q (.nx, Γ)) → (forM body (xs.map enc) Γ).wp Q E'
  | [], Γ, h, _, he => he Γ h
  | x :: r, Γ, h, hb, he => by
    show (body (enc x) Γ >>= fun z => match z.1 with
      | .nx => forM body (r.map enc) z.2
      | .ct => forM body (r.map enc) z.2
      | .bk => .ret (.nx, z.2)
      | .rt d => .ret (.rt d, z.2)).wp Q E'
    refine M.wp_bind.mpr (M.wp_mono (hb x r Γ h) (fun z q => ?_) fun _ x => x)
    obtain ⟨c, Γ2⟩ := z
    cases c with
    | nx => exact forM_inv q hb he
    | ct => exact forM_inv q hb he
    | bk => exact q
    | rt d => exact q
/-- a loop that always goes on: a fold over the slots -/
theorem forM_fold {γ : Type} {enc : γ → D} {body : D → Ga → M (Ct × Ga)} {f : Ga → γ → Ga} {P : Ga → Prop} : ∀ {xs : List γ} {Γ : Ga}, P Γ → (∀ x ∈ xs, ∀ Γ, P Γ → body (enc x) Γ = .ret (.nx, f Γ x) ∧ P (f Γ x)) → forM body (xs.map enc) Γ = .ret (.nx, xs.foldl f Γ) ∧ P (xs.foldl f Γ)
  | [], Γ, p, _ => ⟨rfl, p⟩
  | x :: r, Γ, p, h => by
    obtain ⟨h1, h2⟩ := h x List.mem_cons_self Γ p
    have ih := forM_fold (xs := r) h2 fun y hy => h y (List.mem_cons_of_mem _ hy)
    refine ⟨?_, ih.2⟩
    show (body (enc x) Γ >>= fun z => match z.1 with
      | .nx => forM body (r.map enc) z.2
      | .ct => forM body (r.map enc) z.2
      | .bk => .ret (.nx, z.2)
      | .rt d => .ret (.rt d, z.2)) = _
    rw [h1]
    exact ih.1
theorem cut_map {γ : Type} {enc : γ → D} {xs : List γ} {l h : Option Int} : cutD (xs.map enc) l h = ((xs.drop (HT.sIx xs.length 0 l)).take (HT.sIx xs.length xs.length h - HT.sIx xs.length 0 l)).map enc := by
  unfold cutD
  rw [List.length_map, ← List.map_drop, ← List.map_take]
end
end Px

set_option Elab.async false
set_option linter.all false
set_option maxRecDepth 100000
set_option autoImplicit false
namespace Px
open PySem PySem.Spec PyProof.Rows L2

/-! ### equality, order of encoded data -/
theorem eqB_int {i j : Int} : eqB (.int i) (.int j) = decide (i = j) := by
  show PyData.eqv (.int i) (.int j) = _
  unfold PyData.eqv
  by_cases h : i = j <;> simp [h]
theorem eqB_bl {i j : Bool} : eqB (.bl i) (.bl j) = decide (i = j) := by
  show PyData.eqv (.bool i) (.bool j) = _
  unfold PyData.eqv
  cases i <;> cases j <;> rfl
theorem eqB_str {i j : Str} : eqB (.str i) (.str j) = (i == j) := by
  show PyData.eqv (.str i) (.str j) = _
  unfold PyData.eqv; rfl
def eqBL : List D → List D → Bool
  | [], [] => true
  | x :: xs, y :: ys => eqB x y && eqBL xs ys
  | _, _ => false
theorem eqvAll_toPy : ∀ xs ys : List D, PyData.eqvAll (toPyL xs) (toPyL ys) = eqBL xs ys
  | [], [] => by show PyData.eqvAll [] [] = true; unfold PyData.eqvAll; rfl
  | [], y :: ys => by show PyData.eqvAll [] (toPy y :: toPyL ys) = false; unfold PyData.eqvAll; rfl
  | x :: xs, [] => by show PyData.eqvAll (toPy x :: toPyL xs) [] = false; unfold PyData.eqvAll; rfl
  | x :: xs, y :: ys => by
    show PyData.eqvAll (toPy x :: toPyL xs) (toPy y :: toPyL ys) = (eqB x y && eqBL xs ys)
    unfold PyData.eqvAll
    rw [eqvAll_toPy xs ys]; rfl
theorem eqB_tup {xs ys : List D} : eqB (.tup xs) (.tup ys) = eqBL xs ys := by
  show PyData.eqv (.tuple (toPyL xs)) (.tuple (toPyL ys)) = _
  unfold PyData.eqv
  exact eqvAll_toPy xs ys
theorem eqB_lst {xs ys : List D} : eqB (.lst xs) (.lst ys) = eqBL xs ys := by
  show PyData.eqv (.list (toPyL xs)) (.list (toPyL ys)) = _
  unfold PyData.eqv
  exact eqvAll_toPy xs ys
theorem eqBL_nil : eqBL [] [] = true := rfl
theorem eqBL_cons {x y : D} {xs ys : List D} : eqBL (x :: xs) (y :: ys) = (eqB x y && eqBL xs ys) := rfl
mutual
theorem eqB_refl : ∀ d : D, d.pl = true → eqB d d = true
  | .non, _ => by show PyData.eqv .none .none = true; unfold PyData.eqv; rfl
  | .bl b, _ => by rw [eqB_bl]; simp
  | .int i, _ => by rw [eqB_int]; simp
  | .str x, _ => by rw [eqB_str]; simp
  | .tup ds, h => by rw [eqB_tup]; exact eqBL_refl ds h
  | .lst ds, h => by rw [eqB_lst]; exact eqBL_refl ds h
  | .dct _ _, h => nomatch h
  | .raw _, h => nomatch h
theorem eqBL_refl : ∀ ds : List D, D.plL ds = true → eqBL ds ds = true
  | [], _ => rfl
  | d :: r, h => by
    have h : (d.pl && D.plL r) = true := h
    rw [Bool.and_eq_true] at h
    rw [eqBL_cons, eqB_refl d h.1, eqBL_refl r h.2]; rfl
end
@[simp] theorem equ_int {i j : Int} : equD (.int i) (.int j) = .ret (.bl (decide (i = j))) := by
  show (if okD (.int i) (.int j) = true then M.ret (D.bl (eqB (.int i) (.int j))) else .stuck) = _
  rw [if_pos (show okD (.int i) (.int j) = true from rfl), eqB_int]
@[simp] theorem neu_int {i j : Int} : neuD (.int i) (.int j) = .ret (.bl (!decide (i = j))) := by
  show (if okD (.int i) (.int j) = true then M.ret (D.bl (!eqB (.int i) (.int j))) else .stuck) = _
  rw [if_pos (show okD (.int i) (.int j) = true from rfl), eqB_int]
theorem okD_of {d : D} (h : d.pl = true) (hd : d.dep ≤ 60) : okD d d = true := by
  unfold okD
  rw [h, Nat.min_self, decide_eq_true hd]; rfl
/-- what is the same is equal -/
theorem neu_same {d : D} (h : d.pl = true) (hd : d.dep ≤ 60) : neuD d d = .ret (.bl false) := by
  have : neuD d d = neD d d := by cases d <;> first | rfl | cases h
  rw [this]
  show (if okD d d = true then M.ret (D.bl (!eqB d d)) else .stuck) = _
  rw [if_pos (okD_of h hd), eqB_refl d h]; rfl
theorem equ_same {d : D} (h : d.pl = true) (hd : d.dep ≤ 60) : equD d d = .ret (.bl true) := by
  have : equD d d = eqD d d := by cases d <;> first | rfl | cases h
  rw [this]
  show (if okD d d = true then M.ret (D.bl (eqB d d)) else .stuck) = _
  rw [if_pos (okD_of h hd), eqB_refl d h]
/-! pairs of numbers -/
abbrev II := Int × Int
def pD (c : II) : D := .tup [.int c.1, .int c.2]
@[simp] theorem pD_pl {c : II} : (pD c).pl = true := rfl
@[simp] theorem pD_dep {c : II} : (pD c).dep = 1 := rfl
@[simp] theorem pD_key {c : II} : ktuD (pD c) = some [.inl c.1, .inl c.2] := rfl
theorem pD_same {c d : II} : sameK true (pD c) (pD d) = decide (c = d) := by
  show decide (some [(Sum.inl c.1 : Key), .inl c.2] = some [.inl d.1, .inl d.2]) = _
  by_cases h : c = d
  · subst h; simp
  · have : ¬ (some [(Sum.inl c.1 : Key), .inl c.2] = some [.inl d.1, .inl d.2]) := fun z => h (by
      simp only [Option.some.injEq, List.cons.injEq, Sum.inl.injEq, and_true] at z
      exact Prod.ext z.1 z.2)
    rw [decide_eq_false this, decide_eq_false h]
theorem eqB_pD {c d : II} : eqB (pD c) (pD d) = decide (c = d) := by
  unfold pD
  rw [eqB_tup, eqBL_cons, eqBL_cons, eqB_int, eqB_int, eqBL_nil, Bool.and_true]
  by_cases h : c = d
  · subst h; simp
  · rw [decide_eq_false h]
    by_cases h1 : c.1 = d.1
    · have h2 : ¬ c.2 = d.2 := fun z => h (Prod.ext h1 z)
      rw [decide_eq_false h2, Bool.and_false]
    · rw [decide_eq_false h1, Bool.false_and]
/-! dicts from pairs to numbers -/
abbrev Tab := List (II × Int)
def tabD (A : Tab) : List (D × D) := A.map fun p => (pD p.1, .int p.2)
def tget (A : Tab) (c : II) : Option Int := (A.find? fun p => decide (p.1 = c)).map (·.2)
def tput (A : Tab) (c : II) (v : Int) : Tab := if (A.any fun p => decide (p.1 = c)) = true then A.map (fun p => if p.1 = c then (p.1, v) else p) else A ++ [(c, v)]
theorem dval_tab {c : II} : ∀ {A : Tab}, dval true (tabD A) (pD c) = (tget A c).map D.int
  | [] => rfl
  | p :: r => by
    unfold dval tget tabD
    rw [List.map_cons, List.find?_cons, List.find?_cons]
    show (match sameK true (pD p.1) (pD c) with | true => _ | false => _ : Option (D × D)).map (·.2) = _
    rw [pD_same]
    by_cases h : p.1 = c
    · rw [decide_eq_true h]; rfl
    · rw [decide_eq_false h]
      exact dval_tab (A := r)
theorem dput_tab {c : II} {v : Int} {A : Tab} : dput true (tabD A) (pD c) (.int v) = tabD (tput A c v) := by
  unfold dput tput
  have h1 : ((tabD A).any fun p => sameK true p.1 (pD c)) = A.any fun p => decide (p.1 = c) := by
    unfold tabD
    rw [List.any_map]
    congr 1
    funext p
    exact pD_same
  rw [h1]
  by_cases h : (A.any fun p => decide (p.1 = c)) = true
  · rw [if_pos h, if_pos h]
    unfold tabD
    rw [List.map_map, List.map_map]
    refine List.map_congr_left fun p _ => ?_
    show (if sameK true (pD p.1) (pD c) = true then (pD p.1, D.int v) else (pD p.1, .int p.2)) = (pD (if p.1 = c then (p.1, v) else p).1, D.int (if p.1 = c then (p.1, v) else p).2)
    rw [pD_same]
    by_cases e : p.1 = c
    · rw [if_pos (decide_eq_true e), if_pos e]
    · rw [if_neg (by simp [e]), if_neg e]
  · rw [if_neg h, if_neg h]
    unfold tabD
    rw [List.map_append]; rfl
theorem tab_len {A : Tab} : (tabD A).length = A.length := List.length_map ..
theorem tput_len {A : Tab} {c : II} {v : Int} : (tput A c v).length ≤ A.length + 1 := by
  unfold tput
  split
  · rw [List.length_map]; omega
  · rw [List.length_append]; simp
theorem plV_tab : ∀ A : Tab, plV (tabD A) = true
  | [] => rfl
  | p :: r => by
    show ((D.int p.2).pl && decide ((D.int p.2).dep ≤ 50) && plV (tabD r)) = true
    rw [plV_tab r]; rfl
/-- the keys differ -/
def Uq (A : Tab) : Prop := (A.map (·.1)).Nodup
theorem any_key {A : Tab} {c : II} : (A.any fun p => decide (p.1 = c)) = true ↔ c ∈ A.map (·.1) := by
  rw [List.any_eq_true, List.mem_map]
  exact ⟨fun ⟨p, h, e⟩ => ⟨p, h, of_decide_eq_true e⟩, fun ⟨p, h, e⟩ => ⟨p, h, decide_eq_true e⟩⟩
theorem tput_keys {A : Tab} {c : II} {v : Int} : (tput A c v).map (·.1) = if c ∈ A.map (·.1) then A.map (·.1) else A.map (·.1) ++ [c] := by
  unfold tput
  by_cases h : (A.any fun p => decide (p.1 = c)) = true
  · rw [if_pos h, if_pos (any_key.mp h), List.map_map]
    refine List.map_congr_left fun p _ => ?_
    show (if p.1 = c then (p.1, v) else p).1 = p.1
    split <;> rfl
  · rw [if_neg h, if_neg fun z => h (any_key.mpr z), List.map_append]; rfl
theorem Uq.put {A : Tab} {c : II} {v : Int} (h : Uq A) : Uq (tput A c v) := by
  unfold Uq
  rw [tput_keys]
  by_cases m : c ∈ A.map (·.1)
  · rw [if_pos m]; exact h
  · rw [if_neg m]
    rw [List.nodup_append]
    exact ⟨h, by simp, fun a ha b hb z => by
      rw [List.mem_singleton] at hb
      rw [z, hb] at ha
      exact m ha⟩
theorem tget_mem {A : Tab} (h : Uq A) {c : II} {v : Int} : tget A c = some v ↔ (c, v) ∈ A := by
  induction A with
  | nil => unfold tget; simp
  | cons p r ih =>
    have h' : (p.1 :: r.map (·.1)).Nodup := h
    rw [List.nodup_cons] at h'
    unfold tget at ih ⊢
    rw [List.find?_cons]
    by_cases e : p.1 = c
    · rw [decide_eq_true e]
      simp only [Option.map_some, Option.some.injEq, List.mem_cons]
      constructor
      · intro z; exact .inl (Prod.ext e.symm z.symm)
      · rintro (z | z)
        · rw [← z]
        · exact absurd (List.mem_map.mpr ⟨(c, v), z, rfl⟩) (e ▸ h'.1)
    · rw [decide_eq_false e]
      rw [ih h'.2, List.mem_cons]
      exact ⟨.inr, fun z => z.elim (fun w => absurd (congrArg Prod.fst w).symm e) id⟩
theorem tget_none {A : Tab} {c : II} : tget A c = none ↔ c ∉ A.map (·.1) := by
  unfold tget
  rw [Option.map_eq_none_iff, List.find?_eq_none, List.mem_map]
  exact ⟨fun h ⟨p, hp, e⟩ => h p hp (decide_eq_true e), fun h p hp e => h ⟨p, hp, of_decide_eq_true e⟩⟩
theorem subDct_tab {B : Tab} : ∀ {A : Tab}, subDct true (tabD B) (tabD A) = A.all fun p => decide (tget B p.1 = some p.2)
  | [] => rfl
  | p :: r => by
    show ((match dval true (tabD B) (pD p.1) with | some y => eqB (.int p.2) y | none => false) && subDct true (tabD B) (tabD r)) = (decide (tget B p.1 = some p.2) && r.all _)
    rw [subDct_tab (A := r), dval_tab]
    congr 1
    cases e : tget B p.1 with
    | none => simp
    | some v =>
      show eqB (.int p.2) (.int v) = _
      rw [eqB_int]
      by_cases h : p.2 = v
      · rw [h]; simp
      · rw [decide_eq_false h, decide_eq_false]
        intro z
        exact h (Option.some.inj z).symm
theorem sub_back {α : Type} [DecidableEq α] : ∀ {A B : List α}, A.Nodup → (∀ p ∈ A, p ∈ B) → B.length ≤ A.length → ∀ p ∈ B, p ∈ A
  | [], B, _, _, hl, p, hp => by
    have : B = [] := List.length_eq_zero_iff.mp (by simpa using hl)
    rw [this] at hp; exact hp
  | a :: A, B, hn, h, hl, p, hp => by
    rw [List.nodup_cons] at hn
    have ha := h a List.mem_cons_self
    have hb : ∀ q ∈ A, q ∈ B.erase a := fun q hq => (List.mem_erase_of_ne (fun z : q = a => hn.1 (by rw [← z]; exact hq))).mpr (h q (List.mem_cons_of_mem _ hq))
    have hlen : (B.erase a).length ≤ A.length := by
      rw [List.length_erase_of_mem ha]
      have : (a :: A).length = A.length + 1 := rfl
      omega
    by_cases e : p = a
    · rw [e]; exact List.mem_cons_self
    · exact List.mem_cons_of_mem _ (sub_back hn.2 hb hlen p ((List.mem_erase_of_ne e).mpr hp))
theorem nodup_of {α β : Type} (f : α → β) : ∀ {A : List α}, (A.map f).Nodup → A.Nodup
  | [], _ => List.nodup_nil
  | a :: A, h => by
    rw [List.map_cons, List.nodup_cons] at h
    rw [List.nodup_cons]
    exact ⟨fun z => h.1 (List.mem_map.mpr ⟨a, z, rfl⟩), nodup_of f h.2⟩
theorem subset_back {A B : Tab} (hA : Uq A) (hl : A.length = B.length) (h : ∀ p ∈ A, p ∈ B) : ∀ p ∈ B, p ∈ A := sub_back (nodup_of (fun p : II × Int => p.1) hA) h (Nat.le_of_eq hl.symm)
/-- two tables are compared alike from both sides -/
theorem eqDct_comm {A B : Tab} (hA : Uq A) (hB : Uq B) : eqDctB true (tabD A) (tabD B) = eqDctB true (tabD B) (tabD A) := by
  unfold eqDctB
  rw [subDct_tab, subDct_tab, tab_len, tab_len]
  rw [Bool.eq_iff_iff]
  simp only [Bool.and_eq_true, beq_iff_eq, List.all_eq_true, decide_eq_true_eq]
  have go : ∀ {A B : Tab}, Uq A → Uq B → A.length = B.length → (∀ p ∈ A, tget B p.1 = some p.2) → ∀ p ∈ B, tget A p.1 = some p.2 := fun {A B} hA hB hl h p hp =>
    (tget_mem hA).mpr (subset_back hA hl (fun q hq => (tget_mem hB).mp (h q hq)) p hp)
  exact ⟨fun ⟨h1, h2⟩ => ⟨h1.symm, go hA hB h1 h2⟩, fun ⟨h1, h2⟩ => ⟨h1.symm, go hB hA h1 h2⟩⟩
theorem eqDct_refl {A : Tab} (h : Uq A) : eqDctB true (tabD A) (tabD A) = true := by
  unfold eqDctB
  rw [subDct_tab, Bool.and_eq_true]
  exact ⟨by simp, List.all_eq_true.mpr fun p hp => decide_eq_true ((tget_mem h).mpr hp)⟩
theorem equ_tab {A B : Tab} : equD (.dct true (tabD A)) (.dct true (tabD B)) = .ret (.bl (eqDctB true (tabD A) (tabD B))) := by
  show (if (true == true && (plV (tabD A) && plV (tabD B))) = true then M.ret _ else .stuck) = _
  rw [plV_tab, plV_tab]; rfl
theorem neu_tab {A B : Tab} : neuD (.dct true (tabD A)) (.dct true (tabD B)) = .ret (.bl (!eqDctB true (tabD A) (tabD B))) := by
  show (if (true == true && (plV (tabD A) && plV (tabD B))) = true then M.ret _ else .stuck) = _
  rw [plV_tab, plV_tab]; rfl
@[simp] theorem lcGo_nil {one : D → M (List D)} : lcGo one [] = .ret [] := rfl
@[simp] theorem lcGo_cons {one : D → M (List D)} {d : D} {r : List D} : lcGo one (d :: r) = one d >>= fun l => lcGo one r >>= fun es => .ret (l ++ es) := rfl
theorem all_bls {bs : List Bool} : allD [.lst (bs.map .bl)] = .ret (.bl (bs.all id)) := by
  show onBls (bs.map .bl) _ = _
  unfold onBls
  rw [blsOf_map]
theorem any_bls {bs : List Bool} : anyD [.lst (bs.map .bl)] = .ret (.bl (bs.any id)) := by
  show onBls (bs.map .bl) _ = _
  unfold onBls
  rw [blsOf_map]
theorem sum_ints {ns : List Int} : sumD [.lst (ns.map .int)] = .ret (.int ns.sum) := by
  show onInts (ns.map .int) _ = _
  unfold onInts
  rw [intsOf_map]
theorem all_true {ds : List D} (h : ∀ d ∈ ds, d = .bl true) : allD [.lst ds] = .ret (.bl true) := by
  have e : ds = (ds.map fun _ => true).map D.bl := by
    rw [List.map_map]
    conv => lhs; rw [← List.map_id ds]
    exact List.map_congr_left fun d hd => h d hd
  rw [e, all_bls]
  congr 2
  rw [List.all_map]
  exact List.all_eq_true.mpr fun _ _ => rfl
theorem own_free {vs : List Nat} {Γ : Ga} (h : ownFree vs Γ = true) {α : Type} {a b : M α} : (if ownFree vs Γ = true then a else b) = a := if_pos h
@[simp] theorem isOwn_v {d : D} : (Sl.v d).isOwn = false := rfl
@[simp] theorem isOwn_un : Sl.un.isOwn = false := rfl
@[simp] theorem isOwn_own {d : D} : (Sl.own d).isOwn = true := rfl
@[simp] theorem wipe_nil {Γ : Ga} : wipeG Γ [] = Γ := rfl
@[simp] theorem wipe_cons {Γ : Ga} {v : Nat} {vs : List Nat} : wipeG Γ (v :: vs) = (wipeG Γ vs).set v .un := rfl
@[simp] theorem atD0 {d : D} {r : List D} : atD (d :: r) 0 = .ret d := at_nat (j := 0) rfl
@[simp] theorem atD1 {d e : D} {r : List D} : atD (d :: e :: r) 1 = .ret e := at_nat (j := 1) rfl
@[simp] theorem atD2 {d e f : D} {r : List D} : atD (d :: e :: f :: r) 2 = .ret f := at_nat (j := 2) rfl
@[simp] theorem atD3 {d e f g : D} {r : List D} : atD (d :: e :: f :: g :: r) 3 = .ret g := at_nat (j := 3) rfl
/-- a loop that always goes on: what it does to the slots, R: with what is still to come -/
theorem forM_rel {γ σ : Type} {enc : γ → D} {body : D → Ga → M (Ct × Ga)} {R : List γ → σ → Ga → Prop} {g : σ → γ → σ} (h : ∀ x r a Γ, R (x :: r) a Γ → ∃ Γ', body (enc x) Γ = .ret (.nx, Γ') ∧ R r (g a x) Γ') :
    ∀ {xs : List γ} {a : σ} {Γ : Ga}, R xs a Γ → ∃ Γ', forM body (xs.map enc) Γ = .ret (.nx, Γ') ∧ R [] (xs.foldl g a) Γ'
  | [], a, Γ, q => ⟨Γ, rfl, q⟩
  | x :: r, a, Γ, q => by
    obtain ⟨Γ1, e1, q1⟩ := h x r a Γ q
    obtain ⟨Γ2, e2, q2⟩ := forM_rel h q1
    refine ⟨Γ2, ?_, q2⟩
    show (body (enc x) Γ >>= fun z => match z.1 with
      | .nx => forM body (r.map enc) z.2
      | .ct => forM body (r.map enc) z.2
      | .bk => .ret (.nx, z.2)
      | .rt d => .ret (.rt d, z.2)) = _
    rw [e1]
    exact e2
@[simp] theorem sputM_ {tt : Bool} {i : Nat} {mk mv : Ga → M D} {Γ : Ga} : sputM tt i mk mv Γ = match Γ[i]? with
  | some (.own _) => mv Γ >>= fun v => mk Γ >>= fun k => sputG tt i k v Γ
  | _ => .stuck := rfl
def tsum (A : Tab) : Int := (A.map (·.2)).sum
theorem map_keep {c : II} {v : Int} : ∀ {A : Tab}, c ∉ A.map (·.1) → A.map (fun p => if p.1 = c then (p.1, v) else p) = A
  | [], _ => rfl
  | a :: r, h => by
    rw [List.map_cons, List.mem_cons, not_or] at h
    rw [List.map_cons, map_keep h.2, if_neg (fun e => h.1 e.symm)]
theorem tput_cons_ne {a : II × Int} {r : Tab} {c : II} {v : Int} (h : a.1 ≠ c) : tput (a :: r) c v = a :: tput r c v := by
  unfold tput
  rw [List.any_cons, decide_eq_false h, Bool.false_or]
  by_cases k : (r.any fun p => decide (p.1 = c)) = true
  · rw [if_pos k, if_pos k, List.map_cons, if_neg h]
  · rw [if_neg k, if_neg k]; rfl
theorem tput_cons_eq {a : II × Int} {r : Tab} {c : II} {v : Int} (h : a.1 = c) (hn : c ∉ r.map (·.1)) : tput (a :: r) c v = (c, v) :: r := by
  unfold tput
  rw [List.any_cons, decide_eq_true h, Bool.true_or, if_pos rfl, List.map_cons, if_pos h, map_keep hn, h]
theorem tput_sum {c : II} {m : Int} : ∀ {A : Tab}, Uq A → tsum (tput A c ((tget A c).getD 0 + m)) = tsum A + m
  | [], _ => by
    show (0 + m) + 0 = 0 + m
    omega
  | a :: r, h => by
    have hh : a.1 ∉ r.map (·.1) ∧ Uq r := by
      have := h
      unfold Uq at this
      rw [List.map_cons, List.nodup_cons] at this
      exact this
    by_cases e : a.1 = c
    · rw [tput_cons_eq e (e ▸ hh.1)]
      have g : tget (a :: r) c = some a.2 := by
        unfold tget
        rw [List.find?_cons, decide_eq_true e]; rfl
      rw [g]
      show (a.2 + m) + tsum r = (a.2 + tsum r) + m
      omega
    · have g : tget (a :: r) c = tget r c := by
        unfold tget
        rw [List.find?_cons, decide_eq_false e]
      rw [tput_cons_ne e, g]
      show a.2 + tsum (tput r c _) = (a.2 + tsum r) + m
      rw [tput_sum hh.2]
      omega
theorem vals_go {A : Tab} (hU : Uq A) {one : D → M (List D)} {F : II → Int → D} (h : ∀ c v, (c, v) ∈ A → tget A c = some v → one (pD c) = .ret [F c v]) : lcGo one ((tabD A).map (·.1)) = .ret (A.map fun p => F p.1 p.2) := by
  have e : (tabD A).map (·.1) = A.map (fun p => pD p.1) := by
    unfold tabD; rw [List.map_map]; rfl
  have k : ∀ (B : Tab), (∀ p ∈ B, p ∈ A) → lcGo one (B.map fun p => pD p.1) = .ret (B.map fun p => F p.1 p.2) := by
    intro B
    induction B with
    | nil => exact fun _ => rfl
    | cons p r ih =>
      intro hB
      have hp := hB p (List.mem_cons_self ..)
      rw [List.map_cons, lcGo_cons, h p.1 p.2 hp ((tget_mem hU).mpr hp), ret_b, ih fun q hq => hB q (List.mem_cons_of_mem _ hq)]
      rfl
  rw [e]
  exact k A fun _ x => x
theorem tabget {A : Tab} {c : II} {v : Int} (h : tget A c = some v) : getD' (.dct true (tabD A)) (pD c) = .ret (.int v) := by
  show (if isKeyD true (pD c) = true then (match dval true (tabD A) (pD c) with
    | some d => M.ret d
    | none => .stuck) else .stuck) = _
  rw [if_pos (show isKeyD true (pD c) = true from rfl), dval_tab, h]; rfl
/-! ### the least of pairs of a number and a cell -/
abbrev IP := Int × II
def ipD (x : IP) : D := .tup [.int x.1, pD x.2]
def kLt (x y : IP) : Bool := PySem.W.dataLt (toPy (ipD x)) (toPy (ipD y))
theorem kLt_eq {i j : Int} {c d : II} : kLt (i, c) (j, d) = (decide (i < j) || (!decide (j < i) && PyProof.Rows.lexLt PyProof.Rows.itemOrd (Sum.inl 1 :: (PySem.W.keyToks (toPy (pD c)) ++ [Sum.inl 0])) (Sum.inl 1 :: (PySem.W.keyToks (toPy (pD d)) ++ [Sum.inl 0])))) := by
  show PyProof.Rows.lexLt PyProof.Rows.itemOrd (Sum.inl 1 :: Sum.inl i :: (Sum.inl 1 :: (PySem.W.keyToks (toPy (pD c)) ++ [Sum.inl 0]))) (Sum.inl 1 :: Sum.inl j :: (Sum.inl 1 :: (PySem.W.keyToks (toPy (pD d)) ++ [Sum.inl 0]))) = _
  rw [lex_self, lex_cons]
  rfl
def kMin (x : IP) (xs : List IP) : IP := xs.foldl (fun a y => if kLt y a = true then y else a) x
theorem min_k {x : IP} {xs : List IP} : minL (ipD x) (xs.map ipD) = ipD (kMin x xs) := by
  induction xs generalizing x with
  | nil => rfl
  | cons y r ih =>
    show minL (if PySem.W.dataLt (toPy (ipD y)) (toPy (ipD x)) = true then ipD y else ipD x) (r.map ipD) = ipD (kMin (if kLt y x = true then y else x) r)
    by_cases h : kLt y x = true
    · rw [if_pos h, if_pos (show PySem.W.dataLt (toPy (ipD y)) (toPy (ipD x)) = true from h)]; exact ih
    · rw [if_neg h, if_neg (show ¬ PySem.W.dataLt (toPy (ipD y)) (toPy (ipD x)) = true from h)]; exact ih
theorem k_plL : ∀ (xs : List IP), D.plL (xs.map ipD) = true
  | [] => rfl
  | x :: r => by
    show ((ipD x).pl && D.plL (r.map ipD)) = true
    rw [k_plL r]; rfl
theorem k_depL : ∀ (xs : List IP), D.depL (xs.map ipD) ≤ 60
  | [] => by show 0 ≤ 60; omega
  | x :: r => by
    show max (ipD x).dep (D.depL (r.map ipD)) ≤ 60
    have := k_depL r
    have e : (ipD x).dep = 2 := rfl
    omega
theorem minD_k {x : IP} {xs : List IP} : minD [.lst ((x :: xs).map ipD)] = .ret (ipD (kMin x xs)) := by
  show (if (D.plL ((x :: xs).map ipD) && alikeD ((x :: xs).map ipD) && decide (D.depL ((x :: xs).map ipD) ≤ 60)) = true then keepB (minL (ipD x) (xs.map ipD)) else .stuck) = _
  have e : alikeD ((x :: xs).map ipD) = true := by
    unfold alikeD
    rw [Bool.and_eq_true, List.all_eq_true, List.all_eq_true]
    refine ⟨fun a ha => List.all_eq_true.mpr fun b hb => ?_, fun a ha => ?_⟩
    · obtain ⟨_, _, rfl⟩ := List.mem_map.mp ha
      obtain ⟨_, _, rfl⟩ := List.mem_map.mp hb
      rfl
    · obtain ⟨_, _, rfl⟩ := List.mem_map.mp ha
      rfl
  rw [k_plL, e, decide_eq_true (k_depL _), min_k]
  rfl
theorem kMin_shift {t : Int} {x : IP} {xs : List IP} : kMin (x.1 + t, x.2) (xs.map fun y => (y.1 + t, y.2)) = ((kMin x xs).1 + t, (kMin x xs).2) := by
  induction xs generalizing x with
  | nil => rfl
  | cons y r ih =>
    have e : kLt (y.1 + t, y.2) (x.1 + t, x.2) = kLt y x := by
      have e1 := kLt_eq (i := y.1) (j := x.1) (c := y.2) (d := x.2)
      rw [kLt_eq]
      refine Eq.trans ?_ e1.symm
      rw [show decide (y.1 + t < x.1 + t) = decide (y.1 < x.1) from decide_eq_decide.mpr (by omega), show decide (x.1 + t < y.1 + t) = decide (x.1 < y.1) from decide_eq_decide.mpr (by omega)]
    show kMin (if kLt (y.1 + t, y.2) (x.1 + t, x.2) = true then (y.1 + t, y.2) else (x.1 + t, x.2)) (r.map fun y => (y.1 + t, y.2)) = ((kMin (if kLt y x = true then y else x) r).1 + t, (kMin (if kLt y x = true then y else x) r).2)
    rw [e]
    by_cases h : kLt y x = true
    · rw [if_pos h, if_pos h]; exact ih
    · rw [if_neg h, if_neg h]; exact ih
theorem has_tab {A : Tab} {c : II} : hasNotD (pD c) (.dct true (tabD A)) = .ret (.bl (!(tget A c).isSome)) := by
  show bnotM (if isKeyD true (pD c) = true then M.ret (.bl (dval true (tabD A) (pD c)).isSome) else .stuck) = _
  rw [if_pos (show isKeyD true (pD c) = true from rfl), dval_tab]
  cases tget A c <;> rfl
end Px

set_option Elab.async false
set_option linter.all false
set_option maxRecDepth 100000
set_option autoImplicit false
namespace Px
open PySem PySem.Spec PyProof.Rows L2
section
variable {i : Nat} {ml : Ga → M (List D)} {g : List D → List D → Option (D × List D)} {kk : D → Ga → M (Ct × Ga)} {Γ : Ga} {ds : List D} {d e : D} {bnd : D → Ga → M Ga}
@[simp] theorem mthM_ : mthM i ml g kk Γ = match Γ[i]? with
  | some (.own (.lst ds)) => ml Γ >>= fun es => match g ds es with
    | some (d, ds') => kk d (Γ.set i (.own (.lst ds')))
    | none => .stuck
  | _ => .stuck := by
  unfold mthM ownL
  generalize Γ[i]? = o
  cases o with
  | none => rfl
  | some s =>
    cases s with
    | un => rfl
    | v d => rfl
    | own d => cases d <;> rfl
@[simp] theorem appG_ : appG ds [d] = if ds.length < 16777216 then some (.non, ds ++ [d]) else none := rfl
@[simp] theorem extG_l {es : List D} : extG ds [.lst es] = if ds.length + es.length ≤ 16777216 then some (.non, ds ++ es) else none := rfl
@[simp] theorem dropK_ : dropK' d Γ = .ret (.nx, Γ) := rfl
@[simp] theorem bndK_ : bndK bnd d Γ = bnd d Γ >>= fun Γ' => .ret (.nx, Γ') := rfl
theorem range_nat {n : Int} (h0 : 0 ≤ n) (h : n ≤ 1000000) : rangeD [.int n] = .ret ((List.range n.toNat).map fun (y : Nat) => D.int (y : Int)) := by
  show (if n ≤ 16777216 ∧ -(2 ^ 62) ≤ n then M.ret (rangeL 0 1 n.toNat) else .stuck) = _
  rw [if_pos (by omega)]; simp [rangeL]
end
theorem depL_le {ds : List D} {n : Nat} (h : ∀ d ∈ ds, d.dep ≤ n) : D.depL ds ≤ n := by
  induction ds with
  | nil => exact Nat.zero_le _
  | cons d r ih => exact Nat.max_le.mpr ⟨h d (List.mem_cons_self ..), ih fun e he => h e (List.mem_cons_of_mem _ he)⟩
theorem plL_of {ds : List D} (h : ∀ d ∈ ds, d.pl = true) : D.plL ds = true := by
  rw [plL_all]
  exact List.all_eq_true.mpr h
theorem rpr_bl {b : Bool} : (reprD [.bl b] >>= fun x => reprD [.bl b] >>= fun y => equD x y) = .ret (.bl true) := by
  cases b <;> rfl
/-! ### step by step -/
/-- the same, closed: it is not unfolded by itself -/
structure Wq {α : Type} (m : M α) (Q : α → Prop) (E : Exn → Prop) : Prop where
  go : m.wp Q E
section
variable {α : Type} {Γ Γ' : Ga} {m1 m2 : Ga → M (Ct × Ga)} {ma mb : Ga → M D} {t : Ga → M Bool} {bnd : D → Ga → M Ga} {mS : Ga → M (List Sl)} {mi : Ga → M (List D)} {i np n : Nat} {d : D} {ds : List D} {is : List Nat} {ss : List Sl} {body : Ga → M (Ct × Ga)} {Q : Ct × Ga → Prop} {Q1 : D → Prop} {E' : Exn → Prop}
theorem wq_chk (h : t Γ = .ret false) (k : Wq (m2 Γ) Q E') : Wq (seqM (ifM t m1 nextM) m2 Γ) Q E' := by
  rw [seqM_, ifM_, h]; exact k
theorem wq_chkw (h : (t Γ).wp (fun b => b = false) fun _ => False) (k : Wq (m2 Γ) Q E') : Wq (seqM (ifM t m1 nextM) m2 Γ) Q E' := by
  rw [seqM_, ifM_]
  exact ⟨M.wp_bind.mpr (M.wp_bind.mpr (M.wp_mono h (fun b e => by subst e; exact k.go) fun _ z => z.elim))⟩
theorem wq_setS (h : ma Γ = .ret d) (k : Wq (m2 (Γ.set i (.v d))) Q E') : Wq (seqM (setSM i ma) m2 Γ) Q E' := by
  rw [seqM_, setSM_, h]; exact k
theorem wq_setSw (h : (ma Γ).wp (fun d => Wq (m2 (Γ.set i (.v d))) Q E') E') : Wq (seqM (setSM i ma) m2 Γ) Q E' := by
  rw [seqM_, setSM_]
  exact ⟨M.wp_bind.mpr (M.wp_bind.mpr (M.wp_mono h (fun _ q => q.go) fun _ z => z))⟩
theorem wq_set (h : ma Γ = .ret d) (k : Wq (m2 (Γ.set i (slF d))) Q E') : Wq (seqM (setM i ma) m2 Γ) Q E' := by
  rw [seqM_, setM_, h]; exact k
theorem wq_setw (h : (ma Γ).wp (fun d => Wq (m2 (Γ.set i (slF d))) Q E') E') : Wq (seqM (setM i ma) m2 Γ) Q E' := by
  rw [seqM_, setM_]
  exact ⟨M.wp_bind.mpr (M.wp_bind.mpr (M.wp_mono h (fun _ q => q.go) fun _ z => z))⟩
theorem wq_asg (h : ma Γ = .ret d) (h2 : bnd d Γ = .ret Γ') (k : Wq (m2 Γ') Q E') : Wq (seqM (asgM ma bnd) m2 Γ) Q E' := by
  rw [seqM_, asgM_, h, ret_b, h2]; exact k
theorem wq_asgw (h : (ma Γ).wp (fun d => (bnd d Γ).wp (fun Γ' => Wq (m2 Γ') Q E') E') E') : Wq (seqM (asgM ma bnd) m2 Γ) Q E' := by
  rw [seqM_, asgM_]
  exact ⟨M.wp_bind.mpr (M.wp_bind.mpr (M.wp_mono h (fun _ q => M.wp_bind.mpr (M.wp_mono q (fun _ q => q.go) fun _ z => z)) fun _ z => z))⟩
theorem wq_par (h : mS Γ = .ret ss) (k : Wq (m2 (setAll is ss Γ)) Q E') : Wq (seqM (parM is mS) m2 Γ) Q E' := by
  rw [seqM_, parM_, h]; exact k
theorem wq_parw (h : (mS Γ).wp (fun ss => Wq (m2 (setAll is ss Γ)) Q E') E') : Wq (seqM (parM is mS) m2 Γ) Q E' := by
  rw [seqM_, parM_]
  exact ⟨M.wp_bind.mpr (M.wp_bind.mpr (M.wp_mono h (fun _ q => q.go) fun _ z => z))⟩
theorem wq_ret (h : ma Γ = .ret d) (k : Q (.rt d, Γ)) : Wq (retM ma Γ) Q E' := by
  rw [retM_, h]; exact ⟨k⟩
theorem wq_retw (h : (ma Γ).wp (fun d => Q (.rt d, Γ)) E') : Wq (retM ma Γ) Q E' := by
  rw [retM_]
  exact ⟨M.wp_bind.mpr (M.wp_mono h (fun _ q => q) fun _ z => z)⟩
theorem wq_seq (h : m1 Γ = .ret (.nx, Γ')) (k : Wq (m2 Γ') Q E') : Wq (seqM m1 m2 Γ) Q E' := by
  rw [seqM_, h]; exact k
theorem wq_seqw (h : Wq (m1 Γ) (fun r => (andThen r m2).wp Q E') E') : Wq (seqM m1 m2 Γ) Q E' := by
  rw [seqM_]
  exact ⟨M.wp_bind.mpr (M.wp_mono h.go (fun _ q => q) fun _ z => z)⟩
/-- m1 ends: next, with the slots as R says -/
theorem wq_seqR {R : Ga → Prop} (h : Wq (m1 Γ) (fun r => r.1 = .nx ∧ R r.2) E') (k : ∀ Γ', R Γ' → Wq (m2 Γ') Q E') : Wq (seqM m1 m2 Γ) Q E' := by
  refine wq_seqw ⟨M.wp_mono h.go (fun r q => ?_) fun _ z => z⟩
  obtain ⟨c, Γ'⟩ := r
  obtain ⟨e, q⟩ := q
  have e : c = .nx := e
  subst e
  exact (k Γ' q).go
theorem wq_setSP {P : D → Prop} (h : (ma Γ).wp P E') (k : ∀ d, P d → Wq (m2 (Γ.set i (.v d))) Q E') : Wq (seqM (setSM i ma) m2 Γ) Q E' := wq_setSw (M.wp_mono h k fun _ z => z)
theorem wq_setP {P : D → Prop} (h : (ma Γ).wp P E') (k : ∀ d, P d → Wq (m2 (Γ.set i (slF d))) Q E') : Wq (seqM (setM i ma) m2 Γ) Q E' := wq_setw (M.wp_mono h k fun _ z => z)
theorem wq_fn (h : ds.length = np) (k : Wq (body (ds.map Sl.v ++ List.replicate (n - np) Sl.un)) (fun r => (fnEnd r).wp Q1 E') E') : (fnM np n body ds).wp Q1 E' := by
  unfold fnM
  rw [if_pos h]
  exact M.wp_bind.mpr k.go
theorem wq_if_t (h : t Γ = .ret true) (k : Wq (m1 Γ) Q E') : Wq (ifM t m1 m2 Γ) Q E' := by
  rw [ifM_, h]; exact k
theorem wq_if_f (h : t Γ = .ret false) (k : Wq (m2 Γ) Q E') : Wq (ifM t m1 m2 Γ) Q E' := by
  rw [ifM_, h]; exact k
theorem wq_ifw_f (h : (t Γ).wp (fun b => b = false) fun _ => False) (k : Wq (m2 Γ) Q E') : Wq (ifM t m1 m2 Γ) Q E' := by
  rw [ifM_]
  exact ⟨M.wp_bind.mpr (M.wp_mono h (fun b e => by subst e; exact k.go) fun _ z => z.elim)⟩
theorem wq_next (k : Q (.nx, Γ)) : Wq (nextM Γ) Q E' := ⟨k⟩
/-- a loop with an invariant of the slots -/
theorem wq_for {γ : Type} {enc : γ → D} {xs : List γ} {I : List γ → Ga → Prop} (hi : mi Γ = .ret (xs.map enc)) (h0 : I xs Γ)
    (hb : ∀ x r Γ, I (x :: r) Γ → (bnd (enc x) Γ).wp (fun Γ => Wq (m1 Γ) (fun z => match z.1 with | .nx => I r z.2 | .ct => I r z.2 | .bk => Q (.nx, z.2) | .rt d => Q (.rt d, z.2)) E') E') (he : ∀ Γ, I [] Γ → Q (.nx, Γ)) : Wq (forS mi bnd m1 Γ) Q E' := by
  rw [forS_, hi]
  refine ⟨forM_inv h0 (fun x r Γ q => ?_) he⟩
  exact M.wp_bind.mpr (M.wp_mono (hb x r Γ q) (fun _ q => q.go) fun _ z => z)
theorem wp_eq {m : M α} {a : α} (h : m = .ret a) {Q : α → Prop} (q : Q a) : m.wp Q E' := by rw [h]; exact q
theorem wp_call {m : M D} (h : m.wp (fun d => d = .bl true) (fun _ => False)) {f : D → M α} {Q : α → Prop} (k : (f (.bl true)).wp Q E') : (m >>= f).wp Q E' := M.wp_bind.mpr (M.wp_mono h (fun d e => by subst e; exact k) fun _ z => z.elim)
end
end Px

set_option Elab.async false
set_option linter.all false
set_option maxRecDepth 100000
set_option maxHeartbeats 4000000
set_option autoImplicit false
namespace Px
open PySem PySem.Spec PyProof.Rows PySem.W L2 LamX

/-! ### the tables of code objects stand beside the hand -/
theorem tab_at {H H' : Hp} {P : Addr} {q : Str} (t : TabS H P q) (e1 : H' P = H P) (e2 : ∀ a f, H a = some (.ext f) → H' a = some (.ext f)) : TabS H' P q := by
  obtain ⟨ps, h1, h2, h3⟩ := t
  refine ⟨ps, e1.trans h1, h2, fun pos cv h => ?_⟩
  obtain ⟨c, ec, hc⟩ := h3 pos cv h
  exact ⟨c, ec, e2 _ _ hc⟩
def Gh.tabs (gh : Gh) (T : List (Addr × Str)) : Gh where
  Z := fun b => gh.Z b ∨ ∃ p ∈ T, p.1 = b
  G := fun H => gh.G H ∧ (∀ p ∈ T, ¬ gh.Z p.1) ∧ Tabs T H
  gk := fun H H' ⟨g, n, t⟩ hz he => ⟨gh.gk H H' g (fun a z => hz a (.inl z)) he, n, fun p hp => tab_at (t p hp) (hz p.1 (.inr ⟨p, hp, rfl⟩)) he⟩
  gz := fun H a ⟨g, n, t⟩ z => by
    rcases z with z | ⟨p, hp, rfl⟩
    · exact gh.gz H a g z
    · obtain ⟨ps, e, _⟩ := t p hp
      exact ⟨_, e, fun _ z => (nomatch z), fun _ z => (nomatch z)⟩
theorem FnG.tabs {P : Program} {w : World} {K KA : PySem.W.Frag} {mg : Str → Option Value} {base : Heap} {CX : CXT} {k : Nat} {f : Addr} {fd : FuncData} {ps : List Str} {gh : Gh} {md : Md} {m : List D → M D} (hmd : md = .f ∨ md = .s) (F : FnG P w K mg base CX k f fd ps (spM KA mg gh md m)) (T : List (Addr × Str)) :
    FnG P w K mg base CX k f fd ps (spM KA mg (gh.tabs T) md m) := by
  have weak : ∀ {vs : List V} {H : Hp} {Q : VK} {E : XK}, spM KA mg (gh.tabs T) md m vs H Q E → spM KA mg gh md m vs H Q E := by
    rintro vs H Q E ⟨P, ds, zp, p0, ⟨g, n, t⟩, r, h⟩
    have back : ∀ {H' : Hp}, Kx gh.Z H H' → gh.G H' → Kx (gh.tabs T).Z H H' ∧ (gh.tabs T).G H' := fun {H'} k g' =>
      ⟨fun a o nz e => k a o (fun z => nz (.inl z)) e, g', n, fun p hp => tab_at (t p hp) (by
        obtain ⟨ps, e, _⟩ := t p hp
        rw [e]; exact k _ _ (n p hp) e) fun a q e => k a _ (fun z => by
          obtain ⟨o, eo, _, nx⟩ := gh.gz H a g z
          rw [e] at eo; exact nx q (Option.some.inj eo).symm) e⟩
    refine ⟨P, ds, fun a z => zp a (.inl z), fun a np nz => ?_, g, r, M.wp_mono h (fun d q w' H' k g' rq => ?_) fun x hx c dd H' k g' hc => hx c dd H' (back k g').1 (back k g').2 hc⟩
    · by_cases hT : ∃ p ∈ T, p.1 = a
      · obtain ⟨p, hp, rfl⟩ := hT
        obtain ⟨ps, e, _⟩ := t p hp
        exact ⟨_, e, fun _ z => (nomatch z)⟩
      · exact p0 a np fun z => z.elim nz hT
    · refine q w' H' (back k g').1 (back k g').2 ?_
      rcases hmd with rfl | rfl
      · exact rq
      · exact rq
  exact ⟨fun vs H Q E h => F.len vs H Q E (weak h), fun A outer s H args us vs Q E hr gd e0 hb r h => F.run A outer s H args us vs Q E hr gd e0 hb r (weak h)⟩

/-! ### the law's end with such tables -/
theorem law_callGT {P : Program} {w : World} {K : PySem.W.Frag} {mg mb : Str → Option Value} {CX : CXT} {k : Nat} {fa a : Addr} {cs : List (Addr × Addr)} {fd : FuncData} {x : Str} {sp : Sp} {s₁ : Shared} {vs : List Value} {ns : List Int}
    (KX : K.In s₁.heap) (hns : s₁.heap.Ns mainGlobals mg) (hb : s₁.heap.Ns builtinsNs mb) (hbb : ∀ x : Str, x ≠ "__name__" → mb x = bootBuiltins x) (hlim : s₁.heap.NoLimit) (hg : s₁.gens = #[])
    (hT : ∀ p ∈ cs, s₁.heap.get? p.2 = some (tabObj #[])) (nT : ∀ p ∈ cs, K.lookup p.2 = none) (C : ∀ p ∈ cs, PySem.W.CodeHd s₁.heap p.1 p.2)
    (hbm : ∃ (bm : Addr) (ob : Obj), mg "__builtins__" = some (.ref bm) ∧ bm ≠ builtinsNs ∧ s₁.heap.get? bm = some ob ∧ ob.cls = .type "module" ∧ ob.dict = some builtinsNs ∧ ob.data = .plain)
    (ha : s₁.heap.get? a = some { cls := .type "list", data := .seq vs.toArray }) (hi : IntsAre vs ns) (hl : ns.length ≤ sizeLine) (hr : Room k callerA)
    (F : ∀ base : Heap, K.In base → base.Ns mainGlobals mg → (∀ p ∈ cs, TabB base mg p.1 p.2) → FnG P w K mg base CX k fa fd [x] sp) (hbind : ∀ (s : Shared) (u : Value), BindsTo s fd ⟨[u], []⟩ [(x, u)])
    (hsp : ∀ H : Hp, (∀ p ∈ cs, H p.2 = some (.tbl #[])) → SqL K H a (ns.map V.int) → sp [.ref a] H (fun v _ => v = .bl true) fun _ _ _ => False)
    (hCX : ∀ H e s', CX [] H s₁ (fun _ _ _ => False) e s' → False) :
    codeAny (model P w) callerA (.call (.ref fa) ⟨[.ref a], []⟩) (fun r s' => r = .ok (.ret (.bool true)) ∧ OldK s₁.heap s'.heap ∧ s'.os = s₁.os ∧ AllBare s'.gens) s₁ := by
  let tb : List Addr := cs.map (·.2)
  have tmem : ∀ p ∈ cs, p.2 ∈ tb := fun p hp => List.mem_map_of_mem hp
  have tget : ∀ b, b ∈ tb → ∃ p ∈ cs, p.2 = b := fun b hb => List.mem_map.mp hb
  have tobj : ∀ b, b ∈ tb → s₁.heap.get? b = some (tabObj #[]) := fun b hb => by
    obtain ⟨p, hp, rfl⟩ := tget b hb
    exact hT p hp
  have a_tb : a ∉ tb := fun z => by
    have q := tobj a z
    rw [ha] at q
    exact nomatch (show Data.seq vs.toArray _ = Data.fields #[] from congrArg Obj.data (Option.some.inj q))
  have fin : ∀ H : Hp, (∀ p ∈ cs, H p.2 = some (.tbl #[])) → (∀ b, H b = none ∨ b ∈ tb ∨ ∃ o xs, H b = some (.frz o (.lst xs))) → SqL K H a (ns.map V.int) → HOk P w H s₁.heap → (∀ b, H b ≠ none → b = a ∨ b ∈ tb) → (H a ≠ none → K.lookup a = none) →
      codeAny (model P w) callerA (.call (.ref fa) ⟨[.ref a], []⟩) (fun r s' => r = .ok (.ret (.bool true)) ∧ OldK s₁.heap s'.heap ∧ s'.os = s₁.os ∧ AllBare s'.gens) s₁ := by
    intro H hH hO hS hok hA hK
    have clear : ∀ {b : Addr} {o : Obj}, s₁.heap.get? b = some o → (∀ ys n, o.data ≠ .seq ys n) → o.data ≠ .fields #[] → H b = none := fun {b o} e h1 h2 => by
      refine Classical.byContradiction fun nn => ?_
      rcases hA b nn with rfl | hb
      · rw [ha] at e
        cases e
        exact h1 _ _ rfl
      · rw [tobj b hb] at e
        cases e
        exact h2 rfl
    have inT : ∀ {b : Addr} {o : Obj}, s₁.heap.get? b = some o → H b = none → (hidT s₁.heap H).get? b = some o := fun e n => hidT_get e n
    have dictN : ∀ {b : Addr} {o : Obj} {es : Array DictEntry} {ep : Nat}, s₁.heap.get? b = some o → o.data = .dict es ep → H b = none := fun {b o es ep} e d =>
      clear e (fun ys n z => nomatch (d.symm.trans z)) fun z => nomatch (d.symm.trans z)
    have ns_ : ∀ {b : Addr} {m : Str → Option Value}, s₁.heap.Ns b m → (hidT s₁.heap H).Ns b m := fun {b m} ⟨o, es, ep, e, d, r⟩ => ⟨o, es, ep, inT e (dictN e d), d, r⟩
    have hKb : K.In (hidT s₁.heap H) := fun b o e => inT (KX b o e) (Classical.byContradiction fun nn => by
      rcases hA b nn with rfl | hb
      · rw [hK nn] at e; cases e
      · obtain ⟨p, hp, rfl⟩ := tget b hb
        rw [nT p hp] at e; cases e)
    have hM : L2.Mod K mg (hidT s₁.heap H) := ⟨hKb, ns_ hns, ⟨mb, ns_ hb, hbb⟩, let ⟨mc, h1, h2⟩ := hlim; ⟨mc, ns_ h1, h2⟩⟩
    have TB : ∀ p ∈ cs, TabB (hidT s₁.heap H) mg p.1 p.2 := fun p hp => by
      refine ⟨?_, ?_, fun z => ?_⟩
      · obtain ⟨o, us, file, tf, flags, tg, inF, text, tt, e1, r1, r2, r3, rest⟩ := C p hp
        refine ⟨o, us, file, tf, flags, tg, inF, text, tt, inT e1 (clear e1 (fun ys n z => nomatch (r2.symm.trans z)) fun z => ?_), r1, r2, r3, rest⟩
        have := r2.symm.trans z
        cases this
        simp at r3
      · obtain ⟨bm, ob, b1, b2, b3, b4, b5, b6⟩ := hbm
        refine ⟨bm, ob, b1, b2, fun q => ?_, fun q => ?_, inT b3 (clear b3 (fun ys n z => nomatch (b6.symm.trans z)) fun z => nomatch (b6.symm.trans z)), b4, b5, b6⟩
        · obtain ⟨o, es, ep, e, hd, _⟩ := hns
          rw [q, e] at b3
          cases b3
          exact nomatch (hd.symm.trans b6)
        · rw [q, hT p hp] at b3
          cases b3
          exact nomatch b6
      · obtain ⟨o, es, ep, e, hd, _⟩ := hns
        rw [z, hT p hp] at e
        cases e
        exact nomatch hd
    have e0 : Env0 P w K mg (hidT s₁.heap H) callerA [] s₁ H := ⟨rfl, hM, fun b o e => of_hidT e, Nat.le_of_eq (hidT_size _ _), trivial, fun b hb => absurd (show b ∈ ([] : List Addr) from hb) (by simp), hok, .of_eq hg⟩
    refine codeAny_mono ((F _ hKb (ns_ hns) TB).run callerA [] s₁ H ⟨[.ref a], []⟩ [.ref a] [.ref a] _ _ hr rfl e0 (hbind s₁ (.ref a)) (.cons rfl .nil) (hsp H hH hS)) fun r s' h => ?_
    cases r with
    | error e => exact (hCX H e s' h).elim
    | ok fl =>
      cases fl with
      | next => exact False.elim h
      | brk => exact False.elim h
      | cont => exact False.elim h
      | ret u =>
        obtain ⟨v, H', os, bare, un, hok', rv', q⟩ := h
        have q : v = .bl true := q
        subst q
        obtain rfl : u = Value.bool true := rv'
        have stay : ∀ b o, b ∉ tb → s₁.heap.get? b = some o → s'.heap.get? b = some o := fun b o nb e => by
          rcases hO b with z | z | ⟨ob, xs, z⟩
          · exact un.keep b o e z (by intro q; exact absurd (show b ∈ ([] : List Addr) from q) (by simp)) (by simp)
          · exact absurd z nb
          · have z2 := un.frzs b ob _ z
            obtain ⟨e1, _⟩ := hok b _ z
            obtain ⟨e2, _⟩ := hok' b _ z2
            rw [e] at e1; cases e1
            exact e2
        have more_ : ∀ p ∈ cs, ∃ more : Array Value, s'.heap.get? p.2 = some { cls := .none, data := .fields more } := fun p hp => by
          obtain ⟨more, z⟩ := un.tbls p.2 #[] (hH p hp)
          exact ⟨_, hok' p.2 _ z⟩
        refine ⟨rfl, ⟨fun b o e => ?_, fun b o e => ?_⟩, os, bare⟩
        · by_cases hb : b ∈ tb
          · obtain ⟨p, hp, rfl⟩ := tget b hb
            obtain ⟨more, hm⟩ := more_ p hp
            rw [hT p hp] at e
            cases e
            exact .inr (.inl ⟨((C p hp).tab (hT p hp)).isCodeTable, rfl, #[], more, rfl, by rw [Array.empty_append]; exact hm⟩)
          · exact .inl (stay b o hb e)
        · by_cases hb : b ∈ tb
          · obtain ⟨p, hp, rfl⟩ := tget b hb
            obtain ⟨more, hm⟩ := more_ p hp
            exact ⟨_, hm⟩
          · exact ⟨o, stay b o hb e⟩
  have rv := vals_ints hi
  have lenV := hi.length
  cases hk : K.lookup a with
  | some o =>
    have e := KX a o hk
    rw [ha] at e
    cases e
    let H : Hp := fun b => if b ∈ tb then some (.tbl #[]) else none
    have h1 : ∀ b, b ∈ tb → H b = some (.tbl #[]) := fun b hb => if_pos hb
    have h0 : ∀ b, b ∉ tb → H b = none := fun b hb => if_neg hb
    refine fin H (fun p hp => h1 _ (tmem p hp)) (fun b => ?_) (.inr ⟨_, vs.toArray, _, hk, rfl, rfl, rfl, by rw [List.size_toArray, lenV]; exact hl, by simpa using rv⟩) (fun b u z => ?_) (fun b z => ?_) fun z => absurd (h0 a a_tb) z
    · by_cases hb : b ∈ tb
      · exact .inr (.inl hb)
      · exact .inl (h0 b hb)
    · by_cases hb : b ∈ tb
      · rw [h1 b hb] at z
        cases z
        exact tobj b hb
      · rw [h0 b hb] at z
        cases z
    · exact .inr (Classical.byContradiction fun hb => z (h0 b hb))
  | none =>
    let H : Hp := fun b => if b = a then some (.frz { cls := .type "list", data := .seq vs.toArray } (.lst (ns.map V.int))) else if b ∈ tb then some (.tbl #[]) else none
    have ne_ : ∀ b, b ∈ tb → b ≠ a := fun b hb z => a_tb (z ▸ hb)
    have hAa : H a = some (.frz { cls := .type "list", data := .seq vs.toArray } (.lst (ns.map V.int))) := if_pos rfl
    have h1 : ∀ b, b ∈ tb → H b = some (.tbl #[]) := fun b hb => (if_neg (ne_ b hb)).trans (if_pos hb)
    have h0 : ∀ b, b ≠ a → b ∉ tb → H b = none := fun b hn hb => (if_neg hn).trans (if_neg hb)
    refine fin H (fun p hp => h1 _ (tmem p hp)) (fun b => ?_) (.inl (.inr ⟨_, hAa⟩)) (fun b u z => ?_) (fun b z => ?_) fun _ => hk
    · by_cases hb : b ∈ tb
      · exact .inr (.inl hb)
      · by_cases hn : b = a
        · exact .inr (.inr ⟨_, _, hn ▸ hAa⟩)
        · exact .inl (h0 b hn hb)
    · by_cases hb : b ∈ tb
      · rw [h1 b hb] at z
        cases z
        exact tobj b hb
      · by_cases hn : b = a
        · subst hn
          rw [hAa] at z
          cases z
          exact ⟨ha, by rw [List.length_map]; exact hl, vs, _, rv, ha⟩
        · rw [h0 b hn hb] at z
          cases z
    · by_cases hn : b = a
      · exact .inl hn
      · exact .inr (Classical.byContradiction fun hb => z (h0 b hn hb))
/-- what is told of the tables at the head's end -/
def TabAt (q : Program) (K : PySem.W.Frag) (h : Heap) : Prop := ∀ (x : Str) (c P : Addr), ((recsOf q).any fun e => e.name == x) = true → PySem.W.tabIn K x = some (c, P) → PySem.W.CodeHd h c P ∧ h.get? P = some (tabObj #[])
theorem walk_ofGT {l : PySem.W.OpenLaw} {n k : Nat} {q : Program} {loose : List Str} {XP : (Str → Option Value) → Heap → Prop} {YP : World → Heap → Prop} {d : DefRec} {K : Params → PySem.W.Frag} {CX : World → CXT} {sp : World → List (Addr × Addr) → Sp} {x : Str}
    (hn : l.most = some n) (hn2 : n ≤ sizeLine) (hdf : d.params.defaults = []) (hr : Room k callerA)
    (hY : ∀ (w : World) (h : Heap), YP w h → (K w.params).In h)
    (F : ∀ (w : World) (mg : Str → Option Value) (fa : Addr) (h : Heap), (K w.params).In h → h.Ns mainGlobals mg → mg d.name = some (.ref fa) → TabAt q (K w.params) h →
      ∃ (fd : FuncData) (cs : List (Addr × Addr)), (∀ p ∈ cs, h.get? p.2 = some (tabObj #[])) ∧ (∀ p ∈ cs, (K w.params).lookup p.2 = none) ∧ (∀ p ∈ cs, PySem.W.CodeHd h p.1 p.2) ∧ (∀ (s : Shared) (u : Value), BindsTo s fd ⟨[u], []⟩ [(x, u)]) ∧
        ∀ base : Heap, (K w.params).In base → base.Ns mainGlobals mg → (∀ p ∈ cs, TabB base mg p.1 p.2) → FnG l.prog w (K w.params) mg base (CX w) k fa fd [x] (sp w cs))
    (hsp : ∀ (w : World) (cs : List (Addr × Addr)) (H : Hp) (a : Addr) (ns : List Int), ns.length ≤ n → (∀ p ∈ cs, H p.2 = some (.tbl #[])) → SqL (K w.params) H a (ns.map V.int) → sp w cs [.ref a] H (fun v _ => v = .bl true) fun _ _ _ => False)
    (hCX : ∀ (w : World) (H : Hp) (s : Shared) (e : Value) (s' : Shared), CX w [] H s (fun _ _ _ => False) e s' → False) :
    PySem.W.WalkO q loose XP YP l.row.toRowW d [] (fun f vs => PySem.call f vs) := by
  refine Att.attach_call hn hdf fun w s₀ s₁ mg mb fa o pm cd doc a vs ns G Y ho hd hcd hmg hobj hints hlen hg => ?_
  have KX := hY w _ Y
  have tA : TabAt q (K w.params) s₁.heap := fun x c P hx ht => by
    cases hf : (recsOf q).find? (fun e => e.name == x) with
    | some dr => exact PySem.W.tab_of G.T KX hf ht
    | none =>
      obtain ⟨dr, hm, hn⟩ := List.any_eq_true.mp hx
      exact absurd hn (List.find?_eq_none.mp hf dr hm)
  obtain ⟨fd, cs, hT, nT, C, hb, hF⟩ := F w mg fa _ KX G.T.g hmg tA
  exact law_callGT KX G.T.g G.T.b G.T.builtins G.T.nolimit hg hT nT C G.T.bmain hobj hints (Nat.le_trans hlen hn2) hr hF hb (fun H hH hS => hsp w cs H a ns hlen hH hS) fun H e s' => hCX w H s₁ e s'
theorem tabIn_mk {K : PySem.W.Frag} {x : Str} {f c P : Addr} {oc oc2 : Value} {od od2 : Option Addr} {sl sl2 : Array (Option Value)} {fd : FuncData} {vs : Array Value} (a : PySem.W.nsIn K mainGlobals x = some (some (.ref f))) (l : K.lookup f = some ⟨oc, od, .func fd, sl⟩) (hc : fd.code = .ref c)
    (kc : K.lookup c = some ⟨oc2, od2, .fields vs, sl2⟩) (hv : vs[11]? = some (.ref P)) : PySem.W.tabIn K x = some (c, P) := by
  unfold PySem.W.tabIn
  simp only [a, l, hc, kc, hv]
end Px

set_option Elab.async false
set_option linter.all false
set_option maxRecDepth 100000
set_option maxHeartbeats 4000000
set_option autoImplicit false
namespace Px
open PySem PySem.Spec PyProof.Rows L2 LamX

/-! ### a lambda is made -/
/-- H1 is H, but for what the table at P tells, and a new code object -/
def TabNew (P : Addr) (q : Str) (H H1 : Hp) : Prop := H1 = H ∨ ∃ (ps more : Array Value) (c : Addr), H P = some (.tbl ps) ∧ H c = none ∧ H1 = upd (upd H P (.tbl (ps ++ more))) c (CodeO c q)
section
variable {P : Addr} {q : Str} {H H1 : Hp}
theorem TabNew.at_ (t : TabNew P q H H1) {b : Addr} {o : HO} (e : H b = some o) (n : b ≠ P) : H1 b = some o := by
  rcases t with rfl | ⟨ps, more, c, hP, hc, rfl⟩
  · exact e
  · rw [upd_ne (ne_of_none e hc), upd_ne n]; exact e
theorem TabNew.ext (t : TabNew P q H H1) {T : List (Addr × Str)} (hm : ∃ p ∈ T, p.1 = P) (hT : Tabs T H) : ∀ a f, H a = some (.ext f) → H1 a = some (.ext f) := fun a f e => t.at_ e fun z => by
  obtain ⟨p, hp, rfl⟩ := hm
  obtain ⟨ps, e2, _⟩ := hT p hp
  rw [z, e2] at e; cases e
theorem TabNew.kx (t : TabNew P q H H1) {gh : Gh} {T : List (Addr × Str)} (hm : ∃ p ∈ T, p.1 = P) : Kx (gh.tabs T).Z H H1 := fun a o nz e => t.at_ e fun z => nz (.inr (by
  obtain ⟨p, hp, e2⟩ := hm
  exact ⟨p, hp, e2.trans z.symm⟩))
theorem TabNew.g (t : TabNew P q H H1) {gh : Gh} {T : List (Addr × Str)} (hm : ∃ p ∈ T, p.1 = P) (g : (gh.tabs T).G H) (hT : Tabs T H1) : (gh.tabs T).G H1 := by
  obtain ⟨g1, n, t1⟩ := g
  refine ⟨gh.gk H H1 g1 (fun a z => ?_) (t.ext hm t1), n, hT⟩
  obtain ⟨o, e, _⟩ := gh.gz H a g1 z
  rw [e]
  refine t.at_ e fun zz => ?_
  obtain ⟨p, hp, e2⟩ := hm
  exact n p hp (by rw [e2, ← zz]; exact z)
end
section
variable {X : Cx} {pins : List (Addr × Obj)} {σ : L2.St} {H : Hp} {s : Shared}
abbrev lamN (X : Cx) : Str := X.env.qual ++ "<lambda>"
abbrev lamO (X : Cx) (params : Arguments) (body : Expr) (scope : Scope) (pm ctv : Value) (c' : Addr) : Obj := PySem.W.kla_obj "<lambda>" (lamN X) params body scope (cloFrom X.env.cells scope.names []) pm c' ctv
theorem lam_mk {T : List (Addr × Str)} {c P : Addr} {params : Arguments} {body : Expr} {scope : Scope} {pos : Pos} {E Q : Value → Shared → Prop} (I : Inv X pins σ H s) (TB : TabB X.base X.mg c P) (hcode : X.env.code = .ref c) (hm : (P, lamN X) ∈ T) (hu : ∀ p ∈ T, p.1 = P → p.2 = lamN X) (hT : Tabs T H)
    (hdef : defaultsOf params X.env = ([], [])) (hfree : ∀ y ∈ scope.names, y.2 = .free → ∃ c, X.env.cells.lookup y.1 = some c)
    (h : ∀ (f c' : Addr) (pm ctv : Value) (H1 : Hp) (s' : Shared), Inv X pins σ H1 s' → TabNew P (lamN X) H H1 → Tabs T H1 → s'.heap.get? f = some (lamO X params body scope pm ctv c') → H1 f = none → f ∉ frs X.stack → H1 c' = some (CodeO c' (lamN X)) → Q (.ref f) s') :
    wpAny (model X.prog X.w) X.A (eval (.Lambda params body scope pos) X.env) Q E s := by
  obtain ⟨ps, hP, ht, told⟩ := hT _ hm
  have hPo : s.heap.get? P = some { cls := .none, data := .fields ps } := I.hok P _ hP
  have notFr : ∀ f, s.heap.objs.size ≤ f → f ∉ frs X.stack := fun f hf z => (List.mem_cons.mp (I.stkSub _ z)).elim (fun e => absurd (e ▸ I.lt) (Nat.not_lt_of_le hf)) fun e => I.nofs hf e
  refine PySem.W.kla_eval hdef ?_
  cases hc : codeAmong pos ps.toList with
  | some cv =>
    obtain ⟨c', rfl, hco⟩ := told pos cv hc
    refine PySem.W.kla_makeFunctionHit (mg := X.mg) (c := c) (P := P) (ps := ps) (closure_ok hfree) I.ok.glob (I.mod.glob.keeps I.bk) hcode (TB.code.keeps I.bk) hPo ht hc (TB.bm.keeps I.bk) fun ctv h' tk hx hsz => ?_
    exact h h'.objs.size c' ((X.mg "__name__").getD .none) ctv H { s with heap := h'.push (lamO X params body scope ((X.mg "__name__").getD .none) ctv c'), toks := tk }
      (I.kept fun b o e => Heap.get?_push_of_some _ (hx b o e)) (.inl rfl) hT (Heap.get?_push_size _ rfl) (I.hok.fresh hsz) (notFr _ hsz) hco
  | none =>
    refine PySem.W.kla_makeFunction (mg := X.mg) (c := c) (P := P) (ps := ps) (closure_ok hfree) I.ok.glob (I.mod.glob.keeps I.bk) hcode (TB.code.keeps I.bk) hPo ht hc TB.gP (TB.bm.keeps I.bk) fun c' ctv h' tk hx hge hlt hrec htb => ?_
    obtain ⟨c2, oc, vs, t, e2, hoc, hd, hv⟩ := hrec
    cases e2
    let more : Array Value := #[rawInt pos.line, rawInt pos.col, .ref c']
    let ob := lamO X params body scope ((X.mg "__name__").getD .none) ctv c'
    let H1 : Hp := upd (upd H P (.tbl (ps ++ more))) c' (CodeO c' (lamN X))
    have nC : H c' = none := I.hok.fresh hge
    have big : s.heap.objs.size ≤ h'.objs.size := Nat.le_trans hge (Nat.le_of_lt hlt)
    have I1 : Inv X pins σ H1 { s with heap := h'.push ob, toks := tk } := inv_table I hP (fun b o hb e => Heap.get?_push_of_some _ (hx b o hb e)) (Heap.get?_push_of_some _ htb) hge ⟨oc, vs, t, Heap.get?_push_of_some _ hoc, hd, hv⟩
    have tn : TabNew P (lamN X) H H1 := .inr ⟨ps, more, c', hP, nC, rfl⟩
    have nPc : P ≠ c' := ne_of_none hP nC
    have ex : ∀ a f, H a = some (.ext f) → H1 a = some (.ext f) := tn.ext ⟨_, hm, rfl⟩ hT
    refine h h'.objs.size c' _ ctv H1 _ I1 tn (fun p hp => ?_) (Heap.get?_push_size _ rfl) ?_ (notFr _ big) upd_same
    · by_cases hb : p.1 = P
      · rw [hu p hp hb, hb]
        refine ⟨ps ++ more, by show upd (upd H P _) c' _ P = _; rw [upd_ne nPc, upd_same], ?_, fun p' cv hcv => ?_⟩
        · rw [Array.toList_append]; exact PySem.TriplesOk_snoc _ _ _ _ ht
        · rw [Array.toList_append] at hcv
          rcases among_app _ ht hcv with z | z
          · obtain ⟨c0, e1, e2⟩ := told p' cv z
            exact ⟨c0, e1, ex _ _ e2⟩
          · exact ⟨c', z, upd_same⟩
      · refine tab_at (hT p hp) ?_ ex
        obtain ⟨ps', e, _⟩ := hT p hp
        rw [e]
        exact tn.at_ e hb
    · show upd (upd H P _) c' _ h'.objs.size = none
      rw [upd_ne (Nat.ne_of_gt hlt), upd_ne (Nat.ne_of_gt (Nat.lt_of_lt_of_le (Heap.lt_size hPo) big))]
      exact I.hok.fresh big
end

/-! ### it is called, in the def that got it -/
section
variable {X : Cx} {pins : List (Addr × Obj)} {σ : L2.St} {H HZ : Hp} {s : Shared}
theorem lam_call {CXg : CXT} {Eg : XK} {Ng : List Str} {qg : Str} {sg : Scope} {g f c' : Addr} {cdg pm ctv : Value} {params : Arguments} {body : Expr} {scope : Scope} {k i : Nat} {a : Str} {pn : List (Addr × Obj)} {xe : Value → Shared → Prop} {E : XK} {tb : TE} {p1 p2 : Pos}
    (I : Inv X pins σ H s) (L : LamS X.env.scope scope) (hf : s.heap.get? f = some (lamO X params body scope pm ctv c')) (hfn : H f = none) (hfr : f ∉ frs X.stack)
    (hbind : bindArgs (PySem.W.kla_fn "<lambda>" (lamN X) params body scope (cloFrom X.env.cells scope.names []) pm (.ref c') ctv) ⟨[], []⟩ = pure [])
    (hx : Passes (L2.CX X.prog X.w) ((cxOf CXg X.prog X.w X.K X.mg X.base Ng qg sg g cdg X.A X.stack s H Eg).tr pn xe) E) (hr : Room (k + 1) (X.A.deeper (envOfC qg sg s.heap.objs.size g cdg))) (gd : X.A.guards = some [])
    (hbody : ∀ (A : Around) (outer : List Env) (s : Shared) (H : Hp), A.guards = some [] → Room k (A.deeper (lamEnv X scope s.heap.objs.size f c')) → PE (lamCx X A outer s H E scope f c') body tb)
    (hN : Ng[i]? = some a) (hv : Vis sg a) (hd : (a == ("__debug__" : Str)) = false := by decide) (hcd : (a == ("__classdict__" : Str)) = false := by decide) :
    PE ((cxOf CXg X.prog X.w X.K X.mg X.base Ng qg sg g cdg X.A X.stack s H Eg).tr pn xe) (.Call (.Name a p1) [] [] p2)
      (fun σZ HZ Q => σZ[i]? = some (some (.ref f)) ∧ HZ c' = some (CodeO c' (lamN X)) ∧ tb σ HZ Q) := by
  refine ⟨fun pinsZ sZ σZ HZ Q IZ ⟨hs, hc, ht⟩ => ?_⟩
  refine wpAny_Call_Name_kw (thn ((pe_var (pos := p1) (i := i) hN hv hd hcd).run pinsZ sZ σZ HZ (fun v H1 => v = .ref f ∧ H1 = HZ) IZ ⟨.ref f, hs, rfl, rfl⟩) fun u s1 ⟨v, H1, I1, r1, ev, eH⟩ => ?_)
  subst ev
  rw [eH] at I1
  obtain rfl : u = Value.ref f := r1
  have of1 : s1.heap.get? f = some (lamO X params body scope pm ctv c') := I1.base.keep f _ hf hfn hfr (fun z => nomatch (show f ∈ ([] : List Addr) from z))
  obtain ⟨⟨oc, vs, t, hoc, hdc, hvc⟩, _, _⟩ := I1.hok c' _ hc
  have un : Un (frs X.stack) [] H HZ s.heap s1.heap := I1.base
  let Ag := X.A.deeper (envOfC qg sg s.heap.objs.size g cdg)
  have rc : codeAny (model X.prog X.w) Ag (.call (.ref f) ⟨[], []⟩) (CR (L2.CX X.prog X.w) (envOfC qg sg s.heap.objs.size g cdg :: X.stack) X.prog X.w HZ s1 Q E) s1 := by
    refine PySem.W.kla_callFunE hr.depth of1 rfl L.co L.gen rfl ⟨c', oc, vs, t, rfl, hoc, hdc, hvc⟩ ?_
    rw [hbind]
    refine wpAny_pure (wpAny_newFunctionEnv (fun y hy => (L.own y hy).2) (fun y hy => absurd hy (by simp)) (fun h₁ hns hsb => ⟨I1.nolimit.fresh _ hsb, ?_⟩) L.kind)
    show codeAny _ _ (.expr body (lamEnv X scope s1.heap.objs.size f c')) _ _
    have J : Inv (lamCx X Ag (envOfC qg sg s.heap.objs.size g cdg :: X.stack) s1 HZ E scope f c') [] σ HZ { s1 with heap := h₁, toks := s1.toks + ([] : List (Str × Value)).length } :=
      lam_start2 I L I1.env0 hr.hd un hns fun b o e => hsb.extBut b o (Nat.ne_of_lt (Heap.lt_size e)) (Heap.get?_push_of_some _ e)
    refine PySem.W.kla_codeExpr (wpAny_mono ((hbody Ag _ s1 HZ (show Ag.guards = some [] from gd) (hr.deeper _)).run [] _ _ HZ Q J ht) (fun v s' hq => ?_) fun e s' hq => hq)
    obtain ⟨w', H', J', rv, q⟩ := hq
    exact ⟨w', H', J'.os, J'.bare, J'.base, J'.hok, rv, q⟩
  refine PySem.W.callWith_F0 ⟨_, _, _, _, of1⟩ (wpAny_call (codeAny_mono rc fun r s' hq => ?_))
  cases r with
  | error e => exact hx pinsZ σZ HZ s1 e s' I1 hq
  | ok fl =>
    cases fl with
    | ret u => exact I1.after hq
    | next => exact False.elim hq
    | brk => exact False.elim hq
    | cont => exact False.elim hq
end
end Px

set_option Elab.async false
set_option linter.all false
set_option maxRecDepth 100000
set_option maxHeartbeats 4000000
set_option autoImplicit false
namespace Px
open PySem PySem.Spec PyProof.Rows L2 LamX

/-! ### an activation within: from now on -/
def hideG (Γ : Ga) : Ga := Γ.map fun s => if s.isOwn = true then .un else s
section
variable {K : PySem.W.Frag} {A : Am} {cn : Cn} {f : Nat → Addr} {σ σ2 : L2.St} {H H' : Hp} {Γ Γ2 : Ga}
/-- slots that are let go -/
theorem Rl.forget (R : Rl K A cn f σ H Γ) (hl : σ2.length = Γ2.length) (h : ∀ (i : Nat) (d : D), Γ2[i]? = some (.v d) → Γ[i]? = some (.v d) ∧ σ2[i]? = σ[i]?) (ho : ∀ (i : Nat) (d : D), Γ2[i]? ≠ some (.own d)) : Rl K A cn f σ2 H Γ2 := by
  have up : ∀ b, Fz A cn f Γ b → Fz A cn f Γ2 b := fun b p => ⟨p.1, p.2.1, fun i d e => absurd e (ho i d)⟩
  refine ⟨hl, R.g, R.keep, fun a ob hm => ⟨up _ (R.lkf a ob hm).1, (R.lkf a ob hm).2⟩, R.hdm, fun i d e => ?_, fun i d e => absurd e (ho i d), fun i j d e h1 => absurd h1 (ho i d)⟩
  obtain ⟨e1, e2⟩ := h i d e
  obtain ⟨w, h1, h2⟩ := R.sl i d e1
  exact ⟨w, e2.trans h1, h2.mono .refl fun b _ p _ => up b p⟩
theorem Hs.forget (ho : ∀ (i : Nat) (d : D), Γ2[i]? ≠ some (.own d)) : Hs A cn f Γ H f Γ2 H := fun a p u e => ⟨⟨p.1, p.2.1, fun i d z => absurd z (ho i d)⟩, e⟩
def Am.at_ (A : Am) (R : Rl K A cn f σ H Γ) : Am := ⟨A.gh, A.K, H, Fz A cn f Γ, R.g, fun _ z p => p.nz z, fun _ n _ => R.mut n⟩
theorem hide_v {i : Nat} {d : D} (e : (hideG Γ)[i]? = some (.v d)) : Γ[i]? = some (.v d) := by
  unfold hideG at e
  rw [List.getElem?_map] at e
  cases h : Γ[i]? with
  | none => rw [h] at e; cases e
  | some s =>
    rw [h] at e
    have e : (if s.isOwn = true then Sl.un else s) = .v d := Option.some.inj e
    cases s with
    | un => cases e
    | v d2 => cases e; rfl
    | own d2 => cases e
theorem hide_o {i : Nat} {d : D} : (hideG Γ)[i]? ≠ some (.own d) := fun e => by
  unfold hideG at e
  rw [List.getElem?_map] at e
  cases h : Γ[i]? with
  | none => rw [h] at e; cases e
  | some s =>
    rw [h] at e
    have e : (if s.isOwn = true then Sl.un else s) = .own d := Option.some.inj e
    cases s with
    | un => cases e
    | v d2 => cases e
    | own d2 => cases e
def cn0 : Cn := ⟨[], [], rfl⟩
theorem Rl.inner (R : Rl K A cn f σ H Γ) : Rl K (A.at_ R) cn0 f σ H (hideG Γ) := by
  refine ⟨by rw [R.len]; unfold hideG; rw [List.length_map], R.g, fun a o _ e => .inl e, fun a ob h => (by cases h), fun a h => (by cases h), fun i d e => ?_, fun i d e => absurd e hide_o, fun i j d e h1 => absurd h1 hide_o⟩
  obtain ⟨w, h1, h2⟩ := R.sl i d (hide_v e)
  exact ⟨w, h1, h2.mono .refl fun b _ p _ => ⟨p, fun z => (by cases z), fun i d e => absurd e hide_o⟩⟩
end

/-! ### x(lambda: body), in the def that makes it -/
section
variable {X : Cx} {A : Am} {E : EN} {k : Nat} {md : Md}
/-- what the lambda gives, where slot i holds it -/
def callL (i : Nat) (f : Addr) (mm : M D) : Ga → M D := fun Γ => match Γ[i]? with
  | some (.v (.raw v)) => if v = .ref f then mm else .stuck
  | _ => .stuck
/-- .. its value is let go -/
def tVx (K : PySem.W.Frag) (A : Am) (E : EN) (m : Ga → M D) : TE := fun σ H Q => ∃ cn f Γ, Rl K A cn f σ H Γ ∧ (m Γ).wp (fun _ => ∀ w H', Kx A.gh.Z H H' → A.gh.G H' → Q w H') (xP A E cn)
structure PEX (X : Cx) (A : Am) (E : EN) (e : Expr) (m : Ga → M D) : Prop where
  pe : PE X e (tVx A.K A E m)
theorem pex_of {md : Md} {e : Expr} {m : Ga → M D} (h : PEV X A E md e m) : PEX X A E e m := ⟨imp_pe h.pe fun σ H Q ⟨cn, f, Γ, R, h⟩ => ⟨cn, f, Γ, R, M.wp_mono h (fun d q w H' k g _ => q w H' k g) fun _ x => x⟩⟩
theorem pev_word {T : List (Addr × Str)} {gh : Gh} {x a : Str} {g c P : Addr} {kw kl : Nat} {pg : Arguments} {bg : List Stmt} {sg : Scope} {dV kV doc pm cdv ct oc : Value} {an od : Option Addr} {osl : Array (Option Value)} {Ng : List Str}
    {params : Arguments} {body : Expr} {scope : Scope} {p lpos pos : Pos} {m : Ga → M D} {W : M D → M D} {bW : Addr → M D → Ga → M (Ct × Ga)} (hA : A.gh = gh.tabs T) (B : Bd X A E k) (hg : Gl X x) (hm : X.mg x = some (.ref g)) (hk : PySem.W.keepIn X.K (.ref g) = true)
    (lk : X.K.lookup g = some ⟨oc, od, .func (PySem.W.fnOf x x pg bg sg dV kV doc pm an cdv ct), osl⟩) (hcg : PySem.W.codeIn X.K cdv x = true) (hb : L2.Binds X.K (PySem.W.fnOf x x pg bg sg dV kV doc pm an cdv ct) [a] []) (Sg : FnScope Ng [a] sg) (hNg : Ng[0]? = some a) (hva : Vis sg a)
    (hW : ∀ (A' : Around) (outer : List Env) (s : Shared) (H : Hp) (f : Addr) (mm : M D) (P0 : Addr → Prop) (g0 : A.gh.G H) (zp : ∀ a, A.gh.Z a → ¬ P0 a) (p0 : ∀ a, ¬ P0 a → ¬ A.gh.Z a → ∃ o, H a = some o ∧ Mb o),
      Bd (cxOf (L2.CX X.prog X.w) X.prog X.w X.K X.mg X.base Ng x sg g cdv A' outer s H (fun _ _ _ => False)) ⟨A.gh, A.K, H, P0, g0, zp, p0⟩ never kw →
      (∀ (H1 : Hp) (P1 : Addr → Prop) (g1 : A.gh.G H1) (zp1 : ∀ a, A.gh.Z a → ¬ P1 a) (p1 : ∀ a, ¬ P1 a → ¬ A.gh.Z a → ∃ o, H1 a = some o ∧ Mb o) (pn : List (Addr × Obj)) (xe : Value → Shared → Prop) (EN' : EN) (q1 q2 : Pos), Kx A.gh.Z H H1 →
        Passes (L2.CX X.prog X.w) ((cxOf (L2.CX X.prog X.w) X.prog X.w X.K X.mg X.base Ng x sg g cdv A' outer s H (fun _ _ _ => False)).tr pn xe) (EK X.mg EN') →
        PEX ((cxOf (L2.CX X.prog X.w) X.prog X.w X.K X.mg X.base Ng x sg g cdv A' outer s H (fun _ _ _ => False)).tr pn xe) ⟨A.gh, A.K, H1, P1, g1, zp1, p1⟩ EN' (.Call (.Name a q1) [] [] q2) (callL 0 f mm)) →
      PSVs (cxOf (L2.CX X.prog X.w) X.prog X.w X.K X.mg X.base Ng x sg g cdv A' outer s H (fun _ _ _ => False)) ⟨A.gh, A.K, H, P0, g0, zp, p0⟩ never .f bg (bW f mm))
    (hWf : ∀ (f : Addr) (mm : M D), (bW f mm (.v (.raw (.ref f)) :: List.replicate (Ng.length - 1) .un) >>= fnEnd) = W mm)
    (TB : TabB X.base X.mg c P) (hcode : X.env.code = .ref c) (hmT : (P, lamN X) ∈ T) (hu : ∀ p ∈ T, p.1 = P → p.2 = lamN X) (hkw : kw + 1 ≤ k) (hkl : kl + 2 ≤ k) (L : LamS X.env.scope scope) (hdef : defaultsOf params X.env = ([], []))
    (hbind : ∀ (q : Str) (cl : List (Str × Addr)) (pm cv ctv : Value), bindArgs (PySem.W.kla_fn "<lambda>" q params body scope cl pm cv ctv) ⟨[], []⟩ = pure [])
    (hbody : ∀ (A' : Around) (outer : List Env) (s : Shared) (H : Hp) (E' : XK) (f c' : Addr) (H1 : Hp) (P1 : Addr → Prop) (g1 : A.gh.G H1) (zp1 : ∀ a, A.gh.Z a → ¬ P1 a) (p1 : ∀ a, ¬ P1 a → ¬ A.gh.Z a → ∃ o, H1 a = some o ∧ Mb o),
      Bd (lamCx X A' outer s H E' scope f c') ⟨A.gh, A.K, H1, P1, g1, zp1, p1⟩ (enOf X.mg E') kl → PEX (lamCx X A' outer s H E' scope f c') ⟨A.gh, A.K, H1, P1, g1, zp1, p1⟩ (enOf X.mg E') body m)
    (hdb : (x == ("__debug__" : Str)) = false := by decide) (hd : (a == ("__debug__" : Str)) = false := by decide) (hcd : (a == ("__classdict__" : Str)) = false := by decide) :
    PEV X A E .f (.Call (.Name x p) [.Lambda params body scope lpos] [] pos) (fun Γ => (W (m (hideG Γ))).noexc) := by
  refine ⟨⟨fun pins s σ H Q I ⟨cn, f0, Γ, R, h⟩ => ?_⟩⟩
  have h := M.wp_noexc h
  refine wpAny_Call_Name_kw (ld_glob I hg hm ?_ hdb)
  refine PySem.W.callWith_K (h₀ := X.base) I.ok.mod.kin hk ?_ (by rfl) (by rfl)
  show wpAny _ _ (spliced ((false, eval (.Lambda params body scope lpos) X.env) :: backTo pos (starEach [] X.env))) _ _ s
  have gT : (gh.tabs T).G H := hA ▸ R.g
  have hmP : ∃ p ∈ T, p.1 = P := ⟨_, hmT, rfl⟩
  refine Calls.spliced_cons (lam_mk I TB hcode hmT hu gT.2.2 hdef (L.has I.ok) fun f c' pm' ctv H1 s' I1 tn T1 hf hfn hfr hco => ?_)
  refine Calls.spliced_nil ⟨I1.kIn, ?_⟩
  have k1 : Kx A.gh.Z H H1 := by rw [hA]; exact tn.kx hmP
  have g1 : A.gh.G H1 := by rw [hA]; exact tn.g hmP gT T1
  have R1 := R.kx k1 g1
  have c1 : ¬ A.gh.Z c' := fun z => by
    obtain ⟨o, e, _, nx⟩ := A.gh.gz H1 c' g1 z
    rw [hco] at e; exact nx _ (Option.some.inj e).symm
  have rc : codeAny (model X.prog X.w) X.A (.call (.ref g) ⟨[.ref f], []⟩) (CR (L2.CX X.prog X.w) X.stack X.prog X.w H1 s' Q (fun _ _ _ => False)) s' := by
    refine run_ofS (k := k - 1) (N := Ng) (ps := [a]) (us := [.ref f]) (vs := [.ref f]) lk hcg Sg (B.hr.mono (by omega)) I1.env0 (hb s' [.ref f] I1.kIn rfl) (.cons rfl .nil) rfl fun hr' => ?_
    let Xg := cxOf (L2.CX X.prog X.w) X.prog X.w X.K X.mg X.base Ng x sg g cdv X.A X.stack s' H1 (fun _ _ _ => False)
    have tk : Takes Xg (fun cls d _ H => False) := takes_of rfl rfl rfl rfl
    have Bg : Bd Xg ⟨A.gh, A.K, H1, Fz A cn f0 Γ, g1, fun _ z p => p.nz z, fun _ n _ => R1.mut n⟩ never kw :=
      .mk6 rfl Sg.nd (hr'.mono (by omega)) B.gd (passes_call tk fun cls d σ H' ⟨x, h1, h2⟩ => h2) B.kle
    have ps := hW X.A X.stack s' H1 f (m (hideG Γ)) (Fz A cn f0 Γ) g1 (fun _ z p => p.nz z) (fun _ n _ => R1.mut n) Bg fun H2 P2 g2 zp2 p2 pn xe EN' q1 q2 k2 hx2 => by
      have act := lam_call (CXg := L2.CX X.prog X.w) (Eg := fun _ _ _ => False) (Ng := Ng) (qg := x) (sg := sg) (g := g) (cdg := cdv) (k := kl) (i := 0) (a := a) (pn := pn) (xe := xe) (E := EK X.mg EN') (p1 := q1) (p2 := q2)
        (tb := fun σZ HZ QZ => ∃ (H3 : Hp) (P3 : Addr → Prop) (g3 : A.gh.G H3) (zp3 : ∀ a, A.gh.Z a → ¬ P3 a) (p3 : ∀ a, ¬ P3 a → ¬ A.gh.Z a → ∃ o, H3 a = some o ∧ Mb o), tVx A.K ⟨A.gh, A.K, H3, P3, g3, zp3, p3⟩ (enOf X.mg (EK X.mg EN')) m σZ HZ QZ)
        I1 L hf hfn hfr (hbind _ _ _ _ _) hx2 (hr'.mono (by omega)) B.gd (fun A2 o2 s2 Hs2 gd2 hr2 => ⟨fun pins3 s3 σ3 H3 Q3 I3 ⟨Ha, Pa, ga, zpa, pa, ht⟩ => by
          have tk2 : Takes (lamCx X A2 o2 s2 Hs2 (EK X.mg EN') scope f c') (fun cls d _ H => EK X.mg EN' cls d H) := takes_of rfl rfl rfl rfl
          exact (hbody A2 o2 s2 Hs2 (EK X.mg EN') f c' Ha Pa ga zpa pa (.mk6 rfl B.nd hr2 gd2 (passes_call tk2 fun cls d σ H' ⟨x, h1, h2⟩ => h2 cls d h1) B.kle)).pe.run pins3 s3 σ3 H3 Q3 I3 ht⟩) hNg hva hd hcd
      refine ⟨imp_pe act fun σZ HZ QZ ⟨cnZ, fZ, ΓZ, RZ, hZ⟩ => ?_⟩
      unfold callL at hZ
      split at hZ
      case h_2 => exact hZ.elim
      rename_i v hv
      split at hZ
      case isFalse => exact hZ.elim
      rename_i ev
      subst ev
      obtain ⟨w0, hw1, hw2⟩ := RZ.sl 0 _ hv
      cases hw2
      have kZ : Kx A.gh.Z H1 HZ := fun b o nz e => by
        rcases RZ.keep b o nz (k2 b o nz e) with q | ⟨ob, hl, _⟩
        · exact q
        · rw [cnZ.e] at hl; cases hl
      have RC := (R1.kx kZ RZ.g).inner
      refine ⟨hw1, kZ c' _ c1 hco, HZ, _, RZ.g, fun _ z p => p.nz z, fun _ n _ => (R1.kx kZ RZ.g).mut n, cn0, f0, hideG Γ, RC, M.wp_mono hZ (fun d q w H' k' g' => q w H' k' g') fun xx hx => ⟨rfl, fun H' k' g' cls dd hc => ⟨xx, hc, hx.2 H' (fun b o nz e => k' b o nz (by
        rcases RZ.keep b o nz e with q | ⟨ob, hl, _⟩
        · exact q
        · rw [cnZ.e] at hl; cases hl)) g'⟩⟩⟩
    refine ⟨_, ps.ps, cn0, f0, .v (.raw (.ref f)) :: List.replicate (Ng.length - 1) .un, ?_, ?_⟩
    · have vo : ∀ (i : Nat) (d : D), (Sl.v (.raw (.ref f)) :: List.replicate (Ng.length - 1) Sl.un)[i]? ≠ some (.own d) := fun i d e => by
        rcases List.mem_cons.mp (List.mem_of_getElem? e) with z | z
        · cases z
        · cases List.eq_of_mem_replicate z
      have nl : 0 < Ng.length := by
        cases Ng with
        | nil => cases hNg
        | cons _ _ => exact Nat.succ_pos _
      refine ⟨by unfold L2.start; simp, g1, fun b o _ e => .inl e, fun b ob h => (by cases h), fun b h => (by cases h), fun i d e => ?_, fun i d e => absurd e (vo i d), fun i j d e h1 => absurd h1 (vo i d)⟩
      cases i with
      | zero => cases e; exact ⟨.ref f, by unfold L2.start; rfl, .raw _⟩
      | succ i =>
        rw [List.getElem?_cons_succ, List.getElem?_replicate] at e
        split at e <;> cases e
    · rw [← hWf f] at h
      refine M.wp_mono (M.wp_bind.mp h) (fun r q => ?_) fun x hx => hx.elim
      obtain ⟨cc, Γ'⟩ := r
      cases cc with
      | nx =>
        intro f' σ' H' s2 R'
        refine q .non H' (k1.trans fun a o z e => ?_) R'.g .non
        rcases R'.keep a o z e with q | ⟨ob, hl, _⟩
        · exact q
        · cases hl
      | rt d =>
        intro w' H' k' g' r'
        refine q w' H' (k1.trans fun a o z e => ?_) g' (Rf.later R k1 g1 r')
        rcases k' a o z e with q | ⟨ob, hl, _⟩
        · exact q
        · cases hl
      | bk => exact False.elim q
      | ct => exact False.elim q
  refine wpAny_call (codeAny_mono rc fun r s2 hq => ?_)
  cases r with
  | error e =>
    obtain ⟨_, _, _, _, _, _, _, _, _, _, _, _, z⟩ := hq
    exact z.elim
  | ok fl =>
    cases fl with
    | ret u => exact I1.after hq
    | next => exact False.elim hq
    | brk => exact False.elim hq
    | cont => exact False.elim hq
end
end Px

set_option Elab.async false
set_option linter.all false
set_option maxRecDepth 100000
set_option maxHeartbeats 4000000
set_option autoImplicit false
namespace Px
open PySem PySem.Spec PyProof.Rows L2 LamX

/-! ### methods of a value: xs.count(x), xs.index(x) -/
def mD (K : PySem.W.Frag) (g : D → List D → M D) : V → List V → Hp → VK → Prop := fun x xs H Q => ∃ P W d ds, Rb K H P W x d ∧ RqL .b K H P W xs ds ∧ (g d ds).wp (fun r => ∀ w H', Same H H' → Rf K H H' P w r → Q w H') fun _ => False
def isT (T : String) (d : D) : Bool := match d with
  | .lst _ => T == "list"
  | .str _ => T == "str"
  | _ => false
def methV (T : String) (mo : Ga → M D) (ml : Ga → M (List D)) (g : D → List D → M D) : Ga → M D := fun Γ => mo Γ >>= fun d => if isT T d = true then ml Γ >>= fun ds => g d ds else .stuck
section
variable {X : Cx} {A : Am} {E : EN} {k : Nat} {md : Md} {o e : Expr} {es : List Expr} {mo : Ga → M D} {ml : Ga → M (List D)} {name : Str} {apos cpos : Pos} {T id : String} {g : D → List D → M D}
theorem ty_of {K' : PySem.W.Frag} {K : PySem.W.Frag} {H : Hp} {P W : Addr → Prop} {w : V} {d : D} (h : Rb K H P W w d) (e : isT T d = true) : tyV K' T w H := by
  cases d with
  | lst ds => obtain ⟨a, xs, rfl, _, hx, _⟩ := h; exact .inl ⟨eq_of_beq e, xs, SqL.of hx⟩
  | str x => cases (show Rp K H P w (.str x) from h); exact eq_of_beq e
  | _ => cases e
theorem pev_meth (hm : MtR X id (mD A.K g)) (tm : ∀ d ds, Tame (g d ds)) (pa : PlainAttrs T) (slot : Slot T name id) (hty : typeOf (.builtin id) = pure (.type "method_descriptor")) (ho : PEV X A E md o mo) (ha : PAVL X A E .b (e :: es) ml)
    (hbase : attributeBase o name X.env (eval o X.env) = eval o X.env := by rfl)
    (hfew : ((backTo cpos (starEach (e :: es) X.env)).all (fun x => !x.1) && (backToKw cpos (keywordEach [] X.env)).all (fun x => x.1.isSome)
      && decide ((e :: es).length + ([] : List Keyword).length + (if ([] : List Keyword).isEmpty then 0 else 1) < 30)) = true := by rfl)
    (hline : (apos.endLine == cpos.line) = true := by rfl) (hs : starEach (e :: es) X.env = (false, eval e X.env) :: starEach es X.env := by rfl) (hplain : (backTo cpos (starEach es X.env)).any (·.1) = false := by rfl) :
    PEV X A E .f (.Call (.Attribute o name apos) (e :: es) [] cpos) (methV T mo ml g) := by
  refine ⟨imp_pe (pe_bm pa slot hty hm ho.pe ha.pa hbase hfew hline hs hplain) fun σ H Q ⟨cn, f, Γ, R, h⟩ => ⟨cn, f, Γ, R, M.wp_mono (M.wp_bind.mp h) (fun d q w H1 k1 g1 r1 => ?_) fun _ x => x⟩⟩
  by_cases ht : isT T d = true
  · rw [if_pos ht] at q
    have R1 := R.kx k1 g1
    refine ⟨ty_of (R.rb r1) ht, cn, f, Γ, R1, M.wp_mono (M.wp_bind.mp q) (fun ds q ws H2 k2 g2 r2 => ?_) fun _ x => x⟩
    exact ⟨Fz A cn f Γ, nZ A, d, ds, R1.rbk k2 (R.rb r1), r2, tD R (k1.trans k2) g2 (tm d ds) q⟩
  · rw [if_neg ht] at q; exact q.elim
def cmpOk (ds : List D) (x : D) : Bool := D.plL ds && x.pl && decide (min (D.depL ds) x.dep ≤ 60)
def countD (d : D) (es : List D) : M D := match d, es with
  | .lst ds, [x] => if cmpOk ds x = true then .ret (.int ((ds.countP fun z => eqB z x : Nat))) else .stuck
  | _, _ => .stuck
def indexD (d : D) (es : List D) : M D := match d, es with
  | .lst ds, [x] => match ds.findIdx? fun z => eqB z x with
    | some j => if cmpOk ds x = true then .ret (.int (j : Nat)) else .stuck
    | none => .stuck
  | _, _ => .stuck
theorem tame_count (d : D) (es : List D) : Tame (countD d es) := by unfold countD; split <;> first | trivial | exact tame_if
theorem tame_index (d : D) (es : List D) : Tame (indexD d es) := by
  unfold indexD
  split
  · split
    · exact tame_if
    · trivial
  · trivial
theorem toPyL_get {ds : List D} {j : Nat} {z : D} (h : ds[j]? = some z) : (toPyL ds)[j]? = some (toPy z) := by
  rw [toPyL_map, List.getElem?_map, h]; rfl
theorem count_toPy {x : D} : ∀ ds : List D, (toPyL ds).countP (fun y => PyData.eqv y (toPy x)) = ds.countP fun y => eqB y x
  | [] => rfl
  | d :: r => by
    show (toPy d :: toPyL r).countP _ = _
    rw [List.countP_cons, List.countP_cons, count_toPy r]; rfl
/-- what the items are, what they are compared with -/
theorem cmp_core {pins : List (Addr × Obj)} {σ : L2.St} {H : Hp} {s : Shared} {P W : Addr → Prop} {x y : V} {v u : Value} {ds : List D} {d : D} {cm : Bool} (B : Bd' cm X A E k) (I : Inv X pins σ H s) (rx : RelV x v) (ry : RelV y u) (r1 : Rb A.K H P W x (.lst ds)) (r2 : Rb A.K H P W y d) (ok : cmpOk ds d = true) :
    ∃ (a : Addr) (its : List Value) (n : Nat) (dd : Option Addr) (sl : Array (Option Value)), v = .ref a ∧ s.heap.get? a = some { cls := .type "list", dict := dd, data := .seq its.toArray n, slots := sl } ∧ its.length = ds.length ∧ its.length ≤ sizeLine ∧ its.map (SeqAt.readOf s.heap) = toPyL ds ∧
      ∀ z, z ∈ its.toArray → PySem.SeqAt.EqAt X.A.in1 s z u (PyData.eqv (SeqAt.readOf s.heap z) (toPy d)) := by
  unfold cmpOk at ok
  simp only [Bool.and_eq_true, decide_eq_true_eq] at ok
  obtain ⟨a, xs, rfl, _, hx, rl⟩ := r1
  cases rx
  obtain ⟨its, rv, ⟨⟨cls, dd, data, sl⟩, n, ho, hc, hdn, hd⟩, hlen⟩ := I.list (SqL.of hx)
  simp only at hc hd
  subst hc hd
  obtain ⟨bs, rb⟩ := r2.reads B.kle I ok.1.2 ry
  obtain ⟨as, h4⟩ := Dp.readsAll I (toPyL ds) xs its (rl.dp B.kle ok.1.1) rv
  have c1 := toPyL_plain ds ok.1.1
  have c2 := toPy_plain d ok.1.2
  have d1 := toPy_dep d
  have d2 := toPyL_dep ds
  have hu := B.u64
  refine ⟨a, its, n, dd, sl, rfl, ho, by rw [← rv.length, rl.length], by rw [← rv.length]; exact hlen, SeqAt.readsAll_map_plain _ its as c1 h4, SeqAt.items_plain (vs := its.toArray) (show ReadsAll s.heap its.toArray.toList (toPyL ds) as from h4) rb c1 c2 (by have := ok.2; omega)⟩
theorem m_count {cm : Bool} (B : Bd' cm X A E k) : MtR X "list.count" (mD A.K countD) := by
  intro pins s σ H x xs v us Q I rx rxs ⟨P, W, d, ds, r1, r2, h⟩
  unfold countD at h
  split at h
  · rename_i ds y
    obtain ⟨ok, q⟩ := wp_if h
    obtain ⟨yv, rfl, r3⟩ := rq1 r2
    obtain ⟨u, rfl, ru⟩ := rxs.one
    obtain ⟨a, its, n, dd, sl, rfl, ho, hl, hz, hm, he⟩ := cmp_core B I rx ru r1 r3 ok
    refine call_meets PySem.F.slot_list_count ⟨_, ho, rfl⟩ PySem.F.entry_list_count (PySem.F.args_list_count_2 _ _) (SeqAt.list_countAt a its.toArray n dd sl u (fun z => PyData.eqv (SeqAt.readOf s.heap z) (toPy y))) ⟨ho, he, ?_⟩
    have ec : its.toArray.toList.countP (fun z => PyData.eqv (SeqAt.readOf s.heap z) (toPy y)) = ds.countP fun z => eqB z y := by
      rw [← count_toPy, ← hm, List.countP_map]; rfl
    rw [ec]
    exact ⟨.int _, H, I.tok _, ⟨s.toks, rfl⟩, q _ H (Same.refl _) (.int _)⟩
  · exact h.elim
theorem m_index {cm : Bool} (B : Bd' cm X A E k) : MtR X "list.index" (mD A.K indexD) := by
  intro pins s σ H x xs v us Q I rx rxs ⟨P, W, d, ds, r1, r2, h⟩
  unfold indexD at h
  split at h
  · rename_i ds y
    split at h
    · rename_i j hj
      obtain ⟨ok, q⟩ := wp_if h
      obtain ⟨yv, rfl, r3⟩ := rq1 r2
      obtain ⟨u, rfl, ru⟩ := rxs.one
      obtain ⟨a, its, n, dd, sl, rfl, ho, hl, hz, hm, he⟩ := cmp_core B I rx ru r1 r3 ok
      rw [List.findIdx?_eq_some_iff_getElem] at hj
      obtain ⟨hjl, hjt, hjn⟩ := hj
      have hsl := sizeLine_eq
      have at_ : ∀ m (hm2 : m < its.toArray.size) (h3 : m < ds.length), PyData.eqv (SeqAt.readOf s.heap its.toArray[m]) (toPy y) = eqB ds[m] y := fun m hm2 h3 => by
        have hml : m < its.length := by simpa using hm2
        have e1 : (its.map (SeqAt.readOf s.heap))[m]? = some (SeqAt.readOf s.heap its[m]) := by rw [List.getElem?_map, List.getElem?_eq_getElem hml]; rfl
        rw [hm, toPyL_get (List.getElem?_eq_getElem h3)] at e1
        have e2 : SeqAt.readOf s.heap its.toArray[m] = toPy ds[m] := by simpa using (Option.some.inj e1).symm
        rw [e2]; rfl
      refine call_meets PySem.F.slot_list_index ⟨_, ho, rfl⟩ PySem.F.entry_list_index (PySem.F.args_list_index_2 _ _)
        (SeqAt.list_indexAt a its.toArray n dd sl u (fun z => PyData.eqv (SeqAt.readOf s.heap z) (toPy y)) j (by simp; omega) (by omega) ?_ ?_) ⟨ho, he, ⟨.int _, H, I.tok _, ⟨s.toks, rfl⟩, q _ H (Same.refl _) (.int _)⟩⟩
      · exact (at_ j (by simp; omega) hjl).trans hjt
      · intro m hm2 hmj
        exact (at_ m hm2 (by omega)).trans (Bool.eq_false_iff.mpr (hjn m hmj))
    · exact h.elim
  · exact h.elim
theorem e_count {cm : Bool} (B : Bd' cm X A E k) (ho : PEV X A E md o mo) (ha : PAVL X A E .b (e :: es) ml)
    (hbase : attributeBase o "count" X.env (eval o X.env) = eval o X.env := by rfl)
    (hfew : ((backTo cpos (starEach (e :: es) X.env)).all (fun x => !x.1) && (backToKw cpos (keywordEach [] X.env)).all (fun x => x.1.isSome)
      && decide ((e :: es).length + ([] : List Keyword).length + (if ([] : List Keyword).isEmpty then 0 else 1) < 30)) = true := by rfl)
    (hline : (apos.endLine == cpos.line) = true := by rfl) (hs : starEach (e :: es) X.env = (false, eval e X.env) :: starEach es X.env := by rfl) (hplain : (backTo cpos (starEach es X.env)).any (·.1) = false := by rfl) :
    PEV X A E .f (.Call (.Attribute o "count" apos) (e :: es) [] cpos) (methV "list" mo ml countD) := pev_meth (m_count B) tame_count PySem.F.plainAttrs_list PySem.F.slot_list_count PySem.F.type_list_count ho ha hbase hfew hline hs hplain
theorem e_index {cm : Bool} (B : Bd' cm X A E k) (ho : PEV X A E md o mo) (ha : PAVL X A E .b (e :: es) ml)
    (hbase : attributeBase o "index" X.env (eval o X.env) = eval o X.env := by rfl)
    (hfew : ((backTo cpos (starEach (e :: es) X.env)).all (fun x => !x.1) && (backToKw cpos (keywordEach [] X.env)).all (fun x => x.1.isSome)
      && decide ((e :: es).length + ([] : List Keyword).length + (if ([] : List Keyword).isEmpty then 0 else 1) < 30)) = true := by rfl)
    (hline : (apos.endLine == cpos.line) = true := by rfl) (hs : starEach (e :: es) X.env = (false, eval e X.env) :: starEach es X.env := by rfl) (hplain : (backTo cpos (starEach es X.env)).any (·.1) = false := by rfl) :
    PEV X A E .f (.Call (.Attribute o "index" apos) (e :: es) [] cpos) (methV "list" mo ml indexD) := pev_meth (m_index B) tame_index PySem.F.plainAttrs_list PySem.F.slot_list_index PySem.F.type_list_index ho ha hbase hfew hline hs hplain
end
end Px

set_option Elab.async false
set_option linter.all false
set_option maxRecDepth 100000
set_option maxHeartbeats 4000000
set_option autoImplicit false
namespace Px
open PySem PySem.Spec PyProof.Rows L2 LamX

/-! ### try: e / except C as n: .. -/
/-- what is raised gives, by its class, what slot j holds then; the other names are let go -/
def tryGo (Γ : Ga) (j n : Nat) (R : Str → Option D) : M D → M (Ct × Ga)
  | .ret _ => .ret (.nx, Γ)
  | .exc x => match x.2, R x.1 with
    | none, some d => .ret (.nx, (List.replicate n Sl.un).set j (.v d))
    | _, _ => .stuck
  | .stuck => .stuck
  | .draw k g => .draw k fun r => tryGo Γ j n R (g r)
def tryM (m : Ga → M D) (j n : Nat) (R : Str → Option D) : Ga → M (Ct × Ga) := fun Γ => tryGo Γ j n R (m (hideG Γ))
theorem wp_try {Γ : Ga} {j n : Nat} {R : Str → Option D} {Q : Ct × Ga → Prop} {E' : Exn → Prop} : ∀ {m : M D}, (tryGo Γ j n R m).wp Q E' → m.wp (fun _ => Q (.nx, Γ)) fun x => x.2 = none ∧ ∃ d, R x.1 = some d ∧ Q (.nx, (List.replicate n Sl.un).set j (.v d))
  | .ret _, h => h
  | .stuck, h => h
  | .draw k g, h => fun r hr => wp_try (h r hr)
  | .exc x, h => by
    have h : (match x.2, R x.1 with
      | none, some d => M.ret (Ct.nx, (List.replicate n Sl.un).set j (.v d))
      | _, _ => .stuck).wp Q E' := h
    show x.2 = none ∧ ∃ d, R x.1 = some d ∧ Q (.nx, (List.replicate n Sl.un).set j (.v d))
    split at h
    · rename_i e1 e2
      exact ⟨e1, _, e2, h⟩
    · exact h.elim
theorem Bd'.suite {cm : Bool} {X : Cx} {A : Am} {E : EN} {k : Nat} (B : Bd' cm X A E k) {a : Addr} {pn : List (Addr × Obj)} : Bd' false (X.suite a pn) A never k :=
  ⟨(fun z => nomatch z), B.nd, (fun z => nomatch z), B.un, B.gd, fun pins σ H s e s' I h => by
    obtain ⟨_, _, _, _, _, _, _, _, _, _, _, _, ⟨_, _, z⟩⟩ := h
    exact z.elim, B.kle⟩
section
variable {X : Cx} {A : Am} {E : EN} {k : Nat} {md : Md}
theorem un_v {n j : Nat} {d e : D} {i : Nat} (h : ((List.replicate n Sl.un).set j (.v d))[i]? = some (.v e)) : i = j ∧ e = d := by
  rcases set_get h with ⟨rfl, e2, _⟩ | ⟨_, e2⟩
  · cases e2; exact ⟨rfl, rfl⟩
  · rw [List.getElem?_replicate] at e2
    split at e2 <;> cases e2
theorem un_o {n j : Nat} {d e : D} {i : Nat} : ((List.replicate n Sl.un).set j (.v d))[i]? ≠ some (.own e) := fun h => by
  rcases set_get h with ⟨rfl, e2, _⟩ | ⟨_, e2⟩
  · cases e2
  · rw [List.getElem?_replicate] at e2
    split at e2 <;> cases e2
theorem psv_try {cx en : Str} {CS : Addr} {i j : Nat} {R : Str → Option D} {e : Expr} {m : Ga → M D} {b₀ : Stmt} {suite : List Stmt} {np pe pos pos' : Pos} (B : Bd X A E k) (hs : X.stack = X.env :: X.outer) (hf : X.env.frame = some X.env.locals) (hi : X.N[i]? = some en) (hln : X.env.kindOf en = some .local) (hij : i ≠ j) (hc : Gl X cx) (hmc : X.mg cx = some (.ref CS)) (hdc : (cx == ("__debug__" : Str)) = false)
    (hb : ∀ (H1 : Hp) (P1 : Addr → Prop) (g1 : A.gh.G H1) (zp1 : ∀ a, A.gh.Z a → ¬ P1 a) (p1 : ∀ a, ¬ P1 a → ¬ A.gh.Z a → ∃ o, H1 a = some o ∧ Mb o) (pn : List (Addr × Obj)) (xe : Value → Shared → Prop) (EN' : EN), Kx A.gh.Z A.H0 H1 →
      Passes (L2.CX X.prog X.w) (X.tr pn xe) (EK X.mg EN') → PEX (X.tr pn xe) ⟨A.gh, A.K, H1, P1, g1, zp1, p1⟩ EN' e m)
    (hR : ∀ (c : Str) (d : D), R c = some d → ∃ C : Addr, X.mg c = some (.ref C) ∧ PySem.W.exmOne X.K (.ref C) (.ref CS) = some true ∧ ∀ (a : Addr) (oe : Obj) (pn : List (Addr × Obj)), Zc (.ref C) none oe → (∃ vs, oe.data = .fields vs) →
      ∃ mh : Ga → M (Ct × Ga), PSVs (X.suite a ((a, oe) :: pn)) A never md (b₀ :: suite) mh ∧ (mh ((List.replicate X.N.length Sl.un).set i (.v (.raw (.ref a))))).wp (fun r => r.1 = .nx ∧ r.2[j]? = some (.v d) ∧ r.2.length = X.N.length) fun _ => False)
    (hsw : swapsWith e none pe.line X.env = pure false := by rfl) :
    PSV X A E md (.Try [.Expr e pe] [.ExceptHandler (some (.Name cx np)) (some en) (b₀ :: suite) pos'] [] [] pos) (tryM m j X.N.length R) := by
  let n := X.N.length
  let tb : WX → TS := fun W Dn σ H => ∃ (EN' : EN) (H1 : Hp) (P1 : Addr → Prop) (g1 : A.gh.G H1) (zp1 : ∀ a, A.gh.Z a → ¬ P1 a) (p1 : ∀ a, ¬ P1 a → ¬ A.gh.Z a → ∃ o, H1 a = some o ∧ Mb o), Kx A.gh.Z A.H0 H1 ∧ (∀ x cls d σ' H', EN' x H' → xIs X.mg x cls d H' → W cls d σ' H') ∧
    tVx A.K ⟨A.gh, A.K, H1, P1, g1, zp1, p1⟩ EN' m σ H fun _ H' => Dn.nx σ H'
  let ts : Addr → Value → Option Addr → TS := fun a cls dd Dn σ H => ∃ (c : Str) (d : D) (cn : Cn) (f : Nat → Addr) (Γ : Ga) (σ0 : L2.St), R c = some d ∧ X.mg c = some cls ∧ dd = none ∧ σ = σ0.set i (some (.ref a)) ∧ (∀ σ2, σ2.length = n → Rl A.K A cn f σ2 H (List.replicate n Sl.un)) ∧
    ∀ f' σ' H' Γ', Hs A cn f (List.replicate n Sl.un) H f' Γ' H' → Rl A.K A cn f' σ' H' Γ' → Γ'[j]? = some (.v d) → Γ'.length = n → Dn.nx σ' H'
  have hps := ps_try_as (X := X) (x := cx) (n := en) (c := .ref CS) (i := i) (body := [.Expr e pe]) (suite := suite) (b₀ := b₀) (np := np) (pos := pos) (pos' := pos') (tb := tb) (ts := ts) (Wout := fun _ _ _ _ => False) hs hf B.nd hi hln ⟨hc, hdc, .inl hmc⟩ LamX.takes0
    (fun W pn xe tk _ => ⟨fun pins s σ H Dn I ⟨EN', H1, P1, g1, zp1, p1, k1, hW, ht⟩ => by
      have hx : Passes (L2.CX X.prog X.w) (X.tr pn xe) (EK X.mg EN') := passes_call tk fun cls d σ' H' ⟨x, h1, h2⟩ => hW x cls d σ' H' h2 h1
      exact (pss_one (ps_expr (hb H1 P1 g1 zp1 p1 pn xe EN' k1 hx).pe hsw)).run pins s σ H Dn I ht⟩)
    (fun a oe cls dd pn hz hfl => ⟨fun pins s σ H Dn I ⟨c, d, cn, f, Γ, σ0, hRc, hmg, hdd, hσ, hrl, hDn⟩ => by
      obtain ⟨C, e1, _, hall⟩ := hR c d hRc
      have ec : cls = .ref C := Option.some.inj (hmg.symm.trans e1)
      subst ec hdd hσ
      obtain ⟨mh, hmh, hret⟩ := hall a oe pn hz hfl
      have il : i < X.N.length := (List.getElem?_eq_some_iff.mp hi).1
      have sl : (σ0.set i (some (V.ref a))).length = n := I.len
      have sl0 : σ0.length = n := by rw [List.length_set] at sl; exact sl
      have R0 := (hrl σ0 sl0).setV (i := i) (w := .ref a) (d := .raw (.ref a)) (.raw _)
      refine hmh.ps.run pins s _ H Dn I ⟨cn, f, _, R0, ?_⟩
      refine M.wp_mono hret (fun r q => ?_) fun _ z => z.elim
      obtain ⟨ct, Γh⟩ := r
      obtain ⟨e2, hj, hlen⟩ := q
      have e2 : ct = .nx := e2
      subst e2
      intro f' σ' H' h1 R1
      exact hDn f' σ' H' Γh (Hs.trans Hs.setV h1) R1 hj hlen⟩)
  refine ⟨imp_ps hps fun Dn σ H ⟨cn, f, Γ, R0, h⟩ => ?_⟩
  have h := wp_try (show (tryGo Γ j n R (m (hideG Γ))).wp _ _ from h)
  have lk0 := cn.e
  have k0 : Kx A.gh.Z A.H0 H := fun b o nz eo => by
    rcases R0.keep b o nz eo with q | ⟨ob, hl, _⟩
    · exact q
    · rw [lk0] at hl; cases hl
  refine ⟨fun x H' => Kx A.gh.Z H H' ∧ A.gh.G H' ∧ x.2 = none ∧ ∃ d, R x.1 = some d ∧ sP A.K A cn md f Γ H Dn (.nx, (List.replicate n Sl.un).set j (.v d)), H, Fz A cn f Γ, R0.g, fun _ z p => p.nz z, fun _ nn _ => R0.mut nn, k0, ?_, cn0, f, hideG Γ, R0.inner, M.wp_mono h (fun d q w H' k' g' => q f σ H' (.kx k') (R0.kx k' g')) fun x hx => ⟨rfl, fun H' k' g' => ⟨k', g', hx.1, hx.2⟩⟩⟩
  rintro x cls dd σ' H' ⟨k', g', hx2, d, hd, q⟩ ⟨hm, hdd⟩
  rw [hx2] at hdd
  obtain ⟨C, e1, e2, hall⟩ := hR x.1 d hd
  have ec : cls = .ref C := Option.some.inj (hm.symm.trans e1)
  subst ec
  refine ⟨true, e2, fun _ a na => ⟨x.1, d, cn, f, Γ, σ', hd, hm, hdd, rfl, fun σ2 hl2 => ?_, fun f' σ3 H3 Γ3 hs3 R3 hj3 hl3 => ?_⟩, fun z => nomatch z⟩
  · refine (R0.kx k' g').forget (by rw [hl2, List.length_replicate]) (fun i d e => ?_) fun i d e => ?_
    · rw [List.getElem?_replicate] at e
      split at e <;> cases e
    · rw [List.getElem?_replicate] at e
      split at e <;> cases e
  · refine q f' (σ3.set i none) H3 (fun b p u eu => ?_) ?_
    · have p1 : Fz A cn f (List.replicate n Sl.un) b := ⟨p.1, p.2.1, fun i d z => by
        rw [List.getElem?_replicate] at z
        split at z <;> cases z⟩
      obtain ⟨p3, u3⟩ := hs3 b p1 u (k' b u p.nz eu)
      exact ⟨⟨p3.1, p3.2.1, fun i d z => absurd z un_o⟩, u3⟩
    · refine R3.forget (by rw [List.length_set, R3.len, hl3, List.length_set, List.length_replicate]) (fun i2 d2 e => ?_) fun i2 d2 => un_o
      obtain ⟨rfl, rfl⟩ := un_v e
      exact ⟨hj3, set_ne (Ne.symm hij)⟩
/-- isinstance(e, C), e what was caught: slot i holds it -/
def isEM (i : Nat) (a : Addr) (b : Bool) : Ga → M D := fun Γ => match Γ[i]? with
  | some (.v (.raw v)) => if v = .ref a then .ret (.bl b) else .stuck
  | _ => .stuck
theorem pev_isE {a D0 : Addr} {oe : Obj} {pn : List (Addr × Obj)} {i : Nat} {b : Bool} {en : Str} {c : Expr} {v : V} {cv : Value} {q1 p pos : Pos} (C : ExcC X.K D0) (hz : Zc (.ref D0) none oe) (hf : ∃ vs, oe.data = .fields vs) (hn : X.mg "isinstance" = none) (hN : X.N[i]? = some en) (hv : Vis X.env.scope en)
    (hc : PE (X.suite a ((a, oe) :: pn)) c (tC v)) (hcv : ∀ u, RelV v u → u = cv) (hk : PySem.W.kitOne X.K (.ref D0) cv = some b) (hg : Gl X "isinstance" := by rfl) (hd : (en == ("__debug__" : Str)) = false := by decide) (hcd : (en == ("__classdict__" : Str)) = false := by decide)
    (hs : starEach [.Name en q1, c] X.env = (false, eval (.Name en q1) X.env) :: starEach [c] X.env := by rfl) (hs2 : starEach [c] X.env = (false, eval c X.env) :: starEach [] X.env := by rfl) (hpl : (backTo pos (starEach [c] X.env)).any (·.1) = false := by rfl) :
    PEV (X.suite a ((a, oe) :: pn)) A never .f (.Call (.Name "isinstance" p) [.Name en q1, c] [] pos) (isEM i a b) := by
  refine ⟨imp_pe (pe_callB (X := X.suite a ((a, oe) :: pn)) (call_isE C hz hf) hg hn bt_isinstance (pa_cons (pe_var (X := X.suite a ((a, oe) :: pn)) hN hv hd hcd) (pa_cons hc pa_nil hs2) hs) (by decide) (by decide) hs hpl) fun σ H Q ⟨cn, f, Γ, R, h⟩ => ?_⟩
  unfold isEM at h
  split at h
  · rename_i v' hv'
    split at h
    · rename_i ev
      subst ev
      obtain ⟨w0, h1, h2⟩ := R.sl i _ hv'
      cases h2
      exact ⟨_, h1, v, cv, b, rfl, hcv, hk, h (.bl b) H .refl R.g (.bl b)⟩
    · exact h.elim
  · exact h.elim
end
end Px

set_option Elab.async false
set_option linter.all false
set_option maxRecDepth 100000
set_option maxHeartbeats 4000000
set_option autoImplicit false
namespace Px
open PySem PySem.Spec PyProof.Rows L2 LamX
/-- x(lambda: body), by what is known of x -/
theorem pev_wordF {X : Cx} {A : Am} {E : EN} {k : Nat} {T : List (Addr × Str)} {gh : Gh} {x a : Str} {g c P : Addr} {kw kl : Nat} {st : Stmt} {fd : FuncData} {Ng : List Str}
    {params : Arguments} {body : Expr} {scope : Scope} {p lpos pos : Pos} {m : Ga → M D} {W : M D → M D} {bW : Addr → M D → Ga → M (Ct × Ga)} (hA : A.gh = gh.tabs T) (B : Bd X A E k) (hg : Gl X x) (hm : X.mg x = some (.ref g)) (F : Fun X.K x x st g fd)
    (hb : L2.Binds X.K fd [a] []) (Sg : FnScope Ng [a] (defScope st)) (hNg : Ng[0]? = some a) (hva : Vis (defScope st) a)
    (hW : ∀ (cdv : Value) (A' : Around) (outer : List Env) (s : Shared) (H : Hp) (f : Addr) (mm : M D) (P0 : Addr → Prop) (g0 : A.gh.G H) (zp : ∀ a, A.gh.Z a → ¬ P0 a) (p0 : ∀ a, ¬ P0 a → ¬ A.gh.Z a → ∃ o, H a = some o ∧ Mb o),
      Bd (cxOf (L2.CX X.prog X.w) X.prog X.w X.K X.mg X.base Ng x (defScope st) g cdv A' outer s H (fun _ _ _ => False)) ⟨A.gh, A.K, H, P0, g0, zp, p0⟩ never kw →
      (∀ (H1 : Hp) (P1 : Addr → Prop) (g1 : A.gh.G H1) (zp1 : ∀ a, A.gh.Z a → ¬ P1 a) (p1 : ∀ a, ¬ P1 a → ¬ A.gh.Z a → ∃ o, H1 a = some o ∧ Mb o) (pn : List (Addr × Obj)) (xe : Value → Shared → Prop) (EN' : EN) (q1 q2 : Pos), Kx A.gh.Z H H1 →
        Passes (L2.CX X.prog X.w) ((cxOf (L2.CX X.prog X.w) X.prog X.w X.K X.mg X.base Ng x (defScope st) g cdv A' outer s H (fun _ _ _ => False)).tr pn xe) (EK X.mg EN') →
        PEX ((cxOf (L2.CX X.prog X.w) X.prog X.w X.K X.mg X.base Ng x (defScope st) g cdv A' outer s H (fun _ _ _ => False)).tr pn xe) ⟨A.gh, A.K, H1, P1, g1, zp1, p1⟩ EN' (.Call (.Name a q1) [] [] q2) (callL 0 f mm)) →
      PSVs (cxOf (L2.CX X.prog X.w) X.prog X.w X.K X.mg X.base Ng x (defScope st) g cdv A' outer s H (fun _ _ _ => False)) ⟨A.gh, A.K, H, P0, g0, zp, p0⟩ never .f (defBody st) (bW f mm))
    (hWf : ∀ (f : Addr) (mm : M D), (bW f mm (.v (.raw (.ref f)) :: List.replicate (Ng.length - 1) .un) >>= fnEnd) = W mm)
    (TB : TabB X.base X.mg c P) (hcode : X.env.code = .ref c) (hmT : (P, lamN X) ∈ T) (hu : ∀ p ∈ T, p.1 = P → p.2 = lamN X) (hkw : kw + 1 ≤ k) (hkl : kl + 2 ≤ k) (L : LamS X.env.scope scope) (hdef : defaultsOf params X.env = ([], []))
    (hbind : ∀ (q : Str) (cl : List (Str × Addr)) (pm cv ctv : Value), bindArgs (PySem.W.kla_fn "<lambda>" q params body scope cl pm cv ctv) ⟨[], []⟩ = pure [])
    (hbody : ∀ (A' : Around) (outer : List Env) (s : Shared) (H : Hp) (E' : XK) (f c' : Addr) (H1 : Hp) (P1 : Addr → Prop) (g1 : A.gh.G H1) (zp1 : ∀ a, A.gh.Z a → ¬ P1 a) (p1 : ∀ a, ¬ P1 a → ¬ A.gh.Z a → ∃ o, H1 a = some o ∧ Mb o),
      Bd (lamCx X A' outer s H E' scope f c') ⟨A.gh, A.K, H1, P1, g1, zp1, p1⟩ (enOf X.mg E') kl → PEX (lamCx X A' outer s H E' scope f c') ⟨A.gh, A.K, H1, P1, g1, zp1, p1⟩ (enOf X.mg E') body m)
    (hdb : (x == ("__debug__" : Str)) = false := by decide) (hd : (a == ("__debug__" : Str)) = false := by decide) (hcd : (a == ("__classdict__" : Str)) = false := by decide) :
    PEV X A E .f (.Call (.Name x p) [.Lambda params body scope lpos] [] pos) (fun Γ => (W (m (hideG Γ))).noexc) := by
  obtain ⟨oc, od, kV, doc, pm, an, cdv, ct, osl, rfl, lk, hcd'⟩ := F.ex
  exact pev_word hA B hg hm F.kp lk hcd' hb Sg hNg hva (hW cdv) hWf TB hcode hmT hu hkw hkl L hdef hbind hbody hdb hd hcd
/-! ### what is asked of the classes of exceptions -/
structure EcOf (K : PySem.W.Frag) (D0 : Addr) : Prop where
  hg : PySem.W.findIn K (.ref D0) "__getattribute__" = some (some (.builtin "BaseException.__getattribute__"))
  hk : PySem.W.findIn K (.ref D0) "__getattr__" = some none
  hs : PySem.W.subIn K (.ref D0) (.type "BaseException") = some true
  hd : PySem.W.hasDictIn K D0 = true
  ha : PySem.W.findIn K (.ref D0) "__class__" = some (some (.builtin "object.__class__"))
  hm : PySem.W.mroIn K D0 (.type "object") = some true
  ht : PySem.W.typeIn K (.ref D0) = some (.type "type")
  hv : PySem.W.subIn K (.ref D0) (.type "ValueError") = some true
structure GetCls (K : PySem.W.Frag) : Prop where
  hn : PySem.W.specialIn K (.builtin "object.__class__") "__get__" = some (some (.builtin "getset_descriptor.__get__"))
  ht : PySem.W.takesIn K (.builtin "object.__class__") = some true
section
variable {K : PySem.W.Frag} {D0 C : Addr} {b : Bool}
theorem EcOf.exc (e : EcOf K D0) (g : GetCls K) : ExcC K D0 := ⟨e.hg, e.hk, e.hs, e.hd, e.ha, g.hn, g.ht, e.hm⟩
theorem EcOf.isSome (e : EcOf K D0) : (PySem.W.clsIn K D0).isSome = true := by
  have h := e.hd
  obtain ⟨cd, hc, _⟩ := PySem.W.any_some h
  rw [hc]; rfl
theorem kit_of (e : EcOf K C) (s : PySem.W.subIn K (.ref D0) (.ref C) = some b) (hb : b = false → D0 ≠ C) : PySem.W.kitOne K (.ref D0) (.ref C) = some b := by
  unfold PySem.W.kitOne
  by_cases h : ((Value.ref D0 : Value) == .ref C) = true
  · rw [if_pos h]
    cases b with
    | true => rfl
    | false => exact absurd (Value.ref.inj (beq_iff_eq.mp h)) (hb rfl)
  · rw [if_neg h]
    show (if ((PySem.W.clsIn K C).isSome && PySem.W.typeIn K (.ref C) == some (.type "type")) = true then PySem.W.subIn K (.ref D0) (.ref C) else none) = some b
    rw [if_pos (by rw [e.isSome, e.ht]; rfl)]
    exact s
theorem kit_ne (s : PySem.W.subIn K (.ref D0) (.ref C) = some false) (s2 : PySem.W.subIn K (.ref D0) (.ref D0) = some true) : D0 ≠ C := fun e => by
  subst e
  rw [s] at s2; cases s2
theorem kit_ve (e : EcOf K D0) : PySem.W.kitOne K (.ref D0) (.type "ValueError") = some true := by
  unfold PySem.W.kitOne
  rw [show ((Value.ref D0 : Value) == .type "ValueError") = false from beq_eq_false_iff_ne.mpr (fun h => by cases h), if_neg Bool.false_ne_true]
  show (if PySem.W.kitMeta "ValueError" = true then PySem.W.subIn K (.ref D0) (.type "ValueError") else none) = some true
  rw [if_pos (by decide +kernel)]
  exact e.hv
theorem exm_of (e : EcOf K C) (s : PySem.W.subIn K (.ref D0) (.ref C) = some true) : PySem.W.exmOne K (.ref D0) (.ref C) = some true := PySem.W.exm_ref e.hs e.hd e.ht s
end
/-! ### defs as values -/
section
variable {X : Cx} {A : Am} {E : EN} {k : Nat} {md : Md} {x : Str} {e : Expr} {es : List Expr} {ml : Ga → M (List D)} {p pos : Pos}
def cR (v : V) : Ga → M D := fun _ => .ret (.raw v)
theorem g_fn {f : Addr} (hm : X.mg x = some (.ref f)) (hg : Gl X x := by rfl) (hd : (x == ("__debug__" : Str)) = false := by decide) : PEV X A E .f (.Name x pos) (cR (.ref f)) := pev_glob (v := .ref f) hg hm rfl (fun _ _ _ => .raw _) hd
theorem pe_callLG {CX : CXT} {i : Nat} {f : Addr} {fd : FuncData} {ps : List Str} {sp : Sp} {EX : XK} {t : TA} (F : FnG X.prog X.w X.K X.mg X.base CX k f fd ps sp) (hr : Room k X.A) (gd : X.A.guards = some []) (hN : X.N[i]? = some x) (hv : Vis X.env.scope x) (hk : PySem.W.keepIn X.K (.ref f) = true) (hb : Binds X.K fd ps []) (hx : Passes CX X EX)
    (ha : PA X (e :: es) t) (hdb : (x == ("__debug__" : Str)) = false := by decide) (hcd : (x == ("__classdict__" : Str)) = false := by decide) (he : starEach (e :: es) X.env = (false, eval e X.env) :: starEach es X.env := by rfl) (hpl : (backTo pos (starEach es X.env)).any (·.1) = false := by rfl) :
    PE X (.Call (.Name x p) (e :: es) [] pos) (fun σ H Q => σ[i]? = some (some (.ref f)) ∧ t σ H fun vs H1 => sp (vs ++ []) H1 Q EX) := by
  refine ⟨fun pins s σ H Q I ⟨hs, ht⟩ => ?_⟩
  refine wpAny_Call_Name_kw (thn ((pe_var (pos := p) hN hv hdb hcd).run pins s σ H (fun v H1 => v = .ref f ∧ H1 = H) I ⟨.ref f, hs, rfl, rfl⟩) fun u s1 ⟨v, H1, I1, r1, e1, e2⟩ => ?_)
  subst e1 e2
  cases r1
  exact PySem.W.callWith_K (h₀ := X.base) I.ok.mod.kin hk (thn (ha.run pos pins s1 σ _ _ I1 ht) fun us s2 ⟨vs, H2, I2, r, q⟩ => ⟨I2.kIn, run_fnG F hr gd hb .nil hx I2 r q⟩) he hpl
/-- a call of what slot i holds; S: which plain function stands for which value -/
def callF (i : Nat) (ml : Ga → M (List D)) (S : V → Option (List D → M D)) : Ga → M D := fun Γ => match Γ[i]? with
  | some (.v (.raw v)) => match S v with
    | some F => ml Γ >>= F
    | none => .stuck
  | _ => .stuck
theorem pev_callF {i : Nat} {S : V → Option (List D → M D)} (B : Bd X A E k) (hS : ∀ v F, S v = some F → ∃ (f : Addr) (fd : FuncData) (ps : List Str), v = .ref f ∧ FnG X.prog X.w X.K X.mg X.base (L2.CX X.prog X.w) k f fd ps (spM A.K X.mg A.gh md F) ∧ PySem.W.keepIn X.K (.ref f) = true ∧ Binds X.K fd ps [])
    (hN : X.N[i]? = some x) (hv : Vis X.env.scope x) (ha : PAVL X A E .s (e :: es) ml) (hdb : (x == ("__debug__" : Str)) = false := by decide) (hcd : (x == ("__classdict__" : Str)) = false := by decide)
    (he : starEach (e :: es) X.env = (false, eval e X.env) :: starEach es X.env := by rfl) (hpl : (backTo pos (starEach es X.env)).any (·.1) = false := by rfl) : PEV X A E md (.Call (.Name x p) (e :: es) [] pos) (callF i ml S) := by
  refine ⟨⟨fun pins s σ H Q I ⟨cn, f0, Γ, R, h⟩ => ?_⟩⟩
  unfold callF at h
  split at h
  case h_2 => exact h.elim
  rename_i v hv1
  split at h
  case h_2 => exact h.elim
  rename_i F hF
  obtain ⟨f, fd, ps, rfl, ok, hk, hb⟩ := hS v F hF
  obtain ⟨w0, h1, h2⟩ := R.sl i _ hv1
  cases h2
  refine (pe_callLG ok B.hr B.gd hN hv hk hb B.hx ha.pa hdb hcd he hpl).run pins s σ H Q I ⟨h1, cn, f0, Γ, R, M.wp_mono (M.wp_bind.mp h) (fun ds q ws H1 k1 g1 r1 => ?_) fun _ x => x⟩
  show spM A.K X.mg A.gh md F (ws ++ []) H1 Q _
  rw [List.append_nil]
  have R1 := R.kx k1 g1
  refine ⟨Fz A cn f0 Γ, ds, fun a z p => p.nz z, fun a n _ => R1.mut n, g1, r1.rpl, M.wp_mono q (fun d q w H' k2 g2 r2 => ?_) fun x hx c dd H' k2 g2 hc => ?_⟩
  · exact q w H' (k1.trans k2) g2 (Rq.later R k1 g1 r2)
  · exact ⟨x, hc, hx.2 H' (R.exn hx.1 (k1.trans k2)) g2⟩
end
end Px

set_option Elab.async false
set_option linter.all false
set_option maxRecDepth 100000
set_option maxHeartbeats 4000000
set_option autoImplicit false
namespace Px
open PySem PySem.Spec PyProof.Rows L2 LamX
/-! ### x += e, whole numbers -/
def augadd (x y : D) : M D := match x, y with
  | .int i, .int j => .ret (.int (i + j))
  | _, _ => .stuck
def augsub (x y : D) : M D := match x, y with
  | .int i, .int j => .ret (.int (i - j))
  | _, _ => .stuck
def augM (i : Nat) (me : Ga → M D) (g : D → D → M D) : Ga → M (Ct × Ga) := fun Γ => getS i Γ >>= fun x => me Γ >>= fun y => g x y >>= fun z => .ret (.nx, Γ.set i (.v z))
def IpI (X : Cx) (op : Operator) (f : Int → Int → Int) (g : D → D → M D) : Prop := PIp X op (ipI f) ∧ ∀ (x y : D) (Q : D → Prop) (E' : Exn → Prop), (g x y).wp Q E' → ∃ i j, x = .int i ∧ y = .int j ∧ Q (.int (f i j))
theorem op_augadd {X : Cx} : IpI X .Add (fun i j => i + j) augadd := ⟨ip_add, fun x y Q E' h => by
  cases x <;> cases y <;> first | exact ⟨_, _, rfl, rfl, h⟩ | exact h.elim⟩
theorem op_augsub {X : Cx} : IpI X .Sub (fun i j => i - j) augsub := ⟨ip_sub, fun x y Q E' h => by
  cases x <;> cases y <;> first | exact ⟨_, _, rfl, rfl, h⟩ | exact h.elim⟩
section
variable {X : Cx} {A : Am} {E : EN} {k : Nat} {md md1 : Md} {e : Expr} {me : Ga → M D}
theorem psv_aug {i : Nat} {x : Str} {op : Operator} {f : Int → Int → Int} {g : D → D → M D} {pos pos' : Pos} (hN : X.N.Nodup) (hi : X.N[i]? = some x) (hx : Loc X.env.scope x) (ho : IpI X op f g) (he : PEV X A E md1 e me) (hf : X.fn x = true ∨ X.env.scope.names.lookup x = some .local := by first | exact .inl rfl | exact .inr rfl | assumption) :
    PSV X A E md (.AugAssign (.Name x pos') op e pos) (augM i me g) := by
  refine ⟨imp_ps (ps_aug hN hi hx he.pe ho.1 hf) fun Dn σ H ⟨cn, f', Γ, R, h⟩ => ?_⟩
  have h := M.wp_bind.mp h
  unfold getS at h
  split at h
  case h_2 => exact h.elim
  rename_i d e1
  obtain ⟨w, h1, h2⟩ := R.sl i d e1
  refine ⟨w, h1, cn, f', Γ, R, M.wp_mono (M.wp_bind.mp h) (fun y q v H1 k1 g1 r1 => ?_) fun _ x => x⟩
  obtain ⟨a, b, rfl, rfl, q2⟩ := ho.2 _ _ _ _ (M.wp_bind.mp q)
  have R1 := R.kx k1 g1
  cases h2
  cases rb_int (R.rb r1)
  refine ⟨a, b, rfl, rfl, ?_⟩
  exact q2 f' _ H1 (Hs.trans (Hs.kx k1) Hs.setV) (R1.setV (.int _))
@[simp] theorem augM_ {i : Nat} {g : D → D → M D} {Γ : Ga} : augM i me g Γ = getS i Γ >>= fun x => me Γ >>= fun y => g x y >>= fun z => .ret (.nx, Γ.set i (.v z)) := rfl
@[simp] theorem augadd_ {i j : Int} : augadd (.int i) (.int j) = .ret (.int (i + j)) := rfl
@[simp] theorem augsub_ {i j : Int} : augsub (.int i) (.int j) = .ret (.int (i - j)) := rfl
end
/-! ### isinstance(x, T), x of any make -/
def rootT : D → Option String
  | .non => some "NoneType"
  | .bl _ => some "bool"
  | .int _ => some "int"
  | .str _ => some "str"
  | .tup _ => some "tuple"
  | .lst _ => some "list"
  | .dct _ _ => some "dict"
  | .raw _ => none
def six : List String := ["int", "bool", "tuple", "str", "list", "dict"]
def isaR (d : D) (T : String) : Bool := match rootT d with
  | some R => R == T || (R == "bool" && T == "int")
  | none => false
def isa2D : List D → M D
  | [d, .raw (.ty T)] => if ((rootT d).isSome && six.contains T) = true then .ret (.bl (isaR d T)) else .stuck
  | _ => .stuck
theorem tame_isa2 : ∀ ds, Tame (isa2D ds) := fun ds => by unfold isa2D; split <;> first | trivial | exact tame_if
theorem kit_nil (K : PySem.W.Frag) (R T : String) : PySem.W.kitOne K (.type R) (.type T) = PySem.W.kitOne [] (.type R) (.type T) := rfl
def seven : List String := ["NoneType", "bool", "int", "str", "tuple", "list", "dict"]
theorem kit_all : ∀ R ∈ seven, ∀ T ∈ six, PySem.W.kitOne [] (.type R) (.type T) = some (R == T || (R == "bool" && T == "int")) := by decide +kernel
theorem kit_six {K : PySem.W.Frag} {d : D} {R T : String} (h : rootT d = some R) (ht : six.contains T = true) : PySem.W.kitOne K (.type R) (.type T) = some (isaR d T) := by
  rw [kit_nil]
  have hR : R ∈ seven := by cases d <;> cases h <;> decide
  rw [kit_all R hR T (by simpa using ht)]
  unfold isaR
  rw [h]
section
variable {X : Cx} {A : Am} {E : EN} {k : Nat} {pins : List (Addr × Obj)} {σ : L2.St} {H : Hp} {s : Shared} {P W : Addr → Prop}
theorem kit_val {cm : Bool} (B : Bd' cm X A E k) (I : Inv X pins σ H s) {v : V} {u : Value} {d : D} (r : Rb A.K H P W v d) (ru : RelV v u) {R : String} (h : rootT d = some R) : ∃ Z : Heap → Prop, PySem.W.KitX X.K u (.type R) Z ∧ Z s.heap ∧ u ≠ .builtin "__main__.__loader__#opaque" := by
  cases d with
  | non => cases r; cases h; cases ru; exact ⟨_, PySem.W.kitx_none, trivial, fun z => nomatch z⟩
  | bl b => cases r; cases h; cases ru; exact ⟨_, PySem.W.kitx_bool, trivial, fun z => nomatch z⟩
  | int i => cases r; cases h; obtain ⟨t, rfl⟩ := ru; exact ⟨_, PySem.W.kitx_int, trivial, fun z => nomatch z⟩
  | str i => cases r; cases h; obtain ⟨t, rfl⟩ := ru; exact ⟨_, PySem.W.kitx_str, trivial, fun z => nomatch z⟩
  | tup ds =>
    cases h
    obtain ⟨a, xs, rfl, hx, l⟩ := rb_tup r
    cases ru
    obtain ⟨its, _, ⟨o, ho, hc, _⟩, _⟩ := I.tuple (TpX.kle B.kle hx)
    exact ⟨_, PySem.W.kitx_tuple, ⟨o, ho, hc⟩, fun z => nomatch z⟩
  | lst ds =>
    cases h
    obtain ⟨a, xs, rfl, _, hx, _⟩ := r
    cases ru
    obtain ⟨its, _, ⟨o, n, ho, hc, _⟩, _⟩ := I.list (SqL.of hx)
    exact ⟨_, PySem.W.kitx_list, ⟨o, ho, hc⟩, fun z => nomatch z⟩
  | dct t kvs =>
    cases h
    obtain ⟨a, rfl, _, hx⟩ := r
    cases ru
    rcases hx with ⟨_, l, hx, _⟩ | ⟨_, l, hx, _⟩
    · obtain ⟨_, _, vs, _, o, es, ep, h1, h2, _⟩ := dk_rd I.hok hx
      exact ⟨_, PySem.W.kitx_dict, ⟨o, h1, by first | exact h2 | exact h2.1⟩, fun z => nomatch z⟩
    · obtain ⟨_, _, xs, _, o, es, ep, h1, h2, _⟩ := dt_rd I.hok hx
      exact ⟨_, PySem.W.kitx_dict, ⟨o, h1, by first | exact h2 | exact h2.1⟩, fun z => nomatch z⟩
  | raw v => cases h
theorem c_isa2 {cm : Bool} (B : Bd' cm X A E k) : CallR X (.builtin "isinstance") (cD A.K isa2D) := by
  intro pins s σ H vs us Q I r ⟨P, W, ds, h1, h⟩
  unfold isa2D at h
  split at h
  · rename_i d T
    obtain ⟨c, q⟩ := wp_if h
    rw [Bool.and_eq_true] at c
    obtain ⟨R, hR⟩ := Option.isSome_iff_exists.mp c.1
    obtain ⟨v, w, rfl, r1, r2⟩ := rq2 h1
    have ew : w = .ty T := by cases r2; rfl
    subst ew
    obtain ⟨u1, u2, rfl, q1, q2⟩ := vals2 r
    cases (show u2 = Value.type T from q2)
    obtain ⟨Z, kx, hz, hne⟩ := kit_val B I r1 q1 hR
    exact PySem.W.kia_one kx I.kIn hz (kit_six hR c.2) hne fun tk => ⟨.bl _, H, I.kept (t' := tk) fun _ _ z => z, rfl, q _ H (Same.refl _) (.bl _)⟩
  · exact h.elim
end
end Px

set_option Elab.async false
set_option linter.all false
set_option maxRecDepth 100000
set_option maxHeartbeats 4000000
set_option autoImplicit false
namespace Px
open PySem PySem.Spec PyProof.Rows L2 LamX
/-! ### sorted -/
def dle (x y : D) : Bool := PySem.W.dataLe false toPy x y
def insD (x : D) : List D → List D
  | [] => [x]
  | y :: r => if dle x y = true then x :: y :: r else y :: insD x r
def isortD : List D → List D
  | [] => []
  | x :: r => insD x (isortD r)
theorem dle_t : PySem.W.TotalLe dle := PySem.W.sortLe_total (PyProof.Rows.listOrd PyProof.Rows.itemOrd) false fun b => PySem.W.keyToks (toPy b)
theorem ins_at {x : D} : ∀ {l1 l2 : List D}, (∀ b ∈ l1, dle x b = false) → (∀ b ∈ l2, dle x b = true) → insD x (l1 ++ l2) = l1 ++ x :: l2
  | [], [], _, _ => rfl
  | [], b :: r, _, h => if_pos (h b List.mem_cons_self)
  | a :: l1, l2, h1, h2 => by
    show (if dle x a = true then _ else a :: insD x (l1 ++ l2)) = _
    rw [if_neg (by rw [h1 a List.mem_cons_self]; exact Bool.false_ne_true), ins_at (fun b hb => h1 b (List.mem_cons_of_mem _ hb)) h2]; rfl
theorem merge_isort : ∀ l : List D, l.mergeSort dle = isortD l
  | [] => by simp [isortD]
  | x :: r => by
    obtain ⟨l1, l2, e1, e2, h⟩ := List.mergeSort_cons (le := dle) (fun a b c => dle_t.trans a b c) (fun a b => by have := dle_t.total a b; simpa using this) x r
    have hs := List.pairwise_mergeSort (le := dle) (fun a b c => dle_t.trans a b c) (fun a b => by have := dle_t.total a b; simpa using this) (x :: r)
    rw [e1] at hs ⊢
    have h2 : ∀ b ∈ l2, dle x b = true := fun b hb => by
      have := (List.pairwise_append.mp hs).2.1
      exact (List.pairwise_cons.mp this).1 b hb
    show _ = insD x (isortD r)
    rw [← merge_isort r, e2, ins_at (fun b hb => by simpa using h b hb) h2]
def keysOf : D → Option (List D)
  | .lst ds => some ds
  | .dct _ kvs => some (kvs.map (·.1))
  | _ => none
def sortOk (ds : List D) : Bool := D.plL ds && alikeD ds && decide (D.depL ds ≤ 60) && ((ds.all fun d => match d with | .tup (_ :: _) => true | _ => false) || ds.all fun d => match d with | .tup _ => false | .non => false | _ => true)
def sortedD : List D → M D
  | [c] => match keysOf c with
    | some ds => if sortOk ds = true then .ret (.lst (isortD ds)) else .stuck
    | none => .stuck
  | _ => .stuck
theorem tame_sorted : ∀ ds, Tame (sortedD ds) := fun ds => by
  unfold sortedD
  split
  · split
    · exact tame_if
    · trivial
  · trivial
theorem rp_data {K : PySem.W.Frag} {H : Hp} {P : Addr → Prop} : ∀ {vs : List V} {ds : List D} {its : List Value}, RpL K H P vs ds → Vals vs its → PySem.W.EachIs (fun v d => ∃ w, RelV w v ∧ Rp K H P w d) its ds
  | _, _, _, .nil, .nil => .nil
  | _, _, _, .cons h r, .cons q t => .cons ⟨_, q, h⟩ (rp_data r t)
theorem data_rp {K : PySem.W.Frag} {H : Hp} {P : Addr → Prop} : ∀ {its : List Value} {ds : List D}, PySem.W.EachIs (fun v d => ∃ w, RelV w v ∧ Rp K H P w d) its ds → ∃ vs, RpL K H P vs ds ∧ Vals vs its
  | _, _, .nil => ⟨[], .nil, .nil⟩
  | _, _, .cons ⟨w, q, h⟩ r => by
    obtain ⟨vs, h1, h2⟩ := data_rp r
    exact ⟨w :: vs, .cons h h1, .cons q h2⟩
section
variable {X : Cx} {A : Am} {E : EN} {k : Nat} {pins : List (Addr × Obj)} {σ : L2.St} {H : Hp} {s : Shared} {P W : Addr → Prop}
theorem sort_facts {ds : List D} (ok : sortOk ds = true) : D.plL ds = true ∧ PySem.W.AllAlike (ds.map toPy) ∧ PySem.W.Sortable (ds.map toPy) ∧ D.depL ds ≤ 60 := by
  unfold sortOk at ok
  simp only [Bool.and_eq_true, decide_eq_true_eq, Bool.or_eq_true] at ok
  obtain ⟨⟨⟨h1, h2⟩, h3⟩, h4⟩ := ok
  refine ⟨h1, fun a ha b hb => ?_, ?_, h3⟩
  · unfold alikeD at h2
    rw [Bool.and_eq_true] at h2
    obtain ⟨x, hx, rfl⟩ := List.mem_map.mp ha
    obtain ⟨y, hy, rfl⟩ := List.mem_map.mp hb
    exact List.all_eq_true.mp (List.all_eq_true.mp h2.1 x hx) y hy
  · rcases h4 with h4 | h4
    · refine .inl fun d hd => ?_
      obtain ⟨x, hx, rfl⟩ := List.mem_map.mp hd
      have := List.all_eq_true.mp h4 x hx
      cases x with
      | tup es =>
        cases es with
        | nil => cases this
        | cons e r => exact ⟨toPy e, toPyL r, rfl⟩
      | _ => cases this
    · refine .inr fun d hd => ?_
      obtain ⟨x, hx, rfl⟩ := List.mem_map.mp hd
      have := List.all_eq_true.mp h4 x hx
      rw [plL_all] at h1
      have hp := List.all_eq_true.mp h1 x hx
      cases x with
      | tup es => cases this
      | non => cases this
      | bl b => exact ⟨fun z => (nomatch z), fun xs z => (nomatch z)⟩
      | int b => exact ⟨fun z => (nomatch z), fun xs z => (nomatch z)⟩
      | str b => exact ⟨fun z => (nomatch z), fun xs z => (nomatch z)⟩
      | lst b => exact ⟨fun z => (nomatch z), fun xs z => (nomatch z)⟩
      | dct t b => cases hp
      | raw v => cases hp
theorem dep_mem {ds : List D} {d : D} (h : d ∈ ds) : d.dep ≤ D.depL ds := by
  induction ds with
  | nil => cases h
  | cons a r ih =>
    show d.dep ≤ max a.dep (D.depL r)
    rcases List.mem_cons.mp h with rfl | h
    · exact Nat.le_max_left _ _
    · exact Nat.le_trans (ih h) (Nat.le_max_right _ _)
theorem reads_each {cm : Bool} (B : Bd' cm X A E k) (I : Inv X pins σ H s) : ∀ (ds : List D) {vs : List V} {its : List Value}, D.plL ds = true → RpL A.K H P vs ds → Vals vs its → PySem.W.EachIs (fun v d => ∃ as, Reads s.heap v (toPy d) as) its ds
  | [], _, _, _, l, r => by
    cases l
    cases r
    exact .nil
  | d :: ds, _, _, hp, l, r => by
    cases l with
    | cons h l =>
      cases r with
      | cons q t =>
        have hp : (d.pl && D.plL ds) = true := hp
        rw [Bool.and_eq_true] at hp
        obtain ⟨as, ra⟩ := Rb.reads B.kle I (h.rb (W := P) fun _ p => p) hp.1 q
        exact .cons ⟨as, ra⟩ (reads_each B I ds hp.2 l t)
theorem m_isort (ds : List D) : ds.mergeSort (PySem.W.dataLe false toPy) = isortD ds := merge_isort ds
theorem isort_len : ∀ ds : List D, (isortD ds).length = ds.length := fun ds => by rw [← m_isort, List.length_mergeSort]
theorem each_idx {α β : Type} {R : α → β → Prop} : ∀ {xs : List α} {ys : List β}, xs.length = ys.length → (∀ (i : Nat) (x : α) (y : β), xs[i]? = some x → ys[i]? = some y → R x y) → PySem.W.EachIs R xs ys
  | [], [], _, _ => .nil
  | x :: xs, y :: ys, hl, h => .cons (h 0 x y rfl rfl) (each_idx (by simpa using hl) fun i a b ha hb => h (i + 1) a b (by simpa using ha) (by simpa using hb))
  | [], _ :: _, hl, _ => nomatch hl
  | _ :: _, [], hl, _ => nomatch hl
theorem kt_at {H : Hp} : ∀ {l : List (List Key × V)} {xs : List (List Key × Addr × Value)} {i : Nat} {y : List Key × Addr × Value}, KT H l xs → xs[i]? = some y → ∃ v, l[i]? = some (y.1, v) ∧ H y.2.1 = some (.tup (y.1.map kV))
  | _, _, _, _, .nil, e => by simp at e
  | p :: _, _, 0, _, .cons h _, e => by
    simp at e; subst e
    exact ⟨p.2, by rw [← h.1]; rfl, by rw [← h.1]; exact h.2.1⟩
  | _, _, i + 1, y, .cons _ r, e => by
    obtain ⟨v, h1, h2⟩ := kt_at (i := i) (y := y) r (by simpa using e)
    exact ⟨v, by simpa using h1, h2⟩
/-- a dict as a thing that is gone through -/
theorem walks_raw {prog : Program} {w : World} {A : Around} (hh : A.handled = none) (I d : Addr) (hne : d ≠ I) (es : Array DictEntry) (ep : Nat) :
    Walks prog w A I [I, d] [I] es.size (fun i v => ∃ hi : i < es.size, v = es[i].key) (fun i h => h.IsKeyIter I d i es.size ep ∧ h.DictRaw d es ep) where
  sub := fun b hb => by simp at hb; simp [hb]
  frame := fun _ _ _ st hk => ⟨st.1.at fun o e => hk I (by simp) o e, st.2.at fun o e => hk d (by simp) o e⟩
  item := fun i s Q E hi st hQ => wpAny_pyNext_keys_item_raw st.1 st.2 hi fun h' hit' hs' => hQ _ h' s.toks ⟨hi, rfl⟩ ⟨hit', st.2.at fun o e => hs'.extBut d o hne e⟩ fun b o hb e => hs'.extBut b o (fun h => hb (by simp [h])) e
  done := fun s Q E st hQ => wpAny_pyNext_keys_end_raw hh st.1 st.2 (Nat.le_refl _) fun h' he' => hQ h' s.toks fun b o hb e => he' b o (fun h => hb (by simp [h])) e
  self := fun _ _ _ _ st hQ => wpAny_pyIter_keyiter st.1 hQ
theorem raw_lt {h : Heap} {d : Addr} {es : Array DictEntry} {ep : Nat} (x : h.DictRaw d es ep) : d < h.objs.size := let ⟨_, ho, _⟩ := x; Heap.lt_size ho
theorem src_raw {prog : Program} {w : World} {d : Addr} {es : Array DictEntry} {ep : Nat} (lo : (d == sysModules) = false) : PySem.W.KdlSrc prog w "dict" d d es.size (fun i v => ∃ hi : i < es.size, v = es[i].key) (fun h => h.DictRaw d es ep) where
  type := fun _ hm => hm.typeIs
  there := fun _ hm => ⟨raw_lt hm, raw_lt hm⟩
  keep := fun _ _ hm hk => hm.at fun o e => hk d (.inl rfl) o e
  notList := by decide
  notTuple := by decide
  hint := fun _ _ _ _ hm hq => PySem.W.kdl_hint_dict hm.typeIs hq
  iter := fun _ _ hh hm => ⟨_, _, (fun _ _ hq => wpAny_pyIter_dict_raw lo hm hq), walks_raw hh _ d (Nat.ne_of_lt (raw_lt hm)) es ep, ⟨⟨_, Heap.get?_push_size _ rfl, rfl, rfl⟩, hm.at fun o e => Heap.get?_push_of_some _ e⟩⟩
/-- the keys, as they stand in the dict -/
theorem dict_keys {cm : Bool} (B : Bd' cm X A E k) (I : Inv X pins σ H s) {v : V} {t : Bool} {kvs : List (D × D)} (rb : Rb A.K H P W v (.dct t kvs)) : ∃ (a : Addr) (es : Array DictEntry) (ep : Nat), v = .ref a ∧ (a == sysModules) = false ∧ s.heap.DictRaw a es ep ∧ es.size = kvs.length ∧ es.size ≤ sizeLine ∧
    ∀ (i : Nat) (hi : i < es.size) (d : D), (kvs.map (·.1))[i]? = some d → ∃ w, RelV w es[i].key ∧ Rp A.K H P w d := by
  obtain ⟨a, rfl, _, hx⟩ := rb
  rcases hx with ⟨rfl, l, hx, rl⟩ | ⟨rfl, l, hx, rl⟩
  · obtain ⟨z, lo, vs, rel, dd⟩ := dk_rd I.hok hx
    obtain ⟨es, ep, raw, hsz, hk⟩ := PySem.Heap.DictOf.raw dd
    have hln : vs.length = l.length := by have := congrArg List.length rel.keys; simpa using this.symm
    refine ⟨a, es, ep, rfl, lo, raw, by rw [hsz, hln, rl.length], by rw [hsz, hln]; exact z, fun i hi d hd => ?_⟩
    obtain ⟨kk, vv, h3, rfl⟩ := rl.keyAt hd
    obtain ⟨⟨k2, v2⟩, h4⟩ : ∃ p, vs[i]? = some p := ⟨_, List.getElem?_eq_getElem (by omega)⟩
    have e1 := congrArg (fun m => m[i]?) rel.keys
    simp only [List.getElem?_map, h3, h4, Option.map_some] at e1
    cases e1
    have h5 := (hk i hi _ _ h4).1
    rcases keyIs_shape (show keyIs kk es[i].key = true from h5) with ⟨n, t, ek, ev⟩ | ⟨n, t, ek, ev⟩
    · subst ek; rw [ev]; exact ⟨.int n, ⟨t, rfl⟩, .int n⟩
    · subst ek; rw [ev]; exact ⟨.str n, ⟨t, rfl⟩, .str n⟩
  · obtain ⟨z, lo, xs, rel, dd⟩ := dt_rd I.hok hx
    obtain ⟨es, ep, raw, hsz, hk⟩ := PySem.Heap.DictOfH.raw dd
    have hln : xs.length = l.length := rel.length.symm
    refine ⟨a, es, ep, rfl, lo, raw, by rw [hsz, hln, rl.length], by rw [hsz, hln]; exact z, fun i hi d hd => ?_⟩
    obtain ⟨kk, vv, h3, rfl⟩ := rl.keyAt hd
    obtain ⟨y, h4, h5, h6, _⟩ := hk i hi
    obtain ⟨v3, h7, h8⟩ := kt_at rel h4
    rw [h3] at h7
    cases h7
    rw [h5]
    exact ⟨.ref y.2.1, rfl, .tup (.inl h8) (rpl_kD _)⟩
theorem c_sorted (B : Bd X A E k) : CallR X (.builtin "sorted") (cD A.K sortedD) := by
  intro pins s σ H vs us Q I r ⟨P, W, ds, h1, h⟩
  have hu := B.u64
  unfold sortedD at h
  split at h
  case h_2 => exact h.elim
  rename_i c
  split at h
  case h_2 => exact h.elim
  rename_i ds hks
  obtain ⟨ok, q⟩ := wp_if h
  obtain ⟨hp, hal, hso, hdp⟩ := sort_facts ok
  obtain ⟨v, rfl, rb⟩ := rq1 h1
  obtain ⟨u, rfl, ru⟩ := vals1 r
  have bnd : ∀ (n : Nat) (b : D), n ≤ 3 → b ∈ ds → X.A.units + n + (toPy b).depth < cLine := fun n b hn hb => by
    have h3 := toPy_dep b
    have h4 := dep_mem hb
    omega
  cases c with
  | lst es =>
    cases hks
    obtain ⟨a, xs, rfl, _, hx, l⟩ := rb
    cases ru
    obtain ⟨its, rv, hl, hsz⟩ := I.list (SqL.of hx)
    have hl2 : ds.length ≤ sizeLine := by rw [← l.length]; exact hsz
    refine PySem.W.sorted_data (vs := its) (enc := toPy) (R := fun v d => ∃ w, RelV w v ∧ Rp A.K H P w d) hl.isList (rp_data l rv) (reads_each B I ds hp l rv) hal hso hl2 (fun b hb => bnd 2 b (by omega) hb) fun out hlen he => ?_
    rw [m_isort] at he
    obtain ⟨ws, hw1, hw2⟩ := data_rp he
    obtain ⟨e, hat⟩ := PyProof.Rows.sortedAll_at s.heap its (List.toArray out)
    have hn : H (s.heap.objs.size + 1) = none := I.hok.fresh (Nat.le_succ _)
    refine ⟨.ref (s.heap.objs.size + 1), upd H (s.heap.objs.size + 1) (.lst ws), I.laid (t' := s.toks) (fun b u e => PyProof.Rows.sortedAll_old e) (Nat.le_succ _) (show ObjOk X.prog X.w _ _ _ (.lst ws) from ⟨by rw [hw1.length, isort_len]; exact hl2, out, e, hw2, hat⟩), rfl, ?_⟩
    exact q _ _ (same_new hn) ⟨_, rfl, hn, ws, upd_same, hw1.mono (same_ho (same_new hn)) fun b u p rd => ⟨p, fun z => by
      obtain ⟨o, eo⟩ := rd_some rd
      rw [z, hn] at eo; cases eo⟩⟩
  | dct t kvs =>
    cases hks
    obtain ⟨a, es, ep, rfl, lo, raw, hsz, hsl, hkey⟩ := dict_keys B I rb
    cases ru
    refine Calls.call_function_entry PyProof.Rows.kind_sorted PyProof.Rows.plain_sorted PyProof.Rows.entry_sorted (PyProof.Rows.args_sorted1 _) ?_
    unfold Builtin.«sorted»
    refine wpAny_bind (m := checkCount "sorted" 1 1 _) (wpAny_pure ?_)
    refine wpAny_bind (PySem.W.kdu_collect (A := X.A.in1) (src_raw (ep := ep) lo) (I.ok.hd B.calm) raw hsl fun h' tk acc hk hacc => ?_)
    have hal2 : acc.toList.length = (kvs.map (·.1)).length := by rw [Array.length_toList, hacc.1, List.length_map, hsz]
    have item : ∀ (i : Nat) (v : Value) (d : D), acc.toList[i]? = some v → (kvs.map (·.1))[i]? = some d → ∃ w, RelV w v ∧ Rp A.K H P w d := fun i v d h1 h2 => by
      obtain ⟨hi, rfl⟩ := hacc.2 i v (by rw [← Array.getElem?_toList]; exact h1)
      exact hkey i hi d h2
    have he := each_idx hal2 item
    obtain ⟨vs, l, rv⟩ := data_rp he
    have I1 : Inv X pins σ H { s with heap := h', toks := tk } := I.kept hk
    have hl2 : (kvs.map (·.1)).length ≤ sizeLine := by rw [List.length_map, ← hsz]; exact hsl
    refine wpAny_bind (wpAny_newList ?_ (by rw [hal2]; exact hl2))
    have hoL : (h'.push (seqObj "list" acc.toList.toArray 0)).get? h'.objs.size = some (seqObj "list" acc.toList.toArray 0) := Heap.get?_push_size _ rfl
    show wpAny _ _ _ _ _ { s with heap := h'.push (seqObj "list" acc.toList.toArray 0), toks := tk }
    have I2 : Inv X pins σ H { s with heap := h'.push (seqObj "list" acc.toList.toArray 0), toks := tk } := I1.kept (t' := tk) fun b o e => Heap.get?_push_of_some _ e
    have hn : H h'.objs.size = none := I1.hok.fresh (Nat.le_refl _)
    have er : PySem.W.EachIs (fun v d => ∃ as, Reads (h'.push (seqObj "list" acc.toList.toArray 0)) v (toPy d) as ∧ h'.objs.size ∉ as) acc.toList (kvs.map (·.1)) :=
      (reads_each B I1 _ hp l rv).mono fun v d ⟨as, ra⟩ => ⟨as, PySem.W.reads_keeps (fun b o e => Heap.get?_push_of_some _ e) ra, fun z => by
        obtain ⟨o, eo⟩ := PyProof.On.reads_mem_get ra _ z
        exact absurd (Heap.lt_size eo) (Nat.lt_irrefl _)⟩
    refine wpAny_bind (wpAny_holding (PySem.W.list_sort_data (s := { s with heap := h'.push (seqObj "list" acc.toList.toArray 0), toks := tk }) (enc := toPy) (R := fun v d => ∃ w, RelV w v ∧ Rp A.K H P w d) hoL he er hal hso hl2 (fun b hb => ?_) fun out hlen he2 => ?_))
    · exact bnd 2 b (by omega) hb
    rw [m_isort] at he2
    obtain ⟨ws, hw1, hw2⟩ := data_rp he2
    obtain ⟨e', he'⟩ := PyProof.Rows.sortedHeap_at (vs := acc.toList) (out := List.toArray out) hoL
    refine wpAny_pure ⟨_, rfl, .ref h'.objs.size, upd H h'.objs.size (.lst ws), I1.laid (t' := tk) (fun b u e => ?_) (Nat.le_refl _) (show ObjOk X.prog X.w _ _ _ (.lst ws) from ⟨by rw [hw1.length, isort_len]; exact hl2, out, e', hw2, he'⟩), rfl, ?_⟩
    · have hb : b < h'.objs.size := Heap.lt_size e
      rw [PyProof.Rows.sortedHeap_old (Nat.ne_of_lt hb) (by rw [size_push']; exact Nat.lt_succ_of_lt hb)]
      exact Heap.get?_push_of_some _ e
    · exact q _ _ (same_new hn) ⟨_, rfl, hn, ws, upd_same, hw1.mono (same_ho (same_new hn)) fun b u p rd => ⟨p, fun z => by
        obtain ⟨o, eo⟩ := rd_some rd
        rw [z, hn] at eo; cases eo⟩⟩
  | _ => cases hks
end
end Px

set_option Elab.async false
set_option linter.all false
set_option maxRecDepth 100000
set_option autoImplicit false
namespace Px
open PySem PySem.Spec PyProof.Rows L2

section
variable {X : Cx} {A : Am} {E : EN} {k : Nat} {md md1 md2 : Md} {e a b c : Expr} {es : List Expr} {m ma mb mc : Ga → M D} {ml : Ga → M (List D)} {pos p p1 p2 p3 apos bpos : Pos} {x y : Str} {i j : Nat}
/-! ### what is popped is appended -/
def appK (i : Nat) : D → Ga → M (Ct × Ga) := fun d Γ => ownL i Γ fun ds => if ds.length < 16777216 then .ret (.nx, Γ.set i (.own (.lst (ds ++ [d])))) else .stuck
def popAppM (i j : Nat) (ml : Ga → M (List D)) : Ga → M (Ct × Ga) := fun Γ => ownL i Γ fun _ => mthM j ml popG (appK i) Γ
theorem psv_popApp (he : PAVL X A E .b [e] ml) (hN : X.N[i]? = some x := by rfl) (hM : X.N[j]? = some y := by rfl) (hv : Vis X.env.scope x := by first | exact Or.inl rfl | exact Or.inr (Or.inl rfl) | exact Or.inr (Or.inr rfl)) (hw : Vis X.env.scope y := by first | exact Or.inl rfl | exact Or.inr (Or.inl rfl) | exact Or.inr (Or.inr rfl))
    (hd : (x == ("__debug__" : Str)) = false := by decide) (hcd : (x == ("__classdict__" : Str)) = false := by decide) (hd2 : (y == ("__debug__" : Str)) = false := by decide) (hcd2 : (y == ("__classdict__" : Str)) = false := by decide)
    (hbase2 : attributeBase (.Name y p2) "pop" X.env (eval (.Name y p2) X.env) = eval (.Name y p2) X.env := by rfl)
    (hfew2 : ((backTo p3 (starEach [e] X.env)).all (fun x => !x.1) && (backToKw p3 (keywordEach [] X.env)).all (fun x => x.1.isSome) && decide (([e] : List Expr).length + ([] : List Keyword).length + (if ([] : List Keyword).isEmpty then 0 else 1) < 30)) = true := by rfl)
    (hline2 : (bpos.endLine == p3.line) = true := by rfl) (hs2 : starEach [e] X.env = (false, eval e X.env) :: starEach [] X.env := by rfl) (hplain2 : (backTo p3 (starEach [] X.env)).any (·.1) = false := by rfl)
    (hbase : attributeBase (.Name x p) "append" X.env (eval (.Name x p) X.env) = eval (.Name x p) X.env := by rfl)
    (hfew : ((backTo p1 (starEach [.Call (.Attribute (.Name y p2) "pop" bpos) [e] [] p3] X.env)).all (fun x => !x.1) && (backToKw p1 (keywordEach [] X.env)).all (fun x => x.1.isSome) && decide (([.Call (.Attribute (.Name y p2) "pop" bpos) [e] [] p3] : List Expr).length + ([] : List Keyword).length + (if ([] : List Keyword).isEmpty then 0 else 1) < 30)) = true := by rfl)
    (hline : (apos.endLine == p1.line) = true := by rfl) (hs : starEach [.Call (.Attribute (.Name y p2) "pop" bpos) [e] [] p3] X.env = (false, eval (.Call (.Attribute (.Name y p2) "pop" bpos) [e] [] p3) X.env) :: starEach [] X.env := by rfl) (hplain : (backTo p1 (starEach [] X.env)).any (·.1) = false := by rfl)
    (hsw : swapsWith (.Call (.Attribute (.Name x p) "append" apos) [.Call (.Attribute (.Name y p2) "pop" bpos) [e] [] p3] [] p1) none pos.line X.env = pure false := by rfl) :
    PSV X A E md (.Expr (.Call (.Attribute (.Name x p) "append" apos) [.Call (.Attribute (.Name y p2) "pop" bpos) [e] [] p3] [] p1) pos) (popAppM i j ml) :=
  ⟨imp_ps (ps_expr (pe_bm PySem.F.plainAttrs_list PySem.F.slot_list_append PySem.F.type_list_append mt_append (pe_var hN hv hd hcd)
    (pa_cons (pe_bm PySem.F.plainAttrs_list PySem.F.slot_list_pop PySem.F.type_list_pop mt_popAt (pe_var hM hw hd2 hcd2) he.pa hbase2 hfew2 hline2 hs2 hplain2) pa_nil hs) hbase hfew hline hs hplain) hsw) fun Dn σ H ⟨cn, f, Γ, R, h⟩ => by
    obtain ⟨ds, e0, h⟩ := wp_ownL h
    obtain ⟨h1, _, _, xs0, hx0, _⟩ := R.ow i _ e0
    refine ⟨_, h1, .inl ⟨rfl, xs0, SqL.of hx0⟩, ?_⟩
    refine mth_run mth_popAt R h fun d ds' w xs' H1 k1 R2 rw' q => ?_
    obtain ⟨ds2, e2, q⟩ := wp_ownL q
    obtain ⟨_, _, _, xs2, hx2, rx2⟩ := R2.ow i _ e2
    split at q
    case isFalse => exact q.elim
    rename_i hl
    show rAppend (.ref (f i)) [w] (upd H1 (f j) (.lst xs')) fun _ H1 => Dn.nx σ H1
    refine mth_append (K := A.K) (f i) xs2 ds2 [w] [d] _ (fun _ H1 => Dn.nx σ H1) _ (nZ A) .non (ds2 ++ [d]) hx2 rx2 (.cons rw' .nil) (by show (if ds2.length < 16777216 then _ else _) = _; rw [if_pos hl]) fun w' xs3 _ rx3 => ?_
    obtain ⟨R3, s3⟩ := R2.putL e2 rx3
    exact q f σ _ s3 R3⟩

/-! ### list(range(n)) -/
def lrgM (ml : Ga → M (List D)) : Ga → M D := fun Γ => (ml Γ >>= rangeD) >>= fun ds => .ret (.lst ds)
theorem rp_rgV {K : PySem.W.Frag} {H : Hp} {P : Addr → Prop} {n : Int} : RpL K H P (rgV 0 n) (rangeL 0 1 n.toNat) := by
  unfold rgV rangeL
  rw [Int.sub_zero]
  induction (List.range n.toNat) with
  | nil => exact .nil
  | cons z r ih =>
    rw [List.map_cons, List.map_cons, Int.mul_one]
    exact .cons (.int _) ih
theorem pev_listRg (B : Bd X A E k) (hg : Gl X "list") (hm : X.mg "list" = none) (hg2 : Gl X "range") (hm2 : X.mg "range" = none) (he : PEV X A E .b e m)
    (na : starEach [e] X.env = (false, eval e X.env) :: starEach [] X.env := by rfl) (na2 : starEach [.Call (.Name "range" p2) [e] [] p3] X.env = (false, eval (.Call (.Name "range" p2) [e] [] p3) X.env) :: starEach [] X.env := by rfl) :
    PEV X A E .f (.Call (.Name "list" p) [.Call (.Name "range" p2) [e] [] p3] [] pos) (lrgM (consL m nilL)) := by
  refine ⟨imp_pe (pe_listRg B.calm hg hm (prg_1 hg2 hm2 he.pe na) na2) fun σ H Q ⟨cn, f, Γ, R, q⟩ => ⟨cn, f, Γ, R, ?_⟩⟩
  have q : (m Γ).wp _ _ := M.wp_bind.mp (M.wp_bind.mp (M.wp_bind.mp q))
  refine M.wp_mono q (fun d q w H1 k1 g1 r1 => ?_) fun _ x => x
  have q := M.wp_bind.mp q
  have R1 := R.kx k1 g1
  have rb := R1.rbm (md := .b) r1
  cases d with
  | int n =>
    have q : (if n ≤ 16777216 ∧ -(2 ^ 62) ≤ n then M.ret (rangeL 0 1 n.toNat) else .stuck).wp _ _ := q
    split at q
    · rename_i c
      cases rb_int rb
      refine ⟨n, rfl, ⟨by omega, by omega, c.2, by omega, by omega⟩, fun p hp => ?_⟩
      have s := same_new (o := .lst (rgV 0 n)) hp
      exact q _ _ (k1.trans (same_kx s)) (A.gh.same g1 s) ⟨p, rfl, R.kx_none k1 g1 hp, rgV 0 n, upd_same, rp_rgV⟩
    · exact q.elim
  | _ => exact (show False from q).elim

/-! ### a display of a dict with keys ints or texts -/
def dispK (mps : MP) : Ga → M D := fun Γ => evPs mps Γ >>= fun l => if ((l.all fun p => (keyD p.1).isSome) && decide (l.length ≤ 15)) = true then .ret (.dct false (dputs [] l)) else .stuck
theorem dputs_rp {K : PySem.W.Frag} {H : Hp} {P : Addr → Prop} : ∀ {l : List (D × D)} {vs : List (V × V)} {acc : List (Key × V)} {da : List (D × D)}, RpP K H P vs l → (l.all fun p => (keyD p.1).isSome) = true → RpK K H P acc da →
    ∃ ks : List (Key × V), vs = ks.map (fun kv => (kV kv.1, kv.2)) ∧ RpK K H P (mergeK acc ks) (dputs da l)
  | _, _, acc, da, .nil, _, r => ⟨[], rfl, r⟩
  | (d, e) :: l, _, acc, da, .cons (x := x) (y := y) h1 h2 h3, ha, r => by
    rw [List.all_cons, Bool.and_eq_true] at ha
    obtain ⟨kk, ek⟩ := Option.isSome_iff_exists.mp ha.1
    have eb := rb_key (W := P) (h1.rb fun _ p => p) ek
    subst eb
    obtain ⟨ks, p, q⟩ := dputs_rp h3 ha.2 (r.put ek h2)
    exact ⟨(kk, y) :: ks, by rw [p, List.map_cons], q⟩
theorem pev_dispK {keys : List (Option Expr)} {values : List Expr} {mps : MP} {cm : Bool} (B : Bd' cm X A E k) (h : PPV X A E pos keys values mps) (hall : keys.all (·.isSome) = true := by rfl) (hl : keys.length = values.length := by rfl) (h0 : keys ≠ [] := by (intro z; cases z)) (h15 : keys.length ≤ 15 := by decide) :
    PEV X A E .f (.Dict keys values pos) (dispK mps) := by
  refine ⟨imp_pe (pe_disp h.pp hall hl h0 h15) fun σ H Q ⟨cn, f, Γ, R, q⟩ => fun p hn => ?_⟩
  have sm := same_new (o := .dK []) hn
  have R1 : Rl A.K A (cn.plus [p]) f σ (upd H p (.dK [])) Γ := R.hide (same_kx sm) (A.gh.same R.g sm) fun a ha => by
    have e : a = p := by simpa using ha
    subst e
    exact ⟨hn, _, upd_same, trivial⟩
  have hz : ¬ A.gh.Z p := A.nz0 (R.h0_none hn)
  refine pairs_run mps R1 (E := E) (M.wp_mono (M.wp_bind.mp q) (fun ps z vs H2 k2 g2 r2 => ?_) fun _ x => x)
  split at z
  case isFalse => exact z.elim
  rename_i c
  rw [Bool.and_eq_true, decide_eq_true_eq] at c
  obtain ⟨c, c15⟩ := c
  have hd2 : H2 p = some (.dK []) := k2 _ _ hz upd_same
  obtain ⟨ks, pk, rt⟩ := dputs_rp r2 c (acc := []) (da := []) .nil
  have kf : Kx A.gh.Z H (upd H2 p (.dK (mergeK [] ks))) := fun b o nz e => by
    have ne : b ≠ p := fun y => by rw [y, hn] at e; cases e
    rw [upd_ne ne]
    exact k2 b o nz (by rw [upd_ne ne]; exact e)
  refine ⟨hd2, ks, pk, ?_, z _ _ kf (A.gh.gk H2 _ g2 (fun b zz => upd_ne fun y => hz (y ▸ zz)) (ext_upd hd2 fun _ z => by cases z)) ⟨p, rfl, hn, .inl ⟨rfl, _, upd_same, ?_⟩⟩⟩
  · have e2 := r2.length
    rw [pk, List.length_map] at e2
    omega
  refine rt.mono ⟨fun b u p1 e => ?_, fun b xs e => ?_⟩ fun b u p1 _ => ?_
  · have ne : b ≠ p := fun y => ((fz_plus _).mp p1).2 (by simp [y])
    rw [upd_ne ne]; exact e
  · rw [upd_ne (ne_of e hd2 (fun z => nomatch z))]; exact e
  · obtain ⟨p1, p2⟩ := (fz_plus _).mp p1
    exact ⟨p1, fun y => p2 (by simp [y])⟩

/-! ### d.update(e), keys ints or texts -/
def rUpd : V → List V → Hp → VK → Prop := fun x xs H Q => ∃ (a b : Addr) (l m : List (Key × V)), x = .ref a ∧ xs = [.ref b] ∧ a ≠ b ∧ H a = some (.dK l) ∧ Rd H b (.dK m) ∧ l.length + m.length ≤ sizeLine ∧ Q .non (upd H a (.dK (mergeK l m)))
theorem mt_update : MtR X "dict.update" rUpd := by
  rintro pins s σ H x xs v us Q I rx rxs ⟨a, b, l, m, rfl, rfl, ne, ha, hb, hl, q⟩
  obtain rfl : v = .ref a := rx
  obtain ⟨u, rfl, ru⟩ := vals1 rxs
  obtain rfl : u = .ref b := ru
  obtain ⟨_, ha', va, ra, da⟩ := dk_of I.hok ha
  obtain ⟨_, hb', vb, rb, db⟩ := dk_rd I.hok hb
  refine call_meetsIn PySem.F.slot_dict_update da.typeIs PySem.F.entry_dict_update (PySem.F.args_dict_update_2 _ _) (meets_dict_update (mixKind X.prog X.w) a b ne hb')
    ⟨va, vb, da, db, ?_, fun h' dm _ hs => ?_⟩
  · have e1 := Paired.length ra
    have e2 := Paired.length rb
    omega
  · have hz : (mergeK l m).length ≤ sizeLine := Nat.le_trans (length_mergeK m l) hl
    have he : ∃ q, h'.get? a = some q := let ⟨q, _, _, hq, _⟩ := dm; ⟨q, hq⟩
    exact ⟨.non, _, d_write (t' := s.toks) I (by rw [ha]; exact True.intro) hs he (dk_new hz ha' (rb.merge ra) dm), rfl, q⟩
def updM (i : Nat) (m : Ga → M D) : Ga → M (Ct × Ga) := fun Γ => match Γ[i]? with
  | some (.own (.dct false kvs)) => m Γ >>= fun d => match d with
    | .dct false more => if kvs.length + more.length ≤ 16777216 then .ret (.nx, Γ.set i (.own (.dct false (dputs kvs more)))) else .stuck
    | _ => .stuck
  | _ => .stuck
theorem merge_rp {K : PySem.W.Frag} {H : Hp} {P : Addr → Prop} : ∀ {m : List (Key × V)} {dm : List (D × D)} {acc : List (Key × V)} {da : List (D × D)}, RpK K H P m dm → RpK K H P acc da → RpK K H P (mergeK acc m) (dputs da dm)
  | _, _, acc, da, .nil, r => r
  | _, _, acc, da, .cons (k := k) (v := v) (l := l) (d := d) (kvs := kvs) h1 h2, r => by
    show RpK K H P (mergeK (putK acc k v) l) (dputs (dput false da (kD k) d) kvs)
    exact merge_rp h2 (r.put (keyD_k _) h1)
theorem psv_upd (he : PEV X A E .s e m) (hN : X.N[i]? = some x := by rfl) (hv : Vis X.env.scope x := by first | exact Or.inl rfl | exact Or.inr (Or.inl rfl) | exact Or.inr (Or.inr rfl)) (hd : (x == ("__debug__" : Str)) = false := by decide) (hcd : (x == ("__classdict__" : Str)) = false := by decide)
    (hbase : attributeBase (.Name x p) "update" X.env (eval (.Name x p) X.env) = eval (.Name x p) X.env := by rfl)
    (hfew : ((backTo p1 (starEach [e] X.env)).all (fun x => !x.1) && (backToKw p1 (keywordEach [] X.env)).all (fun x => x.1.isSome) && decide (([e] : List Expr).length + ([] : List Keyword).length + (if ([] : List Keyword).isEmpty then 0 else 1) < 30)) = true := by rfl)
    (hline : (apos.endLine == p1.line) = true := by rfl) (hs : starEach [e] X.env = (false, eval e X.env) :: starEach [] X.env := by rfl) (hplain : (backTo p1 (starEach [] X.env)).any (·.1) = false := by rfl)
    (hsw : swapsWith (.Call (.Attribute (.Name x p) "update" apos) [e] [] p1) none pos.line X.env = pure false := by rfl) :
    PSV X A E md (.Expr (.Call (.Attribute (.Name x p) "update" apos) [e] [] p1) pos) (updM i m) :=
  ⟨imp_ps (ps_expr (pe_bm PySem.F.plainAttrs_dict PySem.F.slot_dict_update PySem.F.type_dict_update mt_update (pe_var hN hv hd hcd) (pa_cons he.pe pa_nil hs) hbase hfew hline hs hplain) hsw) fun Dn σ H ⟨cn, f, Γ, R, h⟩ => by
    unfold updM at h
    split at h
    case h_2 => exact h.elim
    rename_i kvs e0
    obtain ⟨h1, _, _, ow⟩ := R.ow i _ e0
    rcases ow with ⟨_, l0, hx0, _⟩ | ⟨z, _⟩
    case inr => cases z
    refine ⟨_, h1, .inr (.inr (.inl ⟨rfl, .inl ⟨_, hx0⟩⟩)), cn, f, Γ, R, M.wp_mono (M.wp_bind.mp h) (fun d q w H1 k1 g1 r1 => ?_) fun _ x => x⟩
    have R1 := R.kx k1 g1
    split at q
    case h_2 => exact q.elim
    rename_i more
    split at q
    case isFalse => exact q.elim
    rename_i hl
    obtain ⟨_, _, _, ow⟩ := R1.ow i _ e0
    rcases ow with ⟨_, l, hx, rl⟩ | ⟨z, _⟩
    case inr => cases z
    have r1 : Rp A.K H1 (Fz A cn f Γ) w (.dct false more) := r1
    cases r1 with
    | @dK a ob l2 _ pa hx2 rl2 =>
      obtain ⟨R3, s3⟩ := R1.put e0 (o := .dK (mergeK l l2)) (d' := .dct false (dputs kvs more)) trivial (.inl ⟨rfl, _, upd_same, (merge_rp rl2 rl).mono (R1.ho_put e0) fun _ _ p _ => p⟩)
      exact ⟨f i, a, l, l2, rfl, rfl, (pa.ne e0).symm, hx, .inr ⟨_, hx2⟩, by rw [rl.length, rl2.length, sizeLine_eq]; exact hl, q f σ _ ((Hs.kx k1).trans s3) R3⟩⟩
end
end Px

set_option Elab.async false
set_option linter.all false
set_option maxRecDepth 100000
set_option autoImplicit false
namespace Px
open PySem PySem.Spec PyProof.Rows L2
/-! ### the order of numbers and of pairs of numbers -/
theorem dlt_int {i j : Int} : PySem.W.dataLt (toPy (.int i)) (toPy (.int j)) = decide (i < j) := by
  show PyProof.Rows.lexLt PyProof.Rows.itemOrd [Sum.inl i] [Sum.inl j] = _
  rw [lex_cons]
  show (decide (i < j) || (!decide (j < i) && false)) = _
  rw [Bool.and_false, Bool.or_false]
def iiLt (c d : II) : Bool := decide (c.1 < d.1) || (decide (c.1 = d.1) && decide (c.2 < d.2))
theorem dlt_pD {c d : II} : PySem.W.dataLt (toPy (pD c)) (toPy (pD d)) = iiLt c d := by
  show PyProof.Rows.lexLt PyProof.Rows.itemOrd [Sum.inl 1, Sum.inl c.1, Sum.inl 1, Sum.inl c.2, Sum.inl 0] [Sum.inl 1, Sum.inl d.1, Sum.inl 1, Sum.inl d.2, Sum.inl 0] = _
  rw [lex_self, lex_cons, lex_self, lex_cons, lex_self]
  show (decide (c.1 < d.1) || (!decide (d.1 < c.1) && (decide (c.2 < d.2) || (!decide (d.2 < c.2) && false)))) = _
  unfold iiLt
  rw [Bool.and_false, Bool.or_false]
  by_cases h : c.1 < d.1
  · rw [decide_eq_true h]; rfl
  · rw [decide_eq_false h, Bool.false_or, Bool.false_or]
    by_cases e : c.1 = d.1
    · rw [decide_eq_true e, decide_eq_false (show ¬ d.1 < c.1 by omega)]; rfl
    · rw [decide_eq_false e, decide_eq_true (show d.1 < c.1 by omega)]; rfl
theorem iiLt_iff {c d : II} : iiLt c d = true ↔ c.1 < d.1 ∨ (c.1 = d.1 ∧ c.2 < d.2) := by
  unfold iiLt
  rw [Bool.or_eq_true, Bool.and_eq_true, decide_eq_true_eq, decide_eq_true_eq, decide_eq_true_eq]
/-! least and greatest numbers -/
def mnI (x : Int) (xs : List Int) : Int := xs.foldl (fun a y => if y < a then y else a) x
def mxI (x : Int) (xs : List Int) : Int := xs.foldl (fun a y => if a < y then y else a) x
theorem minL_int {x : Int} {xs : List Int} : minL (.int x) (xs.map .int) = .int (mnI x xs) := by
  induction xs generalizing x with
  | nil => rfl
  | cons y r ih =>
    show minL (if PySem.W.dataLt (toPy (.int y)) (toPy (.int x)) = true then .int y else .int x) (r.map .int) = D.int (mnI (if y < x then y else x) r)
    rw [dlt_int]
    by_cases h : y < x
    · rw [decide_eq_true h, if_pos rfl, if_pos h]; exact ih
    · rw [decide_eq_false h, if_neg Bool.false_ne_true, if_neg h]; exact ih
theorem maxL_int {x : Int} {xs : List Int} : maxL (.int x) (xs.map .int) = .int (mxI x xs) := by
  induction xs generalizing x with
  | nil => rfl
  | cons y r ih =>
    show maxL (if PySem.W.dataLt (toPy (.int x)) (toPy (.int y)) = true then .int y else .int x) (r.map .int) = D.int (mxI (if x < y then y else x) r)
    rw [dlt_int]
    by_cases h : x < y
    · rw [decide_eq_true h, if_pos rfl, if_pos h]; exact ih
    · rw [decide_eq_false h, if_neg Bool.false_ne_true, if_neg h]; exact ih
theorem ints_ok (xs : List Int) : (D.plL (xs.map D.int) && alikeD (xs.map D.int) && decide (D.depL (xs.map D.int) ≤ 60)) = true := by
  rw [Bool.and_eq_true, Bool.and_eq_true, decide_eq_true_eq]
  refine ⟨⟨plL_of fun d hd => ?_, ?_⟩, Nat.le_trans (depL_le (n := 0) fun d hd => ?_) (by decide)⟩
  · obtain ⟨_, _, rfl⟩ := List.mem_map.mp hd; rfl
  · unfold alikeD
    rw [Bool.and_eq_true, List.all_eq_true, List.all_eq_true]
    refine ⟨fun a ha => List.all_eq_true.mpr fun b hb => ?_, fun a ha => ?_⟩
    · obtain ⟨_, _, rfl⟩ := List.mem_map.mp ha
      obtain ⟨_, _, rfl⟩ := List.mem_map.mp hb
      rfl
    · obtain ⟨_, _, rfl⟩ := List.mem_map.mp ha
      rfl
  · obtain ⟨_, _, rfl⟩ := List.mem_map.mp hd; exact Nat.le_refl _
theorem minD_int {x : Int} {xs : List Int} : minD [.lst ((x :: xs).map .int)] = .ret (.int (mnI x xs)) := by
  show (if (D.plL ((x :: xs).map D.int) && alikeD ((x :: xs).map D.int) && decide (D.depL ((x :: xs).map D.int) ≤ 60)) = true then keepB (minL (.int x) (xs.map .int)) else .stuck) = _
  rw [if_pos (ints_ok (x :: xs)), minL_int]; rfl
theorem maxD_int {x : Int} {xs : List Int} : maxD [.lst ((x :: xs).map .int)] = .ret (.int (mxI x xs)) := by
  show (if (D.plL ((x :: xs).map D.int) && alikeD ((x :: xs).map D.int) && decide (D.depL ((x :: xs).map D.int) ≤ 60)) = true then keepB (maxL (.int x) (xs.map .int)) else .stuck) = _
  rw [if_pos (ints_ok (x :: xs)), maxL_int]; rfl
theorem mx_all : ∀ (xs : List Int) (x : Int), (∀ y ∈ x :: xs, y ≤ mxI x xs) ∧ mxI x xs ∈ x :: xs
  | [], x => ⟨fun y hy => by rw [List.mem_singleton] at hy; rw [hy]; exact Int.le_refl _, List.mem_singleton.mpr rfl⟩
  | z :: r, x => by
    obtain ⟨h1, h2⟩ := mx_all r (if x < z then z else x)
    have e : mxI x (z :: r) = mxI (if x < z then z else x) r := rfl
    rw [e]
    have h0 := h1 _ List.mem_cons_self
    generalize mxI (if x < z then z else x) r = q at h0 h1 h2 ⊢
    have h3 : x ≤ q ∧ z ≤ q := by split at h0 <;> omega
    refine ⟨fun y hy => ?_, ?_⟩
    · rcases List.mem_cons.mp hy with rfl | hy
      · exact h3.1
      · rcases List.mem_cons.mp hy with rfl | hy
        · exact h3.2
        · exact h1 y (List.mem_cons_of_mem _ hy)
    · rcases List.mem_cons.mp h2 with q | q
      · rw [q]
        split
        · exact List.mem_cons_of_mem _ List.mem_cons_self
        · exact List.mem_cons_self
      · exact List.mem_cons_of_mem _ (List.mem_cons_of_mem _ q)
theorem mn_all : ∀ (xs : List Int) (x : Int), (∀ y ∈ x :: xs, mnI x xs ≤ y) ∧ mnI x xs ∈ x :: xs
  | [], x => ⟨fun y hy => by rw [List.mem_singleton] at hy; rw [hy]; exact Int.le_refl _, List.mem_singleton.mpr rfl⟩
  | z :: r, x => by
    obtain ⟨h1, h2⟩ := mn_all r (if z < x then z else x)
    have e : mnI x (z :: r) = mnI (if z < x then z else x) r := rfl
    rw [e]
    have h0 := h1 _ List.mem_cons_self
    generalize mnI (if z < x then z else x) r = q at h0 h1 h2 ⊢
    have h3 : q ≤ x ∧ q ≤ z := by split at h0 <;> omega
    refine ⟨fun y hy => ?_, ?_⟩
    · rcases List.mem_cons.mp hy with rfl | hy
      · exact h3.1
      · rcases List.mem_cons.mp hy with rfl | hy
        · exact h3.2
        · exact h1 y (List.mem_cons_of_mem _ hy)
    · rcases List.mem_cons.mp h2 with q | q
      · rw [q]
        split
        · exact List.mem_cons_of_mem _ List.mem_cons_self
        · exact List.mem_cons_self
      · exact List.mem_cons_of_mem _ (List.mem_cons_of_mem _ q)
/-! where a number stands -/
def idxI (ns : List Int) (n : Int) : Nat := ns.findIdx fun z => decide (z = n)
theorem findIdx_ints {n : Int} : ∀ {ns : List Int}, n ∈ ns → (ns.map D.int).findIdx? (fun z => eqB z (.int n)) = some (idxI ns n) := by
  intro ns h
  rw [List.findIdx?_map]
  have e : ((fun z => eqB z (D.int n)) ∘ D.int) = fun z => decide (z = n) := funext fun z => eqB_int
  rw [e]
  unfold idxI
  rw [List.findIdx?_eq_some_iff_findIdx_eq]
  exact ⟨List.findIdx_lt_length_of_exists ⟨n, h, decide_eq_true rfl⟩, rfl⟩
theorem indexD_int {ns : List Int} {n : Int} (h : n ∈ ns) : indexD (.lst (ns.map .int)) [.int n] = .ret (.int (idxI ns n : Nat)) := by
  show (match (ns.map D.int).findIdx? fun z => eqB z (.int n) with
    | some j => if cmpOk (ns.map D.int) (.int n) = true then M.ret (D.int (j : Nat)) else .stuck
    | none => .stuck) = _
  rw [findIdx_ints h]
  have := ints_ok ns
  rw [Bool.and_eq_true, Bool.and_eq_true, decide_eq_true_eq] at this
  have e : cmpOk (ns.map D.int) (.int n) = true := by
    show (D.plL (ns.map D.int) && true && decide (min (D.depL (ns.map D.int)) 0 ≤ 60)) = true
    rw [this.1.1, Nat.min_zero]; rfl
  show (if _ then _ else _) = _
  rw [if_pos e]
theorem idx_get {ns : List Int} {n : Int} (h : n ∈ ns) : ns[idxI ns n]? = some n := by
  have hl : idxI ns n < ns.length := List.findIdx_lt_length_of_exists ⟨n, h, decide_eq_true rfl⟩
  rw [List.getElem?_eq_getElem hl]
  exact congrArg some (of_decide_eq_true (List.findIdx_getElem (w := hl)))
theorem idx_ne {ns : List Int} {n z : Int} {j : Nat} (h : j < idxI ns n) (e : ns[j]? = some z) : z ≠ n := fun q => by
  obtain ⟨hl, e⟩ := List.getElem?_eq_some_iff.mp e
  have := List.not_of_lt_findIdx h
  rw [e, q, decide_eq_true rfl] at this
  exact Bool.noConfusion this
/-! least pairs; what is in order is sorted -/
def mnP (x : II) (xs : List II) : II := xs.foldl (fun a y => if iiLt y a = true then y else a) x
theorem minL_pD {x : II} {xs : List II} : minL (pD x) (xs.map pD) = pD (mnP x xs) := by
  induction xs generalizing x with
  | nil => rfl
  | cons y r ih =>
    show minL (if PySem.W.dataLt (toPy (pD y)) (toPy (pD x)) = true then pD y else pD x) (r.map pD) = pD (mnP (if iiLt y x = true then y else x) r)
    rw [dlt_pD]
    by_cases h : iiLt y x = true
    · rw [if_pos h, if_pos h]; exact ih
    · rw [if_neg h, if_neg h]; exact ih
theorem pDs_ok (xs : List II) : D.plL (xs.map pD) = true ∧ alikeD (xs.map pD) = true ∧ D.depL (xs.map pD) ≤ 60 := by
  refine ⟨plL_of fun d hd => ?_, ?_, Nat.le_trans (depL_le (n := 1) fun d hd => ?_) (by decide)⟩
  · obtain ⟨_, _, rfl⟩ := List.mem_map.mp hd; rfl
  · unfold alikeD
    rw [Bool.and_eq_true, List.all_eq_true, List.all_eq_true]
    refine ⟨fun a ha => List.all_eq_true.mpr fun b hb => ?_, fun a ha => ?_⟩
    · obtain ⟨_, _, rfl⟩ := List.mem_map.mp ha
      obtain ⟨_, _, rfl⟩ := List.mem_map.mp hb
      rfl
    · obtain ⟨_, _, rfl⟩ := List.mem_map.mp ha
      rfl
  · obtain ⟨_, _, rfl⟩ := List.mem_map.mp hd; exact Nat.le_refl _
theorem minD_pD {x : II} {xs : List II} : minD [.lst ((x :: xs).map pD)] = .ret (pD (mnP x xs)) := by
  obtain ⟨h1, h2, h3⟩ := pDs_ok (x :: xs)
  show (if (D.plL ((x :: xs).map pD) && alikeD ((x :: xs).map pD) && decide (D.depL ((x :: xs).map pD) ≤ 60)) = true then keepB (minL (pD x) (xs.map pD)) else .stuck) = _
  rw [h1, h2, decide_eq_true h3, minL_pD]; rfl
theorem mnP_go {z : II} : ∀ (xs : List II) (a : II), (a = z ∨ iiLt z a = true) → (∀ y ∈ xs, y = z ∨ iiLt z y = true) → (a = z ∨ z ∈ xs) → mnP a xs = z
  | [], a, h, _, hz => by
    rcases hz with hz | hz
    · exact hz
    · cases hz
  | y :: r, a, h, hr, hz => by
    show mnP (if iiLt y a = true then y else a) r = z
    have hy := hr y List.mem_cons_self
    refine mnP_go r _ ?_ (fun w hw => hr w (List.mem_cons_of_mem _ hw)) ?_
    · split
      · exact hy
      · exact h
    · rcases hz with rfl | hz
      · left
        split
        · rename_i q
          rcases hy with rfl | hy
          · rfl
          · rw [iiLt_iff] at q hy; omega
        · rfl
      · rcases List.mem_cons.mp hz with rfl | hz
        · left
          split
          · rfl
          · rename_i q
            rcases h with rfl | h
            · rfl
            · exact absurd h q
        · exact .inr hz
theorem mnP_is {z x : II} {xs : List II} (hz : z ∈ x :: xs) (h : ∀ y ∈ x :: xs, y = z ∨ iiLt z y = true) : mnP x xs = z :=
  mnP_go xs x (h x List.mem_cons_self) (fun y hy => h y (List.mem_cons_of_mem _ hy)) (by
    rcases List.mem_cons.mp hz with q | q
    · exact .inl q.symm
    · exact .inr q)
theorem dle_pD {c d : II} : dle (pD c) (pD d) = !iiLt d c := by
  rw [← dlt_pD]; rfl
theorem isort_pD : ∀ {xs : List II}, xs.Pairwise (fun c d => iiLt c d = true) → isortD (xs.map pD) = xs.map pD
  | [], _ => rfl
  | x :: r, h => by
    obtain ⟨h1, h2⟩ := List.pairwise_cons.mp h
    show insD (pD x) (isortD (r.map pD)) = pD x :: r.map pD
    rw [isort_pD h2]
    cases r with
    | nil => rfl
    | cons y r =>
      have := h1 y List.mem_cons_self
      have e : dle (pD x) (pD y) = true := by
        rw [dle_pD]
        cases q : iiLt y x
        · rfl
        · rw [iiLt_iff] at q this; omega
      show (if dle (pD x) (pD y) = true then _ else _) = _
      rw [if_pos e]; rfl
theorem sorted_pD {xs : List II} (h : xs.Pairwise (fun c d => iiLt c d = true)) : sortedD [.lst (xs.map pD)] = .ret (.lst (xs.map pD)) := by
  obtain ⟨h1, h2, h3⟩ := pDs_ok xs
  have e : sortOk (xs.map pD) = true := by
    unfold sortOk
    rw [h1, h2, decide_eq_true h3, List.all_map, Bool.true_and, Bool.true_and, Bool.true_and, Bool.or_eq_true]
    exact .inl (List.all_eq_true.mpr fun x _ => rfl)
  show (if sortOk (xs.map pD) = true then M.ret (D.lst (isortD (xs.map pD))) else .stuck) = _
  rw [if_pos e, isort_pD h]
/-! ascending numbers -/
theorem asc_ext : ∀ {xs ys : List Int}, xs.Pairwise (· < ·) → ys.Pairwise (· < ·) → (∀ m, m ∈ xs ↔ m ∈ ys) → xs = ys
  | [], [], _, _, _ => rfl
  | [], y :: r, _, _, h => absurd ((h y).mpr List.mem_cons_self) (fun z => nomatch z)
  | x :: r, [], _, _, h => absurd ((h x).mp List.mem_cons_self) (fun z => nomatch z)
  | x :: xs, y :: ys, h1, h2, h => by
    obtain ⟨a1, a2⟩ := List.pairwise_cons.mp h1
    obtain ⟨b1, b2⟩ := List.pairwise_cons.mp h2
    have e : x = y := by
      rcases List.mem_cons.mp ((h x).mp List.mem_cons_self) with q | q
      · exact q
      · rcases List.mem_cons.mp ((h y).mpr List.mem_cons_self) with p | p
        · exact p.symm
        · have := a1 y p
          have := b1 x q
          omega
    subst e
    rw [asc_ext a2 b2 fun m => ⟨fun q => ?_, fun q => ?_⟩]
    · rcases List.mem_cons.mp ((h m).mp (List.mem_cons_of_mem _ q)) with p | p
      · have := a1 m q; omega
      · exact p
    · rcases List.mem_cons.mp ((h m).mpr (List.mem_cons_of_mem _ q)) with p | p
      · have := b1 m q; omega
      · exact p
theorem asc_len : ∀ {xs ys : List Int}, xs.Pairwise (· < ·) → ys.Pairwise (· < ·) → (∀ m, m ∈ xs → m ∈ ys) → xs.length ≤ ys.length
  | [], ys, _, _, _ => Nat.zero_le _
  | x :: xs, [], _, _, h => absurd (h x List.mem_cons_self) (fun z => nomatch z)
  | x :: xs, y :: ys, h1, h2, h => by
    obtain ⟨a1, a2⟩ := List.pairwise_cons.mp h1
    obtain ⟨b1, b2⟩ := List.pairwise_cons.mp h2
    refine Nat.succ_le_succ (asc_len a2 b2 fun m q => ?_)
    rcases List.mem_cons.mp (h m (List.mem_cons_of_mem _ q)) with p | p
    · have := a1 m q
      rcases List.mem_cons.mp (h x List.mem_cons_self) with r | r
      · omega
      · have := b1 x r; omega
    · exact p
theorem rng_asc (n : Nat) : ((List.range n).map fun (i : Nat) => (i : Int)).Pairwise (· < ·) := by
  rw [List.pairwise_map]
  exact List.Pairwise.imp (fun h => by omega) List.pairwise_lt_range
theorem rng_mem {n : Nat} {m : Int} : m ∈ ((List.range n).map fun (i : Nat) => (i : Int)) ↔ 0 ≤ m ∧ m < n := by
  rw [List.mem_map]
  constructor
  · rintro ⟨i, hi, rfl⟩
    rw [List.mem_range] at hi; omega
  · rintro ⟨h1, h2⟩
    exact ⟨m.toNat, by rw [List.mem_range]; omega, by omega⟩
theorem foldl_app {α β : Type} (f : β → List α) : ∀ (xs : List β) (acc : List α), xs.foldl (fun a b => a ++ f b) acc = acc ++ xs.flatMap f
  | [], acc => by simp
  | x :: r, acc => by
    rw [List.foldl_cons, foldl_app f r, List.flatMap_cons, List.append_assoc]
end Px

set_option Elab.async false
set_option linter.all false
set_option maxRecDepth 100000
set_option autoImplicit false
namespace Px
open PySem PySem.Spec PyProof.Rows L2
section
variable {i j n : Nat} {ml : Ga → M (List D)} {m ma : Ga → M D} {Γ : Ga} {ds es : List D} {d e : D} {c : Ga → M Bool} {m1 : Ga → M (Ct × Ga)} {Q : Ct × Ga → Prop} {E' : Exn → Prop}
@[simp] theorem lrgM_ : lrgM ml Γ = (ml Γ >>= rangeD) >>= fun ds => .ret (.lst ds) := rfl
@[simp] theorem appK_ : appK i d Γ = match Γ[i]? with
  | some (.own (.lst ds)) => if ds.length < 16777216 then .ret (.nx, Γ.set i (.own (.lst (ds ++ [d])))) else .stuck
  | _ => .stuck := by
  unfold appK ownL
  generalize Γ[i]? = o
  cases o with
  | none => rfl
  | some s =>
    cases s with
    | un => rfl
    | v d => rfl
    | own d => cases d <;> rfl
@[simp] theorem popAppM_ : popAppM i j ml Γ = match Γ[i]? with
  | some (.own (.lst _)) => mthM j ml popG (appK i) Γ
  | _ => .stuck := by
  unfold popAppM ownL
  generalize Γ[i]? = o
  cases o with
  | none => rfl
  | some s =>
    cases s with
    | un => rfl
    | v d => rfl
    | own d => cases d <;> rfl
theorem popG_nat {k : Nat} (h : ds[k]? = some d) (hl : (k : Int) < 2 ^ 62) : popG ds [.int k] = some (d, ds.eraseIdx k) := by
  have hk : k < ds.length := (List.getElem?_eq_some_iff.mp h).1
  have e : seqIndex? (k : Int) ds.length = some k := by
    have h0 : ¬ (k : Int) < 0 := by omega
    unfold seqIndex?
    simp [h0, hk]
  show (match seqIndex? (k : Int) ds.length with
    | some k' => match ds[k']? with
      | some d => if -(2 ^ 62) ≤ (k : Int) ∧ (k : Int) < 2 ^ 62 then some (d, ds.eraseIdx k') else none
      | none => none
    | none => none) = _
  rw [e]
  show (match ds[k]? with
      | some d => if -(2 ^ 62) ≤ (k : Int) ∧ (k : Int) < 2 ^ 62 then some (d, ds.eraseIdx k) else none
      | none => none) = _
  rw [h]
  exact if_pos ⟨by omega, hl⟩
theorem pop0_last : pop0G (ds ++ [d]) [] = some (d, ds) := by
  show (match (ds ++ [d])[(ds ++ [d]).length - 1]? with
    | some d' => some (d', (ds ++ [d]).dropLast)
    | none => none) = _
  rw [List.length_append]
  show (match (ds ++ [d])[ds.length + 1 - 1]? with
    | some d' => some (d', (ds ++ [d]).dropLast)
    | none => none) = _
  rw [Nat.add_sub_cancel, List.getElem?_concat_length, List.dropLast_concat]
@[simp] theorem dispK_ {mps : MP} : dispK mps Γ = evPs mps Γ >>= fun l => if ((l.all fun p => (keyD p.1).isSome) && decide (l.length ≤ 15)) = true then .ret (.dct false (dputs [] l)) else .stuck := rfl
@[simp] theorem dispT_ {mps : MP} : dispT mps Γ = evPs mps Γ >>= fun l => if ((l.all fun p => (ktuD p.1).isSome) && decide (l.length ≤ 15)) = true then .ret (.dct true (dputsT [] l)) else .stuck := rfl
@[simp] theorem evPs_nil : evPs [] Γ = .ret [] := rfl
@[simp] theorem evPs_cons {mps : MP} : evPs ((m, ma) :: mps) Γ = m Γ >>= fun x => ma Γ >>= fun y => evPs mps Γ >>= fun l => .ret ((x, y) :: l) := rfl
@[simp] theorem updM_ : updM i m Γ = match Γ[i]? with
  | some (.own (.dct false kvs)) => m Γ >>= fun d => match d with
    | .dct false more => if kvs.length + more.length ≤ 16777216 then .ret (.nx, Γ.set i (.own (.dct false (dputs kvs more)))) else .stuck
    | _ => .stuck
  | _ => .stuck := rfl
@[simp] theorem methV_l {g : D → List D → M D} : methV "list" m ml g Γ = m Γ >>= fun d => if isT "list" d = true then ml Γ >>= fun ds => g d ds else .stuck := rfl
@[simp] theorem isT_l : isT "list" (.lst ds) = true := rfl
/-! from behind -/
theorem ix_last {n : Nat} : ixN (n + 1) (-1) = some n := by
  unfold ixN
  rw [if_neg (by decide), if_pos (by omega)]
  congr 1; omega
theorem atD_last : atD (ds ++ [d]) (-1) = .ret d := by
  unfold atD atI
  rw [List.length_append, show ds.length + [d].length = ds.length + 1 from rfl, ix_last]
  show (match (ds ++ [d])[ds.length]? with
    | some d => M.ret d
    | none => .stuck) = _
  rw [List.getElem?_concat_length]
theorem set_last {α : Type} {xs : List α} {a b : α} : (xs ++ [a]).set xs.length b = xs ++ [b] := by
  induction xs with
  | nil => rfl
  | cons x r ih => show x :: (r ++ [a]).set r.length b = _; rw [ih]; rfl
theorem sput_last (h : Γ[i]? = some (.own (.lst (ds ++ [d])))) : sputG true i (.int (-1)) e Γ = .ret (.nx, Γ.set i (.own (.lst (ds ++ [e])))) := by
  unfold sputG
  rw [h]
  show (match ixN (ds ++ [d]).length (-1) with
      | some j => M.ret (Ct.nx, Γ.set i (.own (.lst ((ds ++ [d]).set j e))))
      | none => .stuck) = _
  rw [List.length_append, show ds.length + [d].length = ds.length + 1 from rfl, ix_last]
  show M.ret (Ct.nx, Γ.set i (.own (.lst ((ds ++ [d]).set ds.length e)))) = _
  rw [set_last]
/-! cuts -/
theorem cut_to {k : Nat} (h : k ≤ ds.length) : cutD ds none (some (k : Int)) = ds.take k := by
  unfold cutD
  rw [HT.sIx_nat, HT.sIx_none, Nat.sub_zero, Nat.min_eq_left h]; rfl
theorem cut_from {k : Nat} (h : k ≤ ds.length) : cutD ds (some (k : Int)) none = ds.drop k := by
  unfold cutD
  rw [HT.sIx_nat, HT.sIx_none, Nat.min_eq_left h]
  exact List.take_of_length_le (by rw [List.length_drop]; exact Nat.le_refl _)
/-! while -/
theorem while_inv {I : Nat → Ga → Prop} : ∀ {n k : Nat} {Γ : Ga}, k < n → I k Γ →
    (∀ k Γ, I k Γ → (c Γ).wp (fun b => if b = true then (m1 Γ).wp (fun z => match z.1 with | .nx => ∃ k', k' < k ∧ I k' z.2 | .ct => ∃ k', k' < k ∧ I k' z.2 | .bk => Q (.nx, z.2) | .rt d => Q (.rt d, z.2)) E' else Q (.nx, Γ)) E') → (whileM c m1 n Γ).wp Q E'
  | 0, k, Γ, hk, _, _ => absurd hk (Nat.not_lt_zero k)
  | n + 1, k, Γ, hk, h, hb => by
    show (c Γ >>= fun k => if k = true then m1 Γ >>= fun x => (match x.1 with
      | .nx => whileM c m1 n x.2
      | .ct => whileM c m1 n x.2
      | .bk => .ret (.nx, x.2)
      | .rt d => .ret (.rt d, x.2)) else .ret (.nx, Γ)).wp Q E'
    refine M.wp_bind.mpr (M.wp_mono (hb k Γ h) (fun b q => ?_) fun _ x => x)
    split at q
    · rename_i hbt
      rw [if_pos hbt]
      refine M.wp_bind.mpr (M.wp_mono q (fun z q => ?_) fun _ x => x)
      obtain ⟨ct, Γ2⟩ := z
      cases ct with
      | nx => obtain ⟨k', hk', q⟩ := q; exact while_inv (by omega) q hb
      | ct => obtain ⟨k', hk', q⟩ := q; exact while_inv (by omega) q hb
      | bk => exact q
      | rt d => exact q
    · rename_i hbt
      rw [if_neg hbt]; exact q
end
end Px

set_option Elab.async false
set_option linter.all false
set_option maxRecDepth 100000
set_option autoImplicit false
namespace Px
open PySem PySem.Spec PyProof.Rows L2
/-! ### the text of small data -/
mutual
def smD : D → Bool
  | .non => true
  | .bl _ => true
  | .int i => decide (i.natAbs < 10 ^ 20)
  | .tup ds => smL ds
  | .lst ds => smL ds
  | _ => false
def smL : List D → Bool
  | [] => true
  | d :: r => smD d && smL r
end
mutual
def wtD : D → Nat
  | .non => 4
  | .bl _ => 5
  | .int _ => 21
  | .tup ds => wtL ds + 4
  | .lst ds => wtL ds + 4
  | _ => 0
def wtL : List D → Nat
  | [] => 0
  | d :: r => wtD d + 2 + wtL r
end
theorem textFrom_le : ∀ (ts : List Str) (k : Nat) (acc : Str), (textFrom k acc ts).length ≤ acc.length + piled ts
  | [], k, acc => Nat.le_add_right _ _
  | t :: r, k, acc => by
    have h := textFrom_le r (k + 1) (acc ++ (if k > 0 then ", " else "" : String) ++ t)
    have e : (acc ++ (if k > 0 then ", " else "" : String) ++ t).length ≤ acc.length + 2 + t.length := by
      rw [strLen_append, strLen_append]
      have : ((if k > 0 then ", " else "" : String) : Str).length ≤ 2 := by split <;> decide
      omega
    rw [piled_cons]
    show (textFrom (k + 1) (acc ++ (if k > 0 then ", " else "" : String) ++ t) r).length ≤ _
    omega
theorem listText_le (ts : List Str) : (listText ts).length ≤ piled ts + 4 := by
  unfold listText
  rw [strLen_append]
  have h := textFrom_le ts 0 "["
  have e1 : (("[" : String) : Str).length = 1 := rfl
  have e2 : (("]" : String) : Str).length = 1 := rfl
  omega
theorem tupleText_le (ts : List Str) : (tupleText ts).length ≤ piled ts + 4 := by
  unfold tupleText
  rw [strLen_append, strLen_append]
  have e1 : (("(" : String) : Str).length = 1 := rfl
  have e2 : ((if ts.length == 1 then ",)" else ")" : String) : Str).length ≤ 2 := by split <;> decide
  have e3 : (Str.join ", " ts).length ≤ piled ts := by
    cases ts with
    | nil => exact Nat.zero_le _
    | cons t r =>
      have := join_length_add (t :: r) (by simp)
      omega
  omega
theorem int_shown_le {i : Int} (h : i.natAbs < 10 ^ 20) : (Str.ofString (toString i)).length ≤ 21 := by
  rw [PyProof.Rows.ofString_len]
  exact int_text_length_le10 (k := 20) (by decide) h
mutual
theorem shown_le : ∀ d : D, smD d = true → (toPy d).shown.length ≤ wtD d
  | .non, _ => by show (PyData.shown .none).length ≤ 4; simp only [PyData.shown]; decide
  | .bl b, _ => by show (PyData.shown (.bool b)).length ≤ 5; simp only [PyData.shown]; cases b <;> decide
  | .int i, h => by
    show (PyData.shown (.int i)).length ≤ 21
    simp only [PyData.shown]
    exact int_shown_le (of_decide_eq_true h)
  | .tup ds, h => by
    show (PyData.shown (.tuple (toPyL ds))).length ≤ wtL ds + 4
    simp only [PyData.shown]
    have := shownL_le ds h
    have := tupleText_le (PyData.shownAll (toPyL ds))
    omega
  | .lst ds, h => by
    show (PyData.shown (.list (toPyL ds))).length ≤ wtL ds + 4
    simp only [PyData.shown]
    have := shownL_le ds h
    have := listText_le (PyData.shownAll (toPyL ds))
    omega
  | .str _, h => Bool.noConfusion h
  | .dct _ _, h => Bool.noConfusion h
  | .raw _, h => Bool.noConfusion h
theorem shownL_le : ∀ ds : List D, smL ds = true → piled (PyData.shownAll (toPyL ds)) ≤ wtL ds
  | [], _ => by show piled (PyData.shownAll []) ≤ 0; simp only [PyData.shownAll]; exact Nat.le_refl _
  | d :: r, h => by
    have h : (smD d && smL r) = true := h
    rw [Bool.and_eq_true] at h
    show piled (PyData.shownAll (toPy d :: toPyL r)) ≤ wtD d + 2 + wtL r
    simp only [PyData.shownAll]
    rw [piled_cons]
    have := shown_le d h.1
    have := shownL_le r h.2
    omega
end
theorem log2_small {n : Nat} (h : n < 10 ^ 20) : n.log2 < 1920 := by
  by_cases h0 : n = 0
  · subst h0; decide
  · exact (Nat.log2_lt h0).mpr (Nat.lt_trans h (Nat.lt_of_lt_of_le (show 10 ^ 20 < 2 ^ 100 by decide) (Nat.pow_le_pow_right (by decide) (by decide))))
mutual
theorem showable_sm : ∀ d : D, smD d = true → (toPy d).showable = true ∧ d.pl = true
  | .non, _ => ⟨by show PyData.showable .none = true; simp only [PyData.showable], rfl⟩
  | .bl b, _ => ⟨by show PyData.showable (.bool b) = true; simp only [PyData.showable], rfl⟩
  | .int i, h => ⟨by show PyData.showable (.int i) = true; simp only [PyData.showable]; exact decide_eq_true (log2_small (of_decide_eq_true h)), rfl⟩
  | .tup ds, h => ⟨by show PyData.showable (.tuple (toPyL ds)) = true; simp only [PyData.showable]; exact (showableL_sm ds h).1, (showableL_sm ds h).2⟩
  | .lst ds, h => ⟨by show PyData.showable (.list (toPyL ds)) = true; simp only [PyData.showable]; exact (showableL_sm ds h).1, (showableL_sm ds h).2⟩
  | .str _, h => Bool.noConfusion h
  | .dct _ _, h => Bool.noConfusion h
  | .raw _, h => Bool.noConfusion h
theorem showableL_sm : ∀ ds : List D, smL ds = true → PyData.showableAll (toPyL ds) = true ∧ D.plL ds = true
  | [], _ => ⟨by show PyData.showableAll [] = true; simp only [PyData.showableAll], rfl⟩
  | d :: r, h => by
    have h : (smD d && smL r) = true := h
    rw [Bool.and_eq_true] at h
    have h1 := showable_sm d h.1
    have h2 := showableL_sm r h.2
    refine ⟨?_, ?_⟩
    · show PyData.showableAll (toPy d :: toPyL r) = true
      simp only [PyData.showableAll]
      rw [h1.1, h2.1]; rfl
    · show (d.pl && D.plL r) = true
      rw [h1.2, h2.2]; rfl
end
theorem repr_sm {d : D} (h : smD d = true) (hd : d.dep ≤ 60) (hw : wtD d ≤ 16777216) : reprD [d] = .ret (.str (shownD d)) := by
  obtain ⟨h1, h2⟩ := showable_sm d h
  have h3 := shown_le d h
  show (if reprOk d = true then M.ret (D.str (shownD d)) else M.stuck) = _
  refine if_pos ?_
  unfold reprOk
  rw [h1, h2, decide_eq_true hd, decide_eq_true (Nat.le_trans h3 hw)]; rfl
theorem smL_of {ds : List D} (h : ∀ d ∈ ds, smD d = true) : smL ds = true := by
  induction ds with
  | nil => rfl
  | cons d r ih =>
    show (smD d && smL r) = true
    rw [h d List.mem_cons_self, ih fun e he => h e (List.mem_cons_of_mem _ he)]; rfl
theorem wtL_le {n : Nat} : ∀ {ds : List D}, (∀ d ∈ ds, wtD d ≤ n) → wtL ds ≤ ds.length * (n + 2)
  | [], _ => Nat.zero_le _
  | d :: r, h => by
    show wtD d + 2 + wtL r ≤ (r.length + 1) * (n + 2)
    have := h d List.mem_cons_self
    have := wtL_le fun e he => h e (List.mem_cons_of_mem _ he)
    rw [Nat.succ_mul]; omega
@[simp] theorem neu_str {s : Str} : neuD (.str s) (.str s) = .ret (.bl false) := neu_same rfl (show (D.str s).dep ≤ 60 from Nat.zero_le _)
@[simp] theorem equ_str {s : Str} : equD (.str s) (.str s) = .ret (.bl true) := equ_same rfl (show (D.str s).dep ≤ 60 from Nat.zero_le _)
end Px

set_option Elab.async false
set_option linter.all false
set_option maxRecDepth 100000
set_option autoImplicit false
namespace Px
open PySem PySem.Spec PyProof.Rows L2
/-- a loop over what is drawn -/
theorem wq_forw {mi : Ga → M (List D)} {bnd : D → Ga → M Ga} {m1 : Ga → M (Ct × Ga)} {Γ : Ga} {Q : Ct × Ga → Prop} {E' : Exn → Prop} {γ : Type} {enc : γ → D} {I : List γ → Ga → Prop} (hi : (mi Γ).wp (fun ds => ∃ xs : List γ, ds = xs.map enc ∧ I xs Γ) E')
    (hb : ∀ x r Γ, I (x :: r) Γ → (bnd (enc x) Γ).wp (fun Γ => Wq (m1 Γ) (fun z => match z.1 with | .nx => I r z.2 | .ct => I r z.2 | .bk => Q (.nx, z.2) | .rt d => Q (.rt d, z.2)) E') E') (he : ∀ Γ, I [] Γ → Q (.nx, Γ)) : Wq (forS mi bnd m1 Γ) Q E' := by
  rw [forS_]
  refine ⟨M.wp_bind.mpr (M.wp_mono hi (fun ds ⟨xs, e, h0⟩ => ?_) fun _ z => z)⟩
  subst e
  refine forM_inv h0 (fun x r Γ q => ?_) he
  exact M.wp_bind.mpr (M.wp_mono (hb x r Γ q) (fun _ q => q.go) fun _ z => z)
end Px

set_option Elab.async false
set_option linter.all false
set_option maxRecDepth 100000
set_option maxHeartbeats 4000000
set_option autoImplicit false
namespace Px
open PySem PySem.Spec PyProof.Rows L2
/-! ### the law's hand -/
def HandOk (a g : Addr) (H : Hp) : Prop := ∃ (ns : List Int) (idx cur mix cnt : Int), H a = some (.lst [.ref g, .int idx, .int cur, .int mix, .int cnt]) ∧ H g = some (.lst (ns.map V.int)) ∧ a ≠ g ∧ (∀ n ∈ ns, 0 ≤ n) ∧ 0 ≤ idx ∧ 0 ≤ cur ∧ 0 ≤ mix ∧ mix < 2147483629 ∧ 0 ≤ cnt
def ghHand (a g : Addr) : Gh where
  Z := fun b => b = a ∨ b = g
  G := HandOk a g
  gk := fun H H' ⟨ns, idx, cur, mix, cnt, h1, h2, h3⟩ hz _ => ⟨ns, idx, cur, mix, cnt, by rw [hz a (.inl rfl)]; exact h1, by rw [hz g (.inr rfl)]; exact h2, h3⟩
  gz := fun H b ⟨ns, idx, cur, mix, cnt, h1, h2, h3⟩ hz => by
    rcases hz with rfl | rfl
    · exact ⟨_, h1, (fun _ z => by cases z), fun _ z => by cases z⟩
    · exact ⟨_, h2, (fun _ z => by cases z), fun _ z => by cases z⟩
def m__law_draw (hd : V) : List D → M D := fun ds => match ds with
  | [.raw v, .int m] => if v = hd ∧ 0 < m ∧ m < 1073741824 then .draw m.toNat fun r => .ret (.int (r : Nat)) else .stuck
  | _ => .stuck
def Vl (t : TE) (σ : L2.St) (H : Hp) (v : V) : Prop := ∀ Q : VK, Q v H → t σ H Q
section
variable {σ : L2.St} {H : Hp} {v : V} {i j : Int} {ta tb : TE} {K : PySem.W.Frag} {p : Addr} {xs : List V}
theorem vl_var {n : Nat} (h : σ[n]? = some (some v)) : Vl (tVar n) σ H v := fun Q q => ⟨v, h, q⟩
theorem vl_c : Vl (tC v) σ H v := fun Q q => q
theorem vl_op {g : Int → Int → V} (ha : Vl ta σ H (.int i)) (hb : Vl tb σ H (.int j)) : Vl (tOp (rI0 g) ta tb) σ H (g i j) := fun Q q => ha _ (hb _ ⟨i, j, rfl, rfl, q⟩)
theorem vl_eq (ha : Vl ta σ H (.int i)) (hb : Vl tb σ H (.int j)) : Vl (tOp rEq ta tb) σ H (.bl (decide (i = j))) := fun Q q => ha _ (hb _ ⟨rfl, by rw [dec_int]; exact q⟩)
theorem vl_gt (ha : Vl ta σ H (.int i)) (hb : Vl tb σ H (.int j)) : Vl (tOp (rI0 fun i j => .bl (decide (j < i))) ta tb) σ H (.bl (decide (j < i))) := vl_op ha hb
theorem vl_lt (ha : Vl ta σ H (.int i)) (hb : Vl tb σ H (.int j)) : Vl (tOp (rI0 fun i j => .bl (decide (i < j))) ta tb) σ H (.bl (decide (i < j))) := vl_op ha hb
theorem vl_add (ha : Vl ta σ H (.int i)) (hb : Vl tb σ H (.int j)) : Vl (tOp (rI0 fun i j => .int (i + j)) ta tb) σ H (.int (i + j)) := vl_op ha hb
theorem vl_opI {C : Int → Int → Prop} {g : Int → Int → V} (ha : Vl ta σ H (.int i)) (hb : Vl tb σ H (.int j)) (c : C i j) : Vl (tOp (rI C g) ta tb) σ H (g i j) := fun Q q => ha _ (hb _ ⟨i, j, rfl, rfl, c, q⟩)
theorem vl_mul (ha : Vl ta σ H (.int i)) (hb : Vl tb σ H (.int j)) (c : CMul i j) : Vl (tOp (rI CMul fun i j => .int (i * j)) ta tb) σ H (.int (i * j)) := vl_opI ha hb c
theorem vl_fdiv (ha : Vl ta σ H (.int i)) (hb : Vl tb σ H (.int j)) (c : 0 < j ∧ j < 1073741824) : Vl (tOp (rI CDiv fun i j => .int (i / j)) ta tb) σ H (.int (i / j)) := vl_opI ha hb c
theorem vl_mod (ha : Vl ta σ H (.int i)) (hb : Vl tb σ H (.int j)) (c : 0 < j) : Vl (tOp (rI (fun _ j => 0 < j) fun i j => .int (i % j)) ta tb) σ H (.int (i % j)) := vl_opI ha hb c
theorem vl_ix (ha : Vl ta σ H (.ref p)) (hx : H p = some (.lst xs)) (hb : Vl tb σ H (.int i)) (h : L2.atI xs i = some v) : Vl (tOp (rIxL K) ta tb) σ H v := fun Q q => ha _ (hb _ ⟨p, xs, i, v, rfl, rfl, .of hx, h, q⟩)
theorem vl_int (ha : Vl ta σ H (.int i)) : Vl (tCB (fun xs H Q => (∃ i, xs = [V.int i] ∧ Q (.int i) H) ∨ ∃ k, xs = [V.bl k] ∧ Q (.int (if k = true then 1 else 0)) H) (tCons ta tNil)) σ H (.int i) := fun Q q => ha _ (.inl ⟨i, rfl, q⟩)
theorem vl_len (ha : Vl ta σ H (.ref p)) (hx : H p = some (.lst xs)) : Vl (tCB (fun vs H Q => ∃ p ys, vs = [V.ref p] ∧ (SqL K H p ys ∨ SqT K H p ys) ∧ Q (.int ys.length) H) (tCons ta tNil)) σ H (.int xs.length) := fun Q q => ha _ ⟨p, xs, rfl, .inl (.of hx), q⟩
theorem vl_test {t : TE} {b : Bool} (h : Vl t σ H (.bl b)) {Q : Bool → Hp → Prop} (q : Q b H) : tTest t σ H Q := h _ ⟨b, rfl, q⟩
theorem vl_asg {i : Nat} {Dn : Ends} {t : TS} (ha : Vl ta σ H v) (h : t Dn (σ.set i (some v)) H) : tSeq (tAsg ta (gName i)) t Dn σ H := ha _ h
theorem vl_put {n : Nat} {Dn : Ends} {t : TS} {to ti : TE} (ha : Vl ta σ H v) (ho : Vl to σ H (.ref p)) (hx : H p = some (.lst xs)) (hi : Vl ti σ H (.int i)) (hn : ixN xs.length i = some n) (h : t Dn σ (upd H p (.lst (xs.set n v)))) :
    tSeq (tAsg ta (gSub to ti rSetL)) t Dn σ H := ha _ (ho _ (hi _ ⟨p, xs, i, n, rfl, rfl, hx, hn, h⟩))
theorem vl_ge (ha : Vl ta σ H (.int i)) (hb : Vl tb σ H (.int j)) : Vl (tOp (rI0 fun i j => .bl (decide (j ≤ i))) ta tb) σ H (.bl (decide (j ≤ i))) := vl_op ha hb
theorem vl_pow (ha : Vl ta σ H (.int i)) (hb : Vl tb σ H (.int j)) (c : CPow i j) : Vl (tOp (rI CPow fun i j => .int (i ^ j.toNat)) ta tb) σ H (.int (i ^ j.toNat)) := vl_opI ha hb c
end

/-! ### the text -/
def topS (i : Nat) : Stmt := PySem.Challenge.pw_cordfire_k62_whole_offices_that_let.main.body.getD i (.Pass ⟨0, 0, 0, 0⟩)
abbrev s_is_integer : Stmt := topS 1
theorem sc_is_integer : FnScope ["thing"] ["thing"] (defScope s_is_integer) := ⟨rfl, rfl, rfl, by decide +kernel, rfl, by decide +kernel, by decide +kernel⟩
abbrev s_is_within : Stmt := topS 2
theorem sc_is_within : FnScope ["thing", "least", "most"] ["thing", "least", "most"] (defScope s_is_within) := ⟨rfl, rfl, rfl, by decide +kernel, rfl, by decide +kernel, by decide +kernel⟩
abbrev s_is_tuple_of : Stmt := topS 3
theorem sc_is_tuple_of : FnScope ["thing", "size"] ["thing", "size"] (defScope s_is_tuple_of) := ⟨rfl, rfl, rfl, by decide +kernel, rfl, by decide +kernel, by decide +kernel⟩
abbrev s_is_span : Stmt := topS 13
theorem sc_is_span : FnScope ["thing"] ["thing"] (defScope s_is_span) := ⟨rfl, rfl, rfl, by decide +kernel, rfl, by decide +kernel, by decide +kernel⟩
abbrev s_is_office : Stmt := topS 14
theorem sc_is_office : FnScope ["thing", "one", "other"] ["thing"] (defScope s_is_office) := ⟨rfl, rfl, rfl, by decide +kernel, rfl, by decide +kernel, by decide +kernel⟩
abbrev s_check_offices : Stmt := topS 15
theorem sc_check_offices : FnScope ["offices", "one"] ["offices"] (defScope s_check_offices) := ⟨rfl, rfl, rfl, by decide +kernel, rfl, by decide +kernel, by decide +kernel⟩
abbrev s_shared : Stmt := topS 16
theorem sc_shared : FnScope ["one", "other", "found", "first", "last", "begin", "end"] ["one", "other"] (defScope s_shared) := ⟨rfl, rfl, rfl, by decide +kernel, rfl, by decide +kernel, by decide +kernel⟩
abbrev s_raw_common : Stmt := topS 17
theorem sc_raw_common : FnScope ["offices", "found", "office"] ["offices"] (defScope s_raw_common) := ⟨rfl, rfl, rfl, by decide +kernel, rfl, by decide +kernel, by decide +kernel⟩
abbrev s_common : Stmt := topS 18
theorem sc_common : FnScope ["offices"] ["offices"] (defScope s_common) := ⟨rfl, rfl, rfl, by decide +kernel, rfl, by decide +kernel, by decide +kernel⟩
abbrev s_first_moment : Stmt := topS 19
theorem sc_first_moment : FnScope ["offices", "long", "some", "first", "last"] ["offices", "long"] (defScope s_first_moment) := ⟨rfl, rfl, rfl, by decide +kernel, rfl, by decide +kernel, by decide +kernel⟩
abbrev s_lets_at : Stmt := topS 20
theorem sc_lets_at : FnScope ["offices", "moment", "office", "first", "last"] ["offices", "moment"] (defScope s_lets_at) := ⟨rfl, rfl, rfl, by decide +kernel, rfl, by decide +kernel, by decide +kernel⟩
abbrev s_most_at : Stmt := topS 21
theorem sc_most_at : FnScope ["offices", "begins", "office", "first", "last", "told", "moment"] ["offices"] (defScope s_most_at) := ⟨rfl, rfl, rfl, by decide +kernel, rfl, by decide +kernel, by decide +kernel⟩
abbrev s_size_of : Stmt := topS 22
theorem sc_size_of : FnScope ["spans", "first", "last"] ["spans"] (defScope s_size_of) := ⟨rfl, rfl, rfl, by decide +kernel, rfl, by decide +kernel, by decide +kernel⟩
abbrev s_strictest : Stmt := topS 23
theorem sc_strictest : FnScope ["offices", "sizes", "office"] ["offices"] (defScope s_strictest) := ⟨rfl, rfl, rfl, by decide +kernel, rfl, by decide +kernel, by decide +kernel⟩
abbrev s_moments_many : Stmt := topS 24
theorem sc_moments_many : FnScope ["offices"] ["offices"] (defScope s_moments_many) := ⟨rfl, rfl, rfl, by decide +kernel, rfl, by decide +kernel, by decide +kernel⟩
abbrev s_longer_without : Stmt := topS 25
theorem sc_longer_without : FnScope ["offices", "sizes", "at"] ["offices"] (defScope s_longer_without) := ⟨rfl, rfl, rfl, by decide +kernel, rfl, by decide +kernel, by decide +kernel⟩
abbrev s__law_hand : Stmt := topS 27
theorem sc__law_hand : FnScope ["script", "cells", "cell"] ["script"] (defScope s__law_hand) := ⟨rfl, rfl, rfl, by decide +kernel, rfl, by decide +kernel, by decide +kernel⟩
abbrev s__law_draw : Stmt := topS 28
theorem sc__law_draw : FnScope ["hand", "size", "cell", "digit", "number"] ["hand", "size"] (defScope s__law_draw) := ⟨rfl, rfl, rfl, by decide +kernel, rfl, by decide +kernel, by decide +kernel⟩
abbrev s__law_some : Stmt := topS 29
theorem sc__law_some : FnScope ["hand", "things"] ["hand", "things"] (defScope s__law_some) := ⟨rfl, rfl, rfl, by decide +kernel, rfl, by decide +kernel, by decide +kernel⟩
abbrev s__law_shuffled : Stmt := topS 30
theorem sc__law_shuffled : FnScope ["hand", "things", "pool", "found"] ["hand", "things"] (defScope s__law_shuffled) := ⟨rfl, rfl, rfl, by decide +kernel, rfl, by decide +kernel, by decide +kernel⟩
abbrev s__law_office : Stmt := topS 31
theorem sc__law_office : FnScope ["hand", "far_now", "found", "first", "number", "last"] ["hand", "far_now"] (defScope s__law_office) := ⟨rfl, rfl, rfl, by decide +kernel, rfl, by decide +kernel, by decide +kernel⟩
abbrev s__law_lets : Stmt := topS 32
theorem sc__law_lets : FnScope ["office", "moment", "first", "last"] ["office", "moment"] (defScope s__law_lets) := ⟨rfl, rfl, rfl, by decide +kernel, rfl, by decide +kernel, by decide +kernel⟩
abbrev s__law_common : Stmt := topS 33
theorem sc__law_common : FnScope ["offices", "found", "office", "moment"] ["offices"] (defScope s__law_common) := ⟨rfl, rfl, rfl, by decide +kernel, rfl, by decide +kernel, by decide +kernel⟩
abbrev s__law_spans_of : Stmt := topS 34
theorem sc__law_spans_of : FnScope ["moments_now", "found", "moment"] ["moments_now"] (defScope s__law_spans_of) := ⟨rfl, rfl, rfl, by decide +kernel, rfl, by decide +kernel, by decide +kernel⟩
abbrev s__law_first : Stmt := topS 35
theorem sc__law_first : FnScope ["offices", "long", "first", "last"] ["offices", "long"] (defScope s__law_first) := ⟨rfl, rfl, rfl, by decide +kernel, rfl, by decide +kernel, by decide +kernel⟩
abbrev s__law_most : Stmt := topS 36
theorem sc__law_most : FnScope ["offices", "many", "moment", "office"] ["offices"] (defScope s__law_most) := ⟨rfl, rfl, rfl, by decide +kernel, rfl, by decide +kernel, by decide +kernel⟩
abbrev s__law_is_right : Stmt := topS 37
theorem sc__law_is_right : FnScope ["hand", "offices", "moments_now", "before_now", "due", "long", "let_now", "office", "first", "last", "rest", "number", "mixed"] ["hand", "offices"] (defScope s__law_is_right) := ⟨rfl, rfl, rfl, by decide +kernel, rfl, by decide +kernel, by decide +kernel⟩
abbrev s_law : Stmt := topS 38
theorem sc_law : FnScope ["script", "hand", "offices", "step", "far_now", "number"] ["script"] (defScope s_law) := ⟨rfl, rfl, rfl, by decide +kernel, rfl, by decide +kernel, by decide +kernel⟩
/-! ### the plain functions -/
def b_is_integer : Ga → M (Ct × Ga) :=
  (retM (andV (callV (consL (getS 0) (consL (cTy "int") nilL)) isa2D) (notV (callV (consL (getS 0) (consL (cTy "bool") nilL)) isa2D))))
def m_is_integer : List D → M D := fnM 1 1 b_is_integer
def b_is_tuple_of : Ga → M (Ct × Ga) :=
  (retM (andV (callV (consL (getS 0) (consL (cTy "tuple") nilL)) isa2D) (bin (callV (consL (getS 0) nilL) len2D) (getS 1) equD)))
def m_is_tuple_of : List D → M D := fnM 2 2 b_is_tuple_of
def b_shared : Ga → M (Ct × Ga) :=
  (seqM (setM 2 (lstV nilL))
    (seqM (forS (anyM (getS 0)) (bndT 2 (bndCons (bndN 3) (bndCons (bndN 4) bndNil))) (forS (anyM (getS 1)) (bndT 2 (bndCons (bndN 5) (bndCons (bndN 6) bndNil))) (ifM (tst (bin (callV (consL (getS 3) (consL (getS 5) nilL)) maxD) (callV (consL (getS 4) (consL (getS 6) nilL)) minD) leD)) (mthM 2 (consL (tupV (consL (callV (consL (getS 3) (consL (getS 5) nilL)) maxD) (consL (callV (consL (getS 4) (consL (getS 6) nilL)) minD) nilL))) nilL) appG dropK') nextM)))
    (retM (callV (consL (getB 2) nilL) sortedD))))
def m_shared : List D → M D := fnM 2 7 b_shared
def b_lets_at : Ga → M (Ct × Ga) :=
  (retM (callV (consL (lcM [2] (anyM (getS 0)) (bndN 2) (tst (callV (consL (lcM [3, 4] (anyM (getS 2)) (bndT 2 (bndCons (bndN 3) (bndCons (bndN 4) bndNil))) yesT (chn (getS 3) (getS 1) (getS 4) leD leD)) nilL) anyD)) (getS 2)) nilL) len2D))
def m_lets_at : List D → M D := fnM 2 5 b_lets_at
def b_size_of : Ga → M (Ct × Ga) :=
  (retM (callV (consL (lcM [1, 2] (anyM (getS 0)) (bndT 2 (bndCons (bndN 1) (bndCons (bndN 2) bndNil))) yesT (bin (bin (getS 2) (getS 1) subD) (cI 1) addD)) nilL) sumD))
def m_size_of : List D → M D := fnM 1 3 b_size_of
def b__law_hand (sc : Addr) (ns : List Int) : Ga → M (Ct × Ga) :=
  (seqM (setM 1 (lcM [2] (anyM (scrS sc 0 (.lst (cutD (ns.map D.int) none (some 63))))) (bndN 2) yesT (callV (consL (callV (consL (getS 2) nilL) intD) nilL) absD)))
    (fzM 1 (retM (lstV (consL (getS 1) (consL (cI 0) (consL (cI 0) (consL (bin (cI 431) (bin (cI 7) (callV (consL (getB 1) nilL) len2D) mulU) addD) (consL (cI 0) nilL)))))))))
def b__law_lets : Ga → M (Ct × Ga) :=
  (retM (callV (consL (lcM [2, 3] (anyM (getS 0)) (bndT 2 (bndCons (bndN 2) (bndCons (bndN 3) bndNil))) yesT (chn (getS 2) (getS 1) (getS 3) leD leD)) nilL) anyD))
def m__law_lets : List D → M D := fnM 2 4 b__law_lets
def b__law_spans_of : Ga → M (Ct × Ga) :=
  (seqM (setM 1 (lstV nilL))
    (seqM (forS (anyM (getS 0)) (bndN 2) (ifM (andT (tst (bin (callV (consL (getB 1) nilL) len2D) (cI 0) gtD)) (tst (bin (bin (bin (getB 1) (una (cI 1) negD) getD') (cI 1) getD') (bin (getS 2) (cI 1) subD) equD))) (sputM true 1 (una (cI 1) negD) (tupV (consL (bin (bin (getB 1) (una (cI 1) negD) getD') (cI 0) getD') (consL (getS 2) nilL)))) (mthM 1 (consL (tupV (consL (getS 2) (consL (getS 2) nilL))) nilL) appG dropK')))
    (retM (getO 1))))
def m__law_spans_of : List D → M D := fnM 1 3 b__law_spans_of
def b_is_within : Ga → M (Ct × Ga) :=
  (retM (andV (callV (consL (getS 0) nilL) m_is_integer) (chn (getS 1) (getS 0) (getS 2) leD leD)))
def m_is_within : List D → M D := fnM 3 3 b_is_within
def b_raw_common : Ga → M (Ct × Ga) :=
  (seqM (setSM 1 (lstV (consL (tupV (consL (cI 0) (consL (cI 1000) nilL))) nilL)))
    (seqM (forS (anyM (getS 0)) (bndN 2) (setSM 1 (callV (consL (getS 1) (consL (getS 2) nilL)) m_shared)))
    (retM (getS 1))))
def m_raw_common : List D → M D := fnM 1 3 b_raw_common
def b__law_some (hd : V) : Ga → M (Ct × Ga) :=
  (retM (bin (getS 1) (callV (consL (getS 0) (consL (callV (consL (getS 1) nilL) len2D) nilL)) (m__law_draw hd)) getD'))
def m__law_some (hd : V) : List D → M D := fnM 2 2 (b__law_some hd)
def b__law_shuffled (hd : V) : Ga → M (Ct × Ga) :=
  (seqM (parM [2, 3] (consF (callV (consL (getS 1) nilL) listD) (consF (lstV nilL) nilS)))
    (seqM (whileM (tst (bin (callV (consL (getB 2) nilL) len2D) (cI 0) gtD)) (popAppM 3 2 (consL (callV (consL (getS 0) (consL (callV (consL (getB 2) nilL) len2D) nilL)) (m__law_draw hd)) nilL)) 100000)
    (retM (getO 3))))
def m__law_shuffled (hd : V) : List D → M D := fnM 2 4 (b__law_shuffled hd)
def b__law_office (hd : V) : Ga → M (Ct × Ga) :=
  (seqM (parM [2, 3] (consF (lstV nilL) (consS (callV (consL (getS 0) (consL (cI 5) nilL)) (m__law_draw hd)) nilS)))
    (seqM (forS (rgM (consL (bin (cI 1) (callV (consL (getS 0) (consL (cI 5) nilL)) (m__law_draw hd)) addD) nilL)) (bndN 4) (seqM (setSM 5 (bin (getS 3) (callV (consL (getS 0) (consL (getS 1) nilL)) (m__law_draw hd)) addD))
    (seqM (mthM 2 (consL (tupV (consL (getS 3) (consL (getS 5) nilL))) nilL) appG dropK')
    (setSM 3 (bin (bin (getS 5) (cI 2) addD) (callV (consL (getS 0) (consL (getS 1) nilL)) (m__law_draw hd)) addD)))))
    (retM (callV (consL (getB 2) nilL) tupleD))))
def m__law_office (hd : V) : List D → M D := fnM 2 6 (b__law_office hd)
def b__law_common : Ga → M (Ct × Ga) :=
  (seqM (setSM 1 (lrgM (consL (bin (callV (consL (lcM [2] (anyM (getS 0)) (bndN 2) yesT (bin (bin (getS 2) (una (cI 1) negD) getD') (cI 1) getD')) nilL) maxD) (cI 1) addD) nilL)))
    (retM (lcM [3] (anyM (getS 1)) (bndN 3) (tst (callV (consL (lcM [2] (anyM (getS 0)) (bndN 2) yesT (callV (consL (getS 2) (consL (getS 3) nilL)) m__law_lets)) nilL) allD)) (getS 3))))
def m__law_common : List D → M D := fnM 1 4 b__law_common
def b__law_most : Ga → M (Ct × Ga) :=
  (seqM (setM 1 (lstV nilL))
    (seqM (forS (rgM (consL (bin (callV (consL (lcM [3] (anyM (getS 0)) (bndN 3) yesT (bin (bin (getS 3) (una (cI 1) negD) getD') (cI 1) getD')) nilL) maxD) (cI 1) addD) nilL)) (bndN 2) (mthM 1 (consL (callV (consL (lcM [3] (anyM (getS 0)) (bndN 3) (tst (callV (consL (getS 3) (consL (getS 2) nilL)) m__law_lets)) (getS 3)) nilL) len2D) nilL) appG dropK'))
    (retM (tupV (consL (methV "list" (getB 1) (consL (callV (consL (getB 1) nilL) maxD) nilL) indexD) (consL (callV (consL (getB 1) nilL) maxD) nilL))))))
def m__law_most : List D → M D := fnM 1 4 b__law_most
def b_is_span : Ga → M (Ct × Ga) :=
  (seqM (ifM (orT (notT (tst (callV (consL (getS 0) (consL (cI 2) nilL)) m_is_tuple_of))) (notT (tst (callV (consL (bin (getS 0) (cI 0) getD') (consL (cI 0) (consL (cI 1000) nilL))) m_is_within)))) (retM (cB false)) nextM)
    (retM (callV (consL (bin (getS 0) (cI 1) getD') (consL (bin (getS 0) (cI 0) getD') (consL (cI 1000) nilL))) m_is_within)))
def m_is_span : List D → M D := fnM 1 1 b_is_span
def b__law_first : Ga → M (Ct × Ga) :=
  (seqM (forS (anyM (callV (consL (callV (consL (getS 0) nilL) m__law_common) nilL) m__law_spans_of)) (bndT 2 (bndCons (bndN 2) (bndCons (bndN 3) bndNil))) (ifM (tst (bin (bin (bin (getS 3) (getS 2) subD) (cI 1) addD) (getS 1) geD)) (retM (kb (getS 2))) nextM))
    (retM cN))
def m__law_first : List D → M D := fnM 2 4 b__law_first
def b_is_office : Ga → M (Ct × Ga) :=
  (seqM (ifM (orT (notT (tst (callV (consL (getS 0) (consL (cTy "tuple") nilL)) isa2D))) (orT (notT (tst (chn (cI 1) (callV (consL (getS 0) nilL) len2D) (cI 5) leD leD))) (notT (tst (callV (consL (lcM [1] (anyM (getS 0)) (bndN 1) yesT (callV (consL (getS 1) nilL) m_is_span)) nilL) allD))))) (retM (cB false)) nextM)
    (retM (callV (consL (lcM [1, 2] (zpM (getS 0) (slV (getS 0) (smO (cI 1)) noO)) (bndT 2 (bndCons (bndN 1) (bndCons (bndN 2) bndNil))) yesT (bin (bin (bin (getS 1) (cI 1) getD') (cI 1) addD) (bin (getS 2) (cI 0) getD') ltD)) nilL) allD)))
def m_is_office : List D → M D := fnM 1 3 b_is_office
def b_check_offices : Ga → M (Ct × Ga) :=
  (seqM (ifM (orT (notT (tst (callV (consL (getS 0) (consL (cTy "tuple") nilL)) isa2D))) (notT (tst (chn (cI 1) (callV (consL (getS 0) nilL) len2D) (cI 6) leD leD)))) (raiseM ("NoOffices", none)) nextM)
    (ifM (notT (tst (callV (consL (lcM [1] (anyM (getS 0)) (bndN 1) yesT (callV (consL (getS 1) nilL) m_is_office)) nilL) allD))) (raiseM ("NoOffices", none)) nextM))
def m_check_offices : List D → M D := fnM 1 2 b_check_offices
def b_common : Ga → M (Ct × Ga) :=
  (seqM (exprM (callV (consL (getS 0) nilL) m_check_offices))
    (retM (callV (consL (callV (consL (getS 0) nilL) m_raw_common) nilL) tupleD)))
def m_common : List D → M D := fnM 1 1 b_common
def b_first_moment : Ga → M (Ct × Ga) :=
  (seqM (exprM (callV (consL (getS 0) nilL) m_check_offices))
    (seqM (ifM (notT (tst (callV (consL (getS 1) (consL (cI 1) (consL (cI 200) nilL))) m_is_within))) (raiseM ("NoLong", none)) nextM)
    (seqM (setM 2 (lcM [3, 4] (anyM (callV (consL (getS 0) nilL) m_raw_common)) (bndT 2 (bndCons (bndN 3) (bndCons (bndN 4) bndNil))) (tst (bin (bin (bin (getS 4) (getS 3) subD) (cI 1) addD) (getS 1) geD)) (getS 3)))
    (retM (ifV (tst (bin (callV (consL (getB 2) nilL) len2D) (cI 0) gtD)) (kb (bin (getB 2) (cI 0) getD')) cN)))))
def m_first_moment : List D → M D := fnM 2 5 b_first_moment
def b_most_at : Ga → M (Ct × Ga) :=
  (seqM (exprM (callV (consL (getS 0) nilL) m_check_offices))
    (seqM (setM 1 (dispK [((cI 0), (cB true))]))
    (seqM (forS (anyM (getS 0)) (bndN 2) (updM 1 (dcM [3, 4] (anyM (getS 2)) (bndT 2 (bndCons (bndN 3) (bndCons (bndN 4) bndNil))) yesT (getS 3) (cB true))))
    (seqM (fzM 1 (setM 5 (lcM [6] (anyM (getS 1)) (bndN 6) yesT (tupV (consL (una (callV (consL (getS 0) (consL (getS 6) nilL)) m_lets_at) negD) (consL (getS 6) nilL))))))
    (retM (tupV (consL (bin (callV (consL (getB 5) nilL) minD) (cI 1) getD') (consL (una (bin (callV (consL (getB 5) nilL) minD) (cI 0) getD') negD) nilL))))))))
def m_most_at : List D → M D := fnM 1 7 b_most_at
def b_strictest : Ga → M (Ct × Ga) :=
  (seqM (exprM (callV (consL (getS 0) nilL) m_check_offices))
    (seqM (setM 1 (lcM [2] (anyM (getS 0)) (bndN 2) yesT (callV (consL (getS 2) nilL) m_size_of)))
    (retM (methV "list" (getB 1) (consL (callV (consL (getB 1) nilL) minD) nilL) indexD))))
def m_strictest : List D → M D := fnM 1 3 b_strictest
def b_moments_many : Ga → M (Ct × Ga) :=
  (seqM (exprM (callV (consL (getS 0) nilL) m_check_offices))
    (retM (callV (consL (callV (consL (getS 0) nilL) m_raw_common) nilL) m_size_of)))
def m_moments_many : List D → M D := fnM 1 1 b_moments_many
def b_longer_without : Ga → M (Ct × Ga) :=
  (seqM (exprM (callV (consL (getS 0) nilL) m_check_offices))
    (seqM (setM 1 (lcM [2] (rgM (consL (callV (consL (getS 0) nilL) len2D) nilL)) (bndN 2) yesT (callV (consL (callV (consL (bin (slV (getS 0) noO (smO (getS 2))) (slV (getS 0) (smO (bin (getS 2) (cI 1) addD)) noO) addD) nilL) m_raw_common) nilL) m_size_of)))
    (retM (methV "list" (getB 1) (consL (callV (consL (getB 1) nilL) maxD) nilL) indexD))))
def m_longer_without : List D → M D := fnM 1 3 b_longer_without
def b__law_is_right (hd : V) : Ga → M (Ct × Ga) :=
  (seqM (parM [2, 3] (consS (callV (consL (getS 1) nilL) m__law_common) (consS (callV (consL (getS 1) nilL) reprD) nilS)))
    (seqM (setSM 4 (callV (consL (callV (consL (getS 2) nilL) m__law_spans_of) nilL) tupleD))
    (seqM (ifM (tst (bin (callV (consL (lstV (consL (callV (consL (getS 1) nilL) m_common) (consL (callV (consL (getS 1) nilL) m_common) (consL (callV (consL (getS 1) nilL) m_moments_many) nilL)))) nilL) reprD) (callV (consL (lstV (consL (getS 4) (consL (getS 4) (consL (callV (consL (getS 2) nilL) len2D) nilL)))) nilL) reprD) neuD)) (retM (cB false)) nextM)
    (seqM (forS (anyM (lstV (consL (cI 1) (consL (cI 200) (consL (bin (cI 1) (callV (consL (getS 0) (consL (cI 12) nilL)) (m__law_draw hd)) addD) nilL))))) (bndN 5) (ifM (tst (bin (callV (consL (callV (consL (getS 1) (consL (getS 5) nilL)) m_first_moment) nilL) reprD) (callV (consL (callV (consL (getS 1) (consL (getS 5) nilL)) m__law_first) nilL) reprD) neuD)) (retM (cB false)) nextM))
    (seqM (setM 6 (lcM [7] (anyM (getS 1)) (bndN 7) yesT (callV (consL (lcM [8, 9] (anyM (getS 7)) (bndT 2 (bndCons (bndN 8) (bndCons (bndN 9) bndNil))) yesT (bin (bin (getS 9) (getS 8) subD) (cI 1) addD)) nilL) sumD)))
    (seqM (ifM (tst (bin (callV (consL (lstV (consL (callV (consL (getS 1) nilL) m_most_at) (consL (callV (consL (getS 1) nilL) m_strictest) nilL))) nilL) reprD) (callV (consL (lstV (consL (callV (consL (getS 1) nilL) m__law_most) (consL (methV "list" (getB 6) (consL (callV (consL (getB 6) nilL) minD) nilL) indexD) nilL))) nilL) reprD) neuD)) (retM (cB false)) nextM)
    (seqM (ifM (tst (bin (callV (consL (getS 1) nilL) len2D) (cI 1) gtD)) (seqM (setM 10 (lcM [11] (rgM (consL (callV (consL (getS 1) nilL) len2D) nilL)) (bndN 11) yesT (callV (consL (callV (consL (bin (slV (getS 1) noO (smO (getS 11))) (slV (getS 1) (smO (bin (getS 11) (cI 1) addD)) noO) addD) nilL) m__law_common) nilL) len2D)))
    (ifM (orT (tst (bin (callV (consL (callV (consL (getS 1) nilL) m_longer_without) nilL) reprD) (callV (consL (methV "list" (getB 10) (consL (callV (consL (getB 10) nilL) maxD) nilL) indexD) nilL) reprD) neuD)) (tst (bin (callV (consL (getB 10) nilL) maxD) (callV (consL (getS 2) nilL) len2D) ltD))) (retM (cB false)) nextM)) nextM)
    (seqM (setSM 12 (callV (consL (callV (consL (getS 0) (consL (callV (consL (getS 1) nilL) listD) nilL)) (m__law_shuffled hd)) nilL) tupleD))
    (retM (andV (bin (callV (consL (getS 12) nilL) m_common) (getS 4) equD) (andV (bin (callV (consL (getS 12) nilL) m_most_at) (callV (consL (getS 1) nilL) m_most_at) equD) (bin (callV (consL (getS 1) nilL) reprD) (getS 3) equD))))))))))))
def m__law_is_right (hd : V) : List D → M D := fnM 2 13 (b__law_is_right hd)
def b_law (hd : V) : Ga → M (Ct × Ga) :=
  (seqM (setSM 2 (tupV (consL (tupV (consL (tupV (consL (cI 0) (consL (cI 4) nilL))) (consL (tupV (consL (cI 8) (consL (cI 9) nilL))) nilL))) (consL (tupV (consL (tupV (consL (cI 2) (consL (cI 8) nilL))) nilL)) (consL (tupV (consL (tupV (consL (cI 3) (consL (cI 3) nilL))) (consL (tupV (consL (cI 8) (consL (cI 20) nilL))) nilL))) nilL)))))
    (seqM (ifM (orT (tst (bin (callV (consL (getS 2) nilL) m_common) (tupV (consL (tupV (consL (cI 3) (consL (cI 3) nilL))) (consL (tupV (consL (cI 8) (consL (cI 8) nilL))) nilL))) neuD)) (orT (tst (bin (callV (consL (getS 2) nilL) m_moments_many) (cI 2) neuD)) (tst (bin (callV (consL (getS 2) (consL (cI 1) nilL)) m_first_moment) (cI 3) neuD)))) (retM (cB false)) nextM)
    (seqM (ifM (orT (tst (bin (callV (consL (getS 2) (consL (cI 2) nilL)) m_first_moment) cN isNotD)) (orT (tst (bin (callV (consL (getS 2) nilL) m_most_at) (tupV (consL (cI 3) (consL (cI 3) nilL))) neuD)) (tst (bin (callV (consL (getS 2) nilL) m_strictest) (cI 0) neuD)))) (retM (cB false)) nextM)
    (seqM (ifM (orT (tst (bin (callV (consL (getS 2) nilL) m_longer_without) (cI 2) neuD)) (tst (bin (callV (consL (tupV (consL (tupV (consL (tupV (consL (cI 1) (consL (cI 2) nilL))) (consL (tupV (consL (cI 4) (consL (cI 4) nilL))) nilL))) nilL)) nilL) m_common) (tupV (consL (tupV (consL (cI 1) (consL (cI 2) nilL))) (consL (tupV (consL (cI 4) (consL (cI 4) nilL))) nilL))) neuD))) (retM (cB false)) nextM)
    (seqM (forS (rgM (consL (cI 5) nilL)) (bndN 3) (seqM (setSM 4 (callV (consL (getS 1) (consL (lstV (consL (cI 3) (consL (cI 8) (consL (cI 30) nilL)))) nilL)) (m__law_some hd)))
    (seqM (setSM 2 (callV (consL (lcM [5] (rgM (consL (bin (cI 1) (callV (consL (getS 1) (consL (cI 4) nilL)) (m__law_draw hd)) addD) nilL)) (bndN 5) yesT (callV (consL (getS 1) (consL (getS 4) nilL)) (m__law_office hd))) nilL) tupleD))
    (ifM (notT (tst (callV (consL (getS 1) (consL (getS 2) nilL)) (m__law_is_right hd)))) (retM (cB false)) nextM))))
    (retM (cB true)))))))
/-! ### what the top has written -/
structure TX (P : Program) (w : World) (K : PySem.W.Frag) (mg : Str → Option Value) where
  a_is_integer : Addr
  d_is_integer : FuncData
  F_is_integer : Fun K "is_integer" "is_integer" s_is_integer a_is_integer d_is_integer
  B_is_integer : Binds K d_is_integer ["thing"] []
  g_is_integer : mg "is_integer" = some (.ref a_is_integer)
  a_is_within : Addr
  d_is_within : FuncData
  F_is_within : Fun K "is_within" "is_within" s_is_within a_is_within d_is_within
  B_is_within : Binds K d_is_within ["thing", "least", "most"] []
  g_is_within : mg "is_within" = some (.ref a_is_within)
  a_is_tuple_of : Addr
  d_is_tuple_of : FuncData
  F_is_tuple_of : Fun K "is_tuple_of" "is_tuple_of" s_is_tuple_of a_is_tuple_of d_is_tuple_of
  B_is_tuple_of : Binds K d_is_tuple_of ["thing", "size"] []
  g_is_tuple_of : mg "is_tuple_of" = some (.ref a_is_tuple_of)
  a_is_span : Addr
  d_is_span : FuncData
  F_is_span : Fun K "is_span" "is_span" s_is_span a_is_span d_is_span
  B_is_span : Binds K d_is_span ["thing"] []
  g_is_span : mg "is_span" = some (.ref a_is_span)
  a_is_office : Addr
  d_is_office : FuncData
  F_is_office : Fun K "is_office" "is_office" s_is_office a_is_office d_is_office
  B_is_office : Binds K d_is_office ["thing"] []
  g_is_office : mg "is_office" = some (.ref a_is_office)
  a_check_offices : Addr
  d_check_offices : FuncData
  F_check_offices : Fun K "check_offices" "check_offices" s_check_offices a_check_offices d_check_offices
  B_check_offices : Binds K d_check_offices ["offices"] []
  g_check_offices : mg "check_offices" = some (.ref a_check_offices)
  a_shared : Addr
  d_shared : FuncData
  F_shared : Fun K "shared" "shared" s_shared a_shared d_shared
  B_shared : Binds K d_shared ["one", "other"] []
  g_shared : mg "shared" = some (.ref a_shared)
  a_raw_common : Addr
  d_raw_common : FuncData
  F_raw_common : Fun K "raw_common" "raw_common" s_raw_common a_raw_common d_raw_common
  B_raw_common : Binds K d_raw_common ["offices"] []
  g_raw_common : mg "raw_common" = some (.ref a_raw_common)
  a_common : Addr
  d_common : FuncData
  F_common : Fun K "common" "common" s_common a_common d_common
  B_common : Binds K d_common ["offices"] []
  g_common : mg "common" = some (.ref a_common)
  a_first_moment : Addr
  d_first_moment : FuncData
  F_first_moment : Fun K "first_moment" "first_moment" s_first_moment a_first_moment d_first_moment
  B_first_moment : Binds K d_first_moment ["offices", "long"] []
  g_first_moment : mg "first_moment" = some (.ref a_first_moment)
  a_lets_at : Addr
  d_lets_at : FuncData
  F_lets_at : Fun K "lets_at" "lets_at" s_lets_at a_lets_at d_lets_at
  B_lets_at : Binds K d_lets_at ["offices", "moment"] []
  g_lets_at : mg "lets_at" = some (.ref a_lets_at)
  a_most_at : Addr
  d_most_at : FuncData
  F_most_at : Fun K "most_at" "most_at" s_most_at a_most_at d_most_at
  B_most_at : Binds K d_most_at ["offices"] []
  g_most_at : mg "most_at" = some (.ref a_most_at)
  a_size_of : Addr
  d_size_of : FuncData
  F_size_of : Fun K "size_of" "size_of" s_size_of a_size_of d_size_of
  B_size_of : Binds K d_size_of ["spans"] []
  g_size_of : mg "size_of" = some (.ref a_size_of)
  a_strictest : Addr
  d_strictest : FuncData
  F_strictest : Fun K "strictest" "strictest" s_strictest a_strictest d_strictest
  B_strictest : Binds K d_strictest ["offices"] []
  g_strictest : mg "strictest" = some (.ref a_strictest)
  a_moments_many : Addr
  d_moments_many : FuncData
  F_moments_many : Fun K "moments_many" "moments_many" s_moments_many a_moments_many d_moments_many
  B_moments_many : Binds K d_moments_many ["offices"] []
  g_moments_many : mg "moments_many" = some (.ref a_moments_many)
  a_longer_without : Addr
  d_longer_without : FuncData
  F_longer_without : Fun K "longer_without" "longer_without" s_longer_without a_longer_without d_longer_without
  B_longer_without : Binds K d_longer_without ["offices"] []
  g_longer_without : mg "longer_without" = some (.ref a_longer_without)
  a__law_hand : Addr
  d__law_hand : FuncData
  F__law_hand : Fun K "_law_hand" "_law_hand" s__law_hand a__law_hand d__law_hand
  B__law_hand : Binds K d__law_hand ["script"] []
  g__law_hand : mg "_law_hand" = some (.ref a__law_hand)
  a__law_draw : Addr
  d__law_draw : FuncData
  F__law_draw : Fun K "_law_draw" "_law_draw" s__law_draw a__law_draw d__law_draw
  B__law_draw : Binds K d__law_draw ["hand", "size"] []
  g__law_draw : mg "_law_draw" = some (.ref a__law_draw)
  a__law_some : Addr
  d__law_some : FuncData
  F__law_some : Fun K "_law_some" "_law_some" s__law_some a__law_some d__law_some
  B__law_some : Binds K d__law_some ["hand", "things"] []
  g__law_some : mg "_law_some" = some (.ref a__law_some)
  a__law_shuffled : Addr
  d__law_shuffled : FuncData
  F__law_shuffled : Fun K "_law_shuffled" "_law_shuffled" s__law_shuffled a__law_shuffled d__law_shuffled
  B__law_shuffled : Binds K d__law_shuffled ["hand", "things"] []
  g__law_shuffled : mg "_law_shuffled" = some (.ref a__law_shuffled)
  a__law_office : Addr
  d__law_office : FuncData
  F__law_office : Fun K "_law_office" "_law_office" s__law_office a__law_office d__law_office
  B__law_office : Binds K d__law_office ["hand", "far_now"] []
  g__law_office : mg "_law_office" = some (.ref a__law_office)
  a__law_lets : Addr
  d__law_lets : FuncData
  F__law_lets : Fun K "_law_lets" "_law_lets" s__law_lets a__law_lets d__law_lets
  B__law_lets : Binds K d__law_lets ["office", "moment"] []
  g__law_lets : mg "_law_lets" = some (.ref a__law_lets)
  a__law_common : Addr
  d__law_common : FuncData
  F__law_common : Fun K "_law_common" "_law_common" s__law_common a__law_common d__law_common
  B__law_common : Binds K d__law_common ["offices"] []
  g__law_common : mg "_law_common" = some (.ref a__law_common)
  a__law_spans_of : Addr
  d__law_spans_of : FuncData
  F__law_spans_of : Fun K "_law_spans_of" "_law_spans_of" s__law_spans_of a__law_spans_of d__law_spans_of
  B__law_spans_of : Binds K d__law_spans_of ["moments_now"] []
  g__law_spans_of : mg "_law_spans_of" = some (.ref a__law_spans_of)
  a__law_first : Addr
  d__law_first : FuncData
  F__law_first : Fun K "_law_first" "_law_first" s__law_first a__law_first d__law_first
  B__law_first : Binds K d__law_first ["offices", "long"] []
  g__law_first : mg "_law_first" = some (.ref a__law_first)
  a__law_most : Addr
  d__law_most : FuncData
  F__law_most : Fun K "_law_most" "_law_most" s__law_most a__law_most d__law_most
  B__law_most : Binds K d__law_most ["offices"] []
  g__law_most : mg "_law_most" = some (.ref a__law_most)
  a__law_is_right : Addr
  d__law_is_right : FuncData
  F__law_is_right : Fun K "_law_is_right" "_law_is_right" s__law_is_right a__law_is_right d__law_is_right
  B__law_is_right : Binds K d__law_is_right ["hand", "offices"] []
  g__law_is_right : mg "_law_is_right" = some (.ref a__law_is_right)
  a_law : Addr
  d_law : FuncData
  F_law : Fun K "law" "law" s_law a_law d_law
  B_law : Binds K d_law ["script"] []
  g_law : mg "law" = some (.ref a_law)
  n_abs : mg "abs" = none
  n_all : mg "all" = none
  n_any : mg "any" = none
  n_bool : mg "bool" = none
  n_int : mg "int" = none
  n_isinstance : mg "isinstance" = none
  n_len : mg "len" = none
  n_list : mg "list" = none
  n_max : mg "max" = none
  n_min : mg "min" = none
  n_range : mg "range" = none
  n_repr : mg "repr" = none
  n_sorted : mg "sorted" = none
  n_sum : mg "sum" = none
  n_tuple : mg "tuple" = none
  n_zip : mg "zip" = none
  t_MOST_LONG : Tok
  c_MOST_LONG : mg "MOST_LONG" = some (.int 200 t_MOST_LONG)
  t_MOST_MOMENT : Tok
  c_MOST_MOMENT : mg "MOST_MOMENT" = some (.int 1000 t_MOST_MOMENT)
  t_MOST_OFFICES : Tok
  c_MOST_OFFICES : mg "MOST_OFFICES" = some (.int 6 t_MOST_OFFICES)
  t_MOST_SPANS : Tok
  c_MOST_SPANS : mg "MOST_SPANS" = some (.int 5 t_MOST_SPANS)
  y_NoLong : Addr
  x_NoLong : ExCls K mg "NoLong" y_NoLong
  y_NoOffices : Addr
  x_NoOffices : ExCls K mg "NoOffices" y_NoOffices
section
variable {P : Program} {w : World} {K : PySem.W.Frag} {mg : Str → Option Value}

theorem ok__law_draw (T : TX P w K mg) (base : Heap) (a g : Addr) (k : Nat) : FnG P w K mg base (L2.CX P w) (k + 1) T.a__law_draw T.d__law_draw ["hand", "size"] (spM K0 mg (ghHand a g) .f (m__law_draw (.ref a))) := by
  refine okXG T.F__law_draw sc__law_draw (fun vs H Q E h => ?_) fun cdv A outer s H vs Q E hr gd hsp => ?_
  · obtain ⟨P0, ds, _, _, _, r, h⟩ := h
    unfold m__law_draw at h
    split at h
    · exact r.length
    · exact h.elim
  obtain ⟨P0, ds, zp, mu, gG, r, h⟩ := hsp
  unfold m__law_draw at h
  split at h
  case h_2 => exact h.elim
  rename_i v m
  split at h
  case isFalse => exact h.elim
  rename_i c
  obtain ⟨rfl, m0, m1⟩ := c
  obtain ⟨w1, rfl, rb⟩ : ∃ w1, vs = [.ref a, .int m] ∧ True := by
    cases r with
    | cons r1 r2 =>
      cases r2 with
      | cons r3 r4 =>
        cases r4
        cases r1
        cases r3
        exact ⟨0, rfl, trivial⟩
  have fin : ∀ (i : Int) (H' : Hp), 0 ≤ i → i < m → Kx (ghHand a g).Z H H' → HandOk a g H' → Q (.int i) H' := fun i H' h0 h1 kx gG' => by
    have := h i.toNat (by omega) (.int i) H' kx gG' (by
      show Rp K0 H' P0 (.int i) (.int (i.toNat : Int))
      rw [Int.toNat_of_nonneg h0]
      exact .int i)
    exact this
  obtain ⟨ns, idx, cur, mix, cnt, ha, hg, hne, hns, x0, u0, s0, s1, c0⟩ := gG
  have mod_b : ∀ (x q : Int), 0 < q → 0 ≤ x % q ∧ x % q < q := fun x q hq => ⟨Int.emod_nonneg _ (by omega), Int.emod_lt_of_pos _ hq⟩
  -- what comes behind the first question
  have tail : ∃ t, PSs (cxOf (L2.CX P w) P w K mg base ["hand", "size", "cell", "digit", "number"] "_law_draw" (defScope s__law_draw) T.a__law_draw cdv A outer s H E) ((defBody s__law_draw).drop 1) t ∧ ∀ (H1 : Hp) (z : Option V) (idx cur mix cnt : Int), 0 ≤ idx → 0 ≤ cur → 0 ≤ mix → mix < 2147483629 → 0 ≤ cnt → Kx (ghHand a g).Z H H1 → H1 a = some (.lst [.ref g, .int idx, .int cur, .int mix, .int cnt]) → H1 g = some (.lst (ns.map V.int)) →
      t { nx := fun _ H' => Q .non H', rt := Q } [some (.ref a), some (.int m), z, none, none] H1 := by
    refine ⟨_, (pss_cons (ps_if (pt_cmpR op_gt (pe_ix ix_list (pv 0) pe_int (fun _ _ => rfl)) pe_int (nomark _))
        (pss_cons (ps_set (i := 3) sc__law_draw.nd rfl (.inl rfl) (pe_op op_mod (pe_callTy call_int1 (by rfl) T.n_int bt_int (pa_cons (pe_ix ix_list (pv 0) pe_int (fun _ _ => rfl)) pa_nil)) (pv 1)))
          (pss_cons (ps_asg (pe_op op_fdiv (pe_ix ix_list (pv 0) pe_int (fun _ _ => rfl)) (pv 1)) (pg_sub (pv 0) pe_int set_list))
            (pss_one (ps_ret (pv 3))))) pss_nil)
    (pss_cons (ps_asg (pe_op op_add (pe_ix ix_list (pv 0) pe_int (fun _ _ => rfl)) pe_int) (pg_sub (pv 0) pe_int set_list))
    (pss_cons (ps_set (i := 4) sc__law_draw.nd rfl (.inl rfl) (pe_op op_mod (pe_callTy call_int1 (by rfl) T.n_int bt_int (pa_cons (pe_op op_mul (pe_callTy call_int1 (by rfl) T.n_int bt_int (pa_cons (pe_op op_add (pe_ix ix_list (pv 0) pe_int (fun _ _ => rfl)) (pe_op op_mul pe_int (pe_ix ix_list (pv 0) pe_int (fun _ _ => rfl)))) pa_nil)) pe_int) pa_nil)) pe_int))
    (pss_cons (ps_set (i := 4) sc__law_draw.nd rfl (.inl rfl) (pe_op op_mod (pe_callTy call_int1 (by rfl) T.n_int bt_int (pa_cons (pe_op op_mul (pv 4) (pe_op op_add (pe_op op_fdiv (pv 4) pe_int) pe_int)) pa_nil)) pe_int))
    (pss_cons (ps_set (i := 4) sc__law_draw.nd rfl (.inl rfl) (pe_op op_mod (pe_callTy call_int1 (by rfl) T.n_int bt_int (pa_cons (pe_op op_mul (pv 4) (pe_op op_add (pe_op op_fdiv (pv 4) pe_int) pe_int)) pa_nil)) pe_int))
    (pss_one (ps_ret (pe_op op_mod (pe_callTy call_int1 (by rfl) T.n_int bt_int (pa_cons (pe_op op_fdiv (pv 4) pe_int) pa_nil)) (pv 1))))))))), ?_⟩
    intro H1 z idx cur mix cnt x0 u0 s0 s1 c0 kx1 ha hg
    refine vl_test (vl_gt (vl_ix (vl_var rfl) ha vl_c rfl) vl_c) ?_
    by_cases hc : 0 < cur
    · rw [if_pos (decide_eq_true hc)]
      show tSeq _ _ _ _ _
      refine vl_asg (vl_mod (vl_int (vl_ix (vl_var rfl) ha vl_c rfl)) (vl_var rfl) m0) ?_
      refine vl_put (v := .int (cur / m)) (n := 2) (vl_fdiv (vl_ix (vl_var rfl) ha vl_c rfl) (vl_var rfl) ⟨m0, m1⟩) (vl_var rfl) ha vl_c rfl ?_
      refine vl_var rfl _ ?_
      exact fin _ _ (mod_b cur m m0).1 (mod_b cur m m0).2 (fun b o nz e => by rw [upd_ne fun y => nz (.inl y)]; exact kx1 b o nz e) ⟨ns, idx, cur / m, mix, cnt, upd_same, by rw [upd_ne (Ne.symm hne)]; exact hg, hne, hns, x0, Int.ediv_nonneg u0 (by omega), s0, s1, c0⟩
    rw [if_neg (fun y => hc (of_decide_eq_true y))]
    show tSeq _ _ _ _ _
    refine vl_put (v := .int (cnt + 1)) (n := 4) (vl_add (vl_ix (vl_var rfl) ha vl_c rfl) vl_c) (vl_var rfl) ha vl_c rfl ?_
    have ha1 : upd H1 a (.lst ([V.ref g, .int idx, .int cur, .int mix, .int cnt].set 4 (.int (cnt + 1)))) a = some (.lst [.ref g, .int idx, .int cur, .int mix, .int (cnt + 1)]) := upd_same
    refine vl_asg (vl_mod (vl_int (vl_mul (vl_int (vl_add (vl_ix (vl_var rfl) ha1 vl_c rfl) (vl_mul vl_c (vl_ix (vl_var rfl) ha1 vl_c rfl) (.inl (by decide))))) vl_c (.inr (by decide)))) vl_c (by decide)) ?_
    generalize hN : ((mix + 7919 * (cnt + 1)) * 48271) % 2147483647 = N
    have bN : 0 ≤ N ∧ N < 2147483647 := hN ▸ mod_b _ _ (by decide)
    refine vl_asg (vl_mod (vl_int (vl_mul (vl_var rfl) (vl_add (vl_fdiv (vl_var rfl) vl_c (by decide)) vl_c) (.inl (by omega)))) vl_c (by decide)) ?_
    generalize hM : (N * (N / 1009 + 69621)) % 2147483647 = N2
    have bM : 0 ≤ N2 ∧ N2 < 2147483647 := hM ▸ mod_b _ _ (by decide)
    refine vl_asg (vl_mod (vl_int (vl_mul (vl_var rfl) (vl_add (vl_fdiv (vl_var rfl) vl_c (by decide)) vl_c) (.inl (by omega)))) vl_c (by decide)) ?_
    refine vl_mod (vl_int (vl_fdiv (vl_var rfl) vl_c (by decide))) (vl_var rfl) m0 _ ?_
    exact fin _ _ (mod_b _ m m0).1 (mod_b _ m m0).2 (fun b o nz e => by rw [upd_ne fun y => nz (.inl y)]; exact kx1 b o nz e) ⟨ns, idx, cur, mix, cnt + 1, upd_same, by rw [upd_ne (Ne.symm hne)]; exact hg, hne, hns, x0, u0, s0, s1, by omega⟩
  obtain ⟨tt, ht, tail⟩ := tail
  refine ⟨_, pss_cons (ps_if (PW.pt (pw_and (pt_cmpR op_eq (pe_ix ix_list (pv 0) pe_int (fun _ _ => rfl)) pe_int (nomark _)) (pw_and1 (pt_cmpR op_lt (pe_ix ix_list (pv 0) pe_int (fun _ _ => rfl)) (pe_callB call_len_seq (by rfl) T.n_len bt_len (pa_cons (pe_ix ix_list (pv 0) pe_int (fun _ _ => rfl)) pa_nil)) (nomark _)))))
        (pss_cons (ps_set (i := 2) sc__law_draw.nd rfl (.inl rfl) (pe_ix ix_list (pe_ix ix_list (pv 0) pe_int (fun _ _ => rfl)) (pe_ix ix_list (pv 0) pe_int (fun _ _ => rfl)) (fun _ _ => rfl)))
          (pss_cons (ps_asg (pe_op op_add (pe_ix ix_list (pv 0) pe_int (fun _ _ => rfl)) pe_int) (pg_sub (pv 0) pe_int set_list))
            (pss_cons (ps_asg (pe_op op_mod (pe_callTy call_int1 (by rfl) T.n_int bt_int (pa_cons (pe_op op_add (pe_op op_add (pe_op op_mul (pe_ix ix_list (pv 0) pe_int (fun _ _ => rfl)) pe_int) (pe_op op_mul (pv 2) pe_int)) pe_int) pa_nil)) pe_int) (pg_sub (pv 0) pe_int set_list))
              (pss_one (ps_if (pt_cmpR op_ge (pv 2) (pe_op op_pow pe_int pe_int) (nomark _)) (pss_one (ps_asg (pv 2) (pg_sub (pv 0) pe_int set_list))) pss_nil))))) pss_nil)
    ht, ?_⟩
  refine vl_test (vl_eq (vl_ix (vl_var rfl) ha vl_c rfl) vl_c) ?_
  by_cases hq : cur = 0
  case neg =>
    rw [if_neg (fun y => hq (of_decide_eq_true y))]
    exact tail H none idx cur mix cnt x0 u0 s0 s1 c0 .refl ha hg
  rw [if_pos (decide_eq_true hq)]
  refine vl_test (vl_lt (vl_ix (vl_var rfl) ha vl_c rfl) (vl_len (vl_ix (vl_var rfl) ha vl_c rfl) hg)) ?_
  by_cases hl : idx < ((ns.map V.int).length : Nat)
  case neg =>
    rw [if_neg (fun y => hl (of_decide_eq_true y))]
    exact tail H none idx cur mix cnt x0 u0 s0 s1 c0 .refl ha hg
  rw [if_pos (decide_eq_true hl)]
  obtain ⟨j, rfl⟩ : ∃ j : Nat, idx = (j : Int) := ⟨idx.toNat, by omega⟩
  have hj : j < ns.length := by rw [List.length_map] at hl; omega
  have hx : (ns.map V.int)[j]? = some (.int ns[j]) := by rw [List.getElem?_map, List.getElem?_eq_getElem hj]; rfl
  have n0 : 0 ≤ ns[j] := hns _ (List.getElem_mem hj)
  generalize ns[j] = n at hx n0
  show tSeq _ _ _ _ _
  refine vl_asg (v := .int n) (vl_ix (vl_ix (vl_var rfl) ha vl_c rfl) hg (vl_ix (vl_var rfl) ha vl_c rfl) (atI_nat hx)) ?_
  refine vl_put (v := .int (j + 1)) (n := 1) (vl_add (vl_ix (vl_var rfl) ha vl_c rfl) vl_c) (vl_var rfl) ha vl_c rfl ?_
  have ha1 : upd H a (.lst ([V.ref g, .int j, .int cur, .int mix, .int cnt].set 1 (.int ((j : Int) + 1)))) a = some (.lst [.ref g, .int ((j : Int) + 1), .int cur, .int mix, .int cnt]) := upd_same
  refine vl_put (n := 3) (vl_mod (vl_int (vl_add (vl_add (vl_mul (vl_ix (vl_var rfl) ha1 vl_c rfl) vl_c (.inr (by decide))) (vl_mul (vl_var rfl) vl_c (.inr (by decide)))) vl_c)) vl_c (by decide)) (vl_var rfl) ha1 vl_c rfl ?_
  have b3 := mod_b (mix * 69621 + n * 40692 + 29) 2147483629 (by decide)
  generalize (mix * 69621 + n * 40692 + 29) % 2147483629 = mix2 at b3
  rw [upd_upd]
  have ha2 : upd H a (.lst ([V.ref g, .int ((j : Int) + 1), .int cur, .int mix, .int cnt].set 3 (.int mix2))) a = some (.lst [.ref g, .int ((j : Int) + 1), .int cur, .int mix2, .int cnt]) := upd_same
  have hg2 : ∀ o, upd H a o g = some (.lst (ns.map V.int)) := fun o => by rw [upd_ne (Ne.symm hne)]; exact hg
  have kx2 : ∀ o, Kx (ghHand a g).Z H (upd H a o) := fun o b o' nz e => by rw [upd_ne fun y => nz (.inl y)]; exact e
  refine vl_test (vl_ge (vl_var rfl) (vl_pow vl_c vl_c ⟨by decide, by decide, by decide⟩)) ?_
  by_cases hb : (10 : Int) ^ (18 : Int).toNat ≤ n
  case neg =>
    rw [if_neg (fun y => hb (of_decide_eq_true y))]
    exact tail _ (some (.int n)) _ cur mix2 cnt (by omega) u0 b3.1 b3.2 c0 (kx2 _) ha2 (hg2 _)
  rw [if_pos (decide_eq_true hb)]
  refine vl_var rfl _ (vl_var rfl _ (vl_c _ ⟨a, _, 2, 2, rfl, rfl, ha2, rfl, ?_⟩))
  rw [upd_upd]
  exact tail _ (some (.int n)) ((j : Int) + 1) n mix2 cnt (by omega) n0 b3.1 b3.2 c0 (kx2 _) upd_same (hg2 _)

theorem ok_is_integer (T : TX P w K mg) (base : Heap) (a g : Addr) (k : Nat) : FnG P w K mg base (L2.CX P w) (k + 1) T.a_is_integer T.d_is_integer ["thing"] (spM K0 mg (ghHand a g) .f m_is_integer) :=
  fn_ok (.inl rfl) T.F_is_integer sc_is_integer k0_le fun cdv A' outer s H E P0 g0 zp p0 B =>
    (psv_one (psv_ret (.inl rfl) (pev_and (e_bi T.n_isinstance bt_isinstance (c_isa2 B) tame_isa2 (pav_cons (b_s (vS 0)) (pav_cons (e_cls T.n_int bt_int) pav_nil))) (pev_one (pev_not (e_bi T.n_isinstance bt_isinstance (c_isa2 B) tame_isa2 (pav_cons (b_s (vS 0)) (pav_cons (e_cls T.n_bool bt_bool) pav_nil))))))))
theorem ok_is_tuple_of (T : TX P w K mg) (base : Heap) (a g : Addr) (k : Nat) : FnG P w K mg base (L2.CX P w) (k + 1) T.a_is_tuple_of T.d_is_tuple_of ["thing", "size"] (spM K0 mg (ghHand a g) .f m_is_tuple_of) :=
  fn_ok (.inl rfl) T.F_is_tuple_of sc_is_tuple_of k0_le fun cdv A' outer s H E P0 g0 zp p0 B =>
    (psv_one (psv_ret (.inl rfl) (pev_and (e_bi T.n_isinstance bt_isinstance (c_isa2 B) tame_isa2 (pav_cons (b_s (vS 0)) (pav_cons (e_cls T.n_tuple bt_tuple) pav_nil))) (pev_one (pev_cmp (o_equ B) tame_equ (e_bi T.n_len bt_len (c_len2 B) tame_len2 (pav_cons (b_s (vS 0)) pav_nil)) (vS 1) (nomark _))))))
theorem ok_shared (T : TX P w K mg) (base : Heap) (a g : Addr) (k : Nat) : FnG P w K mg base (L2.CX P w) (k + 1) T.a_shared T.d_shared ["one", "other"] (spM K0 mg (ghHand a g) .f m_shared) :=
  fn_ok (.inl rfl) T.F_shared sc_shared k0_le fun cdv A' outer s H E P0 g0 zp p0 B =>
    (psv_cons (psv_set (i := 2) B.nd (by rfl) (by first | exact Or.inl rfl | exact Or.inr rfl) (pev_lst pav_nil))
    (psv_cons (psv_for passes_body B.calm (piv_any B (vS 0)) (pgv_tup B.kle B.calm (pgv_cons (gN 3 B) (pgv_cons (gN 4 B) pgv_nil))) (tame_t (tame_cons tame_n (tame_cons tame_n tame_nil))) (psv_one (psv_for passes_body B.calm (piv_any B (vS 1)) (pgv_tup B.kle B.calm (pgv_cons (gN 5 B) (pgv_cons (gN 6 B) pgv_nil))) (tame_t (tame_cons tame_n (tame_cons tame_n tame_nil))) (psv_one (psv_if (ptv_cmp o_le tame_le (e_bi T.n_max bt_max (c_max B) tame_max (pav_cons (b_s (vS 3)) (pav_cons (b_s (vS 5)) pav_nil))) (e_bi T.n_min bt_min (c_min B) tame_min (pav_cons (b_s (vS 4)) (pav_cons (b_s (vS 6)) pav_nil))) (nomark _)) (psv_one (psv_mexp (i := 2) mth_append PySem.F.slot_list_append PySem.F.type_list_append mt_append (pav_cons (s_f (pev_tup (pav_cons (s_f (e_bi T.n_max bt_max (c_max B) tame_max (pav_cons (b_s (vS 3)) (pav_cons (b_s (vS 5)) pav_nil)))) (pav_cons (s_f (e_bi T.n_min bt_min (c_min B) tame_min (pav_cons (b_s (vS 4)) (pav_cons (b_s (vS 6)) pav_nil)))) pav_nil)))) pav_nil))) psv_nil)))))
    (psv_one (psv_ret (.inl rfl) (e_bi T.n_sorted bt_sorted (c_sorted B) tame_sorted (pav_cons (vB 2) pav_nil))))))
theorem ok_lets_at (T : TX P w K mg) (base : Heap) (a g : Addr) (k : Nat) : FnG P w K mg base (L2.CX P w) (k + 1) T.a_lets_at T.d_lets_at ["offices", "moment"] (spM K0 mg (ghHand a g) .f m_lets_at) :=
  fn_ok (.inl rfl) T.F_lets_at sc_lets_at k0_le fun cdv A' outer s H E P0 g0 zp p0 B =>
    (psv_one (psv_ret (.inl rfl) (e_bi T.n_len bt_len (c_len2 B) tame_len2 (pav_cons (b_f (pev_lc B (piv_any B (vS 0)) (own := [(("office" : Str), 2)]) (blkOk_by (by rfl)) (fun _ _ _ _ _ => (gN 2 B.blk)) tame_n (by decide) (fun _ _ _ _ _ => (ptsv_one (ptv_val (e_bi T.n_any bt_any (c_any B.blk) tame_any (pav_cons (b_f (pev_lc B.blk (piv_any B.blk (vS 2)) (own := [(("first" : Str), 3), (("last" : Str), 4)]) (blkOk_by (by rfl)) (fun _ _ _ _ _ => (pgv_tup B.blk.blk.kle B.blk.blk.calm (pgv_cons (gN 3 B.blk.blk) (pgv_cons (gN 4 B.blk.blk) pgv_nil)))) (tame_t (tame_cons tame_n (tame_cons tame_n tame_nil))) (by decide) (fun _ _ _ _ _ => ptsv_nil) (fun _ _ _ _ _ => (s_f (pev_chain o_le o_le tame_le tame_le (vS 3) (vS 1) (vS 4)))))) pav_nil))))) (fun _ _ _ _ _ => (vS 2)))) pav_nil))))
theorem ok_size_of (T : TX P w K mg) (base : Heap) (a g : Addr) (k : Nat) : FnG P w K mg base (L2.CX P w) (k + 1) T.a_size_of T.d_size_of ["spans"] (spM K0 mg (ghHand a g) .f m_size_of) :=
  fn_ok (.inl rfl) T.F_size_of sc_size_of k0_le fun cdv A' outer s H E P0 g0 zp p0 B =>
    (psv_one (psv_ret (.inl rfl) (e_bi T.n_sum bt_sum (c_sum B) tame_sum (pav_cons (b_f (pev_lc B (piv_any B (vS 0)) (own := [(("first" : Str), 1), (("last" : Str), 2)]) (blkOk_by (by rfl)) (fun _ _ _ _ _ => (pgv_tup B.blk.kle B.blk.calm (pgv_cons (gN 1 B.blk) (pgv_cons (gN 2 B.blk) pgv_nil)))) (tame_t (tame_cons tame_n (tame_cons tame_n tame_nil))) (by decide) (fun _ _ _ _ _ => ptsv_nil) (fun _ _ _ _ _ => (s_f (pev_op (o_add B.blk) tame_add (pev_op o_sub tame_sub (vS 2) (vS 1)) e_int))))) pav_nil))))
theorem walk__law_hand (T : TX P w K mg) (base : Heap) (gh : Gh) (k : Nat) (cdv : Value) (A' : Around) (outer : List Env) (s : Shared) (H : Hp) (E : XK) (H1 : Hp) (P0 : Addr → Prop) (g0 : gh.G H1) (zp : ∀ b, gh.Z b → ¬ P0 b) (p0 : ∀ b, ¬ P0 b → ¬ gh.Z b → ∃ o, H1 b = some o ∧ Mb o) (sc : Addr) (ns : List Int)
    (S : Scr (cxOf (L2.CX P w) P w K mg base ["script", "cells", "cell"] "_law_hand" (defScope s__law_hand) T.a__law_hand cdv A' outer s H E) ⟨gh, K0, H1, P0, g0, zp, p0⟩ sc ns) (B : Bd (cxOf (L2.CX P w) P w K mg base ["script", "cells", "cell"] "_law_hand" (defScope s__law_hand) T.a__law_hand cdv A' outer s H E) ⟨gh, K0, H1, P0, g0, zp, p0⟩ (enOf mg E) k) :
    PSVs (cxOf (L2.CX P w) P w K mg base ["script", "cells", "cell"] "_law_hand" (defScope s__law_hand) T.a__law_hand cdv A' outer s H E) ⟨gh, K0, H1, P0, g0, zp, p0⟩ (enOf mg E) .f (defBody s__law_hand) (b__law_hand sc ns) :=
    (psv_cons (psv_setLc (i := 1) B (by rfl) (by rfl) (sw_true rfl rfl rfl (by rfl)) (piv_any B (s_f (pev_scrSlice (i := 0) S))) (own := [(("cell" : Str), 2)]) (blkOk_by (by rfl)) (fun _ _ _ _ _ => (gN 2 B.blk)) tame_n (by decide) (fun _ _ _ _ _ => ptsv_nil) (fun _ _ _ _ _ => (s_f (e_bi T.n_abs bt_abs (c_abs) tame_abs (pav_cons (b_f (e_ty T.n_int bt_int (c_int) tame_int (pav_cons (b_s (vS 2)) pav_nil))) pav_nil)))))
    (psv_one (psv_fz 1 (psv_ret (.inl rfl) (pev_lst (pav_cons (vS 1) (pav_cons (s_f e_int) (pav_cons (s_f e_int) (pav_cons (s_f (pev_op (o_add B) tame_add e_int (pev_op o_mulU tame_mulU e_int (e_bi T.n_len bt_len (c_len2 B) tame_len2 (pav_cons (vB 1) pav_nil))))) (pav_cons (s_f e_int) pav_nil))))))))))
theorem ok__law_lets (T : TX P w K mg) (base : Heap) (a g : Addr) (k : Nat) : FnG P w K mg base (L2.CX P w) (k + 1) T.a__law_lets T.d__law_lets ["office", "moment"] (spM K0 mg (ghHand a g) .f m__law_lets) :=
  fn_ok (.inl rfl) T.F__law_lets sc__law_lets k0_le fun cdv A' outer s H E P0 g0 zp p0 B =>
    (psv_one (psv_ret (.inl rfl) (e_bi T.n_any bt_any (c_any B) tame_any (pav_cons (b_f (pev_lc B (piv_any B (vS 0)) (own := [(("first" : Str), 2), (("last" : Str), 3)]) (blkOk_by (by rfl)) (fun _ _ _ _ _ => (pgv_tup B.blk.kle B.blk.calm (pgv_cons (gN 2 B.blk) (pgv_cons (gN 3 B.blk) pgv_nil)))) (tame_t (tame_cons tame_n (tame_cons tame_n tame_nil))) (by decide) (fun _ _ _ _ _ => ptsv_nil) (fun _ _ _ _ _ => (s_f (pev_chain o_le o_le tame_le tame_le (vS 2) (vS 1) (vS 3)))))) pav_nil))))
theorem ok__law_spans_of (T : TX P w K mg) (base : Heap) (a g : Addr) (k : Nat) : FnG P w K mg base (L2.CX P w) (k + 1) T.a__law_spans_of T.d__law_spans_of ["moments_now"] (spM K0 mg (ghHand a g) .f m__law_spans_of) :=
  fn_ok (.inl rfl) T.F__law_spans_of sc__law_spans_of k0_le fun cdv A' outer s H E P0 g0 zp p0 B =>
    (psv_cons (psv_set (i := 1) B.nd (by rfl) (by first | exact Or.inl rfl | exact Or.inr rfl) (pev_lst pav_nil))
    (psv_cons (psv_for passes_body B.calm (piv_any B (vS 0)) (gN 2 B) tame_n (psv_one (psv_if (PWV.pt (pwv_and (ptv_cmp o_gt tame_gt (e_bi T.n_len bt_len (c_len2 B) tame_len2 (pav_cons (vB 1) pav_nil)) e_int (nomark _)) (pwv_and1 (ptv_cmp (o_equ B) tame_equ (pev_get B (b_s (pev_get B (vB 1) (pev_un o_neg tame_neg e_int))) e_int) (pev_op o_sub tame_sub (vS 2) e_int) (nomark _))))) (psv_one (psv_sput (i := 1) true (fun _ => fun _ => rfl) B (pev_un o_neg tame_neg e_int) (s_f (pev_tup (pav_cons (pev_get B (b_s (pev_get B (vB 1) (pev_un o_neg tame_neg e_int))) e_int) (pav_cons (vS 2) pav_nil)))))) (psv_one (psv_mexp (i := 1) mth_append PySem.F.slot_list_append PySem.F.type_list_append mt_append (pav_cons (s_f (pev_tup (pav_cons (vS 2) (pav_cons (vS 2) pav_nil)))) pav_nil))))))
    (psv_one (psv_retO (i := 1) (by rfl) (by first | exact Or.inl rfl | exact Or.inr (Or.inl rfl) | exact Or.inr (Or.inr rfl))))))
theorem ok_is_within (T : TX P w K mg) (base : Heap) (a g : Addr) (k : Nat) : FnG P w K mg base (L2.CX P w) (k + 2) T.a_is_within T.d_is_within ["thing", "least", "most"] (spM K0 mg (ghHand a g) .f m_is_within) :=
  fn_ok (.inl rfl) T.F_is_within sc_is_within k0_le fun cdv A' outer s H E P0 g0 zp p0 B =>
    (psv_one (psv_ret (.inl rfl) (pev_and (e_call B (ok_is_integer T base a g k) T.g_is_integer T.F_is_integer T.B_is_integer (pav_cons (vS 0) pav_nil)) (pev_one (pev_chain o_le o_le tame_le tame_le (vS 1) (vS 0) (vS 2))))))
theorem ok_raw_common (T : TX P w K mg) (base : Heap) (a g : Addr) (k : Nat) : FnG P w K mg base (L2.CX P w) (k + 2) T.a_raw_common T.d_raw_common ["offices"] (spM K0 mg (ghHand a g) .s m_raw_common) :=
  fn_ok (.inr rfl) T.F_raw_common sc_raw_common k0_le fun cdv A' outer s H E P0 g0 zp p0 B =>
    (psv_cons (psv_setS (i := 1) B.nd (by rfl) (by first | exact Or.inl rfl | exact Or.inr rfl) (s_f (pev_lst (pav_cons (s_f (pev_tup (pav_cons (s_f e_int) (pav_cons (s_f (g_int T.c_MOST_MOMENT)) pav_nil)))) pav_nil))))
    (psv_cons (psv_for passes_body B.calm (piv_any B (vS 0)) (gN 2 B) tame_n (psv_one (psv_setS (i := 1) B.nd (by rfl) (by first | exact Or.inl rfl | exact Or.inr rfl) (s_f (e_call B (ok_shared T base a g k) T.g_shared T.F_shared T.B_shared (pav_cons (vS 1) (pav_cons (vS 2) pav_nil)))))))
    (psv_one (psv_ret (.inr rfl) (vS 1)))))
theorem ok__law_some (T : TX P w K mg) (base : Heap) (a g : Addr) (k : Nat) : FnG P w K mg base (L2.CX P w) (k + 2) T.a__law_some T.d__law_some ["hand", "things"] (spM K0 mg (ghHand a g) .s (m__law_some (.ref a))) :=
  fn_ok (.inr rfl) T.F__law_some sc__law_some k0_le fun cdv A' outer s H E P0 g0 zp p0 B =>
    (psv_one (psv_ret (.inr rfl) (pev_get B (b_s (vS 1)) (e_call B (ok__law_draw T base a g k) T.g__law_draw T.F__law_draw T.B__law_draw (pav_cons (vS 0) (pav_cons (s_f (e_bi T.n_len bt_len (c_len2 B) tame_len2 (pav_cons (b_s (vS 1)) pav_nil))) pav_nil))))))
theorem ok__law_shuffled (T : TX P w K mg) (base : Heap) (a g : Addr) (k : Nat) : FnG P w K mg base (L2.CX P w) (k + 2) T.a__law_shuffled T.d__law_shuffled ["hand", "things"] (spM K0 mg (ghHand a g) .f (m__law_shuffled (.ref a))) :=
  fn_ok (.inl rfl) T.F__law_shuffled sc__law_shuffled k0_le fun cdv A' outer s H E P0 g0 zp p0 B =>
    (psv_cons (psv_par2 (i := 2) (j := 3) B.calm B.nd (by rfl) (by rfl) (by decide) (by rfl) (by rfl) (pmv_f (e_ty T.n_list bt_list (c_list B) tame_list (pav_cons (b_s (vS 1)) pav_nil)) (pmv_f (pev_lst pav_nil) pmv_nil)) (by rfl))
    (psv_cons (psv_while 100000 passes_body (ptv_cmp o_gt tame_gt (e_bi T.n_len bt_len (c_len2 B) tame_len2 (pav_cons (vB 2) pav_nil)) e_int (nomark _)) (psv_one (psv_popApp (i := 3) (j := 2) (pav_cons (b_f (e_call B (ok__law_draw T base a g k) T.g__law_draw T.F__law_draw T.B__law_draw (pav_cons (vS 0) (pav_cons (s_f (e_bi T.n_len bt_len (c_len2 B) tame_len2 (pav_cons (vB 2) pav_nil))) pav_nil)))) pav_nil))))
    (psv_one (psv_retO (i := 3) (by rfl) (by first | exact Or.inl rfl | exact Or.inr (Or.inl rfl) | exact Or.inr (Or.inr rfl))))))
theorem ok__law_office (T : TX P w K mg) (base : Heap) (a g : Addr) (k : Nat) : FnG P w K mg base (L2.CX P w) (k + 2) T.a__law_office T.d__law_office ["hand", "far_now"] (spM K0 mg (ghHand a g) .f (m__law_office (.ref a))) :=
  fn_ok (.inl rfl) T.F__law_office sc__law_office k0_le fun cdv A' outer s H E P0 g0 zp p0 B =>
    (psv_cons (psv_par2 (i := 2) (j := 3) B.calm B.nd (by rfl) (by rfl) (by decide) (by rfl) (by rfl) (pmv_f (pev_lst pav_nil) (pmv_s (s_f (e_call B (ok__law_draw T base a g k) T.g__law_draw T.F__law_draw T.B__law_draw (pav_cons (vS 0) (pav_cons (s_f e_int) pav_nil)))) pmv_nil)) (by rfl))
    (psv_cons (psv_for passes_body B.calm (i_range1 T.n_range (pav_cons (b_f (pev_op (o_add B) tame_add e_int (e_call B (ok__law_draw T base a g k) T.g__law_draw T.F__law_draw T.B__law_draw (pav_cons (vS 0) (pav_cons (s_f e_int) pav_nil))))) pav_nil)) (gN 4 B) tame_n (psv_cons (psv_setS (i := 5) B.nd (by rfl) (by first | exact Or.inl rfl | exact Or.inr rfl) (s_f (pev_op (o_add B) tame_add (vS 3) (e_call B (ok__law_draw T base a g k) T.g__law_draw T.F__law_draw T.B__law_draw (pav_cons (vS 0) (pav_cons (vS 1) pav_nil))))))
    (psv_cons (psv_mexp (i := 2) mth_append PySem.F.slot_list_append PySem.F.type_list_append mt_append (pav_cons (s_f (pev_tup (pav_cons (vS 3) (pav_cons (vS 5) pav_nil)))) pav_nil))
    (psv_one (psv_setS (i := 3) B.nd (by rfl) (by first | exact Or.inl rfl | exact Or.inr rfl) (s_f (pev_op (o_add B) tame_add (pev_op (o_add B) tame_add (vS 5) e_int) (e_call B (ok__law_draw T base a g k) T.g__law_draw T.F__law_draw T.B__law_draw (pav_cons (vS 0) (pav_cons (vS 1) pav_nil))))))))))
    (psv_one (psv_ret (.inl rfl) (e_ty T.n_tuple bt_tuple (c_tuple B) tame_tuple (pav_cons (vB 2) pav_nil))))))
theorem ok__law_common (T : TX P w K mg) (base : Heap) (a g : Addr) (k : Nat) : FnG P w K mg base (L2.CX P w) (k + 2) T.a__law_common T.d__law_common ["offices"] (spM K0 mg (ghHand a g) .f m__law_common) :=
  fn_ok (.inl rfl) T.F__law_common sc__law_common k0_le fun cdv A' outer s H E P0 g0 zp p0 B =>
    (psv_cons (psv_setS (i := 1) B.nd (by rfl) (by first | exact Or.inl rfl | exact Or.inr rfl) (s_f (pev_listRg B (by rfl) T.n_list (by rfl) T.n_range (b_f (pev_op (o_add B) tame_add (e_bi T.n_max bt_max (c_max B) tame_max (pav_cons (b_f (pev_lc B (piv_any B (vS 0)) (own := [(("office" : Str), 2)]) (blkOk_by (by rfl)) (fun _ _ _ _ _ => (gN 2 B.blk)) tame_n (by decide) (fun _ _ _ _ _ => ptsv_nil) (fun _ _ _ _ _ => (pev_get B.blk (b_s (pev_get B.blk (b_s (vS 2)) (pev_un o_neg tame_neg e_int))) e_int)))) pav_nil)) e_int)))))
    (psv_one (psv_ret (.inl rfl) (pev_lc B (piv_any B (vS 1)) (own := [(("moment" : Str), 3)]) (blkOk_by (by rfl)) (fun _ _ _ _ _ => (gN 3 B.blk)) tame_n (by decide) (fun _ _ _ _ _ => (ptsv_one (ptv_val (e_bi T.n_all bt_all (c_all B.blk) tame_all (pav_cons (b_f (pev_lc B.blk (piv_any B.blk (vS 0)) (own := [(("office" : Str), 2)]) (blkOk_by (by rfl)) (fun _ _ _ _ _ => (gN 2 B.blk.blk)) tame_n (by decide) (fun _ _ _ _ _ => ptsv_nil) (fun _ _ _ _ _ => (s_f (e_call B.blk.blk (ok__law_lets T base a g k) T.g__law_lets T.F__law_lets T.B__law_lets (pav_cons (vS 2) (pav_cons (vS 3) pav_nil))))))) pav_nil))))) (fun _ _ _ _ _ => (vS 3))))))
theorem ok__law_most (T : TX P w K mg) (base : Heap) (a g : Addr) (k : Nat) : FnG P w K mg base (L2.CX P w) (k + 2) T.a__law_most T.d__law_most ["offices"] (spM K0 mg (ghHand a g) .f m__law_most) :=
  fn_ok (.inl rfl) T.F__law_most sc__law_most k0_le fun cdv A' outer s H E P0 g0 zp p0 B =>
    (psv_cons (psv_set (i := 1) B.nd (by rfl) (by first | exact Or.inl rfl | exact Or.inr rfl) (pev_lst pav_nil))
    (psv_cons (psv_for passes_body B.calm (i_range1 T.n_range (pav_cons (b_f (pev_op (o_add B) tame_add (e_bi T.n_max bt_max (c_max B) tame_max (pav_cons (b_f (pev_lc B (piv_any B (vS 0)) (own := [(("office" : Str), 3)]) (blkOk_by (by rfl)) (fun _ _ _ _ _ => (gN 3 B.blk)) tame_n (by decide) (fun _ _ _ _ _ => ptsv_nil) (fun _ _ _ _ _ => (pev_get B.blk (b_s (pev_get B.blk (b_s (vS 3)) (pev_un o_neg tame_neg e_int))) e_int)))) pav_nil)) e_int)) pav_nil)) (gN 2 B) tame_n (psv_one (psv_mexp (i := 1) mth_append PySem.F.slot_list_append PySem.F.type_list_append mt_append (pav_cons (s_f (e_bi T.n_len bt_len (c_len2 B) tame_len2 (pav_cons (b_f (pev_lc B (piv_any B (vS 0)) (own := [(("office" : Str), 3)]) (blkOk_by (by rfl)) (fun _ _ _ _ _ => (gN 3 B.blk)) tame_n (by decide) (fun _ _ _ _ _ => (ptsv_one (ptv_val (e_call B.blk (ok__law_lets T base a g k) T.g__law_lets T.F__law_lets T.B__law_lets (pav_cons (vS 3) (pav_cons (vS 2) pav_nil)))))) (fun _ _ _ _ _ => (vS 3)))) pav_nil))) pav_nil))))
    (psv_one (psv_ret (.inl rfl) (pev_tup (pav_cons (s_f (e_index B (vB 1) (pav_cons (b_f (e_bi T.n_max bt_max (c_max B) tame_max (pav_cons (vB 1) pav_nil))) pav_nil))) (pav_cons (s_f (e_bi T.n_max bt_max (c_max B) tame_max (pav_cons (vB 1) pav_nil))) pav_nil)))))))
theorem ok_is_span (T : TX P w K mg) (base : Heap) (a g : Addr) (k : Nat) : FnG P w K mg base (L2.CX P w) (k + 3) T.a_is_span T.d_is_span ["thing"] (spM K0 mg (ghHand a g) .f m_is_span) :=
  fn_ok (.inl rfl) T.F_is_span sc_is_span k0_le fun cdv A' outer s H E P0 g0 zp p0 B =>
    (psv_cons (psv_if (PWV.pt (pwv_or (ptv_not (ptv_val (e_call B (ok_is_tuple_of T base a g (k + 1)) T.g_is_tuple_of T.F_is_tuple_of T.B_is_tuple_of (pav_cons (vS 0) (pav_cons (s_f e_int) pav_nil))))) (pwv_or1 (ptv_not (ptv_val (e_call B (ok_is_within T base a g k) T.g_is_within T.F_is_within T.B_is_within (pav_cons (pev_get B (b_s (vS 0)) e_int) (pav_cons (s_f e_int) (pav_cons (s_f (g_int T.c_MOST_MOMENT)) pav_nil))))))))) (psv_one (psv_ret (.inl rfl) e_bl)) psv_nil)
    (psv_one (psv_ret (.inl rfl) (e_call B (ok_is_within T base a g k) T.g_is_within T.F_is_within T.B_is_within (pav_cons (pev_get B (b_s (vS 0)) e_int) (pav_cons (pev_get B (b_s (vS 0)) e_int) (pav_cons (s_f (g_int T.c_MOST_MOMENT)) pav_nil)))))))
theorem ok__law_first (T : TX P w K mg) (base : Heap) (a g : Addr) (k : Nat) : FnG P w K mg base (L2.CX P w) (k + 3) T.a__law_first T.d__law_first ["offices", "long"] (spM K0 mg (ghHand a g) .f m__law_first) :=
  fn_ok (.inl rfl) T.F__law_first sc__law_first k0_le fun cdv A' outer s H E P0 g0 zp p0 B =>
    (psv_cons (psv_for passes_body B.calm (piv_any B (s_f (e_call B (ok__law_spans_of T base a g (k + 1)) T.g__law_spans_of T.F__law_spans_of T.B__law_spans_of (pav_cons (s_f (e_call B (ok__law_common T base a g k) T.g__law_common T.F__law_common T.B__law_common (pav_cons (vS 0) pav_nil))) pav_nil)))) (pgv_tup B.kle B.calm (pgv_cons (gN 2 B) (pgv_cons (gN 3 B) pgv_nil))) (tame_t (tame_cons tame_n (tame_cons tame_n tame_nil))) (psv_one (psv_if (ptv_cmp o_ge tame_ge (pev_op (o_add B) tame_add (pev_op o_sub tame_sub (vS 3) (vS 2)) e_int) (vS 1) (nomark _)) (psv_one (psv_ret (.inl rfl) (f_s (vS 2)))) psv_nil)))
    (psv_one (psv_ret (.inl rfl) e_non)))
theorem ok_is_office (T : TX P w K mg) (base : Heap) (a g : Addr) (k : Nat) : FnG P w K mg base (L2.CX P w) (k + 4) T.a_is_office T.d_is_office ["thing"] (spM K0 mg (ghHand a g) .f m_is_office) :=
  fn_ok (.inl rfl) T.F_is_office sc_is_office k0_le fun cdv A' outer s H E P0 g0 zp p0 B =>
    (psv_cons (psv_if (PWV.pt (pwv_or (ptv_not (ptv_val (e_bi T.n_isinstance bt_isinstance (c_isa2 B) tame_isa2 (pav_cons (b_s (vS 0)) (pav_cons (e_cls T.n_tuple bt_tuple) pav_nil))))) (pwv_or (ptv_not (ptv_chain o_le o_le tame_le tame_le e_int (e_bi T.n_len bt_len (c_len2 B) tame_len2 (pav_cons (b_s (vS 0)) pav_nil)) (g_int T.c_MOST_SPANS))) (pwv_or1 (ptv_not (ptv_val (e_bi T.n_all bt_all (c_all B) tame_all (pav_cons (b_f (pev_lc B (piv_any B (vS 0)) (own := [(("one" : Str), 1)]) (blkOk_by (by rfl)) (fun _ _ _ _ _ => (gN 1 B.blk)) tame_n (by decide) (fun _ _ _ _ _ => ptsv_nil) (fun _ _ _ _ _ => (s_f (e_call B.blk (ok_is_span T base a g k) T.g_is_span T.F_is_span T.B_is_span (pav_cons (vS 1) pav_nil)))))) pav_nil)))))))) (psv_one (psv_ret (.inl rfl) e_bl)) psv_nil)
    (psv_one (psv_ret (.inl rfl) (e_bi T.n_all bt_all (c_all B) tame_all (pav_cons (b_f (pev_lc B (piv_zp B.kle (.inr rfl) (by rfl) T.n_zip (vS 0) (s_f (pev_slice B (b_s (vS 0)) (pov_some e_int) pov_none))) (own := [(("one" : Str), 1), (("other" : Str), 2)]) (blkOk_by (by rfl)) (fun _ _ _ _ _ => (pgv_tup B.blk.kle B.blk.calm (pgv_cons (gN 1 B.blk) (pgv_cons (gN 2 B.blk) pgv_nil)))) (tame_t (tame_cons tame_n (tame_cons tame_n tame_nil))) (by decide) (fun _ _ _ _ _ => ptsv_nil) (fun _ _ _ _ _ => (s_f (pev_cmp (o_lt B.blk) tame_lt (pev_op (o_add B.blk) tame_add (pev_get B.blk (b_s (vS 1)) e_int) e_int) (pev_get B.blk (b_s (vS 2)) e_int) (nomark _)))))) pav_nil)))))
theorem ok_check_offices (T : TX P w K mg) (base : Heap) (a g : Addr) (k : Nat) : FnG P w K mg base (L2.CX P w) (k + 5) T.a_check_offices T.d_check_offices ["offices"] (spM K0 mg (ghHand a g) .f m_check_offices) :=
  fn_ok (.inl rfl) T.F_check_offices sc_check_offices k0_le fun cdv A' outer s H E P0 g0 zp p0 B =>
    (psv_cons (psv_if (PWV.pt (pwv_or (ptv_not (ptv_val (e_bi T.n_isinstance bt_isinstance (c_isa2 B) tame_isa2 (pav_cons (b_s (vS 0)) (pav_cons (e_cls T.n_tuple bt_tuple) pav_nil))))) (pwv_or1 (ptv_not (ptv_chain o_le o_le tame_le tame_le e_int (e_bi T.n_len bt_len (c_len2 B) tame_len2 (pav_cons (b_s (vS 0)) pav_nil)) (g_int T.c_MOST_OFFICES)))))) (psv_one (psv_raise0 T.x_NoOffices)) psv_nil)
    (psv_one (psv_if (ptv_not (ptv_val (e_bi T.n_all bt_all (c_all B) tame_all (pav_cons (b_f (pev_lc B (piv_any B (vS 0)) (own := [(("one" : Str), 1)]) (blkOk_by (by rfl)) (fun _ _ _ _ _ => (gN 1 B.blk)) tame_n (by decide) (fun _ _ _ _ _ => ptsv_nil) (fun _ _ _ _ _ => (s_f (e_call B.blk (ok_is_office T base a g k) T.g_is_office T.F_is_office T.B_is_office (pav_cons (vS 1) pav_nil)))))) pav_nil)))) (psv_one (psv_raise0 T.x_NoOffices)) psv_nil)))
theorem ok_common (T : TX P w K mg) (base : Heap) (a g : Addr) (k : Nat) : FnG P w K mg base (L2.CX P w) (k + 6) T.a_common T.d_common ["offices"] (spM K0 mg (ghHand a g) .f m_common) :=
  fn_ok (.inl rfl) T.F_common sc_common k0_le fun cdv A' outer s H E P0 g0 zp p0 B =>
    (psv_cons (psv_expr (e_call B (ok_check_offices T base a g k) T.g_check_offices T.F_check_offices T.B_check_offices (pav_cons (vS 0) pav_nil)))
    (psv_one (psv_ret (.inl rfl) (e_ty T.n_tuple bt_tuple (c_tuple B) tame_tuple (pav_cons (b_s (e_call B (ok_raw_common T base a g (k + 3)) T.g_raw_common T.F_raw_common T.B_raw_common (pav_cons (vS 0) pav_nil))) pav_nil)))))
theorem ok_first_moment (T : TX P w K mg) (base : Heap) (a g : Addr) (k : Nat) : FnG P w K mg base (L2.CX P w) (k + 6) T.a_first_moment T.d_first_moment ["offices", "long"] (spM K0 mg (ghHand a g) .f m_first_moment) :=
  fn_ok (.inl rfl) T.F_first_moment sc_first_moment k0_le fun cdv A' outer s H E P0 g0 zp p0 B =>
    (psv_cons (psv_expr (e_call B (ok_check_offices T base a g k) T.g_check_offices T.F_check_offices T.B_check_offices (pav_cons (vS 0) pav_nil)))
    (psv_cons (psv_if (ptv_not (ptv_val (e_call B (ok_is_within T base a g (k + 3)) T.g_is_within T.F_is_within T.B_is_within (pav_cons (vS 1) (pav_cons (s_f e_int) (pav_cons (s_f (g_int T.c_MOST_LONG)) pav_nil)))))) (psv_one (psv_raise0 T.x_NoLong)) psv_nil)
    (psv_cons (psv_setLc (i := 2) B (by rfl) (by rfl) (sw_true rfl rfl rfl (by rfl)) (piv_any B (e_call B (ok_raw_common T base a g (k + 3)) T.g_raw_common T.F_raw_common T.B_raw_common (pav_cons (vS 0) pav_nil))) (own := [(("first" : Str), 3), (("last" : Str), 4)]) (blkOk_by (by rfl)) (fun _ _ _ _ _ => (pgv_tup B.blk.kle B.blk.calm (pgv_cons (gN 3 B.blk) (pgv_cons (gN 4 B.blk) pgv_nil)))) (tame_t (tame_cons tame_n (tame_cons tame_n tame_nil))) (by decide) (fun _ _ _ _ _ => (ptsv_one (ptv_cmp o_ge tame_ge (pev_op (o_add B.blk) tame_add (pev_op o_sub tame_sub (vS 4) (vS 3)) e_int) (vS 1) (nomark _)))) (fun _ _ _ _ _ => (vS 3)))
    (psv_one (psv_ret (.inl rfl) (pev_if (ptv_cmp o_gt tame_gt (e_bi T.n_len bt_len (c_len2 B) tame_len2 (pav_cons (vB 2) pav_nil)) e_int (nomark _)) (f_s (pev_get B (vB 2) e_int)) e_non))))))
theorem ok_most_at (T : TX P w K mg) (base : Heap) (a g : Addr) (k : Nat) : FnG P w K mg base (L2.CX P w) (k + 6) T.a_most_at T.d_most_at ["offices"] (spM K0 mg (ghHand a g) .f m_most_at) :=
  fn_ok (.inl rfl) T.F_most_at sc_most_at k0_le fun cdv A' outer s H E P0 g0 zp p0 B =>
    (psv_cons (psv_expr (e_call B (ok_check_offices T base a g k) T.g_check_offices T.F_check_offices T.B_check_offices (pav_cons (vS 0) pav_nil)))
    (psv_cons (psv_set (i := 1) B.nd (by rfl) (by first | exact Or.inl rfl | exact Or.inr rfl) (pev_dispK B (ppv_cons (s_f e_int) (s_f e_bl) ppv_nil)))
    (psv_cons (psv_for passes_body B.calm (piv_any B (vS 0)) (gN 2 B) tame_n (psv_one (psv_upd (i := 1) (s_f (pev_dc B (piv_any B (vS 2)) (own := [(("first" : Str), 3), (("last" : Str), 4)]) (blkOk_by (by rfl)) (fun _ _ _ _ _ => (pgv_tup B.blk.kle B.blk.calm (pgv_cons (gN 3 B.blk) (pgv_cons (gN 4 B.blk) pgv_nil)))) (tame_t (tame_cons tame_n (tame_cons tame_n tame_nil))) (by decide) (fun _ _ _ _ _ => ptsv_nil) (fun _ _ _ _ _ => (vS 3)) (fun _ _ _ _ _ => (s_f e_bl)))))))
    (psv_cons (psv_fz 1 (psv_setLc (i := 5) B (by rfl) (by rfl) (sw_true rfl rfl rfl (by rfl)) (piv_any B (vS 1)) (own := [(("moment" : Str), 6)]) (blkOk_by (by rfl)) (fun _ _ _ _ _ => (gN 6 B.blk)) tame_n (by decide) (fun _ _ _ _ _ => ptsv_nil) (fun _ _ _ _ _ => (s_f (pev_tup (pav_cons (s_f (pev_un o_neg tame_neg (e_call B.blk (ok_lets_at T base a g (k + 4)) T.g_lets_at T.F_lets_at T.B_lets_at (pav_cons (vS 0) (pav_cons (vS 6) pav_nil))))) (pav_cons (vS 6) pav_nil)))))))
    (psv_one (psv_ret (.inl rfl) (pev_tup (pav_cons (pev_get B (b_f (e_bi T.n_min bt_min (c_min B) tame_min (pav_cons (vB 5) pav_nil))) e_int) (pav_cons (s_f (pev_un o_neg tame_neg (pev_get B (b_f (e_bi T.n_min bt_min (c_min B) tame_min (pav_cons (vB 5) pav_nil))) e_int))) pav_nil)))))))))
theorem ok_strictest (T : TX P w K mg) (base : Heap) (a g : Addr) (k : Nat) : FnG P w K mg base (L2.CX P w) (k + 6) T.a_strictest T.d_strictest ["offices"] (spM K0 mg (ghHand a g) .f m_strictest) :=
  fn_ok (.inl rfl) T.F_strictest sc_strictest k0_le fun cdv A' outer s H E P0 g0 zp p0 B =>
    (psv_cons (psv_expr (e_call B (ok_check_offices T base a g k) T.g_check_offices T.F_check_offices T.B_check_offices (pav_cons (vS 0) pav_nil)))
    (psv_cons (psv_setLc (i := 1) B (by rfl) (by rfl) (sw_true rfl rfl rfl (by rfl)) (piv_any B (vS 0)) (own := [(("office" : Str), 2)]) (blkOk_by (by rfl)) (fun _ _ _ _ _ => (gN 2 B.blk)) tame_n (by decide) (fun _ _ _ _ _ => ptsv_nil) (fun _ _ _ _ _ => (s_f (e_call B.blk (ok_size_of T base a g (k + 4)) T.g_size_of T.F_size_of T.B_size_of (pav_cons (vS 2) pav_nil)))))
    (psv_one (psv_ret (.inl rfl) (e_index B (vB 1) (pav_cons (b_f (e_bi T.n_min bt_min (c_min B) tame_min (pav_cons (vB 1) pav_nil))) pav_nil))))))
theorem ok_moments_many (T : TX P w K mg) (base : Heap) (a g : Addr) (k : Nat) : FnG P w K mg base (L2.CX P w) (k + 6) T.a_moments_many T.d_moments_many ["offices"] (spM K0 mg (ghHand a g) .f m_moments_many) :=
  fn_ok (.inl rfl) T.F_moments_many sc_moments_many k0_le fun cdv A' outer s H E P0 g0 zp p0 B =>
    (psv_cons (psv_expr (e_call B (ok_check_offices T base a g k) T.g_check_offices T.F_check_offices T.B_check_offices (pav_cons (vS 0) pav_nil)))
    (psv_one (psv_ret (.inl rfl) (e_call B (ok_size_of T base a g (k + 4)) T.g_size_of T.F_size_of T.B_size_of (pav_cons (e_call B (ok_raw_common T base a g (k + 3)) T.g_raw_common T.F_raw_common T.B_raw_common (pav_cons (vS 0) pav_nil)) pav_nil)))))
theorem ok_longer_without (T : TX P w K mg) (base : Heap) (a g : Addr) (k : Nat) : FnG P w K mg base (L2.CX P w) (k + 6) T.a_longer_without T.d_longer_without ["offices"] (spM K0 mg (ghHand a g) .f m_longer_without) :=
  fn_ok (.inl rfl) T.F_longer_without sc_longer_without k0_le fun cdv A' outer s H E P0 g0 zp p0 B =>
    (psv_cons (psv_expr (e_call B (ok_check_offices T base a g k) T.g_check_offices T.F_check_offices T.B_check_offices (pav_cons (vS 0) pav_nil)))
    (psv_cons (psv_setLc (i := 1) B (by rfl) (by rfl) (sw_true rfl rfl rfl (by rfl)) (i_range1 T.n_range (pav_cons (b_f (e_bi T.n_len bt_len (c_len2 B) tame_len2 (pav_cons (b_s (vS 0)) pav_nil))) pav_nil)) (own := [(("at" : Str), 2)]) (blkOk_by (by rfl)) (fun _ _ _ _ _ => (gN 2 B.blk)) tame_n (by decide) (fun _ _ _ _ _ => ptsv_nil) (fun _ _ _ _ _ => (s_f (e_call B.blk (ok_size_of T base a g (k + 4)) T.g_size_of T.F_size_of T.B_size_of (pav_cons (e_call B.blk (ok_raw_common T base a g (k + 3)) T.g_raw_common T.F_raw_common T.B_raw_common (pav_cons (s_f (pev_op (o_add B.blk) tame_add (pev_slice B.blk (b_s (vS 0)) pov_none (pov_some (vS 2))) (pev_slice B.blk (b_s (vS 0)) (pov_some (pev_op (o_add B.blk) tame_add (vS 2) e_int)) pov_none))) pav_nil)) pav_nil)))))
    (psv_one (psv_ret (.inl rfl) (e_index B (vB 1) (pav_cons (b_f (e_bi T.n_max bt_max (c_max B) tame_max (pav_cons (vB 1) pav_nil))) pav_nil))))))
theorem ok__law_is_right (T : TX P w K mg) (base : Heap) (a g : Addr) (k : Nat) : FnG P w K mg base (L2.CX P w) (k + 7) T.a__law_is_right T.d__law_is_right ["hand", "offices"] (spM K0 mg (ghHand a g) .f (m__law_is_right (.ref a))) :=
  fn_ok (.inl rfl) T.F__law_is_right sc__law_is_right k0_le fun cdv A' outer s H E P0 g0 zp p0 B =>
    (psv_cons (psv_par2 (i := 2) (j := 3) B.calm B.nd (by rfl) (by rfl) (by decide) (by rfl) (by rfl) (pmv_s (s_f (e_call B (ok__law_common T base a g (k + 4)) T.g__law_common T.F__law_common T.B__law_common (pav_cons (vS 1) pav_nil))) (pmv_s (s_f (e_bi T.n_repr bt_repr (c_repr B) tame_repr (pav_cons (b_s (vS 1)) pav_nil))) pmv_nil)) (by rfl))
    (psv_cons (psv_setS (i := 4) B.nd (by rfl) (by first | exact Or.inl rfl | exact Or.inr rfl) (s_f (e_ty T.n_tuple bt_tuple (c_tuple B) tame_tuple (pav_cons (b_f (e_call B (ok__law_spans_of T base a g (k + 5)) T.g__law_spans_of T.F__law_spans_of T.B__law_spans_of (pav_cons (vS 2) pav_nil))) pav_nil))))
    (psv_cons (psv_if (ptv_cmp (o_neu B) tame_neu (e_bi T.n_repr bt_repr (c_repr B) tame_repr (pav_cons (b_f (pev_lst (pav_cons (s_f (e_call B (ok_common T base a g k) T.g_common T.F_common T.B_common (pav_cons (vS 1) pav_nil))) (pav_cons (s_f (e_call B (ok_common T base a g k) T.g_common T.F_common T.B_common (pav_cons (vS 1) pav_nil))) (pav_cons (s_f (e_call B (ok_moments_many T base a g k) T.g_moments_many T.F_moments_many T.B_moments_many (pav_cons (vS 1) pav_nil))) pav_nil))))) pav_nil)) (e_bi T.n_repr bt_repr (c_repr B) tame_repr (pav_cons (b_f (pev_lst (pav_cons (vS 4) (pav_cons (vS 4) (pav_cons (s_f (e_bi T.n_len bt_len (c_len2 B) tame_len2 (pav_cons (b_s (vS 2)) pav_nil))) pav_nil))))) pav_nil)) (nomark _)) (psv_one (psv_ret (.inl rfl) e_bl)) psv_nil)
    (psv_cons (psv_for passes_body B.calm (piv_any B (s_f (pev_lst (pav_cons (s_f e_int) (pav_cons (s_f e_int) (pav_cons (s_f (pev_op (o_add B) tame_add e_int (e_call B (ok__law_draw T base a g (k + 5)) T.g__law_draw T.F__law_draw T.B__law_draw (pav_cons (vS 0) (pav_cons (s_f e_int) pav_nil))))) pav_nil)))))) (gN 5 B) tame_n (psv_one (psv_if (ptv_cmp (o_neu B) tame_neu (e_bi T.n_repr bt_repr (c_repr B) tame_repr (pav_cons (b_f (e_call B (ok_first_moment T base a g k) T.g_first_moment T.F_first_moment T.B_first_moment (pav_cons (vS 1) (pav_cons (vS 5) pav_nil)))) pav_nil)) (e_bi T.n_repr bt_repr (c_repr B) tame_repr (pav_cons (b_f (e_call B (ok__law_first T base a g (k + 3)) T.g__law_first T.F__law_first T.B__law_first (pav_cons (vS 1) (pav_cons (vS 5) pav_nil)))) pav_nil)) (nomark _)) (psv_one (psv_ret (.inl rfl) e_bl)) psv_nil)))
    (psv_cons (psv_setLc (i := 6) B (by rfl) (by rfl) (sw_true rfl rfl rfl (by rfl)) (piv_any B (vS 1)) (own := [(("office" : Str), 7)]) (blkOk_by (by rfl)) (fun _ _ _ _ _ => (gN 7 B.blk)) tame_n (by decide) (fun _ _ _ _ _ => ptsv_nil) (fun _ _ _ _ _ => (s_f (e_bi T.n_sum bt_sum (c_sum B.blk) tame_sum (pav_cons (b_f (pev_lc B.blk (piv_any B.blk (vS 7)) (own := [(("first" : Str), 8), (("last" : Str), 9)]) (blkOk_by (by rfl)) (fun _ _ _ _ _ => (pgv_tup B.blk.blk.kle B.blk.blk.calm (pgv_cons (gN 8 B.blk.blk) (pgv_cons (gN 9 B.blk.blk) pgv_nil)))) (tame_t (tame_cons tame_n (tame_cons tame_n tame_nil))) (by decide) (fun _ _ _ _ _ => ptsv_nil) (fun _ _ _ _ _ => (s_f (pev_op (o_add B.blk.blk) tame_add (pev_op o_sub tame_sub (vS 9) (vS 8)) e_int))))) pav_nil)))))
    (psv_cons (psv_if (ptv_cmp (o_neu B) tame_neu (e_bi T.n_repr bt_repr (c_repr B) tame_repr (pav_cons (b_f (pev_lst (pav_cons (s_f (e_call B (ok_most_at T base a g k) T.g_most_at T.F_most_at T.B_most_at (pav_cons (vS 1) pav_nil))) (pav_cons (s_f (e_call B (ok_strictest T base a g k) T.g_strictest T.F_strictest T.B_strictest (pav_cons (vS 1) pav_nil))) pav_nil)))) pav_nil)) (e_bi T.n_repr bt_repr (c_repr B) tame_repr (pav_cons (b_f (pev_lst (pav_cons (s_f (e_call B (ok__law_most T base a g (k + 4)) T.g__law_most T.F__law_most T.B__law_most (pav_cons (vS 1) pav_nil))) (pav_cons (s_f (e_index B (vB 6) (pav_cons (b_f (e_bi T.n_min bt_min (c_min B) tame_min (pav_cons (vB 6) pav_nil))) pav_nil))) pav_nil)))) pav_nil)) (nomark _)) (psv_one (psv_ret (.inl rfl) e_bl)) psv_nil)
    (psv_cons (psv_if (ptv_cmp o_gt tame_gt (e_bi T.n_len bt_len (c_len2 B) tame_len2 (pav_cons (b_s (vS 1)) pav_nil)) e_int (nomark _)) (psv_cons (psv_setLc (i := 10) B (by rfl) (by rfl) (sw_true rfl rfl rfl (by rfl)) (i_range1 T.n_range (pav_cons (b_f (e_bi T.n_len bt_len (c_len2 B) tame_len2 (pav_cons (b_s (vS 1)) pav_nil))) pav_nil)) (own := [(("number" : Str), 11)]) (blkOk_by (by rfl)) (fun _ _ _ _ _ => (gN 11 B.blk)) tame_n (by decide) (fun _ _ _ _ _ => ptsv_nil) (fun _ _ _ _ _ => (s_f (e_bi T.n_len bt_len (c_len2 B.blk) tame_len2 (pav_cons (b_f (e_call B.blk (ok__law_common T base a g (k + 4)) T.g__law_common T.F__law_common T.B__law_common (pav_cons (s_f (pev_op (o_add B.blk) tame_add (pev_slice B.blk (b_s (vS 1)) pov_none (pov_some (vS 11))) (pev_slice B.blk (b_s (vS 1)) (pov_some (pev_op (o_add B.blk) tame_add (vS 11) e_int)) pov_none))) pav_nil))) pav_nil)))))
    (psv_one (psv_if (PWV.pt (pwv_or (ptv_cmp (o_neu B) tame_neu (e_bi T.n_repr bt_repr (c_repr B) tame_repr (pav_cons (b_f (e_call B (ok_longer_without T base a g k) T.g_longer_without T.F_longer_without T.B_longer_without (pav_cons (vS 1) pav_nil))) pav_nil)) (e_bi T.n_repr bt_repr (c_repr B) tame_repr (pav_cons (b_f (e_index B (vB 10) (pav_cons (b_f (e_bi T.n_max bt_max (c_max B) tame_max (pav_cons (vB 10) pav_nil))) pav_nil))) pav_nil)) (nomark _)) (pwv_or1 (ptv_cmp (o_lt B) tame_lt (e_bi T.n_max bt_max (c_max B) tame_max (pav_cons (vB 10) pav_nil)) (e_bi T.n_len bt_len (c_len2 B) tame_len2 (pav_cons (b_s (vS 2)) pav_nil)) (nomark _))))) (psv_one (psv_ret (.inl rfl) e_bl)) psv_nil))) psv_nil)
    (psv_cons (psv_setS (i := 12) B.nd (by rfl) (by first | exact Or.inl rfl | exact Or.inr rfl) (s_f (e_ty T.n_tuple bt_tuple (c_tuple B) tame_tuple (pav_cons (b_f (e_call B (ok__law_shuffled T base a g (k + 4)) T.g__law_shuffled T.F__law_shuffled T.B__law_shuffled (pav_cons (vS 0) (pav_cons (s_f (e_ty T.n_list bt_list (c_list B) tame_list (pav_cons (b_s (vS 1)) pav_nil))) pav_nil)))) pav_nil))))
    (psv_one (psv_ret (.inl rfl) (pev_and (pev_cmp (o_equ B) tame_equ (e_call B (ok_common T base a g k) T.g_common T.F_common T.B_common (pav_cons (vS 12) pav_nil)) (vS 4) (nomark _)) (pev_and (pev_cmp (o_equ B) tame_equ (e_call B (ok_most_at T base a g k) T.g_most_at T.F_most_at T.B_most_at (pav_cons (vS 12) pav_nil)) (e_call B (ok_most_at T base a g k) T.g_most_at T.F_most_at T.B_most_at (pav_cons (vS 1) pav_nil)) (nomark _)) (pev_one (pev_cmp (o_equ B) tame_equ (e_bi T.n_repr bt_repr (c_repr B) tame_repr (pav_cons (b_s (vS 1)) pav_nil)) (vS 3) (nomark _)))))))))))))))
theorem rest_law (T : TX P w K mg) (base : Heap) (a g : Addr) (k : Nat) (cdv : Value) (A' : Around) (outer : List Env) (s : Shared) (H : Hp) (E : XK) (H1 : Hp) (P0 : Addr → Prop) (g0 : (ghHand a g).G H1) (zp : ∀ b, (ghHand a g).Z b → ¬ P0 b) (p0 : ∀ b, ¬ P0 b → ¬ (ghHand a g).Z b → ∃ o, H1 b = some o ∧ Mb o)
    (B : Bd (cxOf (L2.CX P w) P w K mg base ["script", "hand", "offices", "step", "far_now", "number"] "law" (defScope s_law) T.a_law cdv A' outer s H E) ⟨(ghHand a g), K0, H1, P0, g0, zp, p0⟩ (enOf mg E) (k + 7)) :
    PSVs (cxOf (L2.CX P w) P w K mg base ["script", "hand", "offices", "step", "far_now", "number"] "law" (defScope s_law) T.a_law cdv A' outer s H E) ⟨(ghHand a g), K0, H1, P0, g0, zp, p0⟩ (enOf mg E) .f ((defBody s_law).drop 1) (b_law (.ref a)) :=
    (psv_cons (psv_setS (i := 2) B.nd (by rfl) (by first | exact Or.inl rfl | exact Or.inr rfl) (s_f (pev_tup (pav_cons (s_f (pev_tup (pav_cons (s_f (pev_tup (pav_cons (s_f e_int) (pav_cons (s_f e_int) pav_nil)))) (pav_cons (s_f (pev_tup (pav_cons (s_f e_int) (pav_cons (s_f e_int) pav_nil)))) pav_nil)))) (pav_cons (s_f (pev_tup (pav_cons (s_f (pev_tup (pav_cons (s_f e_int) (pav_cons (s_f e_int) pav_nil)))) pav_nil))) (pav_cons (s_f (pev_tup (pav_cons (s_f (pev_tup (pav_cons (s_f e_int) (pav_cons (s_f e_int) pav_nil)))) (pav_cons (s_f (pev_tup (pav_cons (s_f e_int) (pav_cons (s_f e_int) pav_nil)))) pav_nil)))) pav_nil))))))
    (psv_cons (psv_if (PWV.pt (pwv_or (ptv_cmp (o_neu B) tame_neu (e_call B (ok_common T base a g (k + 1)) T.g_common T.F_common T.B_common (pav_cons (vS 2) pav_nil)) (pev_tup (pav_cons (s_f (pev_tup (pav_cons (s_f e_int) (pav_cons (s_f e_int) pav_nil)))) (pav_cons (s_f (pev_tup (pav_cons (s_f e_int) (pav_cons (s_f e_int) pav_nil)))) pav_nil))) (nomark _)) (pwv_or (ptv_cmp (o_neu B) tame_neu (e_call B (ok_moments_many T base a g (k + 1)) T.g_moments_many T.F_moments_many T.B_moments_many (pav_cons (vS 2) pav_nil)) e_int (nomark _)) (pwv_or1 (ptv_cmp (o_neu B) tame_neu (e_call B (ok_first_moment T base a g (k + 1)) T.g_first_moment T.F_first_moment T.B_first_moment (pav_cons (vS 2) (pav_cons (s_f e_int) pav_nil))) e_int (nomark _)))))) (psv_one (psv_ret (.inl rfl) e_bl)) psv_nil)
    (psv_cons (psv_if (PWV.pt (pwv_or (ptv_cmp o_isNot tame_isNot (e_call B (ok_first_moment T base a g (k + 1)) T.g_first_moment T.F_first_moment T.B_first_moment (pav_cons (vS 2) (pav_cons (s_f e_int) pav_nil))) e_non (nomark _)) (pwv_or (ptv_cmp (o_neu B) tame_neu (e_call B (ok_most_at T base a g (k + 1)) T.g_most_at T.F_most_at T.B_most_at (pav_cons (vS 2) pav_nil)) (pev_tup (pav_cons (s_f e_int) (pav_cons (s_f e_int) pav_nil))) (nomark _)) (pwv_or1 (ptv_cmp (o_neu B) tame_neu (e_call B (ok_strictest T base a g (k + 1)) T.g_strictest T.F_strictest T.B_strictest (pav_cons (vS 2) pav_nil)) e_int (nomark _)))))) (psv_one (psv_ret (.inl rfl) e_bl)) psv_nil)
    (psv_cons (psv_if (PWV.pt (pwv_or (ptv_cmp (o_neu B) tame_neu (e_call B (ok_longer_without T base a g (k + 1)) T.g_longer_without T.F_longer_without T.B_longer_without (pav_cons (vS 2) pav_nil)) e_int (nomark _)) (pwv_or1 (ptv_cmp (o_neu B) tame_neu (e_call B (ok_common T base a g (k + 1)) T.g_common T.F_common T.B_common (pav_cons (s_f (pev_tup (pav_cons (s_f (pev_tup (pav_cons (s_f (pev_tup (pav_cons (s_f e_int) (pav_cons (s_f e_int) pav_nil)))) (pav_cons (s_f (pev_tup (pav_cons (s_f e_int) (pav_cons (s_f e_int) pav_nil)))) pav_nil)))) pav_nil))) pav_nil)) (pev_tup (pav_cons (s_f (pev_tup (pav_cons (s_f e_int) (pav_cons (s_f e_int) pav_nil)))) (pav_cons (s_f (pev_tup (pav_cons (s_f e_int) (pav_cons (s_f e_int) pav_nil)))) pav_nil))) (nomark _))))) (psv_one (psv_ret (.inl rfl) e_bl)) psv_nil)
    (psv_cons (psv_for passes_body B.calm (i_range1 T.n_range (pav_cons (b_f e_int) pav_nil)) (gN 3 B) tame_n (psv_cons (psv_setS (i := 4) B.nd (by rfl) (by first | exact Or.inl rfl | exact Or.inr rfl) (e_call B (ok__law_some T base a g (k + 5)) T.g__law_some T.F__law_some T.B__law_some (pav_cons (vS 1) (pav_cons (s_f (pev_lst (pav_cons (s_f e_int) (pav_cons (s_f e_int) (pav_cons (s_f e_int) pav_nil))))) pav_nil))))
    (psv_cons (psv_setS (i := 2) B.nd (by rfl) (by first | exact Or.inl rfl | exact Or.inr rfl) (s_f (e_ty T.n_tuple bt_tuple (c_tuple B) tame_tuple (pav_cons (b_f (pev_lc B (i_range1 T.n_range (pav_cons (b_f (pev_op (o_add B) tame_add e_int (e_call B (ok__law_draw T base a g (k + 6)) T.g__law_draw T.F__law_draw T.B__law_draw (pav_cons (vS 1) (pav_cons (s_f e_int) pav_nil))))) pav_nil)) (own := [(("number" : Str), 5)]) (blkOk_by (by rfl)) (fun _ _ _ _ _ => (gN 5 B.blk)) tame_n (by decide) (fun _ _ _ _ _ => ptsv_nil) (fun _ _ _ _ _ => (s_f (e_call B.blk (ok__law_office T base a g (k + 5)) T.g__law_office T.F__law_office T.B__law_office (pav_cons (vS 1) (pav_cons (vS 4) pav_nil))))))) pav_nil))))
    (psv_one (psv_if (ptv_not (ptv_val (e_call B (ok__law_is_right T base a g k) T.g__law_is_right T.F__law_is_right T.B__law_is_right (pav_cons (vS 1) (pav_cons (vS 2) pav_nil))))) (psv_one (psv_ret (.inl rfl) e_bl)) psv_nil)))))
    (psv_one (psv_ret (.inl rfl) e_bl)))))))

theorem hand_math (sc : Addr) (ns : List Int) : (b__law_hand sc ns [.v (.raw (.ref sc)), .un, .un]).wp (fun r => ∃ (gs : List Int) (mix : Int), r.1 = .rt (.lst [.lst (gs.map D.int), .int 0, .int 0, .int mix, .int 0]) ∧ (∀ n ∈ gs, 0 ≤ n) ∧ 0 ≤ mix ∧ mix < 2147483629) (fun _ => False) := by
  have hs : ∀ (d : D) (r : Ga), scrS sc 0 d (.v (.raw (.ref sc)) :: r) = .ret d := fun d r => if_pos rfl
  unfold b__law_hand
  generalize hms : (ns.drop (HT.sIx ns.length 0 none)).take (HT.sIx ns.length ns.length (some 63) - HT.sIx ns.length 0 none) = ms
  have hl : ms.length ≤ 63 := by
    rw [← hms, List.length_take]
    have h1 : HT.sIx ns.length ns.length (some 63) ≤ 63 := by
      have e : HT.sIx ns.length ns.length (some 63) = min 63 ns.length := rfl
      omega
    omega
  rw [cut_map, hms]
  have e1 : lcGo (lcOne (bndN 2) yesT (callV (consL (callV (consL (getS 2) nilL) intD) nilL) absD) (wipeG [.v (.raw (.ref sc)), .un, .un] [2])) (ms.map D.int) = .ret ((ms.map fun i => if i < 0 then -i else i).map D.int) := by
    rw [lcGo_map (f := fun i => [D.int (if i < 0 then -i else i)]), flat_map1, List.map_map]
    · rfl
    · intro x _
      simp
  have hgs : ∀ n ∈ ms.map (fun i => if i < 0 then -i else i), 0 ≤ n := fun n hn => by
    obtain ⟨x, _, rfl⟩ := List.mem_map.mp hn
    show 0 ≤ if x < 0 then -x else x
    split <;> omega
  have hml : ∀ j : Int, mulU (.int 7) (.int j) = .ret (.int (7 * j)) := fun j => mul_l (by decide)
  simp only [seqM_, setM_, lcM_, hs, anyM_, ret_b, itemsK_lst]
  rw [if_pos (show ownFree [2] [.v (.raw (.ref sc)), .un, .un] = true from rfl), e1]
  simp [fz, hml]
  exact ⟨_, _, ⟨(List.map_map ..).symm, rfl⟩, hgs, by omega, by omega⟩
def spHand (K : PySem.W.Frag) : Sp := fun vs H Q _ => ∃ (sc : Addr) (ns : List Int), vs = [.ref sc] ∧ SqL K H sc (ns.map V.int) ∧ ∀ a g H', Kx (fun _ => False) H H' → HandOk a g H' → Q (.ref a) H'
theorem ok__law_hand (T : TX P w K mg) (base : Heap) (k : Nat) : FnG P w K mg base (L2.CX P w) (k + 1) T.a__law_hand T.d__law_hand ["script"] (spHand K) := by
  refine okXG T.F__law_hand sc__law_hand (fun vs H Q E h => ?_) fun cdv A outer s H vs Q E hr gd hsp => ?_
  · obtain ⟨sc, ns, rfl, _⟩ := h
    rfl
  obtain ⟨sc, ns, rfl, hS, q⟩ := hsp
  have tk : Takes (cxOf (L2.CX P w) P w K mg base ["script", "cells", "cell"] "_law_hand" (defScope s__law_hand) T.a__law_hand cdv A outer s H E) (fun cls d _ H => E cls d H) := takes_of rfl rfl rfl rfl
  have B : Bd (cxOf (L2.CX P w) P w K mg base ["script", "cells", "cell"] "_law_hand" (defScope s__law_hand) T.a__law_hand cdv A outer s H E) ⟨ghNone, K0, H, fun _ => True, trivial, fun _ z => z.elim, fun _ n => absurd trivial n⟩ (enOf mg E) k :=
    .mk6 rfl sc__law_hand.nd hr gd (passes_call tk fun cls d σ H' ⟨x, h1, h2⟩ => h2 cls d h1) k0_le
  refine ⟨_, (walk__law_hand T base ghNone k cdv A outer s H E H (fun _ => True) trivial (fun _ z => z.elim) (fun _ n => absurd trivial n) sc ns ⟨hS, fun z => z⟩ B).ps, ⟨⟨[], [], rfl⟩, fun _ => 0, [.v (.raw (.ref sc)), .un, .un], ?_, ?_⟩⟩
  · refine ⟨rfl, trivial, fun a o z e => .inl e, fun a ob hm => absurd hm (by simp), fun a hm => absurd hm (by simp), fun i d e => ?_, fun i d e => ?_, fun i j d e h1 _ => ?_⟩
    · match i with
      | 0 => cases e; exact ⟨_, rfl, .raw _⟩
      | 1 => cases e
      | 2 => cases e
      | i + 3 => simp at e
    · match i with
      | 0 => cases e
      | 1 => cases e
      | 2 => cases e
      | i + 3 => simp at e
    · match i with
      | 0 => cases h1
      | 1 => cases h1
      | 2 => cases h1
      | i + 3 => simp at h1
  · refine M.wp_mono (hand_math sc ns) (fun r z => ?_) fun _ z => z.elim
    obtain ⟨gs, mix, e, hgs, h0, h1⟩ := z
    obtain ⟨c, Γ'⟩ := r
    have e : c = .rt (.lst [.lst (gs.map D.int), .int 0, .int 0, .int mix, .int 0]) := e
    subst e
    intro w' H' kx gG' rq
    obtain ⟨a, rfl, hn, xs, hx, rl⟩ := rq
    cases rl with
    | cons r1 rl =>
      cases rl with
      | cons r2 rl =>
        cases rl with
        | cons r3 rl =>
          cases rl with
          | cons r4 rl =>
            cases rl with
            | cons r5 rl =>
              cases rl
              cases r2
              cases r3
              cases r4
              cases r5
              cases r1 with
              | @lst g ys _ pg hy ry =>
                rw [rpl_ints ry] at hy
                exact q a g H' (fun b o z e => (kx b o z e).eq) ⟨gs, 0, 0, mix, 0, hx, hy, fun z => pg.2 z.symm, hgs, Int.le_refl _, Int.le_refl _, h0, h1, Int.le_refl _⟩
/-- what is asked of the law's own body behind its first statement -/
def LawOk : Prop := ∀ a : Addr, (b_law (.ref a) (.un :: .v (.raw (.ref a)) :: List.replicate 4 .un)).wp (fun r => r.1 = .rt (.bl true)) (fun _ => False)
def spLaw (K : PySem.W.Frag) : Sp := fun vs H Q _ => ∃ (sc : Addr) (ns : List Int), vs = [.ref sc] ∧ SqL K H sc (ns.map V.int) ∧ ∀ H', Q (.bl true) H'
theorem ok_law (T : TX P w K mg) (L : LawOk) (base : Heap) (k : Nat) : FnG P w K mg base (L2.CX P w) (k + 8) T.a_law T.d_law ["script"] (spLaw K) := by
  refine okXG T.F_law sc_law (fun vs H Q E h => ?_) fun cdv A outer s H vs Q E hr gd hsp => ?_
  · obtain ⟨sc, ns, rfl, _⟩ := h
    rfl
  obtain ⟨sc, ns, rfl, hS, q⟩ := hsp
  have tk : Takes (cxOf (L2.CX P w) P w K mg base ["script", "hand", "offices", "step", "far_now", "number"] "law" (defScope s_law) T.a_law cdv A outer s H E) (fun cls d _ H => E cls d H) := takes_of rfl rfl rfl rfl
  have hx : Passes (L2.CX P w) (cxOf (L2.CX P w) P w K mg base ["script", "hand", "offices", "step", "far_now", "number"] "law" (defScope s_law) T.a_law cdv A outer s H E) (EK mg (enOf mg E)) := passes_call tk fun cls d σ H' ⟨x, h1, h2⟩ => h2 cls d h1
  let ι := { p : (Addr × Addr) × Hp // HandOk p.1.1 p.1.2 p.2 }
  have rest : ∀ i : ι, PSs (cxOf (L2.CX P w) P w K mg base ["script", "hand", "offices", "step", "far_now", "number"] "law" (defScope s_law) T.a_law cdv A outer s H E) ((defBody s_law).drop 1) (tS K0 ⟨ghHand i.1.1.1 i.1.1.2, K0, i.1.2, fun b => ¬ (b = i.1.1.1 ∨ b = i.1.1.2), i.2, fun _ z n => n z, fun b n z => absurd (Classical.not_not.mp n) z⟩ (enOf mg E) .f (b_law (.ref i.1.1.1))) := fun i =>
    (rest_law T base i.1.1.1 i.1.1.2 k cdv A outer s H E i.1.2 (fun b => ¬ (b = i.1.1.1 ∨ b = i.1.1.2)) i.2 (fun _ z n => n z) (fun b n z => absurd (Classical.not_not.mp n) z) (.mk6 rfl sc_law.nd hr gd hx k0_le)).ps
  refine ⟨_, pss_cons (ps_set (i := 1) sc_law.nd rfl (by first | exact Or.inl rfl | exact Or.inr rfl) (pe_callG (ok__law_hand T base (k + 6)) hr gd (by rfl) T.g__law_hand T.F__law_hand.kp T.B__law_hand .nil hx (pa_cons (pv 0) pa_nil))) (ex_pss rest), ?_⟩
  refine ⟨_, rfl, sc, ns, rfl, hS, fun a g H' kx bo => ?_⟩
  refine ⟨⟨⟨⟨a, g⟩, H'⟩, bo⟩, ⟨[], [], rfl⟩, fun _ => 0, .un :: .v (.raw (.ref a)) :: List.replicate 4 .un, ?_, ?_⟩
  · refine ⟨rfl, bo, fun a o z e => .inl e, fun a ob hm => absurd hm (by simp), fun a hm => absurd hm (by simp), fun i d e => ?_, fun i d e => ?_, fun i j d e h1 _ => ?_⟩
    · match i with
      | 0 => cases e
      | 1 => cases e; exact ⟨_, rfl, .raw _⟩
      | i + 2 =>
        have e : (List.replicate 4 Sl.un)[i]? = some (.v d) := e
        rw [List.getElem?_replicate] at e
        split at e <;> cases e
    · match i with
      | 0 => cases e
      | 1 => cases e
      | i + 2 =>
        have e : (List.replicate 4 Sl.un)[i]? = some (.own d) := e
        rw [List.getElem?_replicate] at e
        split at e <;> cases e
    · match i with
      | 0 => cases h1
      | 1 => cases h1
      | i + 2 =>
        have h1 : (List.replicate 4 Sl.un)[i]? = some (.own d) := h1
        rw [List.getElem?_replicate] at h1
        split at h1 <;> cases h1
  · refine M.wp_mono (L a) (fun r z => ?_) fun _ z => z.elim
    obtain ⟨c, Γ'⟩ := r
    have z : c = .rt (.bl true) := z
    subst z
    intro w' H2 _ _ rq
    cases (show Rp K0 H2 _ w' (.bl true) from rq)
    exact q H2

end

end Px

set_option Elab.async false
set_option linter.all false
set_option maxRecDepth 100000
set_option autoImplicit false
namespace Px
open PySem PySem.Spec PyProof.Rows L2
/-! ### spans of moments -/
abbrev Spn := List II
def inS (s : Spn) (m : Int) : Bool := s.any fun p => decide (p.1 ≤ m) && decide (m ≤ p.2)
theorem inS_iff {s : Spn} {m : Int} : inS s m = true ↔ ∃ p ∈ s, p.1 ≤ m ∧ m ≤ p.2 := by
  unfold inS
  rw [List.any_eq_true]
  exact ⟨fun ⟨p, h, e⟩ => by rw [Bool.and_eq_true, decide_eq_true_eq, decide_eq_true_eq] at e; exact ⟨p, h, e⟩, fun ⟨p, h, e⟩ => ⟨p, h, by rw [Bool.and_eq_true, decide_eq_true_eq, decide_eq_true_eq]; exact e⟩⟩
structure Gap (s : Spn) : Prop where
  le : ∀ p ∈ s, p.1 ≤ p.2
  pw : s.Pairwise fun p q => p.2 + 1 < q.1
theorem Gap.tail {p : II} {s : Spn} (h : Gap (p :: s)) : Gap s := ⟨fun q hq => h.le q (List.mem_cons_of_mem _ hq), (List.pairwise_cons.mp h.pw).2⟩
/-! what two have in common -/
def piece (a b : II) : Spn := if max a.1 b.1 ≤ min a.2 b.2 then [(max a.1 b.1, min a.2 b.2)] else []
theorem piece_mem {a b x : II} : x ∈ piece a b ↔ x = (max a.1 b.1, min a.2 b.2) ∧ x.1 ≤ x.2 := by
  unfold piece
  split
  · rename_i h
    rw [List.mem_singleton]
    exact ⟨fun e => ⟨e, by rw [e]; exact h⟩, fun e => e.1⟩
  · rename_i h
    exact ⟨(fun z => nomatch z), fun ⟨e, q⟩ => (h (by rw [e] at q; exact q)).elim⟩
def sh (one other : Spn) : Spn := one.flatMap fun a => other.flatMap fun b => piece a b
theorem sh_mem {s t : Spn} {x : II} : x ∈ sh s t ↔ ∃ a ∈ s, ∃ b ∈ t, x = (max a.1 b.1, min a.2 b.2) ∧ x.1 ≤ x.2 := by
  unfold sh
  simp only [List.mem_flatMap, piece_mem]
theorem sh_in {s t : Spn} {m : Int} : inS (sh s t) m = true ↔ inS s m = true ∧ inS t m = true := by
  rw [inS_iff, inS_iff, inS_iff]
  constructor
  · rintro ⟨x, hx, h1, h2⟩
    obtain ⟨a, ha, b, hb, rfl, q⟩ := sh_mem.mp hx
    have h1 : max a.1 b.1 ≤ m := h1
    have h2 : m ≤ min a.2 b.2 := h2
    exact ⟨⟨a, ha, by omega, by omega⟩, ⟨b, hb, by omega, by omega⟩⟩
  · rintro ⟨⟨a, ha, h1, h2⟩, ⟨b, hb, h3, h4⟩⟩
    exact ⟨(max a.1 b.1, min a.2 b.2), sh_mem.mpr ⟨a, ha, b, hb, rfl, by show max a.1 b.1 ≤ min a.2 b.2; omega⟩, by show max a.1 b.1 ≤ m; omega, by show m ≤ min a.2 b.2; omega⟩
theorem sh_gap {s t : Spn} (hs : Gap s) (ht : Gap t) : Gap (sh s t) := by
  refine ⟨fun x hx => ?_, ?_⟩
  · obtain ⟨_, _, _, _, _, q⟩ := sh_mem.mp hx; exact q
  · unfold sh
    rw [List.pairwise_flatMap]
    refine ⟨fun a _ => ?_, hs.pw.imp fun {a c} h x hx y hy => ?_⟩
    · rw [List.pairwise_flatMap]
      refine ⟨fun b _ => ?_, ht.pw.imp fun {b d} h x hx y hy => ?_⟩
      · unfold piece
        split
        · exact List.pairwise_singleton ..
        · exact List.Pairwise.nil
      · obtain ⟨rfl, _⟩ := piece_mem.mp hx
        obtain ⟨rfl, _⟩ := piece_mem.mp hy
        show min a.2 b.2 + 1 < max a.1 d.1
        omega
    · obtain ⟨b, _, hx⟩ := List.mem_flatMap.mp hx
      obtain ⟨d, _, hy⟩ := List.mem_flatMap.mp hy
      obtain ⟨rfl, _⟩ := piece_mem.mp hx
      obtain ⟨rfl, _⟩ := piece_mem.mp hy
      show min a.2 b.2 + 1 < max c.1 d.1
      omega
theorem Gap.asc {s : Spn} (h : Gap s) : s.Pairwise fun c d => iiLt c d = true := by
  refine List.Pairwise.imp_of_mem (fun {a b} ha hb q => ?_) h.pw
  rw [iiLt_iff]
  have := h.le a ha
  omega
def rc (O : List Spn) : Spn := O.foldl sh [(0, 1000)]
theorem rc_go : ∀ (O : List Spn) (s : Spn), Gap s → (∀ o ∈ O, Gap o) → Gap (O.foldl sh s) ∧ ∀ m, inS (O.foldl sh s) m = true ↔ inS s m = true ∧ ∀ o ∈ O, inS o m = true
  | [], s, h, _ => ⟨h, fun m => ⟨fun q => ⟨q, (fun _ z => nomatch z)⟩, fun q => q.1⟩⟩
  | o :: r, s, h, ho => by
    obtain ⟨h1, h2⟩ := rc_go r (sh s o) (sh_gap h (ho o List.mem_cons_self)) fun q hq => ho q (List.mem_cons_of_mem _ hq)
    refine ⟨h1, fun m => (h2 m).trans ?_⟩
    rw [sh_in]
    exact ⟨fun ⟨⟨a, b⟩, c⟩ => ⟨a, fun q hq => by
      rcases List.mem_cons.mp hq with rfl | hq
      · exact b
      · exact c q hq⟩, fun ⟨a, b⟩ => ⟨⟨a, b o List.mem_cons_self⟩, fun q hq => b q (List.mem_cons_of_mem _ hq)⟩⟩
theorem gap0 : Gap [(0, 1000)] := ⟨fun p hp => by rw [List.mem_singleton] at hp; rw [hp]; decide, List.pairwise_singleton ..⟩
theorem rc_gap {O : List Spn} (h : ∀ o ∈ O, Gap o) : Gap (rc O) := (rc_go O _ gap0 h).1
theorem rc_in {O : List Spn} (h : ∀ o ∈ O, Gap o) {m : Int} : inS (rc O) m = true ↔ (0 ≤ m ∧ m ≤ 1000) ∧ ∀ o ∈ O, inS o m = true := by
  refine ((rc_go O _ gap0 h).2 m).trans ?_
  rw [inS_iff (s := [(0, 1000)])]
  refine and_congr_left fun _ => ⟨fun ⟨p, hp, q⟩ => ?_, fun q => ⟨_, List.mem_singleton.mpr rfl, q⟩⟩
  rw [List.mem_singleton] at hp
  rw [hp] at q; exact q
/-! the moments of spans -/
def run (a : Int) (n : Nat) : List Int := (List.range n).map fun (k : Nat) => a + (k : Int)
def mom (s : Spn) : List Int := s.flatMap fun p => run p.1 (p.2 - p.1 + 1).toNat
theorem run_mem {a m : Int} {n : Nat} : m ∈ run a n ↔ a ≤ m ∧ m < a + n := by
  unfold run
  rw [List.mem_map]
  constructor
  · rintro ⟨k, hk, rfl⟩
    rw [List.mem_range] at hk; omega
  · rintro ⟨h1, h2⟩
    exact ⟨(m - a).toNat, by rw [List.mem_range]; omega, by omega⟩
theorem run_succ {a : Int} {n : Nat} : run a (n + 1) = run a n ++ [a + (n : Int)] := by
  unfold run
  rw [List.range_succ, List.map_append]; rfl
theorem run_asc (a : Int) (n : Nat) : (run a n).Pairwise (· < ·) := by
  unfold run
  rw [List.pairwise_map]
  exact List.Pairwise.imp (fun h => by omega) List.pairwise_lt_range
theorem mom_mem {s : Spn} {m : Int} : m ∈ mom s ↔ inS s m = true := by
  unfold mom
  rw [inS_iff, List.mem_flatMap]
  constructor
  · rintro ⟨p, hp, h⟩
    rw [run_mem] at h
    exact ⟨p, hp, by omega, by omega⟩
  · rintro ⟨p, hp, h1, h2⟩
    exact ⟨p, hp, run_mem.mpr ⟨h1, by omega⟩⟩
theorem mom_asc {s : Spn} (h : Gap s) : (mom s).Pairwise (· < ·) := by
  unfold mom
  rw [List.pairwise_flatMap]
  refine ⟨fun p _ => run_asc _ _, h.pw.imp fun {p q} h x hx y hy => ?_⟩
  rw [run_mem] at hx hy
  omega
def size (s : Spn) : Int := (s.map fun p => p.2 - p.1 + 1).sum
theorem mom_len : ∀ {s : Spn}, (∀ p ∈ s, p.1 ≤ p.2) → ((mom s).length : Int) = size s
  | [], _ => rfl
  | p :: r, h => by
    have e : mom (p :: r) = run p.1 (p.2 - p.1 + 1).toNat ++ mom r := rfl
    have e2 : size (p :: r) = (p.2 - p.1 + 1) + size r := rfl
    have h0 := h p List.mem_cons_self
    have e3 : (run p.1 (p.2 - p.1 + 1).toNat).length = (p.2 - p.1 + 1).toNat := by unfold run; simp
    rw [e, e2, List.length_append, e3, ← mom_len fun q hq => h q (List.mem_cons_of_mem _ hq)]
    omega
/-! moments are joined -/
def joinS (found : Spn) (m : Int) : Spn := match found.getLast? with
  | some p => if p.2 = m - 1 then found.dropLast ++ [(p.1, m)] else found ++ [(m, m)]
  | none => [(m, m)]
theorem join_go {acc : Spn} {a b : Int} : ∀ (n : Nat), (run (b + 1) n).foldl joinS (acc ++ [(a, b)]) = acc ++ [(a, b + n)]
  | 0 => by
    show acc ++ [(a, b)] = acc ++ [(a, b + 0)]
    rw [Int.add_zero]
  | n + 1 => by
    rw [run_succ, List.foldl_append, join_go n]
    show joinS (acc ++ [(a, b + (n : Int))]) (b + 1 + (n : Int)) = _
    unfold joinS
    rw [List.getLast?_concat]
    show (if b + (n : Int) = b + 1 + (n : Int) - 1 then _ else _) = _
    rw [if_pos (by omega), List.dropLast_concat]
    have : b + 1 + (n : Int) = b + ((n + 1 : Nat) : Int) := by omega
    rw [this]
theorem join_mom : ∀ {s acc : Spn}, Gap s → (∀ p q, acc.getLast? = some p → q ∈ s → p.2 + 1 < q.1) → (mom s).foldl joinS acc = acc ++ s
  | [], acc, _, _ => by
    show acc = acc ++ []
    rw [List.append_nil]
  | p :: r, acc, h, ha => by
    have h0 := h.le p List.mem_cons_self
    have e : mom (p :: r) = run p.1 (p.2 - p.1 + 1).toNat ++ mom r := rfl
    obtain ⟨n, hn⟩ : ∃ n : Nat, p.2 = p.1 + n := ⟨(p.2 - p.1).toNat, by omega⟩
    have e2 : run p.1 (p.2 - p.1 + 1).toNat = p.1 :: run (p.1 + 1) n := by
      have : (p.2 - p.1 + 1).toNat = n + 1 := by omega
      rw [this]
      unfold run
      rw [List.range_succ_eq_map, List.map_cons, List.map_map]
      refine congr (congrArg List.cons (by omega)) (List.map_congr_left fun k _ => ?_)
      show p.1 + ((k + 1 : Nat) : Int) = p.1 + 1 + (k : Int)
      omega
    have e3 : joinS acc p.1 = acc ++ [(p.1, p.1)] := by
      unfold joinS
      cases hl : acc.getLast? with
      | none =>
        have : acc = [] := List.getLast?_eq_none_iff.mp hl
        rw [this]; rfl
      | some q =>
        have := ha q p hl List.mem_cons_self
        show (if q.2 = p.1 - 1 then _ else _) = _
        rw [if_neg (by omega)]
    rw [e, e2, List.cons_append, List.foldl_cons, e3, List.foldl_append, join_go, join_mom h.tail]
    · rw [List.append_assoc, ← hn]; rfl
    · intro x q hx hq
      rw [List.getLast?_concat] at hx
      cases hx
      have := (List.pairwise_cons.mp h.pw).1 q hq
      show p.1 + (n : Int) + 1 < q.1
      omega
/-! offices -/
def lastE (s : Spn) : Int := match s.getLast? with
  | some p => p.2
  | none => 0
structure Ofc (s : Spn) : Prop where
  g : Gap s
  n1 : s ≠ []
  n5 : s.length ≤ 5
  b : ∀ p ∈ s, 0 ≤ p.1 ∧ p.2 ≤ 1000
theorem last_ge : ∀ {s : Spn}, Gap s → ∀ p ∈ s, p.2 ≤ lastE s
  | [p], _, q, hq => by
    rw [List.mem_singleton] at hq
    rw [hq]; exact Int.le_refl _
  | p :: r :: s, h, q, hq => by
    have e : lastE (p :: r :: s) = lastE (r :: s) := by
      unfold lastE
      rw [List.getLast?_cons_cons]
    rw [e]
    rcases List.mem_cons.mp hq with rfl | hq
    · have h1 := (List.pairwise_cons.mp h.pw).1 r List.mem_cons_self
      have h2 := last_ge h.tail r List.mem_cons_self
      have h3 := h.tail.le r List.mem_cons_self
      omega
    · exact last_ge h.tail q hq
theorem last_mem : ∀ {s : Spn}, s ≠ [] → ∃ p ∈ s, p.2 = lastE s := fun {s} h => by
  refine ⟨s.getLast h, List.getLast_mem h, ?_⟩
  unfold lastE
  rw [List.getLast?_eq_some_getLast h]
theorem Ofc.last {s : Spn} (h : Ofc s) : 0 ≤ lastE s ∧ lastE s ≤ 1000 := by
  obtain ⟨p, hp, e⟩ := last_mem h.n1
  have := h.b p hp
  have := h.g.le p hp
  omega
theorem Ofc.inB {s : Spn} (h : Ofc s) {m : Int} (q : inS s m = true) : 0 ≤ m ∧ m ≤ lastE s := by
  obtain ⟨p, hp, a, b⟩ := inS_iff.mp q
  have := h.b p hp
  have := last_ge h.g p hp
  omega
/-- the last moment of all offices -/
def endO : List Spn → Int
  | [] => 0
  | o :: r => mxI (lastE o) (r.map lastE)
theorem endO_ge {O : List Spn} {o : Spn} (h : o ∈ O) : lastE o ≤ endO O := by
  cases O with
  | nil => cases h
  | cons x r => exact (mx_all (r.map lastE) (lastE x)).1 _ (List.mem_map_of_mem (f := lastE) h)
theorem endO_b {O : List Spn} (h0 : O ≠ []) (h : ∀ o ∈ O, Ofc o) : 0 ≤ endO O ∧ endO O ≤ 1000 := by
  cases O with
  | nil => exact absurd rfl h0
  | cons x r =>
    have := (mx_all (r.map lastE) (lastE x)).2
    rw [← List.map_cons (f := lastE)] at this
    obtain ⟨o, ho, e⟩ := List.mem_map.mp this
    have := (h o ho).last
    show 0 ≤ mxI (lastE x) (r.map lastE) ∧ mxI (lastE x) (r.map lastE) ≤ 1000
    omega
def momsO (O : List Spn) : List Int := (List.range (endO O + 1).toNat).map fun (i : Nat) => (i : Int)
theorem momsO_mem {O : List Spn} {m : Int} (h : 0 ≤ endO O) : m ∈ momsO O ↔ 0 ≤ m ∧ m ≤ endO O := by
  unfold momsO
  rw [rng_mem]
  omega
/-- the moments in which all let -/
def cm (O : List Spn) : List Int := (momsO O).filter fun m => O.all fun o => inS o m
theorem cm_asc (O : List Spn) : (cm O).Pairwise (· < ·) := List.Pairwise.filter _ (rng_asc _)
theorem cm_mem {O : List Spn} (h0 : O ≠ []) (h : ∀ o ∈ O, Ofc o) {m : Int} : m ∈ cm O ↔ (0 ≤ m ∧ m ≤ 1000) ∧ ∀ o ∈ O, inS o m = true := by
  unfold cm
  rw [List.mem_filter, momsO_mem (endO_b h0 h).1, List.all_eq_true]
  refine ⟨fun ⟨a, b⟩ => ⟨by have := (endO_b h0 h).2; omega, b⟩, fun ⟨a, b⟩ => ⟨⟨a.1, ?_⟩, b⟩⟩
  obtain ⟨o, ho⟩ := List.exists_mem_of_ne_nil O h0
  have := (h o ho).inB (b o ho)
  have := endO_ge ho
  omega
theorem Ofc.gaps {O : List Spn} (h : ∀ o ∈ O, Ofc o) : ∀ o ∈ O, Gap o := fun o ho => (h o ho).g
theorem cm_rc {O : List Spn} (h0 : O ≠ []) (h : ∀ o ∈ O, Ofc o) : cm O = mom (rc O) :=
  asc_ext (cm_asc O) (mom_asc (rc_gap (Ofc.gaps h))) fun m => by rw [cm_mem h0 h, mom_mem, rc_in (Ofc.gaps h)]
/-- the law's spans are the program's -/
theorem join_cm {O : List Spn} (h0 : O ≠ []) (h : ∀ o ∈ O, Ofc o) : (cm O).foldl joinS [] = rc O := by
  rw [cm_rc h0 h, join_mom (rc_gap (Ofc.gaps h)) fun p q e => by cases (show (none : Option II) = some p from e)]; rfl
theorem cm_len {O : List Spn} (h0 : O ≠ []) (h : ∀ o ∈ O, Ofc o) : ((cm O).length : Int) = size (rc O) := by
  rw [cm_rc h0 h, mom_len (rc_gap (Ofc.gaps h)).le]
theorem perm_cm {O P : List Spn} (h0 : O ≠ []) (h : ∀ o ∈ O, Ofc o) (q : O.Perm P) : rc P = rc O := by
  have h0' : P ≠ [] := fun e => h0 (List.eq_nil_of_length_eq_zero (by rw [q.length_eq, e]; rfl))
  have h' : ∀ o ∈ P, Ofc o := fun o ho => h o (q.mem_iff.mpr ho)
  rw [← join_cm h0 h, ← join_cm h0' h']
  congr 1
  refine asc_ext (cm_asc P) (cm_asc O) fun m => ?_
  rw [cm_mem h0 h, cm_mem h0' h']
  refine and_congr_right fun _ => ⟨fun z o ho => z o (q.mem_iff.mp ho), fun z o ho => z o (q.mem_iff.mpr ho)⟩
/-! the first moment from which all let -/
def firsts (O : List Spn) (n : Int) : List Int := (rc O).flatMap fun p => if n ≤ p.2 - p.1 + 1 then [p.1] else []
/-! the moment in which most let -/
def cnt (O : List Spn) (m : Int) : Nat := (O.filter fun o => inS o m).length
def manys (O : List Spn) : List Int := (momsO O).map fun m => (cnt O m : Int)
def bestC (O : List Spn) : Int := match manys O with
  | [] => 0
  | x :: r => mxI x r
def mostP (O : List Spn) : II := ((idxI (manys O) (bestC O) : Nat), bestC O)
theorem manys_ne {O : List Spn} (h : 0 ≤ endO O) : manys O ≠ [] := fun e => by
  have : (manys O).length = (endO O + 1).toNat := by unfold manys momsO; simp
  rw [e] at this
  have : (0 : Nat) = (endO O + 1).toNat := this
  omega
theorem manys_get {O : List Spn} {j : Nat} : (manys O)[j]? = if (j : Int) < endO O + 1 then some ((cnt O j : Nat) : Int) else none := by
  unfold manys momsO
  rw [List.map_map, List.getElem?_map]
  split
  · rw [List.getElem?_range (by omega)]; rfl
  · rw [List.getElem?_eq_none (by rw [List.length_range]; omega)]; rfl
theorem best_all {O : List Spn} (h : 0 ≤ endO O) : (∀ y ∈ manys O, y ≤ bestC O) ∧ bestC O ∈ manys O := by
  unfold bestC
  cases e : manys O with
  | nil => exact absurd e (manys_ne h)
  | cons x r => exact mx_all r x
theorem cnt_mono {O : List Spn} {m n : Int} (h : ∀ o ∈ O, inS o m = true → inS o n = true) : cnt O m ≤ cnt O n := by
  unfold cnt
  induction O with
  | nil => exact Nat.le_refl _
  | cons o r ih =>
    have ih := ih fun p hp => h p (List.mem_cons_of_mem _ hp)
    have h0 := h o List.mem_cons_self
    rw [List.filter_cons, List.filter_cons]
    by_cases a : inS o m = true
    · rw [if_pos a, if_pos (h0 a), List.length_cons, List.length_cons]; omega
    · rw [if_neg a]
      split
      · rw [List.length_cons]; omega
      · exact ih
/-- the keys of the dict of begins: 0, and the begins -/
def Begins (O : List Spn) (ks : List Int) : Prop := ∀ m, m ∈ ks ↔ m = 0 ∨ ∃ o ∈ O, ∃ p ∈ o, p.1 = m
theorem most_told {O : List Spn} (h0 : O ≠ []) (h : ∀ o ∈ O, Ofc o) {ks : List Int} (hk : Begins O ks) {x : II} {xs : List II} (e : ks.map (fun m => ((-(cnt O m : Int), m) : II)) = x :: xs) :
    mnP x xs = (-(mostP O).2, (mostP O).1) := by
  obtain ⟨e0, e1⟩ := endO_b h0 h
  obtain ⟨b1, b2⟩ := best_all e0
  have hg := idx_get b2
  have hn : ∀ {j : Nat} {z : Int}, j < idxI (manys O) (bestC O) → (manys O)[j]? = some z → z ≠ bestC O := fun a b => idx_ne a b
  show mnP x xs = (-bestC O, ((idxI (manys O) (bestC O) : Nat) : Int))
  generalize idxI (manys O) (bestC O) = i at hg hn
  generalize bestC O = c at *
  rw [manys_get] at hg
  have hi : (i : Int) < endO O + 1 := by
    by_cases q : (i : Int) < endO O + 1
    · exact q
    · rw [if_neg q] at hg; cases hg
  rw [if_pos hi] at hg
  have hc : ((cnt O i : Nat) : Int) = c := Option.some.inj hg
  have hle : ∀ j : Int, 0 ≤ j → j ≤ endO O → ((cnt O j : Nat) : Int) ≤ c := fun j a b => b1 _ (List.mem_map.mpr ⟨j, (momsO_mem e0).mpr ⟨a, b⟩, rfl⟩)
  have hlt : ∀ j : Int, 0 ≤ j → j < i → ((cnt O j : Nat) : Int) < c := fun j a b => by
    have h1 := hle j a (by omega)
    have h2 := hn (j := j.toNat) (z := ((cnt O (j.toNat : Int) : Nat) : Int)) (by omega) (by rw [manys_get, if_pos (by omega)])
    rw [Int.toNat_of_nonneg a] at h2
    omega
  have hi0 : (i : Int) ∈ ks := by
    rw [hk]
    by_cases q : ∃ o ∈ O, ∃ p ∈ o, p.1 = (i : Int)
    · exact .inr q
    · by_cases z : i = 0
      · left; omega
      · exfalso
        have := hlt (i - 1) (by omega) (by omega)
        have := cnt_mono (O := O) (m := i) (n := i - 1) fun o ho hin => by
          obtain ⟨p, hp, a, b⟩ := inS_iff.mp hin
          have : p.1 ≠ (i : Int) := fun w => q ⟨o, ho, p, hp, w⟩
          exact inS_iff.mpr ⟨p, hp, by omega, by omega⟩
        omega
  refine mnP_is ?_ fun y hy => ?_
  · rw [← e]
    exact List.mem_map.mpr ⟨i, hi0, by rw [hc]⟩
  · rw [← e] at hy
    obtain ⟨m, hm, rfl⟩ := List.mem_map.mp hy
    have hb : 0 ≤ m ∧ m ≤ endO O := by
      rcases (hk m).mp hm with rfl | ⟨o, ho, p, hp, rfl⟩
      · omega
      · have := (h o ho).b p hp
        have := (h o ho).g.le p hp
        have := last_ge (h o ho).g p hp
        have := endO_ge ho
        omega
    have h1 := hle m hb.1 hb.2
    by_cases z : m = i
    · left; rw [z, hc]
    · right
      rw [iiLt_iff]
      show -c < -((cnt O m : Nat) : Int) ∨ (-c = -((cnt O m : Nat) : Int) ∧ (i : Int) < m)
      by_cases w : m < i
      · have := hlt m hb.1 w; omega
      · omega
theorem perm_cnt {O P : List Spn} (q : O.Perm P) (m : Int) : cnt P m = cnt O m := by
  unfold cnt
  exact ((q.filter _).length_eq).symm
theorem perm_end {O P : List Spn} (h0 : O ≠ []) (h : ∀ o ∈ O, Ofc o) (q : O.Perm P) : endO P = endO O := by
  have go : ∀ {A B : List Spn}, A ≠ [] → (∀ o ∈ A, o ∈ B) → endO A ≤ endO B := fun {A B} ha hs => by
    cases A with
    | nil => exact absurd rfl ha
    | cons x r =>
      have := (mx_all (r.map lastE) (lastE x)).2
      rw [← List.map_cons (f := lastE)] at this
      obtain ⟨o, ho, e⟩ := List.mem_map.mp this
      show mxI (lastE x) (r.map lastE) ≤ endO B
      rw [← e]
      exact endO_ge (hs o ho)
  have h0' : P ≠ [] := fun e => h0 (List.eq_nil_of_length_eq_zero (by rw [q.length_eq, e]; rfl))
  have h1 := go h0 fun o ho => q.mem_iff.mp ho
  have h2 := go h0' fun o ho => q.mem_iff.mpr ho
  omega
theorem perm_most {O P : List Spn} (h0 : O ≠ []) (h : ∀ o ∈ O, Ofc o) (q : O.Perm P) : mostP P = mostP O := by
  have e : manys P = manys O := by
    unfold manys momsO
    rw [perm_end h0 h q]
    exact List.map_congr_left fun m _ => congrArg _ (perm_cnt q m)
  unfold mostP bestC
  rw [e]
/-- one office less: no moment less -/
theorem cm_without {O P : List Spn} (h0 : O ≠ []) (h : ∀ o ∈ O, Ofc o) (p0 : P ≠ []) (hs : ∀ o ∈ P, o ∈ O) : (cm O).length ≤ (cm P).length :=
  asc_len (cm_asc O) (cm_asc P) fun m hm => by
    rw [cm_mem h0 h] at hm
    rw [cm_mem p0 fun o ho => h o (hs o ho)]
    exact ⟨hm.1, fun o ho => hm.2 o (hs o ho)⟩
end Px

set_option Elab.async false
set_option linter.all false
set_option maxRecDepth 100000
set_option maxHeartbeats 4000000
set_option autoImplicit false
namespace Px
open PySem PySem.Spec PyProof.Rows L2
def spD (s : Spn) : D := .tup (s.map pD)
def ofD (O : List Spn) : D := .tup (O.map spD)
theorem q_is_integer {n : Int} : m_is_integer [.int n] = .ret (.bl true) := rfl
theorem q_is_tuple_of {ds : List D} {n : Int} : m_is_tuple_of [.tup ds, .int n] = .ret (.bl (decide ((ds.length : Int) = n))) := by
  have e : isa2D [.tup ds, .raw (.ty "tuple")] = .ret (.bl true) := rfl
  simp [m_is_tuple_of, fnM, b_is_tuple_of, e]
theorem q_is_within {n a b : Int} : m_is_within [.int n, .int a, .int b] = .ret (.bl (decide (a ≤ n) && decide (n ≤ b))) := by
  simp [m_is_within, fnM, b_is_within, q_is_integer]
  by_cases h : a ≤ n <;> simp [h]
theorem q_is_span {p : II} (h1 : p.1 ≤ p.2) (h2 : 0 ≤ p.1 ∧ p.2 ≤ 1000) : m_is_span [pD p] = .ret (.bl true) := by
  have h3 : p.1 ≤ 1000 := by omega
  simp [m_is_span, fnM, b_is_span, pD, q_is_tuple_of, q_is_within, h1, h2, h3]
theorem zip_next : ∀ (s : Spn), zipL (s.map pD) ((s.map pD).drop 1) = (s.zip (s.drop 1)).map fun z => .tup [pD z.1, pD z.2] := fun s => by
  unfold zipL
  rw [← List.map_drop, List.zipWith_map, List.zip, List.map_zipWith]
theorem next_gap : ∀ {s : Spn}, Gap s → ∀ z ∈ s.zip (s.drop 1), z.1.2 + 1 < z.2.1
  | [], _, z, hz => nomatch hz
  | [p], _, z, hz => nomatch hz
  | p :: q :: r, h, z, hz => by
    have hz : z ∈ (p, q) :: (q :: r).zip ((q :: r).drop 1) := hz
    rcases List.mem_cons.mp hz with rfl | hz
    · exact (List.pairwise_cons.mp h.pw).1 q List.mem_cons_self
    · exact next_gap h.tail z hz
theorem q_is_office {s : Spn} (h : Ofc s) : m_is_office [spD s] = .ret (.bl true) := by
  have e : isa2D [.tup (s.map pD), .raw (.ty "tuple")] = .ret (.bl true) := rfl
  have l1 : (1 : Int) ≤ s.length := by have := List.length_pos_iff.mpr h.n1; omega
  have l5 : (s.length : Int) ≤ 5 := by have := h.n5; omega
  have e2 : lcGo (lcOne (bndN 1) yesT (callV (consL (getS 1) nilL) m_is_span) [.v (.tup (s.map pD)), .un, .un]) (s.map pD) = .ret (s.map fun _ => D.bl true) := by
    rw [lcGo_map (f := fun _ => [D.bl true]), flat_map1]
    intro p hp
    simp [q_is_span (h.g.le p hp) ⟨(h.b p hp).1, (h.b p hp).2⟩]
  have e3 : allD [.lst (s.map fun _ => D.bl true)] = .ret (.bl true) := all_true fun d hd => by
    obtain ⟨_, _, rfl⟩ := List.mem_map.mp hd; rfl
  have e4 : cutD (s.map pD) (some 1) none = (s.map pD).drop 1 := cut_from (k := 1) (by rw [List.length_map]; omega)
  have e5 : lcGo (lcOne (bndT 2 (bndCons (bndN 1) (bndCons (bndN 2) bndNil))) yesT (bin (bin (bin (getS 1) (cI 1) getD') (cI 1) addD) (bin (getS 2) (cI 0) getD') ltD) [.v (.tup (s.map pD)), .un, .un]) ((s.zip (s.drop 1)).map fun z => .tup [pD z.1, pD z.2]) = .ret ((s.zip (s.drop 1)).map fun _ => D.bl true) := by
    rw [lcGo_map (enc := fun z : II × II => D.tup [pD z.1, pD z.2]) (f := fun _ => [D.bl true]), flat_map1]
    intro z hz
    have := next_gap h.g z hz
    simp [pD, this]
  have e6 : allD [.lst ((s.zip (s.drop 1)).map fun _ => D.bl true)] = .ret (.bl true) := all_true fun d hd => by
    obtain ⟨_, _, rfl⟩ := List.mem_map.mp hd; rfl
  have e7 : zipL (s.map pD) (cutD (s.map pD) (some 1) none) = (s.zip (s.drop 1)).map fun z => .tup [pD z.1, pD z.2] := by rw [e4, zip_next]
  simp only [m_is_office, fnM, b_is_office, spD, seqM_, ifM_, orT_, notT_, tst_, callV_, consL_, nilL_, cTy_, getS_, List.length_cons, List.length_nil, Nat.reduceAdd, if_true, List.map_cons, List.map_nil, List.replicate, Nat.reduceSub, List.cons_append, List.nil_append, List.getElem?_cons_zero, ret_b, e, toB_, Bool.not_true, Bool.false_eq_true, if_false, chn_, cI_, len_tup, List.length_map, le_int', decide_eq_true l1, decide_eq_true l5, lcM_, anyM_, itemsK_tup, ownFree, wipe_cons, wipe_nil, List.set_cons_succ, List.set_cons_zero, List.getElem?_cons_succ, List.all_cons, List.all_nil, isOwn_un, isOwn_v, isOwn_own, cB_, Bool.not_false, Bool.and_true, Bool.and_self, e2, e3, nextM_, then_nx, retM_, zpM_, slV_, smO_, toI_, noO_, slice_tup, itemsD_tup, e7, e5, e6, fnEnd_rt]
structure OkO (O : List Spn) : Prop where
  ne : O ≠ []
  n6 : O.length ≤ 6
  o : ∀ s ∈ O, Ofc s
theorem q_check {O : List Spn} (h : OkO O) : m_check_offices [ofD O] = .ret .non := by
  have e : isa2D [.tup (O.map spD), .raw (.ty "tuple")] = .ret (.bl true) := rfl
  have l1 : (1 : Int) ≤ O.length := by have := List.length_pos_iff.mpr h.ne; omega
  have l5 : (O.length : Int) ≤ 6 := by have := h.n6; omega
  have e2 : lcGo (lcOne (bndN 1) yesT (callV (consL (getS 1) nilL) m_is_office) [.v (.tup (O.map spD)), .un]) (O.map spD) = .ret (O.map fun _ => D.bl true) := by
    rw [lcGo_map (f := fun _ => [D.bl true]), flat_map1]
    intro p hp
    simp [q_is_office (h.o p hp)]
  have e3 : allD [.lst (O.map fun _ => D.bl true)] = .ret (.bl true) := all_true fun d hd => by
    obtain ⟨_, _, rfl⟩ := List.mem_map.mp hd; rfl
  have l1' : ¬ (O.length : Int) < 1 := by omega
  simp [m_check_offices, fnM, b_check_offices, ofD, e, ownFree, l1, l5, l1', e2, e3]
/-! what two share -/
theorem piece_len (a : II) : ∀ (t : Spn), (t.flatMap fun b => piece a b).length ≤ t.length
  | [] => Nat.le_refl _
  | b :: t => by
    rw [List.flatMap_cons, List.length_append, List.length_cons]
    have : (piece a b).length ≤ 1 := by unfold piece; split <;> simp
    have := piece_len a t
    omega
theorem q_shared {s t : Spn} (hs : Gap s) (ht : Gap t) (hl : s.length * t.length ≤ 1000000) : m_shared [.lst (s.map pD), spD t] = .ret (.lst ((sh s t).map pD)) := by
  simp only [m_shared, fnM, b_shared, seqM_, setM_, lstV_, nilL_, ret_b, slF_lst, then_nx, forS_, anyM_, getS_]
  simp only [List.length_cons, List.length_nil, List.map_cons, List.map_nil, Nat.reduceAdd, Nat.reduceSub, if_true, List.replicate, List.cons_append, List.nil_append, List.set_cons_succ, List.set_cons_zero, List.getElem?_cons_succ, List.getElem?_cons_zero, spD, ret_b, itemsK_lst]
  obtain ⟨Γ', e, q⟩ := forM_rel (enc := pD) (g := fun acc a => acc ++ t.flatMap fun b => piece a b) (R := fun r (acc : Spn) Γ => (∃ d1 d2 d3 d4, Γ = [.v (.lst (s.map pD)), .v (.tup (t.map pD)), .own (.lst (acc.map pD)), d1, d2, d3, d4]) ∧ acc.length + r.length * t.length ≤ 1000000)
    (body := fun d Γ => bndT 2 (bndCons (bndN 3) (bndCons (bndN 4) bndNil)) d Γ >>= forS (anyM (getS 1)) (bndT 2 (bndCons (bndN 5) (bndCons (bndN 6) bndNil))) (ifM (tst (bin (callV (consL (getS 3) (consL (getS 5) nilL)) maxD) (callV (consL (getS 4) (consL (getS 6) nilL)) minD) leD)) (mthM 2 (consL (tupV (consL (callV (consL (getS 3) (consL (getS 5) nilL)) maxD) (consL (callV (consL (getS 4) (consL (getS 6) nilL)) minD) nilL))) nilL) appG dropK') nextM)) (fun a r acc Γ hR => by
    obtain ⟨⟨d1, d2, d3, d4, rfl⟩, hl⟩ := hR
    obtain ⟨Γ2, e2, q2⟩ := forM_rel (enc := pD) (g := fun acc b => acc ++ piece a b) (R := fun r2 (acc2 : Spn) Γ => (∃ d3 d4, Γ = [.v (.lst (s.map pD)), .v (.tup (t.map pD)), .own (.lst (acc2.map pD)), .v (.int a.1), .v (.int a.2), d3, d4]) ∧ acc2.length + r2.length ≤ 1000000)
      (body := fun d Γ => bndT 2 (bndCons (bndN 5) (bndCons (bndN 6) bndNil)) d Γ >>= (ifM (tst (bin (callV (consL (getS 3) (consL (getS 5) nilL)) maxD) (callV (consL (getS 4) (consL (getS 6) nilL)) minD) leD)) (mthM 2 (consL (tupV (consL (callV (consL (getS 3) (consL (getS 5) nilL)) maxD) (consL (callV (consL (getS 4) (consL (getS 6) nilL)) minD) nilL))) nilL) appG dropK') nextM)) (fun b r2 acc2 Γ hR2 => by
      obtain ⟨⟨d3, d4, rfl⟩, hl2⟩ := hR2
      rw [List.length_cons] at hl2
      have m1 : maxD [.int a.1, .int b.1] = .ret (.int (max a.1 b.1)) := by
        show M.ret (D.int (if a.1 < b.1 then b.1 else a.1)) = _
        congr 2; split <;> omega
      have m2 : minD [.int a.2, .int b.2] = .ret (.int (min a.2 b.2)) := by
        show M.ret (D.int (if b.2 < a.2 then b.2 else a.2)) = _
        congr 2; split <;> omega
      have hlt : acc2.length < 16777216 := by omega
      by_cases hc : max a.1 b.1 ≤ min a.2 b.2
      · have hp : piece a b = [(max a.1 b.1, min a.2 b.2)] := if_pos hc
        refine ⟨[.v (.lst (s.map pD)), .v (.tup (t.map pD)), .own (.lst ((acc2 ++ [(max a.1 b.1, min a.2 b.2)]).map pD)), .v (.int a.1), .v (.int a.2), .v (.int b.1), .v (.int b.2)], ?_, ⟨_, _, by rw [hp]⟩, by rw [hp, List.length_append]; show acc2.length + 1 + _ ≤ _; omega⟩
        simp only [pD, bndT_, bndCons_, bndNil_, bndN_, ret_b, List.length_cons, List.length_nil, Nat.reduceAdd, if_true, List.set_cons_succ, List.set_cons_zero, ifM_, tst_, bin_, callV_, consL_, nilL_, getS_, List.getElem?_cons_succ, List.getElem?_cons_zero, m1, m2, le_int', decide_eq_true hc, toB_, mthM_, tupV_, appG_, List.length_map, hlt, dropK_, List.map_append, List.map_cons, List.map_nil]
      · have hp : piece a b = [] := if_neg hc
        refine ⟨[.v (.lst (s.map pD)), .v (.tup (t.map pD)), .own (.lst (acc2.map pD)), .v (.int a.1), .v (.int a.2), .v (.int b.1), .v (.int b.2)], ?_, ⟨_, _, by rw [hp, List.append_nil]⟩, by rw [hp, List.append_nil]; omega⟩
        simp only [pD, bndT_, bndCons_, bndNil_, bndN_, ret_b, List.length_cons, List.length_nil, Nat.reduceAdd, if_true, List.set_cons_succ, List.set_cons_zero, ifM_, tst_, bin_, callV_, consL_, nilL_, getS_, List.getElem?_cons_succ, List.getElem?_cons_zero, m1, m2, le_int', decide_eq_false hc, toB_, Bool.false_eq_true, if_false, nextM_]) (xs := t) (a := acc) (Γ := [.v (.lst (s.map pD)), .v (.tup (t.map pD)), .own (.lst (acc.map pD)), .v (.int a.1), .v (.int a.2), d3, d4]) ⟨⟨_, _, rfl⟩, by rw [List.length_cons, Nat.succ_mul] at hl; omega⟩
    obtain ⟨⟨d5, d6, rfl⟩, hl3⟩ := q2
    rw [foldl_app] at e2
    refine ⟨[.v (.lst (s.map pD)), .v (.tup (t.map pD)), .own (.lst ((acc ++ t.flatMap fun b => piece a b).map pD)), .v (.int a.1), .v (.int a.2), d5, d6], ?_, ⟨_, _, _, _, rfl⟩, ?_⟩
    · exact e2
    · have h1 := piece_len a t
      rw [List.length_append]
      rw [List.length_cons, Nat.succ_mul] at hl
      omega) (xs := s) (a := []) (Γ := [.v (.lst (s.map pD)), .v (.tup (t.map pD)), .own (.lst []), .un, .un, .un, .un]) ⟨⟨_, _, _, _, rfl⟩, by simpa using hl⟩
  obtain ⟨⟨d1, d2, d3, d4, rfl⟩, -⟩ := q
  rw [e, foldl_app]
  simp only [ret_b, then_nx, retM_, callV_, consL_, nilL_, getB_, List.getElem?_cons_succ, List.getElem?_cons_zero, List.nil_append]
  have := sorted_pD (sh_gap hs ht).asc
  unfold sh at this
  rw [this]; rfl
theorem sh_len (s t : Spn) : (sh s t).length ≤ s.length * t.length := by
  unfold sh
  induction s with
  | nil => exact Nat.zero_le _
  | cons a s ih =>
    rw [List.flatMap_cons, List.length_append, List.length_cons, Nat.succ_mul]
    have := piece_len a t
    omega
theorem q_raw {O : List Spn} (hl : O.length ≤ 6) (h : ∀ o ∈ O, Ofc o) : m_raw_common [ofD O] = .ret (.lst ((rc O).map pD)) := by
  simp only [m_raw_common, fnM, b_raw_common, seqM_, setSM_, lstV_, tupV_, consL_, cI_, nilL_, ret_b, then_nx, forS_, anyM_, getS_]
  simp only [List.length_cons, List.length_nil, List.map_cons, List.map_nil, Nat.reduceAdd, Nat.reduceSub, if_true, List.replicate, List.cons_append, List.nil_append, List.set_cons_succ, List.set_cons_zero, List.getElem?_cons_succ, List.getElem?_cons_zero, ofD, ret_b, itemsK_tup]
  obtain ⟨Γ', e, q⟩ := forM_rel (enc := spD) (g := sh) (R := fun r (acc : Spn) Γ => (∃ d1, Γ = [.v (.tup (O.map spD)), .v (.lst (acc.map pD)), d1]) ∧ Gap acc ∧ (∀ o ∈ r, Ofc o) ∧ acc.length * 5 ^ r.length ≤ 15625)
    (body := fun d Γ => bndN 2 d Γ >>= setSM 1 (callV (consL (getS 1) (consL (getS 2) nilL)) m_shared)) (fun o r acc Γ hR => by
    obtain ⟨⟨d1, rfl⟩, hg, ho, hb⟩ := hR
    have h0 := ho o List.mem_cons_self
    rw [List.length_cons, Nat.pow_succ, Nat.mul_comm (5 ^ r.length) 5, ← Nat.mul_assoc] at hb
    have hp : 1 ≤ 5 ^ r.length := Nat.one_le_pow _ _ (by decide)
    have h5 : acc.length * o.length ≤ acc.length * 5 := Nat.mul_le_mul_left _ h0.n5
    have h6 : acc.length * 5 ≤ 15625 := Nat.le_trans (Nat.le_mul_of_pos_right _ hp) hb
    have hs := q_shared hg h0.g (by omega)
    refine ⟨[.v (.tup (O.map spD)), .v (.lst ((sh acc o).map pD)), .v (spD o)], ?_, ⟨_, rfl⟩, sh_gap hg h0.g, fun q hq => ho q (List.mem_cons_of_mem _ hq), ?_⟩
    · simp only [bndN_, ret_b, List.set_cons_succ, List.set_cons_zero, setSM_, callV_, consL_, nilL_, getS_, List.getElem?_cons_succ, List.getElem?_cons_zero, hs]
    · exact Nat.le_trans (Nat.mul_le_mul_right _ (Nat.le_trans (sh_len acc o) h5)) hb) (xs := O) (a := [(0, 1000)]) (Γ := [.v (.tup (O.map spD)), .v (.lst [.tup [.int 0, .int 1000]]), .un]) ⟨⟨_, rfl⟩, gap0, h, by
      show 1 * 5 ^ O.length ≤ 15625
      rw [Nat.one_mul]
      exact Nat.pow_le_pow_right (by decide) hl⟩
  obtain ⟨⟨d1, rfl⟩, -⟩ := q
  rw [e]
  rfl
theorem size_lc {s : Spn} {i j : Nat} {Γ : Ga} (hi : i < Γ.length) (hj : j < Γ.length) (hn : i ≠ j) : lcGo (lcOne (bndT 2 (bndCons (bndN i) (bndCons (bndN j) bndNil))) yesT (bin (bin (getS j) (getS i) subD) (cI 1) addD) Γ) (s.map pD) = .ret ((s.map fun p => p.2 - p.1 + 1).map .int) := by
  rw [lcGo_map (f := fun p => [.int (p.2 - p.1 + 1)]), flat_map1, List.map_map]
  · rfl
  · intro p _
    have e1 : ((Γ.set i (.v (.int p.1))).set j (.v (.int p.2)))[j]? = some (.v (.int p.2)) := by rw [List.getElem?_set_self (by rw [List.length_set]; exact hj)]
    have e2 : ((Γ.set i (.v (.int p.1))).set j (.v (.int p.2)))[i]? = some (.v (.int p.1)) := by rw [List.getElem?_set_ne hn.symm, List.getElem?_set_self hi]
    simp only [lcOne_, pD, bndT_, bndCons_, bndNil_, bndN_, ret_b, List.length_cons, List.length_nil, Nat.reduceAdd, if_true, yesT_, bin_, getS_, cI_, e1, e2, sub_int', add_int, noexc_ret]
theorem q_size {s : Spn} : m_size_of [.lst (s.map pD)] = .ret (.int (size s)) := by
  simp [m_size_of, fnM, b_size_of, ownFree]
  rw [size_lc (by simp) (by simp) (by decide)]
  simp only [ret_b, sum_ints]
  rfl
theorem q_sizeT {s : Spn} : m_size_of [spD s] = .ret (.int (size s)) := by
  simp [m_size_of, fnM, b_size_of, ownFree, spD]
  rw [size_lc (by simp) (by simp) (by decide)]
  simp only [ret_b, sum_ints]
  rfl
theorem in_lc {s : Spn} {m : Int} {i j l : Nat} {Γ : Ga} (hi : i < Γ.length) (hj : j < Γ.length) (hl : Γ[l]? = some (.v (.int m))) (hn : i ≠ j) (h1 : l ≠ i) (h2 : l ≠ j) : lcGo (lcOne (bndT 2 (bndCons (bndN i) (bndCons (bndN j) bndNil))) yesT (chn (getS i) (getS l) (getS j) leD leD) Γ) (s.map pD) = .ret ((s.map fun p => decide (p.1 ≤ m) && decide (m ≤ p.2)).map .bl) := by
  rw [lcGo_map (f := fun p => [.bl (decide (p.1 ≤ m) && decide (m ≤ p.2))]), flat_map1, List.map_map]
  · rfl
  · intro p _
    have e1 : ((Γ.set i (.v (.int p.1))).set j (.v (.int p.2)))[j]? = some (.v (.int p.2)) := by rw [List.getElem?_set_self (by rw [List.length_set]; exact hj)]
    have e2 : ((Γ.set i (.v (.int p.1))).set j (.v (.int p.2)))[i]? = some (.v (.int p.1)) := by rw [List.getElem?_set_ne hn.symm, List.getElem?_set_self hi]
    have e3 : ((Γ.set i (.v (.int p.1))).set j (.v (.int p.2)))[l]? = some (.v (.int m)) := by rw [List.getElem?_set_ne h2.symm, List.getElem?_set_ne h1.symm, hl]
    simp only [lcOne_, pD, bndT_, bndCons_, bndNil_, bndN_, ret_b, List.length_cons, List.length_nil, Nat.reduceAdd, if_true, yesT_, chn_, getS_, e1, e2, e3, le_int', toB_]
    by_cases h : p.1 ≤ m
    · rw [decide_eq_true h]; rfl
    · rw [decide_eq_false h]; rfl
theorem any_in {s : Spn} {m : Int} : anyD [.lst ((s.map fun p => decide (p.1 ≤ m) && decide (m ≤ p.2)).map .bl)] = .ret (.bl (inS s m)) := by
  rw [any_bls, List.any_map]; rfl
theorem q_llets {s : Spn} {m : Int} : m__law_lets [spD s, .int m] = .ret (.bl (inS s m)) := by
  simp [m__law_lets, fnM, b__law_lets, ownFree, spD]
  rw [in_lc (m := m) (by simp) (by simp) rfl (by decide) (by decide) (by decide)]
  simp only [ret_b, any_in]
  rfl
theorem flat_if {α β : Type} {c : α → Bool} {f : α → β} : ∀ {xs : List α}, (xs.flatMap fun x => if c x = true then [f x] else []) = (xs.filter c).map f
  | [] => rfl
  | x :: r => by
    rw [List.flatMap_cons, flat_if, List.filter_cons]
    by_cases h : c x = true
    · rw [if_pos h, if_pos h]; rfl
    · rw [if_neg h, if_neg h]; rfl
theorem q_lets_at {O : List Spn} {m : Int} : m_lets_at [ofD O, .int m] = .ret (.int (cnt O m : Nat)) := by
  have e : lcGo (lcOne (bndN 2) (tst (callV (consL (lcM [3, 4] (anyM (getS 2)) (bndT 2 (bndCons (bndN 3) (bndCons (bndN 4) bndNil))) yesT (chn (getS 3) (getS 1) (getS 4) leD leD)) nilL) anyD)) (getS 2) [.v (.tup (O.map spD)), .v (.int m), .un, .un, .un]) (O.map spD) = .ret ((O.filter fun o => inS o m).map spD) := by
    rw [lcGo_map (f := fun o => if inS o m = true then [spD o] else []), flat_if]
    intro o _
    simp [ownFree, spD]
    rw [in_lc (m := m) (by simp) (by simp) rfl (by decide) (by decide) (by decide)]
    simp only [ret_b, any_in, toB_]
    cases inS o m <;> rfl
  simp [m_lets_at, fnM, b_lets_at, ownFree, ofD, e]
  rfl
theorem q_common {O : List Spn} (h : OkO O) : m_common [ofD O] = .ret (spD (rc O)) := by
  simp [m_common, fnM, b_common, q_check h, q_raw h.n6 h.o]
  rfl
theorem q_many {O : List Spn} (h : OkO O) : m_moments_many [ofD O] = .ret (.int (size (rc O))) := by
  simp [m_moments_many, fnM, b_moments_many, q_check h, q_raw h.n6 h.o, q_size]
/-- the first of some, None -/
def headD : List Int → D
  | [] => .non
  | n :: _ => .int n
theorem first_lc {s : Spn} {n : Int} {Γ : Ga} {i j l : Nat} (hi : i < Γ.length) (hj : j < Γ.length) (hl : Γ[l]? = some (.v (.int n))) (hn : i ≠ j) (h1 : l ≠ i) (h2 : l ≠ j) : lcGo (lcOne (bndT 2 (bndCons (bndN i) (bndCons (bndN j) bndNil))) (tst (bin (bin (bin (getS j) (getS i) subD) (cI 1) addD) (getS l) geD)) (getS i) Γ) (s.map pD) = .ret ((s.flatMap fun p => if n ≤ p.2 - p.1 + 1 then [p.1] else []).map .int) := by
  rw [lcGo_map (f := fun p => if n ≤ p.2 - p.1 + 1 then [.int p.1] else []), List.map_flatMap]
  · congr 2
    funext p
    split <;> rfl
  · intro p _
    have e1 : ((Γ.set i (.v (.int p.1))).set j (.v (.int p.2)))[j]? = some (.v (.int p.2)) := by rw [List.getElem?_set_self (by rw [List.length_set]; exact hj)]
    have e2 : ((Γ.set i (.v (.int p.1))).set j (.v (.int p.2)))[i]? = some (.v (.int p.1)) := by rw [List.getElem?_set_ne hn.symm, List.getElem?_set_self hi]
    have e3 : ((Γ.set i (.v (.int p.1))).set j (.v (.int p.2)))[l]? = some (.v (.int n)) := by rw [List.getElem?_set_ne h2.symm, List.getElem?_set_ne h1.symm, hl]
    simp only [lcOne_, pD, bndT_, bndCons_, bndNil_, bndN_, ret_b, List.length_cons, List.length_nil, Nat.reduceAdd, if_true, tst_, bin_, getS_, cI_, e1, e2, e3, sub_int', add_int, ge_int', toB_]
    by_cases h : n ≤ p.2 - p.1 + 1
    · rw [decide_eq_true h, if_pos h]; rfl
    · rw [decide_eq_false h, if_neg h]; rfl
theorem q_first {O : List Spn} (h : OkO O) {n : Int} (h1 : 1 ≤ n) (h2 : n ≤ 200) : m_first_moment [ofD O, .int n] = .ret (headD (firsts O n)) := by
  simp [m_first_moment, fnM, b_first_moment, q_check h, q_raw h.n6 h.o, q_is_within, h1, h2, ownFree]
  rw [first_lc (n := n) (by simp) (by simp) rfl (by decide) (by decide) (by decide)]
  simp only [ret_b]
  show _ = M.ret (headD ((rc O).flatMap fun p => if n ≤ p.2 - p.1 + 1 then [p.1] else []))
  generalize ((rc O).flatMap fun p => if n ≤ p.2 - p.1 + 1 then [p.1] else []) = l
  cases l <;> simp [headD]
end Px

set_option Elab.async false
set_option linter.all false
set_option maxRecDepth 100000
set_option maxHeartbeats 4000000
set_option autoImplicit false
namespace Px
open PySem PySem.Spec PyProof.Rows L2
/-! least, greatest of many -/
def minI : List Int → Int
  | [] => 0
  | x :: r => mnI x r
def maxI : List Int → Int
  | [] => 0
  | x :: r => mxI x r
theorem minD_l {xs : List Int} (h : xs ≠ []) : minD [.lst (xs.map .int)] = .ret (.int (minI xs)) := by
  cases xs with
  | nil => exact absurd rfl h
  | cons x r => exact minD_int
theorem maxD_l {xs : List Int} (h : xs ≠ []) : maxD [.lst (xs.map .int)] = .ret (.int (maxI xs)) := by
  cases xs with
  | nil => exact absurd rfl h
  | cons x r => exact maxD_int
theorem minI_mem {xs : List Int} (h : xs ≠ []) : minI xs ∈ xs := by
  cases xs with
  | nil => exact absurd rfl h
  | cons x r => exact (mn_all r x).2
theorem maxI_mem {xs : List Int} (h : xs ≠ []) : maxI xs ∈ xs := by
  cases xs with
  | nil => exact absurd rfl h
  | cons x r => exact (mx_all r x).2
theorem maxI_ge {xs : List Int} {y : Int} (hy : y ∈ xs) : y ≤ maxI xs := by
  cases xs with
  | nil => cases hy
  | cons x r => exact (mx_all r x).1 y hy
theorem map_ne {α β : Type} {f : α → β} {xs : List α} (h : xs ≠ []) : xs.map f ≠ [] := fun e => h (List.map_eq_nil_iff.mp e)
def strictI (O : List Spn) : Int := (idxI (O.map size) (minI (O.map size)) : Nat)
theorem q_strict {O : List Spn} (h : OkO O) : m_strictest [ofD O] = .ret (.int (strictI O)) := by
  have e : lcGo (lcOne (bndN 2) yesT (callV (consL (getS 2) nilL) m_size_of) [.v (ofD O), .un, .un]) (O.map spD) = .ret ((O.map size).map .int) := by
    rw [lcGo_map (f := fun s => [.int (size s)]), flat_map1, List.map_map]
    · rfl
    · intro s _
      simp [q_sizeT]
  have hn := map_ne (f := size) h.ne
  simp only [m_strictest, fnM, b_strictest, seqM_, exprM_, callV_, consL_, nilL_, getS_, List.length_cons, List.length_nil, Nat.reduceAdd, if_true, List.map_cons, List.map_nil, List.replicate, Nat.reduceSub, List.cons_append, List.nil_append, List.getElem?_cons_zero, ret_b, q_check h, then_nx, setM_, lcM_, anyM_, show itemsK (ofD O) = .ret (O.map spD) from rfl]
  simp only [ownFree, wipe_cons, wipe_nil, List.set_cons_succ, List.set_cons_zero, List.getElem?_cons_succ, List.getElem?_cons_zero, List.all_cons, List.all_nil, isOwn_un, isOwn_v, Bool.not_false, Bool.and_true, if_true, e, ret_b, slF_lst, then_nx, retM_, methV_l, getB_, isT_l, consL_, callV_, nilL_, minD_l hn, indexD_int (minI_mem hn), fnEnd_rt]
  rfl
/-! one less -/
def less (O : List Spn) (i : Nat) : List Spn := O.take i ++ O.drop (i + 1)
def lessL (O : List Spn) : List Int := (List.range O.length).map fun i => size (rc (less O i))
theorem less_D {O : List Spn} {i : Nat} (h : i < O.length) (hl : O.length ≤ 6) : (sliceD none (some (i : Int)) (ofD O) >>= fun x => sliceD (some ((i : Int) + 1)) none (ofD O) >>= fun y => addD x y) = .ret (ofD (less O i)) := by
  show (if (cutD (O.map spD) none (some (i : Int))).length + (cutD (O.map spD) (some ((i : Int) + 1)) none).length ≤ 16777216 then M.ret (D.tup (cutD (O.map spD) none (some (i : Int)) ++ cutD (O.map spD) (some ((i : Int) + 1)) none)) else .stuck) = _
  have e1 : cutD (O.map spD) none (some (i : Int)) = (O.map spD).take i := cut_to (by rw [List.length_map]; omega)
  have e2 : cutD (O.map spD) (some ((i : Int) + 1)) none = (O.map spD).drop (i + 1) := cut_from (k := i + 1) (by rw [List.length_map]; omega)
  rw [e1, e2, if_pos (by simp; omega)]
  unfold less ofD
  rw [List.map_append, List.map_take, List.map_drop]
theorem less_mem {O : List Spn} {i : Nat} {o : Spn} (h : o ∈ less O i) : o ∈ O := by
  rcases List.mem_append.mp h with h | h
  · exact List.mem_of_mem_take h
  · exact List.mem_of_mem_drop h
theorem less_len {O : List Spn} {i : Nat} (h : i < O.length) : (less O i).length = O.length - 1 := by
  unfold less
  rw [List.length_append, List.length_take, List.length_drop]; omega
theorem rng_lc {γ : Type} {n : Nat} {one : D → M (List D)} {f : Nat → γ} {enc : γ → D} (h : ∀ i, i < n → one (.int (i : Nat)) = .ret [enc (f i)]) : lcGo one ((List.range n).map fun (i : Nat) => D.int (i : Int)) = .ret (((List.range n).map f).map enc) := by
  rw [lcGo_map (enc := fun (i : Nat) => D.int (i : Int)) (f := fun i => [enc (f i)]), flat_map1, List.map_map]
  · rfl
  · intro i hi
    exact h i (List.mem_range.mp hi)
theorem lessL_ne {O : List Spn} (h : O ≠ []) : lessL O ≠ [] := map_ne fun e => h (List.eq_nil_of_length_eq_zero (List.range_eq_nil.mp e))
def longI (O : List Spn) : Int := (idxI (lessL O) (maxI (lessL O)) : Nat)
theorem q_longer {O : List Spn} (h : OkO O) : m_longer_without [ofD O] = .ret (.int (longI O)) := by
  have hl := h.n6
  have e0 : rangeD [.int ((O.length : Nat) : Int)] = .ret ((List.range O.length).map fun (y : Nat) => D.int (y : Int)) := range_nat (by omega) (by omega)
  have e : lcGo (lcOne (bndN 2) yesT (callV (consL (callV (consL (bin (slV (getS 0) noO (smO (getS 2))) (slV (getS 0) (smO (bin (getS 2) (cI 1) addD)) noO) addD) nilL) m_raw_common) nilL) m_size_of) [.v (ofD O), .un, .un]) ((List.range O.length).map fun (y : Nat) => D.int (y : Int)) = .ret ((lessL O).map .int) := by
    refine rng_lc (f := fun i => size (rc (less O i))) fun i hi => ?_
    have := less_D hi hl
    have hq := q_raw (O := less O i) (by rw [less_len hi]; omega) fun o ho => h.o o (less_mem ho)
    simp only [lcOne_, bndN_, ret_b, List.set_cons_succ, List.set_cons_zero, yesT_, if_true, callV_, consL_, nilL_, bin_, slV_, noO_, smO_, getS_, cI_, List.getElem?_cons_succ, List.getElem?_cons_zero, toI_, add_int]
    rw [this]
    simp only [ret_b, hq, q_size, noexc_ret]
  have hn := lessL_ne h.ne
  simp only [m_longer_without, fnM, b_longer_without, seqM_, exprM_, callV_, consL_, nilL_, getS_, List.length_cons, List.length_nil, Nat.reduceAdd, if_true, List.map_cons, List.map_nil, List.replicate, Nat.reduceSub, List.cons_append, List.nil_append, List.getElem?_cons_zero, ret_b, q_check h, then_nx, setM_, lcM_, rgM_]
  simp only [ownFree, wipe_cons, wipe_nil, List.set_cons_succ, List.set_cons_zero, List.getElem?_cons_succ, List.getElem?_cons_zero, List.all_cons, List.all_nil, isOwn_un, isOwn_v, Bool.not_false, Bool.and_true, if_true, ret_b]
  have e1 : len2D [ofD O] = .ret (.int ((O.length : Nat) : Int)) := by unfold ofD; rw [len_tup, List.length_map]
  rw [e1]
  simp only [ret_b, e0, e, slF_lst, then_nx, retM_, methV_l, getB_, isT_l, consL_, callV_, nilL_, if_true, List.set_cons_succ, List.set_cons_zero, List.getElem?_cons_succ, List.getElem?_cons_zero, maxD_l hn, indexD_int (maxI_mem hn), fnEnd_rt]
  rfl
/-! where most let -/
def intD1 (p : Int) : D × D := (.int p, .bl true)
theorem keys_dput {ks : List Int} {m : Int} : dput false (ks.map intD1) (.int m) (.bl true) = (if m ∈ ks then ks else ks ++ [m]).map intD1 := by
  have hs (k : Int) : sameK false (.int k) (.int m) = decide (k = m) := by
    show decide (some (Sum.inl k : Key) = some (.inl m)) = _
    exact decide_eq_decide.mpr ⟨fun z => by injection z with z; injection z, fun z => by rw [z]⟩
  unfold dput
  have e : ((ks.map intD1).any fun p => sameK false p.1 (.int m)) = decide (m ∈ ks) := by
    rw [List.any_map, Bool.eq_iff_iff, List.any_eq_true, decide_eq_true_eq]
    constructor
    · rintro ⟨k, hk, q⟩
      have q : sameK false (.int k) (.int m) = true := q
      rw [hs, decide_eq_true_eq] at q
      rw [← q]; exact hk
    · intro h
      exact ⟨m, h, by show sameK false (.int m) (.int m) = true; rw [hs]; exact decide_eq_true rfl⟩
  rw [e]
  by_cases h : m ∈ ks
  · rw [if_pos (decide_eq_true h), if_pos h, List.map_map]
    refine List.map_congr_left fun k _ => ?_
    show (if sameK false (.int k) (.int m) = true then ((.int k : D), D.bl true) else _) = _
    split <;> rfl
  · rw [if_neg (by rw [decide_eq_false h]; exact Bool.false_ne_true), if_neg h, List.map_append]; rfl
def addK (ks : List Int) (m : Int) : List Int := if m ∈ ks then ks else ks ++ [m]
theorem keys_dputs : ∀ (ms ks : List Int), dputs (ks.map intD1) (ms.map intD1) = (ms.foldl addK ks).map intD1
  | [], ks => rfl
  | m :: r, ks => by
    show dputs (dput false (ks.map intD1) (.int m) (.bl true)) (r.map intD1) = _
    rw [keys_dput]
    exact keys_dputs r (addK ks m)
theorem addK_mem {ms ks : List Int} {x : Int} : x ∈ ms.foldl addK ks ↔ x ∈ ks ∨ x ∈ ms := by
  induction ms generalizing ks with
  | nil => simp
  | cons m r ih =>
    rw [List.foldl_cons, ih, List.mem_cons]
    unfold addK
    split
    · rename_i h
      constructor
      · rintro (z | z)
        · exact .inl z
        · exact .inr (.inr z)
      · rintro (z | rfl | z)
        · exact .inl z
        · exact .inl h
        · exact .inr z
    · rw [List.mem_append, List.mem_singleton, or_assoc]
theorem addK_len (ms : List Int) : ∀ (ks : List Int), (ms.foldl addK ks).length ≤ ks.length + ms.length := by
  induction ms with
  | nil => exact fun ks => Nat.le_refl _
  | cons m r ih =>
    intro ks
    rw [List.foldl_cons, List.length_cons]
    have := ih (addK ks m)
    have h2 : (addK ks m).length ≤ ks.length + 1 := by unfold addK; split <;> simp
    omega
theorem begin_dc {one : D → M (List (D × D))} {s : Spn} (h : ∀ p ∈ s, one (pD p) = .ret [intD1 p.1]) : ∀ (acc : List Int), dcGo one (s.map pD) (acc.map intD1) = .ret (((s.map (·.1)).foldl addK acc).map intD1) := by
  induction s with
  | nil => exact fun _ => rfl
  | cons p r ih =>
    intro acc
    show (one (pD p) >>= fun l => dcGo one (r.map pD) (dputs (acc.map intD1) l)) = _
    rw [h p List.mem_cons_self, ret_b]
    show dcGo one (r.map pD) (dput false (acc.map intD1) (.int p.1) (.bl true)) = _
    rw [keys_dput]
    exact ih (fun q hq => h q (List.mem_cons_of_mem _ hq)) (addK acc p.1)
def begK (ks : List Int) (s : Spn) : List Int := ((s.map (·.1)).foldl addK []).foldl addK ks
theorem begK_mem {s : Spn} {ks : List Int} {x : Int} : x ∈ begK ks s ↔ x ∈ ks ∨ ∃ p ∈ s, p.1 = x := by
  unfold begK
  rw [addK_mem, addK_mem, List.mem_map]
  simp
theorem begK_len (s : Spn) (ks : List Int) : (begK ks s).length ≤ ks.length + s.length := by
  unfold begK
  have h1 := addK_len ((s.map (·.1)).foldl addK []) ks
  have h2 := addK_len (s.map (·.1)) []
  rw [List.length_map, List.length_nil] at h2
  omega
theorem begs_mem : ∀ {O : List Spn} {ks : List Int} {x : Int}, x ∈ O.foldl begK ks ↔ x ∈ ks ∨ ∃ o ∈ O, ∃ p ∈ o, p.1 = x
  | [], ks, x => by simp
  | o :: r, ks, x => by
    rw [List.foldl_cons, begs_mem, begK_mem, or_assoc]
    simp
theorem q_most_at {O : List Spn} (h : OkO O) : m_most_at [ofD O] = .ret (pD (mostP O)) := by
  simp only [m_most_at, fnM, b_most_at, seqM_, exprM_, callV_, consL_, nilL_, getS_, List.length_cons, List.length_nil, Nat.reduceAdd, if_true, List.map_cons, List.map_nil, List.replicate, Nat.reduceSub, List.cons_append, List.nil_append, List.getElem?_cons_zero, ret_b, q_check h, then_nx, setM_]
  have e0 : dispK [(cI 0, cB true)] [.v (ofD O), .un, .un, .un, .un, .un, .un] = .ret (.dct false ([0].map intD1)) := rfl
  rw [e0]
  simp only [ret_b, slF_dct, then_nx, seqM_, forS_, anyM_, getS_, List.set_cons_succ, List.set_cons_zero, List.getElem?_cons_succ, List.getElem?_cons_zero, show itemsK (ofD O) = .ret (O.map spD) from rfl]
  obtain ⟨Γ', e, q⟩ := forM_rel (enc := spD) (g := begK) (R := fun r (ks : List Int) Γ => (∃ d1, Γ = [.v (ofD O), .own (.dct false (ks.map intD1)), d1, .un, .un, .un, .un]) ∧ (∀ o ∈ r, Ofc o) ∧ ks.length + 5 * r.length ≤ 1000)
    (body := fun d Γ => bndN 2 d Γ >>= updM 1 (dcM [3, 4] (anyM (getS 2)) (bndT 2 (bndCons (bndN 3) (bndCons (bndN 4) bndNil))) yesT (getS 3) (cB true))) (fun o r ks Γ hR => by
    obtain ⟨⟨d1, rfl⟩, ho, hl⟩ := hR
    have h0 := ho o List.mem_cons_self
    rw [List.length_cons] at hl
    have h5 := h0.n5
    have e1 : dcGo (dcOne (bndT 2 (bndCons (bndN 3) (bndCons (bndN 4) bndNil))) yesT (getS 3) (cB true) [.v (ofD O), .own (.dct false (ks.map intD1)), .v (spD o), .un, .un, .un, .un]) (o.map pD) [] = .ret (((o.map (·.1)).foldl addK []).map intD1) :=
      begin_dc (fun p _ => by
        simp only [dcOne_, pD, bndT_, bndCons_, bndNil_, bndN_, ret_b, List.length_cons, List.length_nil, Nat.reduceAdd, if_true, List.set_cons_succ, List.set_cons_zero, yesT_, getS_, cB_, List.getElem?_cons_succ, List.getElem?_cons_zero, keyD, Option.isSome_some, noexc_ret]
        rfl) []
    have h2 := addK_len (o.map (·.1)) []
    rw [List.length_map, List.length_nil] at h2
    refine ⟨[.v (ofD O), .own (.dct false ((begK ks o).map intD1)), .v (spD o), .un, .un, .un, .un], ?_, ⟨_, rfl⟩, fun q hq => ho q (List.mem_cons_of_mem _ hq), by have := begK_len o ks; omega⟩
    have hif : ks.length + ((o.map (·.1)).foldl addK []).length ≤ 16777216 := by omega
    simp only [bndN_, ret_b, List.set_cons_succ, List.set_cons_zero, updM_, List.getElem?_cons_succ, List.getElem?_cons_zero, dcM_, anyM_, getS_, show itemsK (spD o) = .ret (o.map pD) from rfl]
    simp only [ownFree, wipe_cons, wipe_nil, List.set_cons_succ, List.set_cons_zero, List.getElem?_cons_succ, List.getElem?_cons_zero, List.all_cons, List.all_nil, isOwn_un, isOwn_v, Bool.not_false, Bool.and_true, if_true, ret_b, e1, List.length_map, hif, keys_dputs]
    rfl) (xs := O) (a := [0]) (Γ := [.v (ofD O), .own (.dct false ([0].map intD1)), .un, .un, .un, .un, .un]) ⟨⟨_, rfl⟩, h.o, by have := h.n6; show 1 + 5 * O.length ≤ 1000; omega⟩
  obtain ⟨⟨d1, rfl⟩, -⟩ := q
  rw [e]
  have hk : Begins O (O.foldl begK [0]) := fun m => by rw [begs_mem, List.mem_singleton]
  have hne : O.foldl begK [0] ≠ [] := fun z => by
    have : (0 : Int) ∈ O.foldl begK [0] := begs_mem.mpr (.inl (List.mem_singleton.mpr rfl))
    rw [z] at this; cases this
  generalize O.foldl begK [0] = ks at hk hne
  have e2 : lcGo (lcOne (bndN 6) yesT (tupV (consL (una (callV (consL (getS 0) (consL (getS 6) nilL)) m_lets_at) negD) (consL (getS 6) nilL))) [.v (ofD O), .v (.dct false (ks.map intD1)), d1, .un, .un, .un, .un]) ((ks.map intD1).map (·.1)) = .ret ((ks.map fun m => ((-(cnt O m : Int), m) : II)).map pD) := by
    rw [List.map_map, List.map_map]
    rw [lcGo_map (enc := (fun p : D × D => p.1) ∘ intD1) (f := fun m => [pD (-(cnt O m : Int), m)]), flat_map1]
    · rfl
    · intro m _
      simp only [lcOne_, bndN_, ret_b, List.set_cons_succ, List.set_cons_zero, yesT_, if_true, tupV_, consL_, nilL_, una_, callV_, getS_, List.getElem?_cons_succ, List.getElem?_cons_zero, Function.comp, intD1, q_lets_at, neg_int', noexc_ret]
      rfl
  simp only [ret_b, then_nx, fzM_, fz, List.getElem?_cons_succ, List.getElem?_cons_zero, List.set_cons_succ, List.set_cons_zero, seqM_, setM_, lcM_, anyM_, getS_, itemsK_dct, ownFree, wipe_cons, wipe_nil, List.all_cons, List.all_nil, isOwn_un, isOwn_v, Bool.not_false, Bool.and_true, if_true, e2, slF_lst, retM_, tupV_, consL_, nilL_, bin_, una_, callV_, getB_, cI_]
  cases ek : ks.map (fun m => ((-(cnt O m : Int), m) : II)) with
  | nil => exact absurd (List.map_eq_nil_iff.mp ek) hne
  | cons x xs =>
    have ht := most_told h.ne h.o hk ek
    simp only [minD_pD, ht, ret_b, pD, get_tup, atD0, atD1, neg_int', fnEnd_rt, Int.neg_neg]
end Px

set_option Elab.async false
set_option linter.all false
set_option maxRecDepth 100000
set_option maxHeartbeats 4000000
set_option autoImplicit false
namespace Px
open PySem PySem.Spec PyProof.Rows L2
/-! ### the law's own account -/
theorem get_p0 {p : II} : getD' (pD p) (.int 0) = .ret (.int p.1) := by unfold pD; rw [get_tup, atD0]
theorem get_p1 {p : II} : getD' (pD p) (.int 1) = .ret (.int p.2) := by unfold pD; rw [get_tup, atD1]
theorem last_D {s : Spn} (h : s ≠ []) : atD (s.map pD) (-1) = .ret (pD (s.getLast h)) := by
  obtain ⟨a, b, rfl⟩ : ∃ a b, s = a ++ [b] := ⟨s.dropLast, s.getLast h, (List.dropLast_concat_getLast h).symm⟩
  rw [List.map_append, List.map_cons, List.map_nil, atD_last, List.getLast_concat]
theorem lastE_eq {s : Spn} (h : s ≠ []) : lastE s = (s.getLast h).2 := by
  unfold lastE
  rw [List.getLast?_eq_some_getLast h]
theorem ends_lc {O : List Spn} {i : Nat} {Γ : Ga} (hi : i < Γ.length) (h : ∀ o ∈ O, Ofc o) : lcGo (lcOne (bndN i) yesT (bin (bin (getS i) (una (cI 1) negD) getD') (cI 1) getD') Γ) (O.map spD) = .ret ((O.map lastE).map .int) := by
  rw [lcGo_map (f := fun s => [.int (lastE s)]), flat_map1, List.map_map]
  · rfl
  · intro s hs
    have h0 := (h s hs).n1
    simp only [lcOne_, bndN_, ret_b, yesT_, if_true, bin_, una_, getS_, cI_, List.getElem?_set_self hi, neg_int', spD, get_tup, last_D h0, pD, atD1, noexc_ret, lastE_eq h0]
theorem end_max {O : List Spn} (h : O ≠ []) : maxD [.lst ((O.map lastE).map .int)] = .ret (.int (endO O)) := by
  cases O with
  | nil => exact absurd rfl h
  | cons o r => exact maxD_int
theorem momsO_rg {O : List Spn} (h0 : O ≠ []) (h : ∀ o ∈ O, Ofc o) : rangeD [.int (endO O + 1)] = .ret ((momsO O).map .int) := by
  have := endO_b h0 h
  rw [range_nat (by omega) (by omega)]
  unfold momsO
  rw [List.map_map]
  rfl
theorem q_lcommon {O : List Spn} (h0 : O ≠ []) (h : ∀ o ∈ O, Ofc o) : m__law_common [ofD O] = .ret (.lst ((cm O).map .int)) := by
  have e1 : lcGo (lcOne (bndN 2) yesT (bin (bin (getS 2) (una (cI 1) negD) getD') (cI 1) getD') [.v (ofD O), .un, .un, .un]) (O.map spD) = .ret ((O.map lastE).map .int) := ends_lc (by simp) h
  have e2 : lcGo (lcOne (bndN 3) (tst (callV (consL (lcM [2] (anyM (getS 0)) (bndN 2) yesT (callV (consL (getS 2) (consL (getS 3) nilL)) m__law_lets)) nilL) allD)) (getS 3) [.v (ofD O), .v (.lst ((momsO O).map .int)), .un, .un]) ((momsO O).map .int) = .ret ((cm O).map .int) := by
    rw [lcGo_map (f := fun m => if (O.all fun o => inS o m) = true then [.int m] else []), flat_if]
    · rfl
    · intro m _
      have e3 : lcGo (lcOne (bndN 2) yesT (callV (consL (getS 2) (consL (getS 3) nilL)) m__law_lets) [.v (ofD O), .v (.lst ((momsO O).map .int)), .un, .v (.int m)]) (O.map spD) = .ret ((O.map fun o => inS o m).map .bl) := by
        rw [lcGo_map (f := fun o => [.bl (inS o m)]), flat_map1, List.map_map]
        · rfl
        · intro o _
          simp only [lcOne_, bndN_, ret_b, List.set_cons_succ, List.set_cons_zero, yesT_, if_true, callV_, consL_, nilL_, getS_, List.getElem?_cons_succ, List.getElem?_cons_zero, q_llets, noexc_ret]
      simp only [lcOne_, bndN_, ret_b, List.set_cons_succ, List.set_cons_zero, tst_, callV_, consL_, nilL_, lcM_, anyM_, getS_, List.getElem?_cons_succ, List.getElem?_cons_zero, show itemsK (ofD O) = .ret (O.map spD) from rfl, ownFree, wipe_cons, wipe_nil, List.all_cons, List.all_nil, isOwn_un, isOwn_v, Bool.not_false, Bool.and_true, if_true, e3, all_bls, toB_, List.all_map, Function.comp_def, id]
      cases O.all fun o => inS o m <;> rfl
  simp only [m__law_common, fnM, b__law_common, seqM_, setSM_, lrgM_, consL_, nilL_, bin_, callV_, lcM_, anyM_, getS_, cI_, List.length_cons, List.length_nil, Nat.reduceAdd, if_true, List.map_cons, List.map_nil, List.replicate, Nat.reduceSub, List.cons_append, List.nil_append, List.getElem?_cons_zero, ret_b, show itemsK (ofD O) = .ret (O.map spD) from rfl]
  simp only [ownFree, wipe_cons, wipe_nil, List.set_cons_succ, List.set_cons_zero, List.getElem?_cons_succ, List.getElem?_cons_zero, List.all_cons, List.all_nil, isOwn_un, isOwn_v, Bool.not_false, Bool.and_true, if_true, e1, ret_b, end_max h0, add_int, momsO_rg h0 h, then_nx, retM_, lcM_, anyM_, getS_, itemsK_lst, e2, fnEnd_rt]
theorem join_snoc {f : Spn} {p : II} {m : Int} : joinS (f ++ [p]) m = if p.2 = m - 1 then f ++ [(p.1, m)] else f ++ [p] ++ [(m, m)] := by
  unfold joinS
  rw [List.getLast?_concat, List.dropLast_concat]
theorem join_len {f : Spn} {m : Int} : (joinS f m).length ≤ f.length + 1 := by
  rcases List.eq_nil_or_concat f with rfl | ⟨g, p, rfl⟩
  · exact Nat.le_refl _
  · rw [List.concat_eq_append, join_snoc]
    split <;> simp
theorem q_spans {ms : List Int} (hl : ms.length ≤ 10000) : m__law_spans_of [.lst (ms.map .int)] = .ret (.lst ((ms.foldl joinS []).map pD)) := by
  simp only [m__law_spans_of, fnM, b__law_spans_of, seqM_, setM_, lstV_, nilL_, ret_b, slF_lst, then_nx, forS_, anyM_, getS_]
  simp only [List.length_cons, List.length_nil, List.map_cons, List.map_nil, Nat.reduceAdd, Nat.reduceSub, if_true, List.replicate, List.cons_append, List.nil_append, List.set_cons_succ, List.set_cons_zero, List.getElem?_cons_succ, List.getElem?_cons_zero, ret_b, itemsK_lst]
  obtain ⟨Γ', e, q⟩ := forM_rel (enc := D.int) (g := joinS) (R := fun r (f : Spn) Γ => (∃ d1, Γ = [.v (.lst (ms.map .int)), .own (.lst (f.map pD)), d1]) ∧ f.length + r.length ≤ 10000)
    (body := fun d Γ => bndN 2 d Γ >>= (ifM (andT (tst (bin (callV (consL (getB 1) nilL) len2D) (cI 0) gtD)) (tst (bin (bin (bin (getB 1) (una (cI 1) negD) getD') (cI 1) getD') (bin (getS 2) (cI 1) subD) equD))) (sputM true 1 (una (cI 1) negD) (tupV (consL (bin (bin (getB 1) (una (cI 1) negD) getD') (cI 0) getD') (consL (getS 2) nilL)))) (mthM 1 (consL (tupV (consL (getS 2) (consL (getS 2) nilL))) nilL) appG dropK'))) (fun m r f Γ hR => by
    obtain ⟨⟨d1, rfl⟩, hb⟩ := hR
    rw [List.length_cons] at hb
    have hlt : f.length < 16777216 := by omega
    refine ⟨[.v (.lst (ms.map .int)), .own (.lst ((joinS f m).map pD)), .v (.int m)], ?_, ⟨_, rfl⟩, by have := join_len (f := f) (m := m); omega⟩
    rcases List.eq_nil_or_concat f with rfl | ⟨g, p, rfl⟩
    · rfl
    · rw [List.concat_eq_append] at hlt ⊢
      have hp : (0 : Int) < ((g.map pD ++ [pD p]).length : Nat) := by rw [List.length_append]; show (0 : Int) < ((g.map pD).length + 1 : Nat); omega
      have hl2 : atD (g.map pD ++ [pD p]) (-1) = .ret (pD p) := atD_last
      have hlt2 : (g.map pD ++ [pD p]).length < 16777216 := by
        rw [List.length_append, List.length_map]
        rw [List.length_append] at hlt
        exact hlt
      have hw : (sputG true 1 (.int (-1)) (.tup [.int p.1, .int m]) [.v (.lst (ms.map .int)), .own (.lst (g.map pD ++ [pD p])), .v (.int m)]) = .ret (.nx, [.v (.lst (ms.map .int)), .own (.lst (g.map pD ++ [.tup [.int p.1, .int m]])), .v (.int m)]) := sput_last rfl
      rw [join_snoc]
      simp only [bndN_, ret_b, List.set_cons_succ, List.set_cons_zero, ifM_, andT_, tst_, bin_, una_, callV_, consL_, nilL_, getB_, getS_, List.getElem?_cons_succ, List.getElem?_cons_zero, len_lst, cI_, gt_int', decide_eq_true hp, toB_, if_true, neg_int', List.map_append, List.map_cons, List.map_nil, get_lst, hl2, get_p1, sub_int', equ_int]
      by_cases hc : p.2 = m - 1
      · rw [decide_eq_true hc, if_pos rfl, if_pos hc]
        simp only [sputM_, List.getElem?_cons_succ, List.getElem?_cons_zero, tupV_, consL_, nilL_, bin_, una_, getB_, getS_, cI_, ret_b, neg_int', get_lst, hl2, get_p0]
        rw [hw, List.map_append]
        rfl
      · rw [decide_eq_false hc, if_neg Bool.false_ne_true, if_neg hc]
        simp only [mthM_, List.getElem?_cons_succ, List.getElem?_cons_zero, tupV_, consL_, nilL_, getS_, ret_b, appG_, hlt2, if_true, dropK_, List.set_cons_succ, List.set_cons_zero, List.map_append, List.map_cons, List.map_nil]
        rfl) (xs := ms) (a := []) (Γ := [.v (.lst (ms.map .int)), .own (.lst []), .un]) ⟨⟨_, rfl⟩, by simpa using hl⟩
  obtain ⟨⟨d1, rfl⟩, -⟩ := q
  rw [e]
  rfl
theorem cm_short {O : List Spn} (h0 : O ≠ []) (h : ∀ o ∈ O, Ofc o) : (cm O).length ≤ 10000 := by
  have := endO_b h0 h
  unfold cm
  refine Nat.le_trans (List.length_filter_le _ _) ?_
  unfold momsO
  rw [List.length_map, List.length_range]; omega
theorem q_lspans {O : List Spn} (h0 : O ≠ []) (h : ∀ o ∈ O, Ofc o) : m__law_spans_of [.lst ((cm O).map .int)] = .ret (.lst ((rc O).map pD)) := by
  rw [q_spans (cm_short h0 h), join_cm h0 h]
theorem first_for {n : Int} {a : D} : ∀ (s : Spn) (s1 s2 : Sl), (forM (fun d Γ => bndT 2 (bndCons (bndN 2) (bndCons (bndN 3) bndNil)) d Γ >>= ifM (tst (bin (bin (bin (getS 3) (getS 2) subD) (cI 1) addD) (getS 1) geD)) (retM (kb (getS 2))) nextM) (s.map pD) [.v a, .v (.int n), s1, s2] >>= fun r => andThen r (retM cN)) >>= fnEnd = .ret (headD (s.flatMap fun p => if n ≤ p.2 - p.1 + 1 then [p.1] else []))
  | [], s1, s2 => rfl
  | p :: r, s1, s2 => by
    have e : forM (fun d Γ => bndT 2 (bndCons (bndN 2) (bndCons (bndN 3) bndNil)) d Γ >>= ifM (tst (bin (bin (bin (getS 3) (getS 2) subD) (cI 1) addD) (getS 1) geD)) (retM (kb (getS 2))) nextM) ((p :: r).map pD) [.v a, .v (.int n), s1, s2] =
        if n ≤ p.2 - p.1 + 1 then .ret (.rt (.int p.1), [.v a, .v (.int n), .v (.int p.1), .v (.int p.2)]) else forM (fun d Γ => bndT 2 (bndCons (bndN 2) (bndCons (bndN 3) bndNil)) d Γ >>= ifM (tst (bin (bin (bin (getS 3) (getS 2) subD) (cI 1) addD) (getS 1) geD)) (retM (kb (getS 2))) nextM) (r.map pD) [.v a, .v (.int n), .v (.int p.1), .v (.int p.2)] := by
      rw [List.map_cons]
      conv => lhs; unfold forM
      simp only [pD, bndT_, bndCons_, bndNil_, bndN_, ret_b, List.length_cons, List.length_nil, Nat.reduceAdd, if_true, List.set_cons_succ, List.set_cons_zero, ifM_, tst_, bin_, getS_, cI_, List.getElem?_cons_succ, List.getElem?_cons_zero, sub_int', add_int, ge_int', toB_, retM_, kb_, keepB_int, nextM_]
      by_cases h : n ≤ p.2 - p.1 + 1
      · rw [decide_eq_true h, if_pos h]; rfl
      · rw [decide_eq_false h, if_neg h]; rfl
    rw [e, List.flatMap_cons]
    by_cases h : n ≤ p.2 - p.1 + 1
    · rw [if_pos h, if_pos h]; rfl
    · rw [if_neg h, if_neg h]
      exact first_for r _ _
theorem q_lfirst {O : List Spn} (h0 : O ≠ []) (h : ∀ o ∈ O, Ofc o) {n : Int} : m__law_first [ofD O, .int n] = .ret (headD (firsts O n)) := by
  simp only [m__law_first, fnM, b__law_first, seqM_, forS_, anyM_, callV_, consL_, nilL_, getS_, List.length_cons, List.length_nil, Nat.reduceAdd, if_true, List.map_cons, List.map_nil, List.replicate, Nat.reduceSub, List.cons_append, List.nil_append, List.getElem?_cons_zero, ret_b, q_lcommon h0 h, q_lspans h0 h, itemsK_lst]
  exact first_for (rc O) _ _
theorem q_lmost {O : List Spn} (h0 : O ≠ []) (h : ∀ o ∈ O, Ofc o) : m__law_most [ofD O] = .ret (pD (mostP O)) := by
  have e1 : lcGo (lcOne (bndN 3) yesT (bin (bin (getS 3) (una (cI 1) negD) getD') (cI 1) getD') [.v (ofD O), .own (.lst []), .un, .un]) (O.map spD) = .ret ((O.map lastE).map .int) := ends_lc (by simp) h
  simp only [m__law_most, fnM, b__law_most, seqM_, setM_, lstV_, consL_, nilL_, ret_b, slF_lst, then_nx, forS_, rgM_, bin_, callV_, lcM_, anyM_, getS_, cI_, List.length_cons, List.length_nil, Nat.reduceAdd, if_true, List.map_cons, List.map_nil, List.replicate, Nat.reduceSub, List.cons_append, List.nil_append, List.set_cons_succ, List.set_cons_zero, List.getElem?_cons_succ, List.getElem?_cons_zero, show itemsK (ofD O) = .ret (O.map spD) from rfl]
  simp only [ownFree, wipe_cons, wipe_nil, List.set_cons_succ, List.set_cons_zero, List.getElem?_cons_succ, List.getElem?_cons_zero, List.all_cons, List.all_nil, isOwn_un, isOwn_v, Bool.not_false, Bool.and_true, if_true, e1, ret_b, end_max h0, add_int, momsO_rg h0 h]
  obtain ⟨Γ', e, q⟩ := forM_rel (enc := D.int) (g := fun f m => f ++ [((cnt O m : Nat) : Int)]) (R := fun r (f : List Int) Γ => (∃ d1, Γ = [.v (ofD O), .own (.lst (f.map .int)), d1, .un]) ∧ f.length + r.length ≤ 10000)
    (body := fun d Γ => bndN 2 d Γ >>= mthM 1 (consL (callV (consL (lcM [3] (anyM (getS 0)) (bndN 3) (tst (callV (consL (getS 3) (consL (getS 2) nilL)) m__law_lets)) (getS 3)) nilL) len2D) nilL) appG dropK') (fun m r f Γ hR => by
    obtain ⟨⟨d1, rfl⟩, hb⟩ := hR
    rw [List.length_cons] at hb
    have hlt : (f.map D.int).length < 16777216 := by rw [List.length_map]; omega
    have e2 : lcGo (lcOne (bndN 3) (tst (callV (consL (getS 3) (consL (getS 2) nilL)) m__law_lets)) (getS 3) [.v (ofD O), .own (.lst (f.map .int)), .v (.int m), .un]) (O.map spD) = .ret ((O.filter fun o => inS o m).map spD) := by
      rw [lcGo_map (f := fun o => if inS o m = true then [spD o] else []), flat_if]
      intro o _
      simp only [lcOne_, bndN_, ret_b, List.set_cons_succ, List.set_cons_zero, tst_, callV_, consL_, nilL_, getS_, List.getElem?_cons_succ, List.getElem?_cons_zero, q_llets, toB_]
      cases inS o m <;> rfl
    refine ⟨[.v (ofD O), .own (.lst ((f ++ [((cnt O m : Nat) : Int)]).map .int)), .v (.int m), .un], ?_, ⟨_, rfl⟩, by rw [List.length_append]; show f.length + 1 + _ ≤ _; omega⟩
    simp only [bndN_, ret_b, List.set_cons_succ, List.set_cons_zero, mthM_, consL_, nilL_, callV_, lcM_, anyM_, getS_, List.getElem?_cons_succ, List.getElem?_cons_zero, show itemsK (ofD O) = .ret (O.map spD) from rfl, ownFree, wipe_cons, wipe_nil, List.all_cons, List.all_nil, isOwn_un, isOwn_v, Bool.not_false, Bool.and_true, if_true, e2, len_lst, List.length_map, appG_, hlt, dropK_, List.map_append, List.map_cons, List.map_nil]
    have hlt' : f.length < 16777216 := by omega
    rw [if_pos hlt']
    rfl) (xs := momsO O) (a := []) (Γ := [.v (ofD O), .own (.lst []), .un, .un]) ⟨⟨_, rfl⟩, by
      have := endO_b h0 h
      show 0 + (momsO O).length ≤ 10000
      unfold momsO
      rw [List.length_map, List.length_range]; omega⟩
  obtain ⟨⟨d1, rfl⟩, -⟩ := q
  rw [e]
  have e4 : (momsO O).foldl (fun f m => f ++ [((cnt O m : Nat) : Int)]) [] = manys O := by
    rw [foldl_app (fun m => [((cnt O m : Nat) : Int)])]
    show (momsO O).flatMap _ = (momsO O).map _
    induction momsO O with
    | nil => rfl
    | cons x r ih => rw [List.flatMap_cons, ih]; rfl
  rw [e4]
  have hn := manys_ne (endO_b h0 h).1
  have hb : maxI (manys O) = bestC O := rfl
  have hi := indexD_int (maxI_mem hn)
  rw [hb] at hi
  simp only [ret_b, then_nx, retM_, tupV_, consL_, nilL_, methV_l, getB_, isT_l, callV_, List.getElem?_cons_succ, List.getElem?_cons_zero, if_true, maxD_l hn, hb, hi, fnEnd_rt]
  rfl
end Px

set_option Elab.async false
set_option linter.all false
set_option maxRecDepth 100000
set_option maxHeartbeats 4000000
set_option autoImplicit false
namespace Px
open PySem PySem.Spec PyProof.Rows L2
section
variable {v : V} {Q : D → Prop} {E' : Exn → Prop}
/-! ### what is drawn -/
theorem q_draw {m : Int} (h : 0 < m) (h2 : m < 1073741824) : m__law_draw v [.raw v, .int m] = .draw m.toNat fun r => .ret (.int (r : Nat)) := if_pos ⟨rfl, h, h2⟩
theorem q_some {ds : List D} (h0 : ds ≠ []) (h1 : ds.length < 1000000) (h : ∀ d ∈ ds, Q d) : (m__law_some v [.raw v, .lst ds]).wp Q E' := by
  have p1 : 0 < ds.length := List.length_pos_iff.mpr h0
  have p2 : (ds.length : Int) < 1073741824 := by omega
  simp [m__law_some, fnM, b__law_some, q_draw, p1, p2, M.wp_bind]
  intro r hr
  rw [at_nat (List.getElem?_eq_getElem hr)]
  exact h _ (List.getElem_mem hr)
theorem Gap.snoc {s : Spn} {p : II} (h : Gap s) (hp : p.1 ≤ p.2) (hl : ∀ q ∈ s, q.2 + 1 < p.1) : Gap (s ++ [p]) := by
  refine ⟨fun q hq => ?_, ?_⟩
  · rcases List.mem_append.mp hq with hq | hq
    · exact h.le q hq
    · rw [List.mem_singleton] at hq; rw [hq]; exact hp
  · rw [List.pairwise_append]
    refine ⟨h.pw, List.pairwise_singleton .., fun a ha b hb => ?_⟩
    rw [List.mem_singleton] at hb
    rw [hb]; exact hl a ha
theorem q_office {far : Int} (f0 : 0 < far) (f1 : far ≤ 30) (h : ∀ s : Spn, Ofc s → Q (spD s)) : (m__law_office v [.raw v, .int far]).wp Q E' := by
  refine wq_fn rfl ?_
  show Wq (b__law_office v [.v (.raw v), .v (.int far), .un, .un, .un, .un]) _ _
  unfold b__law_office
  refine wq_parw ?_
  simp only [consF_, consS_, nilS_, lstV_, nilL_, ret_b, slF_lst, callV_, consL_, getS_, cI_, List.getElem?_cons_zero, q_draw (v := v) (m := 5) (by decide) (by decide), draw_b, wp_draw, wp_ret, setAll_c, setAll_n, List.set_cons_succ, List.set_cons_zero]
  intro r0 hr0
  refine wq_seqR (R := fun Γ => ∃ s d1 d2 d3, Γ = [.v (.raw v), .v (.int far), .own (.lst (s.map pD)), d1, d2, d3] ∧ Ofc s) ?_ ?_
  · refine ⟨?_⟩
    simp only [forS_, rgM_, consL_, nilL_, bin_, callV_, getS_, cI_, ret_b, List.getElem?_cons_zero, q_draw (v := v) (m := 5) (by decide) (by decide), draw_b, wp_draw, add_int]
    intro r1 hr1
    have hr1' : r1 < 5 := hr1
    rw [range_nat (by omega) (by omega)]
    simp only [ret_b]
    refine forM_inv (enc := fun y : Nat => D.int (y : Int)) (I := fun r Γ => ∃ (s : Spn) (n : Nat) (first : Int) (d2 d3 : Sl), Γ = [.v (.raw v), .v (.int far), .own (.lst (s.map pD)), .v (.int first), d2, d3] ∧ Gap s ∧ s.length = n ∧ n + r.length = 1 + r1 ∧ (∀ p ∈ s, 0 ≤ p.1 ∧ p.2 + 1 < first) ∧ 0 ≤ first ∧ first ≤ 4 + 60 * n) ⟨[], 0, r0, .un, .un, rfl, ⟨(fun _ z => nomatch z), List.Pairwise.nil⟩, rfl, by simp; omega, (fun _ z => nomatch z), by omega, by have : r0 < 5 := hr0; omega⟩ ?_ ?_
    · rintro x r Γ ⟨s, n, first, d2, d3, rfl, hg, hn, hl, hs, h0, h1⟩
      rw [List.length_cons] at hl
      have hlt : (s.map pD).length < 16777216 := by rw [List.length_map]; omega
      simp only [bndN_, ret_b, List.set_cons_succ, List.set_cons_zero, seqM_, setSM_, bin_, callV_, consL_, nilL_, getS_, cI_, List.getElem?_cons_succ, List.getElem?_cons_zero, q_draw (v := v) (m := far) f0 (by omega), draw_b, add_int, then_nx, mthM_, tupV_, appG_, hlt, if_true, dropK_, M.wp_bind, wp_draw, wp_ret]
      intro r2 hr2 r3 hr3
      refine ⟨s ++ [(first, first + (r2 : Int))], n + 1, first + (r2 : Int) + 2 + (r3 : Int), _, _, by rw [List.map_append]; rfl, hg.snoc (by show first ≤ first + (r2 : Int); omega) fun q hq => (hs q hq).2, by rw [List.length_append, hn]; rfl, by omega, fun p hp => ?_, by omega, by omega⟩
      rcases List.mem_append.mp hp with hp | hp
      · have := hs p hp
        omega
      · rw [List.mem_singleton] at hp
        rw [hp]
        show 0 ≤ first ∧ first + (r2 : Int) + 1 < _
        omega
    · rintro Γ ⟨s, n, first, d2, d3, rfl, hg, hn, hl, hs, h0, h1⟩
      rw [List.length_nil] at hl
      refine ⟨rfl, s, _, _, _, rfl, hg, fun z => by rw [z] at hn; simp at hn; omega, by omega, fun p hp => ?_⟩
      have := hs p hp
      omega
  · rintro Γ ⟨s, d1, d2, d3, rfl, ho⟩
    refine wq_ret (d := spD s) ?_ (h s ho)
    simp only [callV_, consL_, nilL_, getB_, List.getElem?_cons_succ, List.getElem?_cons_zero, ret_b, tupleD_lst]
    rfl
theorem perm_pop {α : Type} {xs ys : List α} {k : Nat} {x : α} (h : ys[k]? = some x) : (x :: ys.eraseIdx k).Perm ys := by
  induction ys generalizing k with
  | nil => cases h
  | cons y r ih =>
    cases k with
    | zero =>
      have : y = x := Option.some.inj h
      rw [this]; exact List.Perm.refl _
    | succ k =>
      have h : r[k]? = some x := h
      show (x :: y :: r.eraseIdx k).Perm (y :: r)
      exact (List.Perm.swap y x _).trans ((ih h).cons y)
theorem q_shuf {ds : List D} (hl : ds.length < 10000) (h : ∀ es : List D, ds.Perm es → Q (.lst es)) : (m__law_shuffled v [.raw v, .lst ds]).wp Q E' := by
  refine wq_fn rfl ?_
  show Wq (b__law_shuffled v [.v (.raw v), .v (.lst ds), .un, .un]) _ _
  unfold b__law_shuffled
  refine wq_par (ss := [.own (.lst ds), .own (.lst [])]) (by rfl) ?_
  simp only [setAll_c, setAll_n, List.set_cons_succ, List.set_cons_zero]
  refine wq_seqR (R := fun Γ => ∃ es, Γ = [.v (.raw v), .v (.lst ds), .own (.lst []), .own (.lst es)] ∧ ds.Perm es) ?_ ?_
  · refine ⟨while_inv (k := ds.length) (I := fun k Γ => ∃ ps es : List D, Γ = [.v (.raw v), .v (.lst ds), .own (.lst ps), .own (.lst es)] ∧ ps.length = k ∧ ds.Perm (es ++ ps) ∧ es.length + ps.length = ds.length) (by omega) ⟨ds, [], rfl, rfl, List.Perm.refl _, by simp⟩ ?_⟩
    rintro k Γ ⟨ps, es, rfl, hk, hp, hlen⟩
    simp only [tst_, bin_, callV_, consL_, nilL_, getB_, cI_, List.getElem?_cons_succ, List.getElem?_cons_zero, ret_b, len_lst, gt_int', toB_, wp_ret]
    by_cases h0 : (0 : Int) < (ps.length : Nat)
    · rw [decide_eq_true h0, if_pos rfl]
      simp only [popAppM_, mthM_, List.getElem?_cons_succ, List.getElem?_cons_zero, consL_, nilL_, callV_, getS_, getB_, ret_b, len_lst, q_draw (v := v) h0 (by omega), draw_b, wp_draw]
      intro r hr
      have hr' : r < ps.length := by omega
      have hg := List.getElem?_eq_getElem hr'
      generalize ps[r] = d at hg
      rw [popG_nat hg (by omega)]
      have he : es.length < 16777216 := by omega
      simp only [appK_, List.set_cons_succ, List.set_cons_zero, List.getElem?_cons_succ, List.getElem?_cons_zero, he, if_true, wp_ret]
      refine ⟨ps.length - 1, by omega, ps.eraseIdx r, es ++ [d], rfl, List.length_eraseIdx_of_lt hr', ?_, ?_⟩
      · refine hp.trans ?_
        rw [List.append_assoc]
        exact List.Perm.append_left es (perm_pop (xs := ps) hg).symm
      · rw [List.length_append, List.length_eraseIdx_of_lt hr']
        show es.length + 1 + (ps.length - 1) = _
        omega
    · rw [decide_eq_false h0, if_neg Bool.false_ne_true]
      have : ps = [] := List.eq_nil_of_length_eq_zero (by omega)
      subst this
      exact ⟨trivial, es, rfl, by rw [List.append_nil] at hp; exact hp⟩
  · rintro Γ ⟨es, rfl, hp⟩
    exact wq_ret rfl (h es hp)
end
end Px

set_option Elab.async false
set_option linter.all false
set_option maxRecDepth 100000
set_option maxHeartbeats 4000000
set_option autoImplicit false
namespace Px
open PySem PySem.Spec PyProof.Rows L2
/-! ### texts -/
theorem sp_sm {s : Spn} (h : ∀ p ∈ s, 0 ≤ p.1 ∧ p.2 ≤ 1000 ∧ p.1 ≤ p.2) : smD (spD s) = true := smL_of fun d hd => by
  obtain ⟨p, hp, rfl⟩ := List.mem_map.mp hd
  have := h p hp
  show (decide (p.1.natAbs < 10 ^ 20) && (decide (p.2.natAbs < 10 ^ 20) && true)) = true
  rw [decide_eq_true (show p.1.natAbs < 10 ^ 20 by omega), decide_eq_true (show p.2.natAbs < 10 ^ 20 by omega)]; rfl
theorem sp_wt (s : Spn) : wtD (spD s) ≤ s.length * 52 + 4 := by
  have := wtL_le (ds := s.map pD) (n := 50) fun d hd => by
    obtain ⟨p, hp, rfl⟩ := List.mem_map.mp hd; exact Nat.le_refl _
  rw [List.length_map] at this
  show wtL (s.map pD) + 4 ≤ _
  omega
theorem sp_dep (s : Spn) : (spD s).dep ≤ 2 := Nat.succ_le_succ (depL_le fun d hd => by
  obtain ⟨p, hp, rfl⟩ := List.mem_map.mp hd; exact Nat.le_refl _)
theorem of_dep (O : List Spn) : (ofD O).dep ≤ 3 := Nat.succ_le_succ (depL_le fun d hd => by
  obtain ⟨p, hp, rfl⟩ := List.mem_map.mp hd; exact sp_dep p)
theorem Ofc.bb {s : Spn} (h : Ofc s) : ∀ p ∈ s, 0 ≤ p.1 ∧ p.2 ≤ 1000 ∧ p.1 ≤ p.2 := fun p hp => ⟨(h.b p hp).1, (h.b p hp).2, h.g.le p hp⟩
theorem repr_of {O : List Spn} (h : OkO O) : reprD [ofD O] = .ret (.str (shownD (ofD O))) := by
  refine repr_sm (smL_of fun d hd => ?_) (Nat.le_trans (of_dep O) (by decide)) ?_
  · obtain ⟨s, hs, rfl⟩ := List.mem_map.mp hd
    exact sp_sm (h.o s hs).bb
  · have := wtL_le (ds := O.map spD) (n := 300) fun d hd => by
      obtain ⟨s, hs, rfl⟩ := List.mem_map.mp hd
      have := sp_wt s
      have := (h.o s hs).n5
      omega
    rw [List.length_map] at this
    have := h.n6
    show wtL (O.map spD) + 4 ≤ _
    omega
theorem len_size : ∀ {s : Spn}, (∀ p ∈ s, p.1 ≤ p.2) → (s.length : Int) ≤ size s
  | [], _ => Int.le_refl _
  | p :: r, h => by
    have h0 := h p List.mem_cons_self
    have := len_size fun q hq => h q (List.mem_cons_of_mem _ hq)
    have e2 : size (p :: r) = (p.2 - p.1 + 1) + size r := rfl
    rw [e2, List.length_cons]
    omega
theorem rc_bb {O : List Spn} (h : ∀ o ∈ O, Ofc o) : ∀ p ∈ rc O, 0 ≤ p.1 ∧ p.2 ≤ 1000 ∧ p.1 ≤ p.2 := fun p hp => by
  have hg := rc_gap (Ofc.gaps h)
  have hle := hg.le p hp
  have h1 := (rc_in (Ofc.gaps h)).mp (inS_iff.mpr ⟨p, hp, Int.le_refl _, hle⟩)
  have h2 := (rc_in (Ofc.gaps h)).mp (inS_iff.mpr ⟨p, hp, hle, Int.le_refl _⟩)
  omega
theorem rc_len {O : List Spn} (h0 : O ≠ []) (h : ∀ o ∈ O, Ofc o) : (rc O).length ≤ 10000 := by
  have h1 := len_size (rc_gap (Ofc.gaps h)).le
  rw [← cm_len h0 h] at h1
  have := cm_short h0 h
  omega
theorem size_b {O : List Spn} (h0 : O ≠ []) (h : ∀ o ∈ O, Ofc o) : 0 ≤ size (rc O) ∧ size (rc O) ≤ 10000 := by
  rw [← cm_len h0 h]
  have := cm_short h0 h
  omega
theorem sm_int {i : Int} (h : -100000 ≤ i ∧ i ≤ 100000) : smD (.int i) = true := decide_eq_true (by omega)
theorem repr_3 {O : List Spn} (h0 : O ≠ []) (h : ∀ o ∈ O, Ofc o) : ∃ t, reprD [.lst [spD (rc O), spD (rc O), .int (size (rc O))]] = .ret (.str t) := by
  refine ⟨_, repr_sm ?_ ?_ ?_⟩
  · refine smL_of fun d hd => ?_
    have := size_b h0 h
    simp only [List.mem_cons, List.not_mem_nil, or_false] at hd
    rcases hd with rfl | rfl | rfl
    · exact sp_sm (rc_bb h)
    · exact sp_sm (rc_bb h)
    · exact sm_int (by omega)
  · refine Nat.le_trans (Nat.succ_le_succ (depL_le (n := 2) fun d hd => ?_)) (by decide)
    simp only [List.mem_cons, List.not_mem_nil, or_false] at hd
    rcases hd with rfl | rfl | rfl
    · exact sp_dep _
    · exact sp_dep _
    · exact Nat.zero_le _
  · have := wtL_le (ds := [spD (rc O), spD (rc O), .int (size (rc O))]) (n := 600000) fun d hd => by
      have := sp_wt (rc O)
      have := rc_len h0 h
      simp only [List.mem_cons, List.not_mem_nil, or_false] at hd
      rcases hd with rfl | rfl | rfl
      · omega
      · omega
      · show 21 ≤ _; omega
    have e : [spD (rc O), spD (rc O), .int (size (rc O))].length = 3 := rfl
    rw [e] at this
    show wtL _ + 4 ≤ _
    omega
theorem repr_small {ds : List D} (h : ∀ d ∈ ds, smD d = true ∧ d.dep ≤ 50 ∧ wtD d ≤ 1000) (hl : ds.length ≤ 100) : ∃ t, reprD [.lst ds] = .ret (.str t) := by
  refine ⟨_, repr_sm (smL_of fun d hd => (h d hd).1) (Nat.le_trans (Nat.succ_le_succ (depL_le (n := 50) fun d hd => (h d hd).2.1)) (by decide)) ?_⟩
  have := wtL_le (ds := ds) (n := 1000) fun d hd => (h d hd).2.2
  show wtL ds + 4 ≤ _
  omega
theorem repr_int {i : Int} (h : -100000 ≤ i ∧ i ≤ 100000) : ∃ t, reprD [.int i] = .ret (.str t) := ⟨_, repr_sm (sm_int h) (Nat.zero_le _) (by show 21 ≤ _; decide)⟩
theorem head_repr {O : List Spn} (h : ∀ o ∈ O, Ofc o) (n : Int) : ∃ t, reprD [headD (firsts O n)] = .ret (.str t) := by
  cases e : firsts O n with
  | nil => exact ⟨_, repr_sm (d := .non) rfl (Nat.zero_le _) (by decide)⟩
  | cons x r =>
    have hx : x ∈ firsts O n := by rw [e]; exact List.mem_cons_self
    obtain ⟨p, hp, hx⟩ := List.mem_flatMap.mp hx
    have := rc_bb h p hp
    split at hx
    · rw [List.mem_singleton] at hx
      exact repr_int (by omega)
    · cases hx
theorem idx_le (ns : List Int) (n : Int) : idxI ns n ≤ ns.length := List.findIdx_le_length
theorem most_b {O : List Spn} (h : OkO O) : -100000 ≤ (mostP O).1 ∧ (mostP O).1 ≤ 100000 ∧ -100000 ≤ (mostP O).2 ∧ (mostP O).2 ≤ 100000 := by
  have he := endO_b h.ne h.o
  have h1 := idx_le (manys O) (bestC O)
  have h2 : (manys O).length ≤ 1001 := by unfold manys momsO; rw [List.length_map, List.length_map, List.length_range]; omega
  obtain ⟨m, _, hm⟩ := List.mem_map.mp (best_all he.1).2
  have h3 : cnt O m ≤ 6 := Nat.le_trans (List.length_filter_le _ _) h.n6
  show _ ∧ _ ∧ -100000 ≤ bestC O ∧ bestC O ≤ 100000
  refine ⟨by show (-100000 : Int) ≤ ((idxI (manys O) (bestC O) : Nat) : Int); omega, by show ((idxI (manys O) (bestC O) : Nat) : Int) ≤ 100000; omega, by omega, by omega⟩
theorem strict_b {O : List Spn} (h : OkO O) : -100000 ≤ strictI O ∧ strictI O ≤ 100000 := by
  have h1 := idx_le (O.map size) (minI (O.map size))
  rw [List.length_map] at h1
  have := h.n6
  show -100000 ≤ ((idxI (O.map size) (minI (O.map size)) : Nat) : Int) ∧ ((idxI (O.map size) (minI (O.map size)) : Nat) : Int) ≤ 100000
  omega
theorem long_b {O : List Spn} (h : OkO O) : -100000 ≤ longI O ∧ longI O ≤ 100000 := by
  have h1 := idx_le (lessL O) (maxI (lessL O))
  have h2 : (lessL O).length = O.length := by unfold lessL; simp
  have := h.n6
  show -100000 ≤ ((idxI (lessL O) (maxI (lessL O)) : Nat) : Int) ∧ ((idxI (lessL O) (maxI (lessL O)) : Nat) : Int) ≤ 100000
  omega
theorem perm_map_inv {α β : Type} {f : α → β} {l es : List β} (h : l.Perm es) : ∀ xs : List α, l = xs.map f → ∃ ys, xs.Perm ys ∧ es = ys.map f := by
  induction h with
  | nil => exact fun xs e => ⟨[], by rw [List.map_eq_nil_iff.mp e.symm], rfl⟩
  | cons x p ih =>
    intro xs e
    cases xs with
    | nil => cases e
    | cons y r =>
      injection e with e1 e2
      obtain ⟨ys, q, e3⟩ := ih r e2
      exact ⟨y :: ys, q.cons y, by rw [e1, e3]; rfl⟩
  | swap x y l =>
    intro xs e
    cases xs with
    | nil => cases e
    | cons a r =>
      cases r with
      | nil => cases e
      | cons b r =>
        injection e with e1 e2
        injection e2 with e2 e3
        exact ⟨b :: a :: r, List.Perm.swap b a r, by rw [e1, e2, e3]; rfl⟩
  | trans p q ih1 ih2 =>
    intro xs e
    obtain ⟨ys, h1, e1⟩ := ih1 xs e
    obtain ⟨zs, h2, e2⟩ := ih2 ys e1
    exact ⟨zs, h1.trans h2, e2⟩
theorem sizes_lc {O : List Spn} {Γ : Ga} {i j k : Nat} (hi : i < Γ.length) (hj : j < Γ.length) (hk : k < Γ.length) (h1 : i ≠ j) (h2 : i ≠ k) (h3 : j ≠ k) (hw : ownFree [j, k] (Γ.set i (.v .non)) = true) :
    lcGo (lcOne (bndN i) yesT (callV (consL (lcM [j, k] (anyM (getS i)) (bndT 2 (bndCons (bndN j) (bndCons (bndN k) bndNil))) yesT (bin (bin (getS k) (getS j) subD) (cI 1) addD)) nilL) sumD) Γ) (O.map spD) = .ret ((O.map size).map .int) := by
  rw [lcGo_map (f := fun s => [.int (size s)]), flat_map1, List.map_map]
  · rfl
  · intro s _
    have hw' : ownFree [j, k] (Γ.set i (.v (spD s))) = true := by
      rw [← hw]
      simp only [ownFree, List.all_cons, List.all_nil, List.getElem?_set_ne h1, List.getElem?_set_ne h2]
    have e : ((wipeG (Γ.set i (.v (spD s))) [j, k])).length = Γ.length := by simp
    have e2 := size_lc (s := s) (Γ := wipeG (Γ.set i (.v (spD s))) [j, k]) (i := j) (j := k) (by rw [e]; exact hj) (by rw [e]; exact hk) h3
    simp only [lcOne_, bndN_, ret_b, yesT_, if_true, callV_, consL_, nilL_, lcM_, hw', anyM_, getS_, List.getElem?_set_self hi, show itemsK (spD s) = .ret (s.map pD) from rfl]
    rw [e2]
    simp only [ret_b, sum_ints, noexc_ret]
    rfl
end Px

set_option Elab.async false
set_option linter.all false
set_option maxRecDepth 100000
set_option maxHeartbeats 400000
set_option autoImplicit false
namespace Px
open PySem PySem.Spec PyProof.Rows L2
section
variable {v : V}
theorem q_right {O : List Spn} (h : OkO O) : (m__law_is_right v [.raw v, ofD O]).wp (fun d => d = .bl true) (fun _ => False) := by
  have h0 := h.ne
  have hO := h.o
  have elen : len2D [ofD O] = .ret (.int ((O.length : Nat) : Int)) := by unfold ofD; rw [len_tup, List.length_map]
  refine wq_fn rfl ?_
  show Wq (b__law_is_right v [.v (.raw v), .v (ofD O), .un, .un, .un, .un, .un, .un, .un, .un, .un, .un, .un]) _ _
  unfold b__law_is_right
  refine wq_par (ss := [.v (.lst ((cm O).map .int)), .v (.str (shownD (ofD O)))]) ?_ ?_
  · simp only [consS_, nilS_, callV_, consL_, nilL_, getS_, List.getElem?_cons_succ, List.getElem?_cons_zero, ret_b, q_lcommon h0 hO, repr_of h]
  simp only [setAll_c, setAll_n, List.set_cons_succ, List.set_cons_zero]
  refine wq_setS (d := spD (rc O)) ?_ ?_
  · simp only [callV_, consL_, nilL_, getS_, List.getElem?_cons_succ, List.getElem?_cons_zero, ret_b, q_lspans h0 hO, tupleD_lst]
    rfl
  simp only [List.set_cons_succ, List.set_cons_zero]
  refine wq_chk ?_ ?_
  · obtain ⟨t, ht⟩ := repr_3 h0 hO
    have el : ((cm O).length : Int) = size (rc O) := cm_len h0 hO
    simp only [tst_, bin_, callV_, consL_, nilL_, lstV_, getS_, List.getElem?_cons_succ, List.getElem?_cons_zero, ret_b, q_common h, q_many h, len_lst, List.length_map, el, ht, neu_str, toB_]
  refine wq_seqR (R := fun Γ => ∃ d5, Γ = [.v (.raw v), .v (ofD O), .v (.lst ((cm O).map .int)), .v (.str (shownD (ofD O))), .v (spD (rc O)), d5, .un, .un, .un, .un, .un, .un, .un]) ?_ ?_
  · refine wq_forw (enc := D.int) (I := fun r Γ => (∃ d5, Γ = [.v (.raw v), .v (ofD O), .v (.lst ((cm O).map .int)), .v (.str (shownD (ofD O))), .v (spD (rc O)), d5, .un, .un, .un, .un, .un, .un, .un]) ∧ ∀ n ∈ r, (1 : Int) ≤ n ∧ n ≤ 200) ?_ ?_ ?_
    · simp only [anyM_, lstV_, consL_, nilL_, bin_, callV_, getS_, cI_, ret_b, List.getElem?_cons_zero, q_draw (v := v) (m := 12) (by decide) (by decide), draw_b, wp_draw, add_int, itemsK_lst, wp_ret]
      intro r1 hr1
      have hr1' : r1 < 12 := hr1
      refine ⟨[1, 200, 1 + (r1 : Int)], rfl, ⟨_, rfl⟩, fun n hn => ?_⟩
      simp only [List.mem_cons, List.not_mem_nil, or_false] at hn
      rcases hn with rfl | rfl | rfl <;> omega
    · rintro n r Γ ⟨⟨d5, rfl⟩, hn⟩
      have hb := hn n List.mem_cons_self
      obtain ⟨t, ht⟩ := head_repr hO n
      simp only [bndN_, wp_ret, List.set_cons_succ, List.set_cons_zero]
      refine wq_if_f ?_ (wq_next ⟨⟨_, rfl⟩, fun m hm => hn m (List.mem_cons_of_mem _ hm)⟩)
      simp only [tst_, bin_, callV_, consL_, nilL_, getS_, List.getElem?_cons_succ, List.getElem?_cons_zero, ret_b, q_first h hb.1 hb.2, q_lfirst h0 hO, ht, neu_str, toB_]
    · rintro Γ ⟨⟨d5, rfl⟩, _⟩
      exact ⟨rfl, _, rfl⟩
  rintro Γ ⟨d5, rfl⟩
  refine wq_set (d := .lst ((O.map size).map .int)) ?_ ?_
  · have e := sizes_lc (O := O) (Γ := [.v (.raw v), .v (ofD O), .v (.lst ((cm O).map .int)), .v (.str (shownD (ofD O))), .v (spD (rc O)), d5, .un, .un, .un, .un, .un, .un, .un]) (i := 7) (j := 8) (k := 9) (by simp) (by simp) (by simp) (by decide) (by decide) (by decide) (by rfl)
    simp only [lcM_, ownFree, wipe_cons, wipe_nil, List.set_cons_succ, List.set_cons_zero, List.getElem?_cons_succ, List.getElem?_cons_zero, List.all_cons, List.all_nil, isOwn_un, isOwn_v, Bool.not_false, Bool.and_true, if_true, ret_b, anyM_, getS_, show itemsK (ofD O) = .ret (O.map spD) from rfl, lcM_]
    rw [e]; rfl
  simp only [slF_lst, List.set_cons_succ, List.set_cons_zero]
  have hn := map_ne (f := size) h0
  refine wq_chk ?_ ?_
  · obtain ⟨t, ht⟩ := repr_small (ds := [pD (mostP O), .int (strictI O)]) (fun d hd => by
      simp only [List.mem_cons, List.not_mem_nil, or_false] at hd
      have hb := most_b h
      rcases hd with rfl | rfl
      · refine ⟨?_, by rw [pD_dep]; decide, by show 50 ≤ 1000; decide⟩
        show (smD (.int (mostP O).1) && (smD (.int (mostP O).2) && true)) = true
        rw [sm_int (i := (mostP O).1) (by omega), sm_int (i := (mostP O).2) (by omega)]; rfl
      · exact ⟨sm_int (strict_b h), Nat.zero_le _, by show 21 ≤ 1000; decide⟩) (by show 2 ≤ 100; decide)
    have hi := indexD_int (minI_mem hn)
    simp only [tst_, bin_, callV_, consL_, nilL_, lstV_, getS_, getB_, methV_l, isT_l, if_true, List.getElem?_cons_succ, List.getElem?_cons_zero, ret_b, q_most_at h, q_strict h, q_lmost h0 hO, minD_l hn, hi, ht]
    have ht' : reprD [.lst [pD (mostP O), .int ((idxI (O.map size) (minI (O.map size)) : Nat) : Int)]] = .ret (.str t) := ht
    rw [ht']
    simp only [ret_b, neu_str, toB_]
  refine wq_seqR (R := fun Γ => ∃ d6 d10 d11, Γ = [.v (.raw v), .v (ofD O), .v (.lst ((cm O).map .int)), .v (.str (shownD (ofD O))), .v (spD (rc O)), d5, d6, .un, .un, .un, d10, d11, .un]) ?_ ?_
  · by_cases h1 : (1 : Int) < (O.length : Nat)
    · refine wq_if_t ?_ ?_
      · simp only [tst_, bin_, callV_, consL_, nilL_, getS_, cI_, List.getElem?_cons_succ, List.getElem?_cons_zero, ret_b, elen, gt_int', decide_eq_true h1, toB_]
      have hll := h.n6
      have hlen2 : ∀ i, i < O.length → less O i ≠ [] := fun i hi z => by
        have := less_len hi
        rw [z] at this
        have : 0 = O.length - 1 := this
        omega
      refine wq_set (d := .lst ((lessL O).map .int)) ?_ ?_
      · have e0 : rangeD [.int ((O.length : Nat) : Int)] = .ret ((List.range O.length).map fun (y : Nat) => D.int (y : Int)) := range_nat (by omega) (by omega)
        simp only [lcM_, ownFree, wipe_cons, wipe_nil, List.set_cons_succ, List.set_cons_zero, List.getElem?_cons_succ, List.getElem?_cons_zero, List.all_cons, List.all_nil, isOwn_un, isOwn_v, Bool.not_false, Bool.and_true, if_true, ret_b, rgM_, callV_, consL_, nilL_, getS_, elen, e0]
        rw [rng_lc (f := fun i => size (rc (less O i))) (enc := D.int) fun i hi => ?_]
        · rfl
        · have hd := less_D hi hll
          have ho' : ∀ o ∈ less O i, Ofc o := fun o ho => hO o (less_mem ho)
          have el : ((cm (less O i)).length : Int) = size (rc (less O i)) := cm_len (hlen2 i hi) ho'
          simp only [lcOne_, bndN_, ret_b, List.set_cons_succ, List.set_cons_zero, yesT_, if_true, callV_, consL_, nilL_, bin_, slV_, noO_, smO_, getS_, cI_, List.getElem?_cons_succ, List.getElem?_cons_zero, toI_, add_int]
          rw [hd]
          simp only [ret_b, q_lcommon (hlen2 i hi) ho', len_lst, List.length_map, el, noexc_ret]
      simp only [slF_lst, List.set_cons_succ, List.set_cons_zero]
      have hn2 := lessL_ne h0
      refine wq_if_f ?_ (wq_next ⟨rfl, _, _, _, rfl⟩)
      obtain ⟨t, ht⟩ := repr_int (long_b h)
      have ht' : reprD [.int ((idxI (lessL O) (maxI (lessL O)) : Nat) : Int)] = .ret (.str t) := ht
      have hi := indexD_int (maxI_mem hn2)
      have hge : ¬ maxI (lessL O) < ((cm O).length : Nat) := by
        have hz : 0 < O.length := by omega
        have h1 : size (rc (less O 0)) ∈ lessL O := List.mem_map.mpr ⟨0, List.mem_range.mpr hz, rfl⟩
        have h2 := maxI_ge h1
        have ho' : ∀ o ∈ less O 0, Ofc o := fun o ho => hO o (less_mem ho)
        have h3 := cm_len (hlen2 0 hz) ho'
        have h4 := cm_without h0 hO (hlen2 0 hz) fun o ho => less_mem ho
        omega
      simp only [orT_, tst_, bin_, callV_, consL_, nilL_, getS_, getB_, methV_l, isT_l, if_true, List.getElem?_cons_succ, List.getElem?_cons_zero, ret_b, q_longer h, maxD_l hn2, hi, ht, ht', neu_str, toB_, Bool.false_eq_true, if_false, len_lst, List.length_map, lt_int', decide_eq_false hge]
    · refine wq_if_f ?_ (wq_next ⟨rfl, _, _, _, rfl⟩)
      simp only [tst_, bin_, callV_, consL_, nilL_, getS_, cI_, List.getElem?_cons_succ, List.getElem?_cons_zero, ret_b, elen, gt_int', decide_eq_false h1, toB_]
  rintro Γ ⟨d6, d10, d11, rfl⟩
  refine wq_setSP (P := fun d => ∃ P, O.Perm P ∧ d = ofD P) ?_ ?_
  · simp only [callV_, consL_, nilL_, getS_, List.getElem?_cons_succ, List.getElem?_cons_zero, ret_b, show listD [ofD O] = .ret (.lst (O.map spD)) from rfl, M.wp_bind]
    have hs : (O.map spD).length < 10000 := by rw [List.length_map]; have := h.n6; omega
    refine q_shuf hs fun es hp => ?_
    simp only [wp_ret, M.wp_bind, tupleD_lst]
    obtain ⟨P, hP, rfl⟩ := perm_map_inv hp O rfl
    exact ⟨P, hP, rfl⟩
  rintro _ ⟨P, hP, rfl⟩
  simp only [List.set_cons_succ, List.set_cons_zero]
  have hP' : OkO P := ⟨fun e => h0 (List.eq_nil_of_length_eq_zero (by rw [hP.length_eq, e]; rfl)), by rw [← hP.length_eq]; exact h.n6, fun o ho => hO o (hP.mem_iff.mpr ho)⟩
  refine wq_ret (d := .bl true) ?_ ?_
  case refine_2 => exact rfl
  have e1 : equD (spD (rc O)) (spD (rc O)) = .ret (.bl true) := equ_same (showable_sm _ (sp_sm (rc_bb hO))).2 (Nat.le_trans (sp_dep _) (by decide))
  have e2 : equD (pD (mostP O)) (pD (mostP O)) = .ret (.bl true) := equ_same pD_pl (by rw [pD_dep]; decide)
  simp only [andV_, bin_, callV_, consL_, nilL_, getS_, List.getElem?_cons_succ, List.getElem?_cons_zero, ret_b, q_common hP', perm_cm h0 hO hP, e1, toB_, if_true, q_most_at hP', q_most_at h, perm_most h0 hO hP, e2, repr_of h, equ_str]
end
end Px

set_option Elab.async false
set_option linter.all false
set_option maxRecDepth 100000
set_option maxHeartbeats 4000000
set_option autoImplicit false
namespace Px
open PySem PySem.Spec PyProof.Rows L2
theorem all_mk {l : PySem.W.OpenLaw} {w : World} {K : PySem.W.Frag} {h : Heap} {mg : Str → Option Value} {fa : Addr} (X : K.In h) (G : h.Ns mainGlobals mg) (hfa : mg "law" = some (.ref fa)) (L : LawOk)
    {oc0 kV0 dc0 pm0 cd0 ct0 : Value} {od0 an0 : Option Addr} {sl0 : Array (Option Value)} {f0 : Addr} {oc1 kV1 dc1 pm1 cd1 ct1 : Value} {od1 an1 : Option Addr} {sl1 : Array (Option Value)} {f1 : Addr} {oc2 kV2 dc2 pm2 cd2 ct2 : Value} {od2 an2 : Option Addr} {sl2 : Array (Option Value)} {f2 : Addr} {oc3 kV3 dc3 pm3 cd3 ct3 : Value} {od3 an3 : Option Addr} {sl3 : Array (Option Value)} {f3 : Addr} {oc4 kV4 dc4 pm4 cd4 ct4 : Value} {od4 an4 : Option Addr} {sl4 : Array (Option Value)} {f4 : Addr} {oc5 kV5 dc5 pm5 cd5 ct5 : Value} {od5 an5 : Option Addr} {sl5 : Array (Option Value)} {f5 : Addr} {oc6 kV6 dc6 pm6 cd6 ct6 : Value} {od6 an6 : Option Addr} {sl6 : Array (Option Value)} {f6 : Addr} {oc7 kV7 dc7 pm7 cd7 ct7 : Value} {od7 an7 : Option Addr} {sl7 : Array (Option Value)} {f7 : Addr} {oc8 kV8 dc8 pm8 cd8 ct8 : Value} {od8 an8 : Option Addr} {sl8 : Array (Option Value)} {f8 : Addr} {oc9 kV9 dc9 pm9 cd9 ct9 : Value} {od9 an9 : Option Addr} {sl9 : Array (Option Value)} {f9 : Addr} {oc10 kV10 dc10 pm10 cd10 ct10 : Value} {od10 an10 : Option Addr} {sl10 : Array (Option Value)} {f10 : Addr} {oc11 kV11 dc11 pm11 cd11 ct11 : Value} {od11 an11 : Option Addr} {sl11 : Array (Option Value)} {f11 : Addr} {oc12 kV12 dc12 pm12 cd12 ct12 : Value} {od12 an12 : Option Addr} {sl12 : Array (Option Value)} {f12 : Addr} {oc13 kV13 dc13 pm13 cd13 ct13 : Value} {od13 an13 : Option Addr} {sl13 : Array (Option Value)} {f13 : Addr} {oc14 kV14 dc14 pm14 cd14 ct14 : Value} {od14 an14 : Option Addr} {sl14 : Array (Option Value)} {f14 : Addr} {oc15 kV15 dc15 pm15 cd15 ct15 : Value} {od15 an15 : Option Addr} {sl15 : Array (Option Value)} {f15 : Addr} {oc16 kV16 dc16 pm16 cd16 ct16 : Value} {od16 an16 : Option Addr} {sl16 : Array (Option Value)} {f16 : Addr} {oc17 kV17 dc17 pm17 cd17 ct17 : Value} {od17 an17 : Option Addr} {sl17 : Array (Option Value)} {f17 : Addr} {oc18 kV18 dc18 pm18 cd18 ct18 : Value} {od18 an18 : Option Addr} {sl18 : Array (Option Value)} {f18 : Addr} {oc19 kV19 dc19 pm19 cd19 ct19 : Value} {od19 an19 : Option Addr} {sl19 : Array (Option Value)} {f19 : Addr} {oc20 kV20 dc20 pm20 cd20 ct20 : Value} {od20 an20 : Option Addr} {sl20 : Array (Option Value)} {f20 : Addr} {oc21 kV21 dc21 pm21 cd21 ct21 : Value} {od21 an21 : Option Addr} {sl21 : Array (Option Value)} {f21 : Addr} {oc22 kV22 dc22 pm22 cd22 ct22 : Value} {od22 an22 : Option Addr} {sl22 : Array (Option Value)} {f22 : Addr} {oc23 kV23 dc23 pm23 cd23 ct23 : Value} {od23 an23 : Option Addr} {sl23 : Array (Option Value)} {f23 : Addr} {oc24 kV24 dc24 pm24 cd24 ct24 : Value} {od24 an24 : Option Addr} {sl24 : Array (Option Value)} {f24 : Addr} {oc25 kV25 dc25 pm25 cd25 ct25 : Value} {od25 an25 : Option Addr} {sl25 : Array (Option Value)} {f25 : Addr} {oc26 kV26 dc26 pm26 cd26 ct26 : Value} {od26 an26 : Option Addr} {sl26 : Array (Option Value)} {f26 : Addr} {oc27 kV27 dc27 pm27 cd27 ct27 : Value} {od27 an27 : Option Addr} {sl27 : Array (Option Value)} {f27 : Addr} {t_MOST_LONG : Tok} {t_MOST_MOMENT : Tok} {t_MOST_OFFICES : Tok} {t_MOST_SPANS : Tok} {y_NoLong : Addr} {y_NoOffices : Addr}
    (a0 : PySem.W.nsIn K mainGlobals "is_integer" = some (some (.ref f0))) (l0 : K.lookup f0 = some ⟨oc0, od0, .func (PySem.W.fnOf "is_integer" "is_integer" (defArgs s_is_integer) (defBody s_is_integer) (defScope s_is_integer) .none kV0 dc0 pm0 an0 cd0 ct0), sl0⟩) (c0 : PySem.W.codeIn K cd0 "is_integer" = true) (k0 : PySem.W.keepIn K (.ref f0) = true)
    (a1 : PySem.W.nsIn K mainGlobals "is_within" = some (some (.ref f1))) (l1 : K.lookup f1 = some ⟨oc1, od1, .func (PySem.W.fnOf "is_within" "is_within" (defArgs s_is_within) (defBody s_is_within) (defScope s_is_within) .none kV1 dc1 pm1 an1 cd1 ct1), sl1⟩) (c1 : PySem.W.codeIn K cd1 "is_within" = true) (k1 : PySem.W.keepIn K (.ref f1) = true)
    (a2 : PySem.W.nsIn K mainGlobals "is_tuple_of" = some (some (.ref f2))) (l2 : K.lookup f2 = some ⟨oc2, od2, .func (PySem.W.fnOf "is_tuple_of" "is_tuple_of" (defArgs s_is_tuple_of) (defBody s_is_tuple_of) (defScope s_is_tuple_of) .none kV2 dc2 pm2 an2 cd2 ct2), sl2⟩) (c2 : PySem.W.codeIn K cd2 "is_tuple_of" = true) (k2 : PySem.W.keepIn K (.ref f2) = true)
    (a3 : PySem.W.nsIn K mainGlobals "is_span" = some (some (.ref f3))) (l3 : K.lookup f3 = some ⟨oc3, od3, .func (PySem.W.fnOf "is_span" "is_span" (defArgs s_is_span) (defBody s_is_span) (defScope s_is_span) .none kV3 dc3 pm3 an3 cd3 ct3), sl3⟩) (c3 : PySem.W.codeIn K cd3 "is_span" = true) (k3 : PySem.W.keepIn K (.ref f3) = true)
    (a4 : PySem.W.nsIn K mainGlobals "is_office" = some (some (.ref f4))) (l4 : K.lookup f4 = some ⟨oc4, od4, .func (PySem.W.fnOf "is_office" "is_office" (defArgs s_is_office) (defBody s_is_office) (defScope s_is_office) .none kV4 dc4 pm4 an4 cd4 ct4), sl4⟩) (c4 : PySem.W.codeIn K cd4 "is_office" = true) (k4 : PySem.W.keepIn K (.ref f4) = true)
    (a5 : PySem.W.nsIn K mainGlobals "check_offices" = some (some (.ref f5))) (l5 : K.lookup f5 = some ⟨oc5, od5, .func (PySem.W.fnOf "check_offices" "check_offices" (defArgs s_check_offices) (defBody s_check_offices) (defScope s_check_offices) .none kV5 dc5 pm5 an5 cd5 ct5), sl5⟩) (c5 : PySem.W.codeIn K cd5 "check_offices" = true) (k5 : PySem.W.keepIn K (.ref f5) = true)
    (a6 : PySem.W.nsIn K mainGlobals "shared" = some (some (.ref f6))) (l6 : K.lookup f6 = some ⟨oc6, od6, .func (PySem.W.fnOf "shared" "shared" (defArgs s_shared) (defBody s_shared) (defScope s_shared) .none kV6 dc6 pm6 an6 cd6 ct6), sl6⟩) (c6 : PySem.W.codeIn K cd6 "shared" = true) (k6 : PySem.W.keepIn K (.ref f6) = true)
    (a7 : PySem.W.nsIn K mainGlobals "raw_common" = some (some (.ref f7))) (l7 : K.lookup f7 = some ⟨oc7, od7, .func (PySem.W.fnOf "raw_common" "raw_common" (defArgs s_raw_common) (defBody s_raw_common) (defScope s_raw_common) .none kV7 dc7 pm7 an7 cd7 ct7), sl7⟩) (c7 : PySem.W.codeIn K cd7 "raw_common" = true) (k7 : PySem.W.keepIn K (.ref f7) = true)
    (a8 : PySem.W.nsIn K mainGlobals "common" = some (some (.ref f8))) (l8 : K.lookup f8 = some ⟨oc8, od8, .func (PySem.W.fnOf "common" "common" (defArgs s_common) (defBody s_common) (defScope s_common) .none kV8 dc8 pm8 an8 cd8 ct8), sl8⟩) (c8 : PySem.W.codeIn K cd8 "common" = true) (k8 : PySem.W.keepIn K (.ref f8) = true)
    (a9 : PySem.W.nsIn K mainGlobals "first_moment" = some (some (.ref f9))) (l9 : K.lookup f9 = some ⟨oc9, od9, .func (PySem.W.fnOf "first_moment" "first_moment" (defArgs s_first_moment) (defBody s_first_moment) (defScope s_first_moment) .none kV9 dc9 pm9 an9 cd9 ct9), sl9⟩) (c9 : PySem.W.codeIn K cd9 "first_moment" = true) (k9 : PySem.W.keepIn K (.ref f9) = true)
    (a10 : PySem.W.nsIn K mainGlobals "lets_at" = some (some (.ref f10))) (l10 : K.lookup f10 = some ⟨oc10, od10, .func (PySem.W.fnOf "lets_at" "lets_at" (defArgs s_lets_at) (defBody s_lets_at) (defScope s_lets_at) .none kV10 dc10 pm10 an10 cd10 ct10), sl10⟩) (c10 : PySem.W.codeIn K cd10 "lets_at" = true) (k10 : PySem.W.keepIn K (.ref f10) = true)
    (a11 : PySem.W.nsIn K mainGlobals "most_at" = some (some (.ref f11))) (l11 : K.lookup f11 = some ⟨oc11, od11, .func (PySem.W.fnOf "most_at" "most_at" (defArgs s_most_at) (defBody s_most_at) (defScope s_most_at) .none kV11 dc11 pm11 an11 cd11 ct11), sl11⟩) (c11 : PySem.W.codeIn K cd11 "most_at" = true) (k11 : PySem.W.keepIn K (.ref f11) = true)
    (a12 : PySem.W.nsIn K mainGlobals "size_of" = some (some (.ref f12))) (l12 : K.lookup f12 = some ⟨oc12, od12, .func (PySem.W.fnOf "size_of" "size_of" (defArgs s_size_of) (defBody s_size_of) (defScope s_size_of) .none kV12 dc12 pm12 an12 cd12 ct12), sl12⟩) (c12 : PySem.W.codeIn K cd12 "size_of" = true) (k12 : PySem.W.keepIn K (.ref f12) = true)
    (a13 : PySem.W.nsIn K mainGlobals "strictest" = some (some (.ref f13))) (l13 : K.lookup f13 = some ⟨oc13, od13, .func (PySem.W.fnOf "strictest" "strictest" (defArgs s_strictest) (defBody s_strictest) (defScope s_strictest) .none kV13 dc13 pm13 an13 cd13 ct13), sl13⟩) (c13 : PySem.W.codeIn K cd13 "strictest" = true) (k13 : PySem.W.keepIn K (.ref f13) = true)
    (a14 : PySem.W.nsIn K mainGlobals "moments_many" = some (some (.ref f14))) (l14 : K.lookup f14 = some ⟨oc14, od14, .func (PySem.W.fnOf "moments_many" "moments_many" (defArgs s_moments_many) (defBody s_moments_many) (defScope s_moments_many) .none kV14 dc14 pm14 an14 cd14 ct14), sl14⟩) (c14 : PySem.W.codeIn K cd14 "moments_many" = true) (k14 : PySem.W.keepIn K (.ref f14) = true)
    (a15 : PySem.W.nsIn K mainGlobals "longer_without" = some (some (.ref f15))) (l15 : K.lookup f15 = some ⟨oc15, od15, .func (PySem.W.fnOf "longer_without" "longer_without" (defArgs s_longer_without) (defBody s_longer_without) (defScope s_longer_without) .none kV15 dc15 pm15 an15 cd15 ct15), sl15⟩) (c15 : PySem.W.codeIn K cd15 "longer_without" = true) (k15 : PySem.W.keepIn K (.ref f15) = true)
    (a16 : PySem.W.nsIn K mainGlobals "_law_hand" = some (some (.ref f16))) (l16 : K.lookup f16 = some ⟨oc16, od16, .func (PySem.W.fnOf "_law_hand" "_law_hand" (defArgs s__law_hand) (defBody s__law_hand) (defScope s__law_hand) .none kV16 dc16 pm16 an16 cd16 ct16), sl16⟩) (c16 : PySem.W.codeIn K cd16 "_law_hand" = true) (k16 : PySem.W.keepIn K (.ref f16) = true)
    (a17 : PySem.W.nsIn K mainGlobals "_law_draw" = some (some (.ref f17))) (l17 : K.lookup f17 = some ⟨oc17, od17, .func (PySem.W.fnOf "_law_draw" "_law_draw" (defArgs s__law_draw) (defBody s__law_draw) (defScope s__law_draw) .none kV17 dc17 pm17 an17 cd17 ct17), sl17⟩) (c17 : PySem.W.codeIn K cd17 "_law_draw" = true) (k17 : PySem.W.keepIn K (.ref f17) = true)
    (a18 : PySem.W.nsIn K mainGlobals "_law_some" = some (some (.ref f18))) (l18 : K.lookup f18 = some ⟨oc18, od18, .func (PySem.W.fnOf "_law_some" "_law_some" (defArgs s__law_some) (defBody s__law_some) (defScope s__law_some) .none kV18 dc18 pm18 an18 cd18 ct18), sl18⟩) (c18 : PySem.W.codeIn K cd18 "_law_some" = true) (k18 : PySem.W.keepIn K (.ref f18) = true)
    (a19 : PySem.W.nsIn K mainGlobals "_law_shuffled" = some (some (.ref f19))) (l19 : K.lookup f19 = some ⟨oc19, od19, .func (PySem.W.fnOf "_law_shuffled" "_law_shuffled" (defArgs s__law_shuffled) (defBody s__law_shuffled) (defScope s__law_shuffled) .none kV19 dc19 pm19 an19 cd19 ct19), sl19⟩) (c19 : PySem.W.codeIn K cd19 "_law_shuffled" = true) (k19 : PySem.W.keepIn K (.ref f19) = true)
    (a20 : PySem.W.nsIn K mainGlobals "_law_office" = some (some (.ref f20))) (l20 : K.lookup f20 = some ⟨oc20, od20, .func (PySem.W.fnOf "_law_office" "_law_office" (defArgs s__law_office) (defBody s__law_office) (defScope s__law_office) .none kV20 dc20 pm20 an20 cd20 ct20), sl20⟩) (c20 : PySem.W.codeIn K cd20 "_law_office" = true) (k20 : PySem.W.keepIn K (.ref f20) = true)
    (a21 : PySem.W.nsIn K mainGlobals "_law_lets" = some (some (.ref f21))) (l21 : K.lookup f21 = some ⟨oc21, od21, .func (PySem.W.fnOf "_law_lets" "_law_lets" (defArgs s__law_lets) (defBody s__law_lets) (defScope s__law_lets) .none kV21 dc21 pm21 an21 cd21 ct21), sl21⟩) (c21 : PySem.W.codeIn K cd21 "_law_lets" = true) (k21 : PySem.W.keepIn K (.ref f21) = true)
    (a22 : PySem.W.nsIn K mainGlobals "_law_common" = some (some (.ref f22))) (l22 : K.lookup f22 = some ⟨oc22, od22, .func (PySem.W.fnOf "_law_common" "_law_common" (defArgs s__law_common) (defBody s__law_common) (defScope s__law_common) .none kV22 dc22 pm22 an22 cd22 ct22), sl22⟩) (c22 : PySem.W.codeIn K cd22 "_law_common" = true) (k22 : PySem.W.keepIn K (.ref f22) = true)
    (a23 : PySem.W.nsIn K mainGlobals "_law_spans_of" = some (some (.ref f23))) (l23 : K.lookup f23 = some ⟨oc23, od23, .func (PySem.W.fnOf "_law_spans_of" "_law_spans_of" (defArgs s__law_spans_of) (defBody s__law_spans_of) (defScope s__law_spans_of) .none kV23 dc23 pm23 an23 cd23 ct23), sl23⟩) (c23 : PySem.W.codeIn K cd23 "_law_spans_of" = true) (k23 : PySem.W.keepIn K (.ref f23) = true)
    (a24 : PySem.W.nsIn K mainGlobals "_law_first" = some (some (.ref f24))) (l24 : K.lookup f24 = some ⟨oc24, od24, .func (PySem.W.fnOf "_law_first" "_law_first" (defArgs s__law_first) (defBody s__law_first) (defScope s__law_first) .none kV24 dc24 pm24 an24 cd24 ct24), sl24⟩) (c24 : PySem.W.codeIn K cd24 "_law_first" = true) (k24 : PySem.W.keepIn K (.ref f24) = true)
    (a25 : PySem.W.nsIn K mainGlobals "_law_most" = some (some (.ref f25))) (l25 : K.lookup f25 = some ⟨oc25, od25, .func (PySem.W.fnOf "_law_most" "_law_most" (defArgs s__law_most) (defBody s__law_most) (defScope s__law_most) .none kV25 dc25 pm25 an25 cd25 ct25), sl25⟩) (c25 : PySem.W.codeIn K cd25 "_law_most" = true) (k25 : PySem.W.keepIn K (.ref f25) = true)
    (a26 : PySem.W.nsIn K mainGlobals "_law_is_right" = some (some (.ref f26))) (l26 : K.lookup f26 = some ⟨oc26, od26, .func (PySem.W.fnOf "_law_is_right" "_law_is_right" (defArgs s__law_is_right) (defBody s__law_is_right) (defScope s__law_is_right) .none kV26 dc26 pm26 an26 cd26 ct26), sl26⟩) (c26 : PySem.W.codeIn K cd26 "_law_is_right" = true) (k26 : PySem.W.keepIn K (.ref f26) = true)
    (a27 : PySem.W.nsIn K mainGlobals "law" = some (some (.ref f27))) (l27 : K.lookup f27 = some ⟨oc27, od27, .func (PySem.W.fnOf "law" "law" (defArgs s_law) (defBody s_law) (defScope s_law) .none kV27 dc27 pm27 an27 cd27 ct27), sl27⟩) (c27 : PySem.W.codeIn K cd27 "law" = true) (k27 : PySem.W.keepIn K (.ref f27) = true)
    (z_abs : PySem.W.nsIn K mainGlobals "abs" = some none)
    (z_all : PySem.W.nsIn K mainGlobals "all" = some none)
    (z_any : PySem.W.nsIn K mainGlobals "any" = some none)
    (z_bool : PySem.W.nsIn K mainGlobals "bool" = some none)
    (z_int : PySem.W.nsIn K mainGlobals "int" = some none)
    (z_isinstance : PySem.W.nsIn K mainGlobals "isinstance" = some none)
    (z_len : PySem.W.nsIn K mainGlobals "len" = some none)
    (z_list : PySem.W.nsIn K mainGlobals "list" = some none)
    (z_max : PySem.W.nsIn K mainGlobals "max" = some none)
    (z_min : PySem.W.nsIn K mainGlobals "min" = some none)
    (z_range : PySem.W.nsIn K mainGlobals "range" = some none)
    (z_repr : PySem.W.nsIn K mainGlobals "repr" = some none)
    (z_sorted : PySem.W.nsIn K mainGlobals "sorted" = some none)
    (z_sum : PySem.W.nsIn K mainGlobals "sum" = some none)
    (z_tuple : PySem.W.nsIn K mainGlobals "tuple" = some none)
    (z_zip : PySem.W.nsIn K mainGlobals "zip" = some none)
    (n_MOST_LONG : PySem.W.nsIn K mainGlobals "MOST_LONG" = some (some (.int 200 t_MOST_LONG)))
    (n_MOST_MOMENT : PySem.W.nsIn K mainGlobals "MOST_MOMENT" = some (some (.int 1000 t_MOST_MOMENT)))
    (n_MOST_OFFICES : PySem.W.nsIn K mainGlobals "MOST_OFFICES" = some (some (.int 6 t_MOST_OFFICES)))
    (n_MOST_SPANS : PySem.W.nsIn K mainGlobals "MOST_SPANS" = some (some (.int 5 t_MOST_SPANS)))
    (xg_NoLong : PySem.W.nsIn K mainGlobals "NoLong" = some (some (.ref y_NoLong))) (xe_NoLong : PySem.W.excIn K y_NoLong [.type "ValueError", .type "Exception", .type "BaseException", .type "object"] "ValueError.__new__" = true) (xk_NoLong : PySem.W.keepIn K (.ref y_NoLong) = true) (xb_NoLong : PySem.W.subIn K (.ref y_NoLong) (.type "BaseException") = some true) (xt_NoLong : PySem.W.typeIn K (.ref y_NoLong) = some (.type "type"))
    (xg_NoOffices : PySem.W.nsIn K mainGlobals "NoOffices" = some (some (.ref y_NoOffices))) (xe_NoOffices : PySem.W.excIn K y_NoOffices [.type "ValueError", .type "Exception", .type "BaseException", .type "object"] "ValueError.__new__" = true) (xk_NoOffices : PySem.W.keepIn K (.ref y_NoOffices) = true) (xb_NoOffices : PySem.W.subIn K (.ref y_NoOffices) (.type "BaseException") = some true) (xt_NoOffices : PySem.W.typeIn K (.ref y_NoOffices) = some (.type "type")) :
    ∃ fd : FuncData, (∀ (s : Shared) (v : Value), BindsTo s fd ⟨[v], []⟩ [("script", v)]) ∧ ∀ base : Heap, K.In base → base.Ns mainGlobals mg → FnG l.prog w K mg base (L2.CX l.prog w) 9 fa fd ["script"] (spLaw K) := by
  have e := hfa.symm.trans (PySem.W.mg_of X G a27)
  cases e
  let T : TX l.prog w K mg := {
    a_is_integer := f0, d_is_integer := _, F_is_integer := fun_mk (st := s_is_integer) l0 c0 k0, B_is_integer := (fun_mk (st := s_is_integer) l0 c0 k0).binds (ps := ["thing"]) fun _ _ _ _ _ _ us hl => (match us, hl with | [_], _ => rfl), g_is_integer := PySem.W.mg_of X G a0,
    a_is_within := f1, d_is_within := _, F_is_within := fun_mk (st := s_is_within) l1 c1 k1, B_is_within := (fun_mk (st := s_is_within) l1 c1 k1).binds (ps := ["thing", "least", "most"]) fun _ _ _ _ _ _ us hl => (match us, hl with | [_, _, _], _ => rfl), g_is_within := PySem.W.mg_of X G a1,
    a_is_tuple_of := f2, d_is_tuple_of := _, F_is_tuple_of := fun_mk (st := s_is_tuple_of) l2 c2 k2, B_is_tuple_of := (fun_mk (st := s_is_tuple_of) l2 c2 k2).binds (ps := ["thing", "size"]) fun _ _ _ _ _ _ us hl => (match us, hl with | [_, _], _ => rfl), g_is_tuple_of := PySem.W.mg_of X G a2,
    a_is_span := f3, d_is_span := _, F_is_span := fun_mk (st := s_is_span) l3 c3 k3, B_is_span := (fun_mk (st := s_is_span) l3 c3 k3).binds (ps := ["thing"]) fun _ _ _ _ _ _ us hl => (match us, hl with | [_], _ => rfl), g_is_span := PySem.W.mg_of X G a3,
    a_is_office := f4, d_is_office := _, F_is_office := fun_mk (st := s_is_office) l4 c4 k4, B_is_office := (fun_mk (st := s_is_office) l4 c4 k4).binds (ps := ["thing"]) fun _ _ _ _ _ _ us hl => (match us, hl with | [_], _ => rfl), g_is_office := PySem.W.mg_of X G a4,
    a_check_offices := f5, d_check_offices := _, F_check_offices := fun_mk (st := s_check_offices) l5 c5 k5, B_check_offices := (fun_mk (st := s_check_offices) l5 c5 k5).binds (ps := ["offices"]) fun _ _ _ _ _ _ us hl => (match us, hl with | [_], _ => rfl), g_check_offices := PySem.W.mg_of X G a5,
    a_shared := f6, d_shared := _, F_shared := fun_mk (st := s_shared) l6 c6 k6, B_shared := (fun_mk (st := s_shared) l6 c6 k6).binds (ps := ["one", "other"]) fun _ _ _ _ _ _ us hl => (match us, hl with | [_, _], _ => rfl), g_shared := PySem.W.mg_of X G a6,
    a_raw_common := f7, d_raw_common := _, F_raw_common := fun_mk (st := s_raw_common) l7 c7 k7, B_raw_common := (fun_mk (st := s_raw_common) l7 c7 k7).binds (ps := ["offices"]) fun _ _ _ _ _ _ us hl => (match us, hl with | [_], _ => rfl), g_raw_common := PySem.W.mg_of X G a7,
    a_common := f8, d_common := _, F_common := fun_mk (st := s_common) l8 c8 k8, B_common := (fun_mk (st := s_common) l8 c8 k8).binds (ps := ["offices"]) fun _ _ _ _ _ _ us hl => (match us, hl with | [_], _ => rfl), g_common := PySem.W.mg_of X G a8,
    a_first_moment := f9, d_first_moment := _, F_first_moment := fun_mk (st := s_first_moment) l9 c9 k9, B_first_moment := (fun_mk (st := s_first_moment) l9 c9 k9).binds (ps := ["offices", "long"]) fun _ _ _ _ _ _ us hl => (match us, hl with | [_, _], _ => rfl), g_first_moment := PySem.W.mg_of X G a9,
    a_lets_at := f10, d_lets_at := _, F_lets_at := fun_mk (st := s_lets_at) l10 c10 k10, B_lets_at := (fun_mk (st := s_lets_at) l10 c10 k10).binds (ps := ["offices", "moment"]) fun _ _ _ _ _ _ us hl => (match us, hl with | [_, _], _ => rfl), g_lets_at := PySem.W.mg_of X G a10,
    a_most_at := f11, d_most_at := _, F_most_at := fun_mk (st := s_most_at) l11 c11 k11, B_most_at := (fun_mk (st := s_most_at) l11 c11 k11).binds (ps := ["offices"]) fun _ _ _ _ _ _ us hl => (match us, hl with | [_], _ => rfl), g_most_at := PySem.W.mg_of X G a11,
    a_size_of := f12, d_size_of := _, F_size_of := fun_mk (st := s_size_of) l12 c12 k12, B_size_of := (fun_mk (st := s_size_of) l12 c12 k12).binds (ps := ["spans"]) fun _ _ _ _ _ _ us hl => (match us, hl with | [_], _ => rfl), g_size_of := PySem.W.mg_of X G a12,
    a_strictest := f13, d_strictest := _, F_strictest := fun_mk (st := s_strictest) l13 c13 k13, B_strictest := (fun_mk (st := s_strictest) l13 c13 k13).binds (ps := ["offices"]) fun _ _ _ _ _ _ us hl => (match us, hl with | [_], _ => rfl), g_strictest := PySem.W.mg_of X G a13,
    a_moments_many := f14, d_moments_many := _, F_moments_many := fun_mk (st := s_moments_many) l14 c14 k14, B_moments_many := (fun_mk (st := s_moments_many) l14 c14 k14).binds (ps := ["offices"]) fun _ _ _ _ _ _ us hl => (match us, hl with | [_], _ => rfl), g_moments_many := PySem.W.mg_of X G a14,
    a_longer_without := f15, d_longer_without := _, F_longer_without := fun_mk (st := s_longer_without) l15 c15 k15, B_longer_without := (fun_mk (st := s_longer_without) l15 c15 k15).binds (ps := ["offices"]) fun _ _ _ _ _ _ us hl => (match us, hl with | [_], _ => rfl), g_longer_without := PySem.W.mg_of X G a15,
    a__law_hand := f16, d__law_hand := _, F__law_hand := fun_mk (st := s__law_hand) l16 c16 k16, B__law_hand := (fun_mk (st := s__law_hand) l16 c16 k16).binds (ps := ["script"]) fun _ _ _ _ _ _ us hl => (match us, hl with | [_], _ => rfl), g__law_hand := PySem.W.mg_of X G a16,
    a__law_draw := f17, d__law_draw := _, F__law_draw := fun_mk (st := s__law_draw) l17 c17 k17, B__law_draw := (fun_mk (st := s__law_draw) l17 c17 k17).binds (ps := ["hand", "size"]) fun _ _ _ _ _ _ us hl => (match us, hl with | [_, _], _ => rfl), g__law_draw := PySem.W.mg_of X G a17,
    a__law_some := f18, d__law_some := _, F__law_some := fun_mk (st := s__law_some) l18 c18 k18, B__law_some := (fun_mk (st := s__law_some) l18 c18 k18).binds (ps := ["hand", "things"]) fun _ _ _ _ _ _ us hl => (match us, hl with | [_, _], _ => rfl), g__law_some := PySem.W.mg_of X G a18,
    a__law_shuffled := f19, d__law_shuffled := _, F__law_shuffled := fun_mk (st := s__law_shuffled) l19 c19 k19, B__law_shuffled := (fun_mk (st := s__law_shuffled) l19 c19 k19).binds (ps := ["hand", "things"]) fun _ _ _ _ _ _ us hl => (match us, hl with | [_, _], _ => rfl), g__law_shuffled := PySem.W.mg_of X G a19,
    a__law_office := f20, d__law_office := _, F__law_office := fun_mk (st := s__law_office) l20 c20 k20, B__law_office := (fun_mk (st := s__law_office) l20 c20 k20).binds (ps := ["hand", "far_now"]) fun _ _ _ _ _ _ us hl => (match us, hl with | [_, _], _ => rfl), g__law_office := PySem.W.mg_of X G a20,
    a__law_lets := f21, d__law_lets := _, F__law_lets := fun_mk (st := s__law_lets) l21 c21 k21, B__law_lets := (fun_mk (st := s__law_lets) l21 c21 k21).binds (ps := ["office", "moment"]) fun _ _ _ _ _ _ us hl => (match us, hl with | [_, _], _ => rfl), g__law_lets := PySem.W.mg_of X G a21,
    a__law_common := f22, d__law_common := _, F__law_common := fun_mk (st := s__law_common) l22 c22 k22, B__law_common := (fun_mk (st := s__law_common) l22 c22 k22).binds (ps := ["offices"]) fun _ _ _ _ _ _ us hl => (match us, hl with | [_], _ => rfl), g__law_common := PySem.W.mg_of X G a22,
    a__law_spans_of := f23, d__law_spans_of := _, F__law_spans_of := fun_mk (st := s__law_spans_of) l23 c23 k23, B__law_spans_of := (fun_mk (st := s__law_spans_of) l23 c23 k23).binds (ps := ["moments_now"]) fun _ _ _ _ _ _ us hl => (match us, hl with | [_], _ => rfl), g__law_spans_of := PySem.W.mg_of X G a23,
    a__law_first := f24, d__law_first := _, F__law_first := fun_mk (st := s__law_first) l24 c24 k24, B__law_first := (fun_mk (st := s__law_first) l24 c24 k24).binds (ps := ["offices", "long"]) fun _ _ _ _ _ _ us hl => (match us, hl with | [_, _], _ => rfl), g__law_first := PySem.W.mg_of X G a24,
    a__law_most := f25, d__law_most := _, F__law_most := fun_mk (st := s__law_most) l25 c25 k25, B__law_most := (fun_mk (st := s__law_most) l25 c25 k25).binds (ps := ["offices"]) fun _ _ _ _ _ _ us hl => (match us, hl with | [_], _ => rfl), g__law_most := PySem.W.mg_of X G a25,
    a__law_is_right := f26, d__law_is_right := _, F__law_is_right := fun_mk (st := s__law_is_right) l26 c26 k26, B__law_is_right := (fun_mk (st := s__law_is_right) l26 c26 k26).binds (ps := ["hand", "offices"]) fun _ _ _ _ _ _ us hl => (match us, hl with | [_, _], _ => rfl), g__law_is_right := PySem.W.mg_of X G a26,
    a_law := fa, d_law := _, F_law := fun_mk (st := s_law) l27 c27 k27, B_law := (fun_mk (st := s_law) l27 c27 k27).binds (ps := ["script"]) fun _ _ _ _ _ _ us hl => (match us, hl with | [_], _ => rfl), g_law := PySem.W.mg_of X G a27,
    n_abs := PySem.W.mg_none_of X G z_abs,
    n_all := PySem.W.mg_none_of X G z_all,
    n_any := PySem.W.mg_none_of X G z_any,
    n_bool := PySem.W.mg_none_of X G z_bool,
    n_int := PySem.W.mg_none_of X G z_int,
    n_isinstance := PySem.W.mg_none_of X G z_isinstance,
    n_len := PySem.W.mg_none_of X G z_len,
    n_list := PySem.W.mg_none_of X G z_list,
    n_max := PySem.W.mg_none_of X G z_max,
    n_min := PySem.W.mg_none_of X G z_min,
    n_range := PySem.W.mg_none_of X G z_range,
    n_repr := PySem.W.mg_none_of X G z_repr,
    n_sorted := PySem.W.mg_none_of X G z_sorted,
    n_sum := PySem.W.mg_none_of X G z_sum,
    n_tuple := PySem.W.mg_none_of X G z_tuple,
    n_zip := PySem.W.mg_none_of X G z_zip,
    t_MOST_LONG := t_MOST_LONG, c_MOST_LONG := PySem.W.mg_of X G n_MOST_LONG,
    t_MOST_MOMENT := t_MOST_MOMENT, c_MOST_MOMENT := PySem.W.mg_of X G n_MOST_MOMENT,
    t_MOST_OFFICES := t_MOST_OFFICES, c_MOST_OFFICES := PySem.W.mg_of X G n_MOST_OFFICES,
    t_MOST_SPANS := t_MOST_SPANS, c_MOST_SPANS := PySem.W.mg_of X G n_MOST_SPANS,
    y_NoLong := y_NoLong, x_NoLong := ⟨PySem.W.mg_of X G xg_NoLong, xe_NoLong, xk_NoLong, xb_NoLong, xt_NoLong⟩,
    y_NoOffices := y_NoOffices, x_NoOffices := ⟨PySem.W.mg_of X G xg_NoOffices, xe_NoOffices, xk_NoOffices, xb_NoOffices, xt_NoOffices⟩ }
  exact ⟨T.d_law, fun s v => .of_eq rfl, fun base _ _ => ok_law T L base 1⟩
def O1 : List Spn := [[(0, 4), (8, 9)], [(2, 8)], [(3, 3), (8, 20)]]
theorem ok1 : OkO O1 := ⟨by decide, by decide, fun s hs => by
  unfold O1 at hs
  simp only [List.mem_cons, List.not_mem_nil, or_false] at hs
  rcases hs with rfl | rfl | rfl
  · exact ⟨⟨by decide, by decide⟩, by decide, by decide, by decide⟩
  · exact ⟨⟨by decide, by decide⟩, by decide, by decide, by decide⟩
  · exact ⟨⟨by decide, by decide⟩, by decide, by decide, by decide⟩⟩
theorem ok2 : OkO [[(1, 2), (4, 4)]] := ⟨by decide, by decide, fun s hs => by
  simp only [List.mem_cons, List.not_mem_nil, or_false] at hs
  rcases hs with rfl
  exact ⟨⟨by decide, by decide⟩, by decide, by decide, by decide⟩⟩
theorem c_common : m_common [ofD O1] = .ret (spD [(3, 3), (8, 8)]) := by rw [q_common ok1]; rfl
theorem c_many : m_moments_many [ofD O1] = .ret (.int 2) := by rw [q_many ok1]; rfl
theorem c_first1 : m_first_moment [ofD O1, .int 1] = .ret (.int 3) := by rw [q_first ok1 (by decide) (by decide)]; rfl
theorem c_first2 : m_first_moment [ofD O1, .int 2] = .ret .non := by rw [q_first ok1 (by decide) (by decide)]; rfl
theorem c_most : m_most_at [ofD O1] = .ret (pD (3, 3)) := by
  rw [q_most_at ok1]
  have : mostP O1 = (3, 3) := by decide +kernel
  show M.ret (pD (mostP O1)) = _
  rw [this]
theorem c_strict : m_strictest [ofD O1] = .ret (.int 0) := by
  rw [q_strict ok1]
  have : strictI O1 = 0 := by decide +kernel
  show M.ret (D.int (strictI O1)) = _
  rw [this]
theorem c_long : m_longer_without [ofD O1] = .ret (.int 2) := by
  rw [q_longer ok1]
  have : longI O1 = 2 := by decide +kernel
  show M.ret (D.int (longI O1)) = _
  rw [this]
theorem c_common2 : m_common [ofD [[(1, 2), (4, 4)]]] = .ret (spD [(1, 2), (4, 4)]) := by rw [q_common ok2]; rfl
theorem neu_sp {s : Spn} (h : D.pl (spD s) = true) : neuD (spD s) (spD s) = .ret (.bl false) := neu_same h (Nat.le_trans (sp_dep s) (by decide))
theorem wp_noexc_of {α : Type} {Q : α → Prop} {E : Exn → Prop} : ∀ {m : M α}, (m.wp Q fun _ => False) → m.noexc.wp Q E
  | .ret _, h => h
  | .exc _, h => h.elim
  | .stuck, h => h.elim
  | .draw n k, h => fun r hr => wp_noexc_of (h r hr)
theorem offices_lc {a : Addr} {far : Int} (f0 : 0 < far) (f1 : far ≤ 30) {Γ : Ga} (h1 : Γ[1]? = some (.v (.raw (.ref a)))) (h4 : Γ[4]? = some (.v (.int far))) (h5 : 5 < Γ.length) {Q : List D → Prop} {E' : Exn → Prop} : ∀ {n : List Nat}, (∀ O : List Spn, O.length = n.length → (∀ o ∈ O, Ofc o) → Q (O.map spD)) →
    (lcGo (lcOne (bndN 5) yesT (callV (consL (getS 1) (consL (getS 4) nilL)) (m__law_office (.ref a))) Γ) (n.map fun (y : Nat) => D.int (y : Int))).wp Q E'
  | [], h => h [] rfl (fun _ z => nomatch z)
  | x :: r, h => by
    have e1 : (Γ.set 5 (.v (.int (x : Int))))[1]? = some (.v (.raw (.ref a))) := by rw [List.getElem?_set_ne (by decide)]; exact h1
    have e4 : (Γ.set 5 (.v (.int (x : Int))))[4]? = some (.v (.int far)) := by rw [List.getElem?_set_ne (by decide)]; exact h4
    rw [List.map_cons, lcGo_cons, lcOne_]
    simp only [bndN_, ret_b, yesT_, if_true, callV_, consL_, nilL_, getS_, e1, e4, M.wp_bind]
    refine wp_noexc_of ?_
    simp only [M.wp_bind]
    refine q_office f0 f1 fun s hs => ?_
    exact offices_lc (Q := fun es => Q (spD s :: es)) f0 f1 h1 h4 h5 fun O hl hO => h (s :: O) (by rw [List.length_cons, List.length_cons, hl]) fun o ho => by
      rcases List.mem_cons.mp ho with rfl | ho
      · exact hs
      · exact hO o ho
theorem law_ok : LawOk := by
  intro a
  refine Wq.go ?_
  show Wq (b_law (.ref a) [.un, .v (.raw (.ref a)), .un, .un, .un, .un]) _ _
  unfold b_law
  refine wq_setS (d := ofD O1) rfl ?_
  simp only [List.set_cons_succ, List.set_cons_zero]
  refine wq_chk ?_ ?_
  · have e : (.tup [.tup [.int 3, .int 3], .tup [.int 8, .int 8]] : D) = spD [(3, 3), (8, 8)] := rfl
    simp only [orT_, tst_, bin_, callV_, consL_, nilL_, tupV_, cI_, getS_, List.getElem?_cons_succ, List.getElem?_cons_zero, ret_b, c_common, c_many, c_first1, e, neu_sp (s := [(3, 3), (8, 8)]) rfl, neu_int, toB_, Bool.false_eq_true, if_false]
    rfl
  refine wq_chk ?_ ?_
  · have e : (.tup [.int 3, .int 3] : D) = pD (3, 3) := rfl
    simp only [orT_, tst_, bin_, callV_, consL_, nilL_, tupV_, cI_, cN_, getS_, List.getElem?_cons_succ, List.getElem?_cons_zero, ret_b, c_first2, c_most, c_strict, e, show isNotD .non .non = .ret (.bl false) from rfl, neu_same (d := pD (3, 3)) rfl (by decide), neu_int, toB_, Bool.false_eq_true, if_false]
    rfl
  refine wq_chk ?_ ?_
  · have e : (.tup [.tup [.int 1, .int 2], .tup [.int 4, .int 4]] : D) = spD [(1, 2), (4, 4)] := rfl
    have e2 : (.tup [spD [(1, 2), (4, 4)]] : D) = ofD [[(1, 2), (4, 4)]] := rfl
    simp only [orT_, tst_, bin_, callV_, consL_, nilL_, tupV_, cI_, getS_, List.getElem?_cons_succ, List.getElem?_cons_zero, ret_b, c_long, e, e2, c_common2, neu_sp (s := [(1, 2), (4, 4)]) rfl, neu_int, toB_, Bool.false_eq_true, if_false]
    rfl
  refine wq_seqR (R := fun _ => True) ?_ ?_
  · refine wq_for (enc := fun y : Nat => D.int (y : Int)) (xs := List.range 5) (I := fun _ Γ => ∃ d2 d3 d4, Γ = [.un, .v (.raw (.ref a)), d2, d3, d4, .un]) (by rfl) ⟨_, _, _, rfl⟩ ?_ ?_
    · rintro x r Γ ⟨d2, d3, d4, rfl⟩
      simp only [bndN_, wp_ret, List.set_cons_succ, List.set_cons_zero]
      refine wq_setSP (P := fun d => ∃ far : Int, 0 < far ∧ far ≤ 30 ∧ d = .int far) ?_ ?_
      · simp only [callV_, consL_, nilL_, lstV_, cI_, getS_, List.getElem?_cons_succ, List.getElem?_cons_zero, ret_b]
        refine q_some (by intro z; cases z) (by show 3 < 1000000; decide) fun d hd => ?_
        simp only [List.mem_cons, List.not_mem_nil, or_false] at hd
        rcases hd with rfl | rfl | rfl
        · exact ⟨3, by decide, by decide, rfl⟩
        · exact ⟨8, by decide, by decide, rfl⟩
        · exact ⟨30, by decide, by decide, rfl⟩
      rintro _ ⟨far, f0, f1, rfl⟩
      simp only [List.set_cons_succ, List.set_cons_zero]
      refine wq_setSP (P := fun d => ∃ O, OkO O ∧ d = ofD O) ?_ ?_
      · simp only [callV_, consL_, nilL_, lcM_, ownFree, wipe_cons, wipe_nil, List.set_cons_succ, List.set_cons_zero, List.getElem?_cons_succ, List.getElem?_cons_zero, List.all_cons, List.all_nil, isOwn_un, isOwn_v, Bool.not_false, Bool.and_true, if_true, ret_b, rgM_, bin_, cI_, getS_, q_draw (v := .ref a) (m := 4) (by decide) (by decide), draw_b, add_int, wp_draw]
        intro r1 hr1
        have hr1' : r1 < 4 := hr1
        rw [range_nat (by omega) (by omega)]
        simp only [ret_b, M.wp_bind]
        refine offices_lc f0 f1 rfl rfl (by simp) fun O hl hO => ?_
        simp only [wp_ret, tupleD_lst]
        rw [List.length_range] at hl
        exact ⟨O, ⟨fun z => by rw [z] at hl; have : 0 = (1 + (r1 : Int)).toNat := hl; omega, by omega, hO⟩, rfl⟩
      rintro _ ⟨O, hO, rfl⟩
      simp only [List.set_cons_succ, List.set_cons_zero]
      refine wq_ifw_f ?_ (wq_next ⟨_, _, _, rfl⟩)
      simp only [notT_, tst_, callV_, consL_, nilL_, getS_, List.getElem?_cons_succ, List.getElem?_cons_zero, ret_b, M.wp_bind]
      refine M.wp_mono (q_right hO) (fun d e => ?_) fun _ z => z
      subst e
      rfl
    · rintro Γ ⟨d2, d3, d4, rfl⟩
      exact ⟨rfl, trivial⟩
  · intro Γ _
    refine wq_ret rfl ?_
    exact rfl

end Px
open PySem PySem.W PyProof.Rows
set_option maxHeartbeats 0 in
theorem PySem.Challenge.cw_cordfire_k62_whole_offices_that_let_holds : PySem.Challenge.rw_cordfire_k62_whole_offices_that_let.Holds := by
  w_on; o_law; k_head; (case hw => w_witness2)
  k_fill
  refine Px.walk_ofG (l := PySem.Challenge.rw_cordfire_k62_whole_offices_that_let) (n := 63) (k := 9) (x := "script") (CX := fun w => L2.CX PySem.Challenge.rw_cordfire_k62_whole_offices_that_let.prog w) (sp := fun w => Px.spLaw _) rfl (by decide) rfl ⟨rfl, by decide, by decide⟩ (fun w h Y => PySem.W.kIn_of Y) ?F (fun _ _ a ns hl _ hS => ⟨a, ns, rfl, hS, fun _ => rfl⟩) (fun _ _ _ _ _ h => Px.cx_none h)
  case F =>
    intro w mg fa h KX G hmg
    refine' Px.all_mk KX G hmg Px.law_ok ?a0 ?l0 ?c0 ?k0 ?a1 ?l1 ?c1 ?k1 ?a2 ?l2 ?c2 ?k2 ?a3 ?l3 ?c3 ?k3 ?a4 ?l4 ?c4 ?k4 ?a5 ?l5 ?c5 ?k5 ?a6 ?l6 ?c6 ?k6 ?a7 ?l7 ?c7 ?k7 ?a8 ?l8 ?c8 ?k8 ?a9 ?l9 ?c9 ?k9 ?a10 ?l10 ?c10 ?k10 ?a11 ?l11 ?c11 ?k11 ?a12 ?l12 ?c12 ?k12 ?a13 ?l13 ?c13 ?k13 ?a14 ?l14 ?c14 ?k14 ?a15 ?l15 ?c15 ?k15 ?a16 ?l16 ?c16 ?k16 ?a17 ?l17 ?c17 ?k17 ?a18 ?l18 ?c18 ?k18 ?a19 ?l19 ?c19 ?k19 ?a20 ?l20 ?c20 ?k20 ?a21 ?l21 ?c21 ?k21 ?a22 ?l22 ?c22 ?k22 ?a23 ?l23 ?c23 ?k23 ?a24 ?l24 ?c24 ?k24 ?a25 ?l25 ?c25 ?k25 ?a26 ?l26 ?c26 ?k26 ?a27 ?l27 ?c27 ?k27 ?z_abs ?z_all ?z_any ?z_bool ?z_int ?z_isinstance ?z_len ?z_list ?z_max ?z_min ?z_range ?z_repr ?z_sorted ?z_sum ?z_tuple ?z_zip ?n_MOST_LONG ?n_MOST_MOMENT ?n_MOST_OFFICES ?n_MOST_SPANS ?xg_NoLong ?xe_NoLong ?xk_NoLong ?xb_NoLong ?xt_NoLong ?xg_NoOffices ?xe_NoOffices ?xk_NoOffices ?xb_NoOffices ?xt_NoOffices
    (case a0 => k_is)
    (case l0 => k_is)
    (case c0 => k_is)
    (case k0 => k_is)
    (case a1 => k_is)
    (case l1 => k_is)
    (case c1 => k_is)
    (case k1 => k_is)
    (case a2 => k_is)
    (case l2 => k_is)
    (case c2 => k_is)
    (case k2 => k_is)
    (case a3 => k_is)
    (case l3 => k_is)
    (case c3 => k_is)
    (case k3 => k_is)
    (case a4 => k_is)
    (case l4 => k_is)
    (case c4 => k_is)
    (case k4 => k_is)
    (case a5 => k_is)
    (case l5 => k_is)
    (case c5 => k_is)
    (case k5 => k_is)
    (case a6 => k_is)
    (case l6 => k_is)
    (case c6 => k_is)
    (case k6 => k_is)
    (case a7 => k_is)
    (case l7 => k_is)
    (case c7 => k_is)
    (case k7 => k_is)
    (case a8 => k_is)
    (case l8 => k_is)
    (case c8 => k_is)
    (case k8 => k_is)
    (case a9 => k_is)
    (case l9 => k_is)
    (case c9 => k_is)
    (case k9 => k_is)
    (case a10 => k_is)
    (case l10 => k_is)
    (case c10 => k_is)
    (case k10 => k_is)
    (case a11 => k_is)
    (case l11 => k_is)
    (case c11 => k_is)
    (case k11 => k_is)
    (case a12 => k_is)
    (case l12 => k_is)
    (case c12 => k_is)
    (case k12 => k_is)
    (case a13 => k_is)
    (case l13 => k_is)
    (case c13 => k_is)
    (case k13 => k_is)
    (case a14 => k_is)
    (case l14 => k_is)
    (case c14 => k_is)
    (case k14 => k_is)
    (case a15 => k_is)
    (case l15 => k_is)
    (case c15 => k_is)
    (case k15 => k_is)
    (case a16 => k_is)
    (case l16 => k_is)
    (case c16 => k_is)
    (case k16 => k_is)
    (case a17 => k_is)
    (case l17 => k_is)
    (case c17 => k_is)
    (case k17 => k_is)
    (case a18 => k_is)
    (case l18 => k_is)
    (case c18 => k_is)
    (case k18 => k_is)
    (case a19 => k_is)
    (case l19 => k_is)
    (case c19 => k_is)
    (case k19 => k_is)
    (case a20 => k_is)
    (case l20 => k_is)
    (case c20 => k_is)
    (case k20 => k_is)
    (case a21 => k_is)
    (case l21 => k_is)
    (case c21 => k_is)
    (case k21 => k_is)
    (case a22 => k_is)
    (case l22 => k_is)
    (case c22 => k_is)
    (case k22 => k_is)
    (case a23 => k_is)
    (case l23 => k_is)
    (case c23 => k_is)
    (case k23 => k_is)
    (case a24 => k_is)
    (case l24 => k_is)
    (case c24 => k_is)
    (case k24 => k_is)
    (case a25 => k_is)
    (case l25 => k_is)
    (case c25 => k_is)
    (case k25 => k_is)
    (case a26 => k_is)
    (case l26 => k_is)
    (case c26 => k_is)
    (case k26 => k_is)
    (case a27 => k_is)
    (case l27 => k_is)
    (case c27 => k_is)
    (case k27 => k_is)
    (case z_abs => k_is)
    (case z_all => k_is)
    (case z_any => k_is)
    (case z_bool => k_is)
    (case z_int => k_is)
    (case z_isinstance => k_is)
    (case z_len => k_is)
    (case z_list => k_is)
    (case z_max => k_is)
    (case z_min => k_is)
    (case z_range => k_is)
    (case z_repr => k_is)
    (case z_sorted => k_is)
    (case z_sum => k_is)
    (case z_tuple => k_is)
    (case z_zip => k_is)
    (case n_MOST_LONG => k_is)
    (case n_MOST_MOMENT => k_is)
    (case n_MOST_OFFICES => k_is)
    (case n_MOST_SPANS => k_is)
    (case xg_NoLong => k_is)
    (case xe_NoLong => k_exc)
    (case xk_NoLong => k_is)
    (case xb_NoLong => k_is)
    (case xt_NoLong => k_is)
    (case xg_NoOffices => k_is)
    (case xe_NoOffices => k_exc)
    (case xk_NoOffices => k_is)
    (case xb_NoOffices => k_is)
    (case xt_NoOffices => k_is)

