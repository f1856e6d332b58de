import PyProof.Rows.All
import Wide.All
import OpenK.AllK
import Wide.FinOn
import HandS.ForMost
import HandS.ForExc
import HandS.Iter
import HandS.Style
import KE.GoesEnum
import HandS.DictComp
import HandS.ExcOwn
import HandS.WordsExc
import KE.DataEq
import KE.LtData
import HandS.TupAny
import KE.DataMinMax
import KE.SortData
import KE.DataIsa
import PyProof.Claim2Refuses
import HandS.WordsDict
import KE.KDictCopyH
import KE.KDictWalk
import KE.KEqDict
import KE.KDictDisplayH
import HandS.Ends
import PySem.Challenge.RW_cordfire_k50_whole_ash_that_falls
set_option Elab.async false
set_option linter.all false
set_option maxRecDepth 100000
/-! Px: programs over trees of data. Core: data, the monad, what a value of the heap stands for, the state. -/
namespace Px
open PySem PySem.Spec PyProof.Rows L2

inductive D where
  | non | bl (b : Bool) | int (i : Int) | str (x : Str) | tup (xs : List D) | lst (xs : List D) | dct (t : Bool) (kvs : List (D × D)) | raw (v : V)

/-- an exception: its class's name, its one field -/
abbrev Exn := Str × Option (Str × Int)

inductive M (α : Type) where
  | ret (a : α) | exc (x : Exn) | stuck | draw (n : Nat) (k : Nat → M α)
namespace M
variable {α β γ : Type}
def bind : M α → (α → M β) → M β
  | ret a, f => f a
  | exc x, _ => exc x
  | stuck, _ => stuck
  | draw n k, f => draw n fun r => bind (k r) f
def wp : M α → (α → Prop) → (Exn → Prop) → Prop
  | ret a, Q, _ => Q a
  | exc x, _, E => E x
  | stuck, _, _ => False
  | draw n k, Q, E => ∀ r, r < n → wp (k r) Q E
def noexc : M α → M α
  | ret a => ret a
  | exc _ => stuck
  | stuck => stuck
  | draw n k => draw n fun r => noexc (k r)
instance : Bind M := ⟨bind⟩
instance : Pure M := ⟨ret⟩
theorem ret_bind (a : α) (f : α → M β) : (ret a >>= f) = f a := rfl
theorem exc_bind (x : Exn) (f : α → M β) : ((exc x : M α) >>= f) = exc x := rfl
theorem stuck_bind (f : α → M β) : ((stuck : M α) >>= f) = stuck := rfl
theorem draw_bind (n : Nat) (k : Nat → M α) (f : α → M β) : (draw n k >>= f) = draw n fun r => k r >>= f := rfl
theorem bind_assoc (m : M α) (f : α → M β) (g : β → M γ) : (m >>= f) >>= g = m >>= fun a => f a >>= g := by
  induction m with
  | ret a => rfl
  | exc x => rfl
  | stuck => rfl
  | draw n k ih =>
    show draw n (fun r => (k r >>= f) >>= g) = draw n fun r => k r >>= fun a => f a >>= g
    exact congrArg (draw n) (funext ih)
theorem wp_bind {m : M α} {f : α → M β} {Q : β → Prop} {E : Exn → Prop} : (m >>= f).wp Q E ↔ m.wp (fun a => (f a).wp Q E) E := by
  induction m with
  | ret a => exact Iff.rfl
  | exc x => exact Iff.rfl
  | stuck => exact Iff.rfl
  | draw n k ih =>
    show (∀ r, r < n → (k r >>= f).wp Q E) ↔ ∀ r, r < n → (k r).wp _ E
    exact ⟨fun h r hr => (ih r).mp (h r hr), fun h r hr => (ih r).mpr (h r hr)⟩
theorem wp_mono {m : M α} {Q Q' : α → Prop} {E E' : Exn → Prop} (h : m.wp Q E) (hq : ∀ a, Q a → Q' a) (he : ∀ x, E x → E' x) : m.wp Q' E' := by
  induction m with
  | ret a => exact hq a h
  | exc x => exact he x h
  | stuck => exact h
  | draw n k ih => exact fun r hr => ih r (h r hr)
theorem wp_noexc {m : M α} {Q : α → Prop} {E : Exn → Prop} (h : m.noexc.wp Q E) : m.wp Q fun _ => False := by
  induction m with
  | ret a => exact h
  | exc x => exact h.elim
  | stuck => exact h
  | draw n k ih => exact fun r hr => ih r (h r hr)
end M
end Px

set_option Elab.async false
set_option linter.all false
set_option maxRecDepth 100000
set_option autoImplicit false
namespace Px
open PySem PySem.Spec PyProof.Rows L2

/-! ### what a value stands for -/
def kD : Key → D
  | .inl i => .int i
  | .inr x => .str x
def ktD (ks : List Key) : D := .tup (ks.map kD)
/-- a tuple: tracked, or a constant of the module -/
def TpX (K : PySem.W.Frag) (H : Hp) (a : Addr) (xs : List V) : Prop := H a = some (.tup xs) ∨ ∃ (o : Obj) (its : Array Value) (n : Nat), K.lookup a = some o ∧ o.cls = .type "tuple" ∧ o.data = .seq its n ∧ its.size ≤ sizeLine ∧ Vals xs its.toList
mutual
/-- the value v stands for the tree d; its lists and dicts lie at places of P -/
inductive Rp (K : PySem.W.Frag) (H : Hp) (P : Addr → Prop) : V → D → Prop
  | non : Rp K H P .non .non
  | bl (b : Bool) : Rp K H P (.bl b) (.bl b)
  | int (i : Int) : Rp K H P (.int i) (.int i)
  | str (x : Str) : Rp K H P (.str x) (.str x)
  | raw (v : V) : Rp K H P v (.raw v)
  | tup {a : Addr} {xs : List V} {ds : List D} : TpX K H a xs → RpL K H P xs ds → Rp K H P (.ref a) (.tup ds)
  | lst {a : Addr} {xs : List V} {ds : List D} : P a → H a = some (.lst xs) → RpL K H P xs ds → Rp K H P (.ref a) (.lst ds)
  | dK {a : Addr} {ob : Obj} {l : List (Key × V)} {kvs : List (D × D)} : P a → H a = some (.frz ob (.dK l)) → RpK K H P l kvs → Rp K H P (.ref a) (.dct false kvs)
  | dT {a : Addr} {ob : Obj} {l : List (List Key × V)} {kvs : List (D × D)} : P a → H a = some (.frz ob (.dT l)) → RpT K H P l kvs → Rp K H P (.ref a) (.dct true kvs)
inductive RpL (K : PySem.W.Frag) (H : Hp) (P : Addr → Prop) : List V → List D → Prop
  | nil : RpL K H P [] []
  | cons {v : V} {vs : List V} {d : D} {ds : List D} : Rp K H P v d → RpL K H P vs ds → RpL K H P (v :: vs) (d :: ds)
inductive RpK (K : PySem.W.Frag) (H : Hp) (P : Addr → Prop) : List (Key × V) → List (D × D) → Prop
  | nil : RpK K H P [] []
  | cons {k : Key} {v : V} {l : List (Key × V)} {d : D} {kvs : List (D × D)} : Rp K H P v d → RpK K H P l kvs → RpK K H P ((k, v) :: l) ((kD k, d) :: kvs)
inductive RpT (K : PySem.W.Frag) (H : Hp) (P : Addr → Prop) : List (List Key × V) → List (D × D) → Prop
  | nil : RpT K H P [] []
  | cons {k : List Key} {v : V} {l : List (List Key × V)} {d : D} {kvs : List (D × D)} : Rp K H P v d → RpT K H P l kvs → RpT K H P ((k, v) :: l) ((ktD k, d) :: kvs)
end
/-- what is read at places of P, and every tuple, is read still -/
structure Ho (P : Addr → Prop) (H H' : Hp) : Prop where
  ex : ∀ a u, P a → H a = some u → H' a = some u
  tp : ∀ a xs, H a = some (.tup xs) → H' a = some (.tup xs)
theorem Ho.rd {P : Addr → Prop} {H H' : Hp} (o : Ho P H H') (a : Addr) (u : HO) (p : P a) (r : Rd H a u) : Rd H' a u := r.imp (o.ex _ _ p) fun ⟨ob, e⟩ => ⟨ob, o.ex _ _ p e⟩
theorem TpX.ho {K : PySem.W.Frag} {P : Addr → Prop} {H H' : Hp} {a : Addr} {xs : List V} (o : Ho P H H') (h : TpX K H a xs) : TpX K H' a xs := h.imp (o.tp a xs) id
section
variable {K : PySem.W.Frag} {P P' : Addr → Prop} {H H' : Hp}
mutual
theorem Rp.mono (o : Ho P H H') (pp : ∀ a u, P a → Rd H a u → P' a) : ∀ {v : V} {d : D}, Rp K H P v d → Rp K H' P' v d
  | _, _, .non => .non
  | _, _, .bl b => .bl b
  | _, _, .int i => .int i
  | _, _, .str x => .str x
  | _, _, .raw v => .raw v
  | _, _, .tup h r => .tup (TpX.ho o h) (RpL.mono o pp r)
  | _, _, .lst p h r => .lst (pp _ _ p (.inl h)) (o.ex _ _ p h) (RpL.mono o pp r)
  | _, _, .dK p h r => .dK (pp _ _ p (.inr ⟨_, h⟩)) (o.ex _ _ p h) (RpK.mono o pp r)
  | _, _, .dT p h r => .dT (pp _ _ p (.inr ⟨_, h⟩)) (o.ex _ _ p h) (RpT.mono o pp r)
theorem RpL.mono (o : Ho P H H') (pp : ∀ a u, P a → Rd H a u → P' a) : ∀ {vs : List V} {ds : List D}, RpL K H P vs ds → RpL K H' P' vs ds
  | _, _, .nil => .nil
  | _, _, .cons h r => .cons (Rp.mono o pp h) (RpL.mono o pp r)
theorem RpK.mono (o : Ho P H H') (pp : ∀ a u, P a → Rd H a u → P' a) : ∀ {l : List (Key × V)} {kvs : List (D × D)}, RpK K H P l kvs → RpK K H' P' l kvs
  | _, _, .nil => .nil
  | _, _, .cons h r => .cons (Rp.mono o pp h) (RpK.mono o pp r)
theorem RpT.mono (o : Ho P H H') (pp : ∀ a u, P a → Rd H a u → P' a) : ∀ {l : List (List Key × V)} {kvs : List (D × D)}, RpT K H P l kvs → RpT K H' P' l kvs
  | _, _, .nil => .nil
  | _, _, .cons h r => .cons (Rp.mono o pp h) (RpT.mono o pp r)
end
theorem RpL.length : ∀ {vs : List V} {ds : List D}, RpL K H P vs ds → vs.length = ds.length
  | _, _, .nil => rfl
  | _, _, .cons _ r => congrArg (· + 1) r.length
theorem RpL.get : ∀ {vs : List V} {ds : List D} {i : Nat} {d : D}, RpL K H P vs ds → ds[i]? = some d → ∃ v, vs[i]? = some v ∧ Rp K H P v d
  | _, _, _, _, .nil, e => by simp at e
  | _, _, 0, _, .cons h _, e => by simp at e; subst e; exact ⟨_, rfl, h⟩
  | _, _, i + 1, d, .cons _ r, e => by
    obtain ⟨v, h1, h2⟩ := r.get (i := i) (d := d) (by simpa using e)
    exact ⟨v, by simpa using h1, h2⟩
theorem RpL.append : ∀ {vs : List V} {ds : List D} {ws : List V} {es : List D}, RpL K H P vs ds → RpL K H P ws es → RpL K H P (vs ++ ws) (ds ++ es)
  | _, _, _, _, .nil, s => s
  | _, _, _, _, .cons h r, s => .cons h (r.append s)
theorem RpL.take : ∀ (n : Nat) {vs : List V} {ds : List D}, RpL K H P vs ds → RpL K H P (vs.take n) (ds.take n)
  | 0, _, _, _ => .nil
  | _ + 1, _, _, .nil => .nil
  | n + 1, _, _, .cons h r => .cons h (r.take n)
theorem RpL.drop : ∀ (n : Nat) {vs : List V} {ds : List D}, RpL K H P vs ds → RpL K H P (vs.drop n) (ds.drop n)
  | 0, _, _, r => r
  | _ + 1, _, _, .nil => .nil
  | n + 1, _, _, .cons _ r => r.drop n
theorem RpL.set {v : V} {d : D} (h : Rp K H P v d) : ∀ (n : Nat) {vs : List V} {ds : List D}, RpL K H P vs ds → RpL K H P (vs.set n v) (ds.set n d)
  | _, _, _, .nil => .nil
  | 0, _, _, .cons _ r => .cons h r
  | n + 1, _, _, .cons g r => .cons g (r.set h n)
theorem RpL.erase : ∀ (n : Nat) {vs : List V} {ds : List D}, RpL K H P vs ds → RpL K H P (vs.eraseIdx n) (ds.eraseIdx n)
  | _, _, _, .nil => .nil
  | 0, _, _, .cons _ r => r
  | n + 1, _, _, .cons g r => .cons g (r.erase n)
theorem RpL.reverse : ∀ {vs : List V} {ds : List D}, RpL K H P vs ds → RpL K H P vs.reverse ds.reverse
  | _, _, .nil => .nil
  | _, _, .cons h r => by
    rw [List.reverse_cons, List.reverse_cons]
    exact r.reverse.append (.cons h .nil)
theorem RpL.dropLast {vs : List V} {ds : List D} (h : RpL K H P vs ds) : RpL K H P vs.dropLast ds.dropLast := by
  rw [List.dropLast_eq_take, List.dropLast_eq_take, h.length]
  exact h.take _
theorem RpL.ints : ∀ (ns : List Int), RpL K H P (ns.map V.int) (ns.map D.int)
  | [] => .nil
  | n :: r => .cons (.int n) (RpL.ints r)
theorem RpK.length : ∀ {l : List (Key × V)} {kvs : List (D × D)}, RpK K H P l kvs → l.length = kvs.length
  | _, _, .nil => rfl
  | _, _, .cons _ r => congrArg (· + 1) r.length
theorem RpT.length : ∀ {l : List (List Key × V)} {kvs : List (D × D)}, RpT K H P l kvs → l.length = kvs.length
  | _, _, .nil => rfl
  | _, _, .cons _ r => congrArg (· + 1) r.length
end
/-- an object of one's own: just as it stands -/
def Ow (K : PySem.W.Frag) (H : Hp) (P : Addr → Prop) (a : Addr) : D → Prop
  | .lst ds => ∃ xs, H a = some (.lst xs) ∧ RpL K H P xs ds
  | .dct t kvs => (t = false ∧ ∃ l, H a = some (.dK l) ∧ RpK K H P l kvs) ∨ (t = true ∧ ∃ l, H a = some (.dT l) ∧ RpT K H P l kvs)
  | _ => False
/-- to be read: its items stand for theirs; it lies at a place of W -/
def Rb (K : PySem.W.Frag) (H : Hp) (P W : Addr → Prop) (w : V) : D → Prop
  | .lst ds => ∃ a xs, w = .ref a ∧ W a ∧ H a = some (.lst xs) ∧ RpL K H P xs ds
  | .dct t kvs => ∃ a, w = .ref a ∧ W a ∧ ((t = false ∧ ∃ l, Rd H a (.dK l) ∧ RpK K H P l kvs) ∨ (t = true ∧ ∃ l, Rd H a (.dT l) ∧ RpT K H P l kvs))
  | d => Rp K H P w d
/-- b: to be read now; s: it stays; f: newly made -/
inductive Md where
  | b | s | f
/-- newly made (H0: ahead of it) -/
def Rf (K : PySem.W.Frag) (H0 H : Hp) (P : Addr → Prop) (w : V) : D → Prop
  | .lst ds => ∃ a, w = .ref a ∧ H0 a = none ∧ Ow K H (fun b => P b ∧ b ≠ a) a (.lst ds)
  | .dct t kvs => ∃ a, w = .ref a ∧ H0 a = none ∧ Ow K H (fun b => P b ∧ b ≠ a) a (.dct t kvs)
  | d => Rp K H P w d
def Rq (md : Md) (K : PySem.W.Frag) (H0 H : Hp) (P W : Addr → Prop) (w : V) (d : D) : Prop :=
  match md with
  | .b => Rb K H P W w d
  | .s => Rp K H P w d
  | .f => Rf K H0 H P w d
section
variable {K : PySem.W.Frag} {P P' W W' : Addr → Prop} {H H' H0 H0' : Hp} {w : V} {d : D} {a : Addr} {md : Md}
theorem Rp.rb (h : Rp K H P w d) (pw : ∀ a, P a → W a) : Rb K H P W w d := by
  cases h with
  | non => exact .non
  | bl b => exact .bl b
  | int i => exact .int i
  | str x => exact .str x
  | raw => exact .raw _
  | tup h r => exact .tup h r
  | lst p h r => exact ⟨_, _, rfl, pw _ p, h, r⟩
  | dK p h r => exact ⟨_, rfl, pw _ p, .inl ⟨rfl, _, .inr ⟨_, h⟩, r⟩⟩
  | dT p h r => exact ⟨_, rfl, pw _ p, .inr ⟨rfl, _, .inr ⟨_, h⟩, r⟩⟩
theorem Ho.refl : Ho P H H := ⟨fun _ _ _ r => r, fun _ _ r => r⟩
theorem Rf.rb (h : Rf K H0 H P w d) (hp : ∀ a, H0 a = none → P a) (pw : ∀ a, P a → W a) : Rb K H P W w d := by
  cases d with
  | lst ds => obtain ⟨a, rfl, h0, xs, hx, r⟩ := h; exact ⟨a, xs, rfl, pw a (hp a h0), hx, r.mono .refl fun _ _ p _ => p.1⟩
  | dct t kvs =>
    obtain ⟨a, rfl, h0, hx⟩ := h
    rcases hx with ⟨rfl, l, hx, r⟩ | ⟨rfl, l, hx, r⟩
    · exact ⟨a, rfl, pw a (hp a h0), .inl ⟨rfl, l, .inl hx, r.mono .refl fun _ _ p _ => p.1⟩⟩
    · exact ⟨a, rfl, pw a (hp a h0), .inr ⟨rfl, l, .inl hx, r.mono .refl fun _ _ p _ => p.1⟩⟩
  | non => exact h
  | bl b => exact h
  | int i => exact h
  | str x => exact h
  | tup ds => exact h
  | raw v => exact h
theorem Rq.rb (h : Rq md K H0 H P W w d) (hp : ∀ a, H0 a = none → P a) (pw : ∀ a, P a → W a) : Rb K H P W w d := by
  cases md with
  | b => exact h
  | s => exact Rp.rb h pw
  | f => exact Rf.rb h hp pw
theorem Ow.mono (h : Ow K H P a d) (o : Ho P H H') (pp : ∀ a u, P a → Rd H a u → P' a) (ha : ∀ u, H a = some u → H' a = some u) : Ow K H' P' a d := by
  cases d with
  | lst ds => obtain ⟨xs, hx, r⟩ := h; exact ⟨xs, ha _ hx, r.mono o pp⟩
  | dct t kvs =>
    rcases h with ⟨rfl, l, hx, r⟩ | ⟨rfl, l, hx, r⟩
    · exact .inl ⟨rfl, l, ha _ hx, r.mono o pp⟩
    · exact .inr ⟨rfl, l, ha _ hx, r.mono o pp⟩
  | _ => exact h.elim
theorem Ow.mut (h : Ow K H P a d) : ∃ o, H a = some o ∧ Mut (some o) := by
  cases d with
  | lst ds => obtain ⟨xs, hx, r⟩ := h; exact ⟨_, hx, trivial⟩
  | dct t kvs =>
    rcases h with ⟨rfl, l, hx, r⟩ | ⟨rfl, l, hx, r⟩
    · exact ⟨_, hx, trivial⟩
    · exact ⟨_, hx, trivial⟩
  | _ => exact h.elim
theorem Rb.mono (h : Rb K H P W w d) (o : Ho P H H') (pp : ∀ a u, P a → Rd H a u → P' a) (ha : ∀ a u, W a → Rd H a u → W' a ∧ Rd H' a u) (hl : ∀ a xs, W a → H a = some (.lst xs) → H' a = some (.lst xs)) : Rb K H' P' W' w d := by
  cases d with
  | lst ds => obtain ⟨a, xs, e, hw, hx, r⟩ := h; exact ⟨a, xs, e, (ha _ _ hw (.inl hx)).1, hl _ _ hw hx, r.mono o pp⟩
  | dct t kvs =>
    obtain ⟨a, e, hw, h⟩ := h
    rcases h with ⟨rfl, l, hx, r⟩ | ⟨rfl, l, hx, r⟩
    · exact ⟨a, e, (ha _ _ hw hx).1, .inl ⟨rfl, l, (ha _ _ hw hx).2, r.mono o pp⟩⟩
    · exact ⟨a, e, (ha _ _ hw hx).1, .inr ⟨rfl, l, (ha _ _ hw hx).2, r.mono o pp⟩⟩
  | non => exact Rp.mono o pp h
  | bl b => exact Rp.mono o pp h
  | int i => exact Rp.mono o pp h
  | str x => exact Rp.mono o pp h
  | tup ds => exact Rp.mono o pp h
  | raw v => exact Rp.mono o pp h
theorem Ow.rb (h : Ow K H P a d) (hw : W a) : Rb K H P W (.ref a) d := by
  cases d with
  | lst ds => obtain ⟨xs, hx, r⟩ := h; exact ⟨a, xs, rfl, hw, hx, r⟩
  | dct t kvs =>
    rcases h with ⟨rfl, l, hx, r⟩ | ⟨rfl, l, hx, r⟩
    · exact ⟨a, rfl, hw, .inl ⟨rfl, l, .inl hx, r⟩⟩
    · exact ⟨a, rfl, hw, .inr ⟨rfl, l, .inl hx, r⟩⟩
  | _ => exact h.elim
theorem Rf.mono (h : Rf K H0 H P w d) (o : Ho P H H') (pp : ∀ a u, P a → Rd H a u → P' a) (h0 : ∀ a, H0 a = none → H0' a = none) (ha : ∀ a u, H0 a = none → H a = some u → H' a = some u) : Rf K H0' H' P' w d := by
  cases d with
  | lst ds => obtain ⟨a, e, hn, ho⟩ := h; exact ⟨a, e, h0 a hn, Ow.mono ho ⟨fun b u p r => o.ex b u p.1 r, o.tp⟩ (fun b u p r => ⟨pp b u p.1 r, p.2⟩) fun u => ha a u hn⟩
  | dct t kvs => obtain ⟨a, e, hn, ho⟩ := h; exact ⟨a, e, h0 a hn, Ow.mono ho ⟨fun b u p r => o.ex b u p.1 r, o.tp⟩ (fun b u p r => ⟨pp b u p.1 r, p.2⟩) fun u => ha a u hn⟩
  | non => exact Rp.mono o pp h
  | bl b => exact Rp.mono o pp h
  | int i => exact Rp.mono o pp h
  | str x => exact Rp.mono o pp h
  | tup ds => exact Rp.mono o pp h
  | raw v => exact Rp.mono o pp h
end

/-! ### the state -/
/-- the constants (tuples of the module) that data may be -/
def KLe (K K' : PySem.W.Frag) : Prop := ∀ a o, K.lookup a = some o → K'.lookup a = some o
theorem TpX.kle {K K' : PySem.W.Frag} {H : Hp} {a : Addr} {xs : List V} (k : KLe K K') (h : TpX K H a xs) : SqT K' H a xs := h.imp .inl fun ⟨o, its, n, hk, r⟩ => ⟨o, its, n, k a o hk, r⟩
/-- what the def around gives: Z: the places of the law's random hand, G: that it is in order -/
structure Gh where
  Z : Addr → Prop
  G : Hp → Prop
  gk : ∀ H H' : Hp, G H → (∀ a, Z a → H' a = H a) → G H'
  gz : ∀ (H : Hp) (a : Addr), G H → Z a → ∃ xs, H a = some (.lst xs)
/-- an activation: the heap at its entry, the places that are safe -/
structure Am where
  gh : Gh
  K : PySem.W.Frag
  H0 : Hp
  P0 : Addr → Prop
  g0 : gh.G H0
  zp : ∀ a, gh.Z a → ¬ P0 a
  p0 : ∀ a, ¬ P0 a → ¬ gh.Z a → ∃ o, H0 a = some o ∧ Mut (some o)
/-- a local name: not assigned (or not told), a value, an object of its own -/
inductive Sl where
  | un | v (d : D) | own (d : D)
abbrev Ga := List Sl
/-- lk: the dicts that are locked while they are walked; hd: the lists that comprehensions are making -/
structure Cn where
  lk : List (Addr × Obj)
  hd : List Addr
  e : lk = []
def At (cn : Cn) (H : Hp) (a : Addr) (o : HO) : Prop := H a = some o ∨ ∃ ob, (a, ob) ∈ cn.lk ∧ H a = some (.frz ob o)
theorem At.eq {cn : Cn} {H : Hp} {a : Addr} {o : HO} (h : At cn H a o) : H a = some o := by
  rcases h with h | ⟨ob, h, _⟩
  · exact h
  · rw [cn.e] at h; cases h
/-- all that was tracked stands, but the hand -/
def Kx (Z : Addr → Prop) (H H' : Hp) : Prop := ∀ a o, ¬ Z a → H a = some o → H' a = some o
theorem Kx.refl {Z : Addr → Prop} {H : Hp} : Kx Z H H := fun _ _ _ h => h
theorem Kx.trans {Z : Addr → Prop} {H H1 H2 : Hp} (x : Kx Z H H1) (y : Kx Z H1 H2) : Kx Z H H2 := fun a o z h => y a o z (x a o z h)
theorem Kx.upd {Z : Addr → Prop} {H : Hp} {p : Addr} {o : HO} (h : H p = none) : Kx Z H (upd H p o) := fun a u _ e => by
  rw [upd_ne (ne_of_none e h)]; exact e
/-- the places that are safe now -/
def Fz (A : Am) (cn : Cn) (f : Nat → Addr) (Γ : Ga) (a : Addr) : Prop := A.P0 a ∧ a ∉ cn.hd ∧ ∀ (i : Nat) (d : D), Γ[i]? = some (.own d) → f i ≠ a
structure Rl (K : PySem.W.Frag) (A : Am) (cn : Cn) (f : Nat → Addr) (σ : L2.St) (H : Hp) (Γ : Ga) : Prop where
  len : σ.length = Γ.length
  g : A.gh.G H
  keep : ∀ a o, ¬ A.gh.Z a → A.H0 a = some o → At cn H a o
  lkf : ∀ a ob, (a, ob) ∈ cn.lk → Fz A cn f Γ a ∧ ∃ u, H a = some (.frz ob u)
  hdm : ∀ a, a ∈ cn.hd → ¬ A.gh.Z a ∧ ∃ o, H a = some o ∧ Mut (some o)
  sl : ∀ (i : Nat) (d : D), Γ[i]? = some (.v d) → ∃ w, σ[i]? = some (some w) ∧ Rp K H (Fz A cn f Γ) w d
  ow : ∀ (i : Nat) (d : D), Γ[i]? = some (.own d) → σ[i]? = some (some (.ref (f i))) ∧ A.H0 (f i) = none ∧ f i ∉ cn.hd ∧ Ow K H (Fz A cn f Γ) (f i) d
  inj : ∀ (i j : Nat) (d e : D), Γ[i]? = some (.own d) → Γ[j]? = some (.own e) → f i = f j → i = j
section
variable {K : PySem.W.Frag} {A : Am} {cn : Cn} {f : Nat → Addr} {σ : L2.St} {H H' : Hp} {Γ : Ga} {a : Addr}
theorem Rl.mut (R : Rl K A cn f σ H Γ) (h : ¬ Fz A cn f Γ a) : ∃ o, H a = some o ∧ Mut (some o) := by
  by_cases hp : A.P0 a
  · by_cases hh : a ∈ cn.hd
    · exact (R.hdm a hh).2
    · by_cases ho : ∀ (i : Nat) (d : D), Γ[i]? = some (.own d) → f i ≠ a
      · exact absurd ⟨hp, hh, ho⟩ h
      · obtain ⟨i, hi⟩ := Classical.not_forall.mp ho
        obtain ⟨d, hi⟩ := Classical.not_forall.mp hi
        have h1 := Classical.not_imp.mp hi
        have h2 : f i = a := Classical.not_not.mp h1.2
        obtain ⟨_, _, _, o⟩ := R.ow i d h1.1
        rw [h2] at o
        exact o.mut
  · by_cases hz : A.gh.Z a
    · obtain ⟨xs, e⟩ := A.gh.gz H a R.g hz
      exact ⟨_, e, trivial⟩
    · obtain ⟨o, e, m⟩ := A.p0 a hp hz
      rcases R.keep a o hz e with q | ⟨ob, hl, q⟩
      · exact ⟨o, q, m⟩
      · exact absurd (R.lkf a ob hl).1 h
theorem Rl.fresh (R : Rl K A cn f σ H Γ) (h : H a = none) : Fz A cn f Γ a := Classical.byContradiction fun n => by
  obtain ⟨o, e, _⟩ := R.mut n
  rw [h] at e; cases e
theorem mut_not_frz {H : Hp} {o : HO} {xs : List V} (e : H a = some o) (m : Mut (some o)) (r : H a = some (.tup xs)) : False := by
  rw [e] at r; cases r; exact m
theorem Rl.tup (R : Rl K A cn f σ H Γ) {xs : List V} (h : H a = some (.tup xs)) : Fz A cn f Γ a := Classical.byContradiction fun n => by
  obtain ⟨o, e, m⟩ := R.mut n
  exact mut_not_frz e m h
theorem Fz.nz (h : Fz A cn f Γ a) : ¬ A.gh.Z a := fun z => A.zp a z h.1
theorem Kx.rd {Z : Addr → Prop} {u : HO} (k : Kx Z H H') (hz : ¬ Z a) (h : Rd H a u) : Rd H' a u := by
  rcases h with h | ⟨ob, h⟩
  · exact .inl (k _ _ hz h)
  · exact .inr ⟨ob, k _ _ hz h⟩
theorem Rl.ho (R : Rl K A cn f σ H Γ) (k : Kx A.gh.Z H H') : Ho (Fz A cn f Γ) H H' :=
  ⟨fun a u p h => k _ _ p.nz h, fun a xs h => k _ _ (R.tup h).nz h⟩
theorem Am.nz0 (A : Am) (h : A.H0 a = none) : ¬ A.gh.Z a := fun z => by
  obtain ⟨xs, e⟩ := A.gh.gz A.H0 _ A.g0 z
  rw [h] at e; cases e
theorem Rl.own_nz (R : Rl K A cn f σ H Γ) {i : Nat} {d : D} (h : Γ[i]? = some (.own d)) : ¬ A.gh.Z (f i) ∧ A.P0 (f i) := by
  obtain ⟨_, h0, _⟩ := R.ow i d h
  have hz := A.nz0 h0
  exact ⟨hz, Classical.byContradiction fun n => by
    obtain ⟨o, e, _⟩ := A.p0 _ n hz
    rw [h0] at e; cases e⟩
theorem Rl.kx (R : Rl K A cn f σ H Γ) (k : Kx A.gh.Z H H') (g : A.gh.G H') : Rl K A cn f σ H' Γ where
  len := R.len
  g := g
  keep := fun a o z e => by
    rcases R.keep a o z e with q | ⟨ob, hl, q⟩
    · exact .inl (k _ _ z q)
    · exact .inr ⟨ob, hl, k _ _ z q⟩
  lkf := fun a ob h => let ⟨p, u, e⟩ := R.lkf a ob h; ⟨p, u, k _ _ p.nz e⟩
  hdm := fun a h => let ⟨z, o, e, m⟩ := R.hdm a h; ⟨z, o, k _ _ z e, m⟩
  sl := fun i d e => by
    obtain ⟨w, h1, h2⟩ := R.sl i d e
    exact ⟨w, h1, h2.mono (R.ho k) fun _ _ p _ => p⟩
  ow := fun i d e => by
    obtain ⟨h1, h2, h4, h3⟩ := R.ow i d e
    exact ⟨h1, h2, h4, h3.mono (R.ho k) (fun _ _ p _ => p) fun u => k _ _ (R.own_nz e).1⟩
  inj := R.inj
end
end Px

set_option Elab.async false
set_option linter.all false
set_option maxRecDepth 100000
set_option autoImplicit false
namespace Px
open PySem PySem.Spec PyProof.Rows L2

/-! ### the judgements -/
abbrev EN := Exn → Hp → Prop
def never : EN := fun _ _ => False
/-- what is wanted of an exception -/
def xP (A : Am) (E : EN) (cn : Cn) : Exn → Prop := fun x => cn.lk = [] ∧ ∀ H', Kx A.gh.Z A.H0 H' → A.gh.G H' → E x H'
abbrev nZ (A : Am) : Addr → Prop := fun a => ¬ A.gh.Z a
def tV (K : PySem.W.Frag) (A : Am) (E : EN) (md : Md) (m : Ga → M D) : TE := fun σ H Q => ∃ cn f Γ, Rl K A cn f σ H Γ ∧
  (m Γ).wp (fun d => ∀ w H', Kx A.gh.Z H H' → A.gh.G H' → Rq md K H H' (Fz A cn f Γ) (nZ A) w d → Q w H') (xP A E cn)
def tT (K : PySem.W.Frag) (A : Am) (E : EN) (m : Ga → M Bool) : TT := fun σ H Q => ∃ cn f Γ, Rl K A cn f σ H Γ ∧
  (m Γ).wp (fun d => ∀ H', Kx A.gh.Z H H' → A.gh.G H' → Q d H') (xP A E cn)
/-- arguments, each of the mode md (b or s) -/
inductive RqL (md : Md) (K : PySem.W.Frag) (H : Hp) (P W : Addr → Prop) : List V → List D → Prop
  | nil : RqL md K H P W [] []
  | cons {v : V} {vs : List V} {d : D} {ds : List D} : (match md with | .b => Rb K H P W v d | _ => Rp K H P v d) → RqL md K H P W vs ds → RqL md K H P W (v :: vs) (d :: ds)
def tA (K : PySem.W.Frag) (A : Am) (E : EN) (md : Md) (m : Ga → M (List D)) : TA := fun σ H Q => ∃ cn f Γ, Rl K A cn f σ H Γ ∧
  (m Γ).wp (fun ds => ∀ ws H', Kx A.gh.Z H H' → A.gh.G H' → RqL md K H' (Fz A cn f Γ) (nZ A) ws ds → Q ws H') (xP A E cn)
structure PEV (X : Cx) (A : Am) (E : EN) (md : Md) (e : Expr) (m : Ga → M D) : Prop where
  pe : PE X e (tV A.K A E md m)
structure PTV (X : Cx) (A : Am) (E : EN) (e : Expr) (m : Ga → M Bool) : Prop where
  pt : PT X e (tT A.K A E m)
structure PAV (X : Cx) (A : Am) (E : EN) (md : Md) (es : List Expr) (m : Ga → M (List D)) : Prop where
  pa : PA X es (tA A.K A E md m)
theorem imp_pe {X : Cx} {e : Expr} {t t' : TE} (h : PE X e t) (i : ∀ σ H Q, t' σ H Q → t σ H Q) : PE X e t' := ⟨fun pins s σ H Q I q => h.run pins s σ H Q I (i σ H Q q)⟩
theorem imp_pt {X : Cx} {e : Expr} {t t' : TT} (h : PT X e t) (i : ∀ σ H Q, t' σ H Q → t σ H Q) : PT X e t' := ⟨fun pins s σ H Q I q => h.run pins s σ H Q I (i σ H Q q)⟩
theorem imp_pw {X : Cx} {e : Expr} {t t' : TT} (h : PW X e t) (i : ∀ σ H Q, t' σ H Q → t σ H Q) : PW X e t' := ⟨fun wh pins s σ H Q I q => h.run wh pins s σ H Q I (i σ H Q q)⟩
theorem imp_pa {X : Cx} {es : List Expr} {t t' : TA} (h : PA X es t) (i : ∀ σ H Q, t' σ H Q → t σ H Q) : PA X es t' := ⟨fun pos pins s σ H Q I q => h.run pos pins s σ H Q I (i σ H Q q)⟩

/-! ### lemmas about the state -/
section
variable {K : PySem.W.Frag} {A : Am} {E : EN} {cn : Cn} {f : Nat → Addr} {σ : L2.St} {H H' H1 : Hp} {Γ : Ga} {a : Addr} {w : V} {d : D} {md : Md}
theorem Rl.rb (R : Rl K A cn f σ H Γ) (h : Rq md K H H' (Fz A cn f Γ) (nZ A) w d) : Rb K H' (Fz A cn f Γ) (nZ A) w d := Rq.rb h (fun _ => R.fresh) fun _ p => p.nz
theorem Rl.h0_none (R : Rl K A cn f σ H Γ) {a : Addr} (h : H a = none) : A.H0 a = none := by
  cases e : A.H0 a with
  | none => rfl
  | some o =>
    by_cases z : A.gh.Z a
    · obtain ⟨xs, q⟩ := A.gh.gz H a R.g z
      rw [h] at q; cases q
    · rcases R.keep a o z e with q | ⟨ob, _, q⟩
      · rw [h] at q; cases q
      · rw [h] at q; cases q
/-- what was to be read is to be read still -/
theorem Rl.rbk (R : Rl K A cn f σ H Γ) (k : Kx A.gh.Z H H') (h : Rb K H (Fz A cn f Γ) (nZ A) w d) : Rb K H' (Fz A cn f Γ) (nZ A) w d :=
  Rb.mono h (R.ho k) (fun _ _ p _ => p) (fun _ _ z r => ⟨z, k.rd z r⟩) fun _ _ z r => k _ _ z r
theorem Rl.rpk (R : Rl K A cn f σ H Γ) (k : Kx A.gh.Z H H') (h : Rp K H (Fz A cn f Γ) w d) : Rp K H' (Fz A cn f Γ) w d := h.mono (R.ho k) fun _ _ p _ => p
theorem same_kx {Z : Addr → Prop} (h : Same H H') : Kx Z H H' := fun a o _ e => h a o e
theorem Gh.same (gh : Gh) (g : gh.G H) (h : Same H H') : gh.G H' := gh.gk H H' g fun a z => by
  obtain ⟨xs, e⟩ := gh.gz H a g z
  rw [e]
  exact h _ _ e
theorem same_ho {P : Addr → Prop} (h : Same H H') : Ho P H H' := ⟨fun a u _ r => h _ _ r, fun a xs r => h _ _ r⟩
theorem same_new {p : Addr} {o : HO} (h : H p = none) : Same H (upd H p o) := fun b x e => by
  rw [upd_ne (ne_of_none e h)]
  exact e
theorem Kx.none {Z : Addr → Prop} (k : Kx Z H H') (hz : ¬ Z a) (h : H' a = none) : H a = none := by
  cases q : H a with
  | none => rfl
  | some o => rw [k a o hz q] at h; cases h
theorem Rl.kx_none (R : Rl K A cn f σ H Γ) (k : Kx A.gh.Z H H') (g : A.gh.G H') (h : H' a = none) : H a = none := by
  refine k.none (fun z => ?_) h
  obtain ⟨xs, e⟩ := A.gh.gz H' a g z
  rw [h] at e; cases e
theorem Rf.later (R : Rl K A cn f σ H Γ) (k : Kx A.gh.Z H H1) (g : A.gh.G H1) (h : Rf K H1 H' (Fz A cn f Γ) w d) : Rf K H H' (Fz A cn f Γ) w d :=
  Rf.mono h .refl (fun _ _ p _ => p) (fun _ => R.kx_none k g) fun _ _ _ e => e
theorem Rq.later (R : Rl K A cn f σ H Γ) (k : Kx A.gh.Z H H1) (g : A.gh.G H1) (h : Rq md K H1 H' (Fz A cn f Γ) (nZ A) w d) : Rq md K H H' (Fz A cn f Γ) (nZ A) w d := by
  cases md with
  | b => exact h
  | s => exact h
  | f => exact Rf.later R k g h
end

/-! ### the core rules -/
def D.root : D → Bool
  | .lst _ => true
  | .dct _ _ => true
  | _ => false
/-- what was to be read alone is taken as it stands: no list, no dict -/
def keepB (d : D) : M D := if d.root = true then .stuck else .ret d
def getS (i : Nat) (Γ : Ga) : M D := match Γ[i]? with
  | some (.v d) => .ret d
  | _ => .stuck
def getB (i : Nat) (Γ : Ga) : M D := match Γ[i]? with
  | some (.v d) => .ret d
  | some (.own d) => .ret d
  | _ => .stuck
def toB : D → M Bool
  | .bl b => .ret b
  | _ => .stuck
section
variable {X : Cx} {A : Am} {E : EN} {md md1 md2 : Md} {e a b c : Expr} {es rest : List Expr} {m ma mb mc : Ga → M D} {mT mU : Ga → M Bool} {ml : Ga → M (List D)} {pos p : Pos} {x : Str}
/-- .. or behind the locking of one thing, for good -/
def ghQ (Q : VK) : VK := fun w H => Q w H ∨ ∃ a u, H a = some u ∧ Mut (some u) ∧ ∀ od, Q w (upd H a (.frz od u))
theorem pe_ghost {t : TE} (h : PE X e t) : PE X e (fun σ H Q => t σ H (ghQ Q)) := by
  refine ⟨fun pins s σ H Q I q => ?_⟩
  refine thn (h.run pins s σ H _ I q) fun v s1 ⟨x, H1, I1, r, q⟩ => ?_
  rcases q with q | ⟨a, u, e, mu, q⟩
  · exact ⟨x, H1, I1, r, q⟩
  · obtain ⟨od, I2⟩ := I1.lock e mu
    exact ⟨x, _, I2, r, q od⟩
theorem pev_fs (h : PEV X A E .f e m) : PEV X A E .s e m := by
  refine ⟨imp_pe (pe_ghost h.pe) fun σ H Q ⟨cn, f, Γ, R, h⟩ => ⟨cn, f, Γ, R, M.wp_mono h (fun d q w H' k g r => ?_) fun _ x => x⟩⟩
  cases d with
  | dct t kvs =>
    obtain ⟨a, rfl, hn, ho⟩ := r
    have lock : ∀ (u : HO), H' a = some u → Mut (some u) → ∀ od, Kx A.gh.Z H (upd H' a (.frz od u)) ∧ A.gh.G (upd H' a (.frz od u)) ∧ Ho (fun b => Fz A cn f Γ b ∧ b ≠ a) H' (upd H' a (.frz od u)) := fun u hu mu od => by
      refine ⟨fun b o z e => ?_, A.gh.gk H' _ g fun b z => upd_ne fun y => A.nz0 (R.h0_none hn) (y ▸ z), fun b o p e => ?_, fun b xs e => ?_⟩
      · rw [upd_ne fun y => by rw [y, hn] at e; cases e]; exact k b o z e
      · rw [upd_ne p.2]; exact e
      · rw [upd_ne fun y => by rw [y] at e; exact mut_not_frz hu mu e]; exact e
    rcases ho with ⟨rfl, l, hx, rl⟩ | ⟨rfl, l, hx, rl⟩
    · refine .inr ⟨a, _, hx, trivial, fun od => ?_⟩
      obtain ⟨k1, g1, o1⟩ := lock _ hx trivial od
      exact q _ _ k1 g1 (.dK (R.fresh hn) upd_same (rl.mono o1 fun _ _ p _ => p.1))
    · refine .inr ⟨a, _, hx, trivial, fun od => ?_⟩
      obtain ⟨k1, g1, o1⟩ := lock _ hx trivial od
      exact q _ _ k1 g1 (.dT (R.fresh hn) upd_same (rl.mono o1 fun _ _ p _ => p.1))
  | lst ds => obtain ⟨a, rfl, hn, xs, hx, rl⟩ := r; exact .inl (q _ H' k g (.lst (R.fresh hn) hx (rl.mono .refl fun _ _ p _ => p.1)))
  | non => exact .inl (q w H' k g r)
  | bl b => exact .inl (q w H' k g r)
  | int i => exact .inl (q w H' k g r)
  | str x => exact .inl (q w H' k g r)
  | tup ds => exact .inl (q w H' k g r)
  | raw v => exact .inl (q w H' k g r)
theorem pev_sb (h : PEV X A E .s e m) : PEV X A E .b e m := ⟨imp_pe h.pe fun σ H Q ⟨cn, f, Γ, R, h⟩ => ⟨cn, f, Γ, R, M.wp_mono h (fun d q w H' k g r => q w H' k g (Rp.rb r fun _ p => p.nz)) fun _ x => x⟩⟩
theorem pev_fb (h : PEV X A E .f e m) : PEV X A E .b e m := pev_sb (pev_fs h)
theorem pev_bs (h : PEV X A E .b e m) : PEV X A E .s e (fun Γ => m Γ >>= keepB) := by
  refine ⟨imp_pe h.pe fun σ H Q ⟨cn, f, Γ, R, h⟩ => ⟨cn, f, Γ, R, M.wp_mono (M.wp_bind.mp h) (fun d q w H' k g r => ?_) fun _ x => x⟩⟩
  cases d with
  | lst ds => exact q.elim
  | dct t kvs => exact q.elim
  | non => exact q w H' k g r
  | bl b => exact q w H' k g r
  | int i => exact q w H' k g r
  | str x => exact q w H' k g r
  | tup ds => exact q w H' k g r
  | raw v => exact q w H' k g r
theorem pev_var {i : Nat} (hN : X.N[i]? = some x) (hv : Vis X.env.scope x) (hd : (x == ("__debug__" : Str)) = false := by decide) (hcd : (x == ("__classdict__" : Str)) = false := by decide) : PEV X A E .s (.Name x pos) (getS i) := by
  refine ⟨imp_pe (pe_var hN hv hd hcd) fun σ H Q ⟨cn, f, Γ, R, h⟩ => ?_⟩
  unfold getS at h
  split at h
  · rename_i d e
    obtain ⟨w, h1, h2⟩ := R.sl i d e
    exact ⟨w, h1, h w H .refl R.g h2⟩
  · exact h.elim
theorem pev_varB {i : Nat} (hN : X.N[i]? = some x) (hv : Vis X.env.scope x) (hd : (x == ("__debug__" : Str)) = false := by decide) (hcd : (x == ("__classdict__" : Str)) = false := by decide) : PEV X A E .b (.Name x pos) (getB i) := by
  refine ⟨imp_pe (pe_var hN hv hd hcd) fun σ H Q ⟨cn, f, Γ, R, h⟩ => ?_⟩
  unfold getB at h
  split at h
  · rename_i d e
    obtain ⟨w, h1, h2⟩ := R.sl i d e
    exact ⟨w, h1, h w H .refl R.g (h2.rb fun _ p => p.nz)⟩
  · rename_i d e
    obtain ⟨h1, _, _, h2⟩ := R.ow i d e
    exact ⟨_, h1, h _ H .refl R.g (h2.rb (R.own_nz e).1)⟩
  · exact h.elim
/-- what stands in the text, a scalar or a part of the written module -/
theorem pev_c {v : V} {d : D} (hp : PE X e (tC v)) (h : ∀ H0 H P, Rf A.K H0 H P v d) : PEV X A E .f e (fun _ => .ret d) := by
  refine ⟨imp_pe hp fun σ H Q ⟨cn, f, Γ, R, q⟩ => ?_⟩
  exact q v H .refl R.g (h _ _ _)
theorem pev_int {i : Int} {j} : PEV X A E .f (.Constant (.int i) j pos) (fun _ => .ret (.int i)) := pev_c pe_int fun _ _ _ => .int i
theorem pev_bl {i : Bool} {j} : PEV X A E .f (.Constant (.bool i) j pos) (fun _ => .ret (.bl i)) := pev_c pe_bl fun _ _ _ => .bl i
theorem pev_non {j} : PEV X A E .f (.Constant .none j pos) (fun _ => .ret .non) := pev_c pe_non fun _ _ _ => .non
theorem pev_str {s : Str} {j} : PEV X A E .f (.Constant (.str s) j pos) (fun _ => .ret (.str s)) := pev_c pe_str fun _ _ _ => .str s
theorem pev_glob {v : V} {u : Value} {d : D} (hg : Gl X x) (hm : X.mg x = some u) (r : RelV v u) (h : ∀ H0 H P, Rf A.K H0 H P v d) (hd : (x == ("__debug__" : Str)) = false := by decide) : PEV X A E .f (.Name x pos) (fun _ => .ret d) := pev_c (pe_glob hg hm r hd) h

/-! two values to one -/
/-- the operation gives what g says; it makes new objects alone -/
def rD (K : PySem.W.Frag) (g : D → D → M D) : R2 := fun x y H Q => ∃ P W d u, Rb K H P W x d ∧ Rb K H P W y u ∧ (g d u).wp (fun r => ∀ w H', Same H H' → Rf K H H' P w r → Q w H') fun _ => False
def uD (K : PySem.W.Frag) (g : D → M D) : V → Hp → VK → Prop := fun x H Q => ∃ P W d, Rb K H P W x d ∧ (g d).wp (fun r => ∀ w H', Same H H' → Rf K H H' P w r → Q w H') fun _ => False
def bin (ma mb : Ga → M D) (g : D → D → M D) : Ga → M D := fun Γ => ma Γ >>= fun x => mb Γ >>= fun y => g x y
theorem wp_pure {m : M D} {Q : D → Prop} {E : Exn → Prop} (hn : ∀ x, m ≠ .exc x) (hs : ∀ n k, m ≠ .draw n k) (h : m.wp Q E) : m.wp Q fun _ => False := by
  cases m with
  | ret a => exact h
  | exc x => exact absurd rfl (hn x)
  | stuck => exact h
  | draw n k => exact absurd rfl (hs n k)
/-- neither raises nor draws -/
def Tame (m : M D) : Prop := match m with
  | .ret _ => True
  | .stuck => True
  | _ => False
theorem Tame.wp {m : M D} {Q : D → Prop} {E : Exn → Prop} (t : Tame m) (h : m.wp Q E) : m.wp Q fun _ => False := by
  cases m with
  | ret a => exact h
  | exc x => exact False.elim t
  | stuck => exact h
  | draw n k => exact False.elim t
theorem tD {K : PySem.W.Frag} {cn : Cn} {f : Nat → Addr} {σ : L2.St} {H H1 : Hp} {Γ : Ga} {Q : VK} {m : M D} {E : Exn → Prop} (R : Rl K A cn f σ H Γ) (k : Kx A.gh.Z H H1) (g1 : A.gh.G H1) (t : Tame m)
    (h : m.wp (fun d => ∀ w H', Kx A.gh.Z H H' → A.gh.G H' → Rq .f K H H' (Fz A cn f Γ) (nZ A) w d → Q w H') E) :
    m.wp (fun r => ∀ w H', Same H1 H' → Rf K H1 H' (Fz A cn f Γ) w r → Q w H') fun _ => False :=
  M.wp_mono (t.wp h) (fun d q w H' s r => q w H' (k.trans (same_kx s)) (A.gh.same g1 s) (Rf.later R k g1 r)) fun _ z => z
theorem tOp_of {r : R2} {g : D → D → M D} (tm : ∀ x y, Tame (g x y)) (hr : ∀ x y H Q, rD A.K g x y H Q → r x y H Q) {σ : L2.St} {H : Hp} {Q : VK} (h : tV A.K A E .f (bin ma mb g) σ H Q) : tOp r (tV A.K A E md1 ma) (tV A.K A E md2 mb) σ H Q := by
  obtain ⟨cn, f, Γ, R, h⟩ := h
  refine ⟨cn, f, Γ, R, M.wp_mono (M.wp_bind.mp h) (fun d q w H1 k1 g1 r1 => ?_) fun _ x => x⟩
  refine ⟨cn, f, Γ, R.kx k1 g1, M.wp_mono (M.wp_bind.mp q) (fun u q w' H2 k2 g2 r2 => ?_) fun _ x => x⟩
  refine hr _ _ _ _ ⟨Fz A cn f Γ, nZ A, d, u, (R.kx k1 g1).rbk k2 (R.rb r1), (R.kx k1 g1).rb r2, ?_⟩
  exact tD R (k1.trans k2) g2 (tm d u) q
theorem pev_op {op : Operator} {g : D → D → M D} (ho : OpR X (binaryOp op) (rD A.K g)) (tm : ∀ x y, Tame (g x y)) (ha : PEV X A E md1 a ma) (hb : PEV X A E md2 b mb) : PEV X A E .f (.BinOp a op b pos) (bin ma mb g) :=
  ⟨imp_pe (pe_op ho ha.pe hb.pe) fun _ _ _ h => tOp_of tm (fun _ _ _ _ z => z) h⟩
theorem pev_cmp {op : CmpOp} {g : D → D → M D} (ho : OpR X (compareOp op) (rD A.K g)) (tm : ∀ x y, Tame (g x y)) (ha : PEV X A E md1 a ma) (hb : PEV X A E md2 b mb) (hm : behindInMarks op b = false) : PEV X A E .f (.Compare a [op] [b] pos) (bin ma mb g) :=
  ⟨imp_pe (pe_cmpR ho ha.pe hb.pe hm) fun _ _ _ h => tOp_of tm (fun _ _ _ _ z => z) h⟩
def una (ma : Ga → M D) (g : D → M D) : Ga → M D := fun Γ => ma Γ >>= g
theorem tUn_of {r : V → Hp → VK → Prop} {g : D → M D} (tm : ∀ x, Tame (g x)) (hr : ∀ x H Q, uD A.K g x H Q → r x H Q) {σ : L2.St} {H : Hp} {Q : VK} (h : tV A.K A E .f (una ma g) σ H Q) : tUn r (tV A.K A E md1 ma) σ H Q := by
  obtain ⟨cn, f, Γ, R, h⟩ := h
  refine ⟨cn, f, Γ, R, M.wp_mono (M.wp_bind.mp h) (fun d q w H1 k1 g1 r1 => ?_) fun _ x => x⟩
  exact hr _ _ _ ⟨Fz A cn f Γ, nZ A, d, R.rb r1, tD R k1 g1 (tm d) q⟩
theorem pev_un {op : UnaryOp} {g : D → M D} (ho : UnR X (unaryOp op) (uD A.K g)) (tm : ∀ x, Tame (g x)) (ha : PEV X A E md1 a ma) : PEV X A E .f (.UnaryOp op a pos) (una ma g) :=
  ⟨imp_pe (pe_un ho ha.pe) fun _ _ _ h => tUn_of tm (fun _ _ _ z => z) h⟩

/-! tests -/
def tst (ma : Ga → M D) : Ga → M Bool := fun Γ => ma Γ >>= toB
theorem rb_bl {K : PySem.W.Frag} {H : Hp} {P W : Addr → Prop} {w : V} {b : Bool} (h : Rb K H P W w (.bl b)) : w = .bl b := by
  cases h; rfl
theorem tB_of {σ : L2.St} {H : Hp} {Q : Bool → Hp → Prop} (h : tT A.K A E (tst ma) σ H Q) : tB (tV A.K A E md1 ma) σ H Q := by
  obtain ⟨cn, f, Γ, R, h⟩ := h
  refine ⟨cn, f, Γ, R, M.wp_mono (M.wp_bind.mp h) (fun d q w H1 k1 g1 r1 => ?_) fun _ x => x⟩
  cases d with
  | bl b => exact ⟨b, rb_bl (R.rb r1), q H1 k1 g1⟩
  | _ => exact q.elim
theorem ptv_val (ha : PEV X A E md1 a ma) (he : ∀ whole, isTrue a X.env whole = (do let v ← whole; standAt a.pos; holding [v] (truthy v)) := by intro _; rfl) : PTV X A E a (tst ma) :=
  ⟨imp_pt (pt_val ha.pe he) fun _ _ _ h => tB_of h⟩
theorem ptv_cmp {op : CmpOp} {g : D → D → M D} (ho : OpR X (compareOp op) (rD A.K g)) (tm : ∀ x y, Tame (g x y)) (ha : PEV X A E md1 a ma) (hb : PEV X A E md2 b mb) (hm : behindInMarks op b = false) : PTV X A E (.Compare a [op] [b] pos) (tst (bin ma mb g)) := by
  refine ⟨imp_pt (pt_cmpR ho ha.pe hb.pe hm) fun σ H Q h => ?_⟩
  obtain ⟨cn, f, Γ, R, h⟩ := h
  have h2 := M.wp_bind.mp h
  refine tOp_of (E := E) tm (fun _ _ _ _ z => z) ⟨cn, f, Γ, R, M.wp_mono h2 (fun d q w H1 k1 g1 r1 => ?_) fun _ x => x⟩
  cases d with
  | bl b => exact ⟨b, rb_bl (R.rb r1), q H1 k1 g1⟩
  | _ => exact q.elim
end

/-! ### the promise of a def, where no text is being made ahead of it (repr of what is nested asks that) -/
structure FnG (P : Program) (w : World) (K : PySem.W.Frag) (mg : Str → Option Value) (base : Heap) (CX : CXT) (k : Nat) (f : Addr) (fd : FuncData) (ps : List Str) (sp : Sp) : Prop where
  len : ∀ vs H Q E, sp vs H Q E → vs.length = ps.length
  run : ∀ (A : Around) (outer : List Env) (s : Shared) (H : Hp) (args : Args) (us : List Value) (vs : List V) (Q : VK) (E : XK), Room k A → A.guards = some [] → Env0 P w K mg base A outer s H → BindsTo s fd args (ps.zip us) → Vals vs us → sp vs H Q E →
    codeAny (model P w) A (.call (.ref f) args) (CR CX outer P w H s Q E) s
theorem FnG.of {P : Program} {w : World} {K : PySem.W.Frag} {mg : Str → Option Value} {base : Heap} {CX : CXT} {k : Nat} {f : Addr} {fd : FuncData} {ps : List Str} {sp : Sp} (F : FnOk P w K mg base CX k f fd ps sp) : FnG P w K mg base CX k f fd ps sp :=
  ⟨F.len, fun A outer s H args us vs Q E hr _ => F.run A outer s H args us vs Q E hr⟩
section
variable {X : Cx} {CX : CXT} {k : Nat} {f : Addr} {fd : FuncData} {ps : List Str} {sp : Sp} {E : XK} {x : Str} {p pos : Pos} {e : Expr} {es : List Expr} {t : TA} {dvs : List V} {ds : List Value}
theorem run_fnG {pins : List (Addr × Obj)} {σ : L2.St} {H : Hp} {s : Shared} {Q : VK} {us : List Value} {vs : List V} (F : FnG X.prog X.w X.K X.mg X.base CX k f fd ps sp) (hr : Room k X.A) (gd : X.A.guards = some []) (hb : Binds X.K fd ps ds) (hd : Vals dvs ds) (hx : Passes CX X E)
    (I : Inv X pins σ H s) (r : Vals vs us) (h : sp (vs ++ dvs) H Q E) : wpAny (model X.prog X.w) X.A (call (.ref f) us) (EP X pins σ Q) X.xe s := by
  have r2 : Vals (vs ++ dvs) (us ++ ds) := r.append hd
  have hl : (us ++ ds).length = ps.length := by rw [← r2.length]; exact F.len _ _ _ _ h
  refine wpAny_call (codeAny_mono (F.run X.A X.stack s H ⟨us, []⟩ (us ++ ds) (vs ++ dvs) Q E hr gd I.env0 (hb s us I.kIn hl) r2 h) fun r s' hq => ?_)
  cases r with
  | error e => exact hx pins σ H s e s' I hq
  | ok fl =>
    cases fl with
    | ret u => exact I.after hq
    | next => exact False.elim hq
    | brk => exact False.elim hq
    | cont => exact False.elim hq
theorem pe_callG (F : FnG X.prog X.w X.K X.mg X.base CX k f fd ps sp) (hr : Room k X.A) (gd : X.A.guards = some []) (hg : Gl X x) (hm : X.mg x = some (.ref f)) (hk : PySem.W.keepIn X.K (.ref f) = true) (hb : Binds X.K fd ps ds) (hd : Vals dvs ds) (hx : Passes CX X E)
    (ha : PA X (e :: es) t) (hdb : (x == ("__debug__" : Str)) = false := by decide) (he : starEach (e :: es) X.env = (false, eval e X.env) :: starEach es X.env := by rfl) (hpl : (backTo pos (starEach es X.env)).any (·.1) = false := by rfl) :
    PE X (.Call (.Name x p) (e :: es) [] pos) (tCall sp dvs E t) := by
  refine ⟨fun pins s σ H Q I h => ?_⟩
  refine wpAny_Call_Name_kw (ld_glob I hg hm ?_ hdb)
  refine PySem.W.callWith_K (h₀ := X.base) I.ok.mod.kin hk (thn (ha.run pos pins s σ H _ I h) fun us s1 ⟨vs, H1, I1, r, q⟩ => ⟨I1.kIn, ?_⟩) he hpl
  exact run_fnG F hr gd hb hd hx I1 r q
theorem pe_call0G (F : FnG X.prog X.w X.K X.mg X.base CX k f fd ps sp) (hr : Room k X.A) (gd : X.A.guards = some []) (hg : Gl X x) (hm : X.mg x = some (.ref f)) (hk : PySem.W.keepIn X.K (.ref f) = true) (hb : Binds X.K fd ps ds) (hd : Vals dvs ds) (hx : Passes CX X E)
    (hdb : (x == ("__debug__" : Str)) = false := by decide) : PE X (.Call (.Name x p) [] [] pos) (tCall sp dvs E tNil) := by
  refine ⟨fun pins s σ H Q I h => ?_⟩
  refine wpAny_Call_Name_kw (ld_glob I hg hm ?_ hdb)
  exact PySem.W.callWith_K0 I.kIn hk (run_fnG (us := []) F hr gd hb hd hx I .nil h)
end
end Px

set_option Elab.async false
set_option linter.all false
set_option maxRecDepth 100000
set_option autoImplicit false
namespace Px
open PySem PySem.Spec PyProof.Rows L2
section
variable {X : Cx} {A : Am} {E : EN} {md md1 md2 md3 : Md} {e a b c : Expr} {es rest : List Expr} {m ma mb mc : Ga → M D} {mT mU : Ga → M Bool} {ml : Ga → M (List D)} {pos p : Pos} {x : Str}

/-! ### and, or, not, if: tests -/
def andT (t u : Ga → M Bool) : Ga → M Bool := fun Γ => t Γ >>= fun k => if k = true then u Γ else .ret false
def orT (t u : Ga → M Bool) : Ga → M Bool := fun Γ => t Γ >>= fun k => if k = true then .ret true else u Γ
def notT (t : Ga → M Bool) : Ga → M Bool := fun Γ => t Γ >>= fun k => .ret (!k)
structure PWV (X : Cx) (A : Am) (E : EN) (e : Expr) (m : Ga → M Bool) : Prop where
  pw : PW X e (tT A.K A E m)
theorem PWV.pt (h : PWV X A E e mT) : PTV X A E e mT := ⟨h.pw.pt⟩
theorem pwv_and1 (h : PTV X A E a mT) : PWV X A E (.BoolOp .And [a] pos) mT := ⟨pw_and1 h.pt⟩
theorem pwv_or1 (h : PTV X A E a mT) : PWV X A E (.BoolOp .Or [a] pos) mT := ⟨pw_or1 h.pt⟩
theorem pwv_and (h : PTV X A E a mT) (h2 : PWV X A E (.BoolOp .And (b :: rest) pos) mU) : PWV X A E (.BoolOp .And (a :: b :: rest) pos) (andT mT mU) := by
  refine ⟨imp_pw (pw_and h.pt h2.pw) fun σ H Q ⟨cn, f, Γ, R, h⟩ => ⟨cn, f, Γ, R, M.wp_mono (M.wp_bind.mp h) (fun k q H1 k1 g1 => ?_) fun _ x => x⟩⟩
  cases k with
  | true => exact ⟨cn, f, Γ, R.kx k1 g1, M.wp_mono q (fun k2 q2 H2 kk g2 => q2 H2 (k1.trans kk) g2) fun _ x => x⟩
  | false => exact q H1 k1 g1
theorem pwv_or (h : PTV X A E a mT) (h2 : PWV X A E (.BoolOp .Or (b :: rest) pos) mU) : PWV X A E (.BoolOp .Or (a :: b :: rest) pos) (orT mT mU) := by
  refine ⟨imp_pw (pw_or h.pt h2.pw) fun σ H Q ⟨cn, f, Γ, R, h⟩ => ⟨cn, f, Γ, R, M.wp_mono (M.wp_bind.mp h) (fun k q H1 k1 g1 => ?_) fun _ x => x⟩⟩
  cases k with
  | true => exact q H1 k1 g1
  | false => exact ⟨cn, f, Γ, R.kx k1 g1, M.wp_mono q (fun k2 q2 H2 kk g2 => q2 H2 (k1.trans kk) g2) fun _ x => x⟩
theorem ptv_not (h : PTV X A E a mT) : PTV X A E (.UnaryOp .Not a pos) (notT mT) :=
  ⟨imp_pt (pt_not h.pt) fun σ H Q ⟨cn, f, Γ, R, h⟩ => ⟨cn, f, Γ, R, M.wp_mono (M.wp_bind.mp h) (fun k q H1 k1 g1 => q H1 k1 g1) fun _ x => x⟩⟩

/-! ### .. as values -/
def andV (ma mb : Ga → M D) : Ga → M D := fun Γ => ma Γ >>= toB >>= fun k => if k = true then mb Γ else .ret (.bl false)
def orV (ma mb : Ga → M D) : Ga → M D := fun Γ => ma Γ >>= toB >>= fun k => if k = true then .ret (.bl true) else mb Γ
def notV (ma : Ga → M D) : Ga → M D := fun Γ => ma Γ >>= toB >>= fun k => .ret (.bl (!k))
def ifV (t : Ga → M Bool) (ma mb : Ga → M D) : Ga → M D := fun Γ => t Γ >>= fun k => if k = true then ma Γ else mb Γ
theorem pev_one {op : BoolOp} (h : PEV X A E md a ma) : PEV X A E md (.BoolOp op [a] pos) ma := ⟨pe_one h.pe⟩
theorem pev_and (h : PEV X A E md1 a ma) (h2 : PEV X A E .f (.BoolOp .And (b :: rest) pos) mb) : PEV X A E .f (.BoolOp .And (a :: b :: rest) pos) (andV ma mb) := by
  refine ⟨imp_pe (pe_and h.pe h2.pe) fun σ H Q ⟨cn, f, Γ, R, h⟩ => ?_⟩
  have h := M.wp_bind.mp (M.wp_bind.mp h)
  refine ⟨cn, f, Γ, R, M.wp_mono h (fun d q w H1 k1 g1 r1 => ?_) fun _ x => x⟩
  cases d with
  | bl k =>
    refine ⟨k, rb_bl (R.rb r1), ?_⟩
    cases k with
    | true => exact ⟨cn, f, Γ, R.kx k1 g1, M.wp_mono q (fun d2 q2 w2 H2 kk g2 r2 => q2 w2 H2 (k1.trans kk) g2 (Rq.later R k1 g1 r2)) fun _ x => x⟩
    | false => exact q (.bl false) H1 k1 g1 (.bl false)
  | _ => exact q.elim
theorem pev_or (h : PEV X A E md1 a ma) (h2 : PEV X A E .f (.BoolOp .Or (b :: rest) pos) mb) : PEV X A E .f (.BoolOp .Or (a :: b :: rest) pos) (orV ma mb) := by
  refine ⟨imp_pe (pe_or h.pe h2.pe) fun σ H Q ⟨cn, f, Γ, R, h⟩ => ?_⟩
  have h := M.wp_bind.mp (M.wp_bind.mp h)
  refine ⟨cn, f, Γ, R, M.wp_mono h (fun d q w H1 k1 g1 r1 => ?_) fun _ x => x⟩
  cases d with
  | bl k =>
    refine ⟨k, rb_bl (R.rb r1), ?_⟩
    cases k with
    | true => exact q (.bl true) H1 k1 g1 (.bl true)
    | false => exact ⟨cn, f, Γ, R.kx k1 g1, M.wp_mono q (fun d2 q2 w2 H2 kk g2 r2 => q2 w2 H2 (k1.trans kk) g2 (Rq.later R k1 g1 r2)) fun _ x => x⟩
  | _ => exact q.elim
theorem pev_not (h : PEV X A E md1 a ma) : PEV X A E .f (.UnaryOp .Not a pos) (notV ma) := by
  refine ⟨imp_pe (pe_not h.pe) fun σ H Q ⟨cn, f, Γ, R, h⟩ => ?_⟩
  have h := M.wp_bind.mp (M.wp_bind.mp h)
  refine ⟨cn, f, Γ, R, M.wp_mono h (fun d q w H1 k1 g1 r1 => ?_) fun _ x => x⟩
  cases d with
  | bl k => exact ⟨k, rb_bl (R.rb r1), q (.bl (!k)) H1 k1 g1 (.bl _)⟩
  | _ => exact q.elim
theorem pev_if (ht : PTV X A E c mT) (ha : PEV X A E md a ma) (hb : PEV X A E md b mb) : PEV X A E md (.IfExp c a b pos) (ifV mT ma mb) := by
  refine ⟨imp_pe (pe_ifExp ht.pt ha.pe hb.pe) fun σ H Q ⟨cn, f, Γ, R, h⟩ => ⟨cn, f, Γ, R, M.wp_mono (M.wp_bind.mp h) (fun k q H1 k1 g1 => ?_) fun _ x => x⟩⟩
  cases k with
  | true => exact ⟨cn, f, Γ, R.kx k1 g1, M.wp_mono q (fun d2 q2 w2 H2 kk g2 r2 => q2 w2 H2 (k1.trans kk) g2 (Rq.later R k1 g1 r2)) fun _ x => x⟩
  | false => exact ⟨cn, f, Γ, R.kx k1 g1, M.wp_mono q (fun d2 q2 w2 H2 kk g2 r2 => q2 w2 H2 (k1.trans kk) g2 (Rq.later R k1 g1 r2)) fun _ x => x⟩

/-! ### chains -/
def chn (ma mb mc : Ga → M D) (g g' : D → D → M D) : Ga → M D := fun Γ => ma Γ >>= fun x => mb Γ >>= fun y => g x y >>= toB >>= fun k => if k = true then mc Γ >>= fun z => g' y z else .ret (.bl false)
theorem tChain_of {r r' : R2} {g g' : D → D → M D} (tm : ∀ x y, Tame (g x y)) (tm' : ∀ x y, Tame (g' x y)) (hr : ∀ x y H Q, rD A.K g x y H Q → r x y H Q) (hr' : ∀ x y H Q, rD A.K g' x y H Q → r' x y H Q) {σ : L2.St} {H : Hp} {Q : VK}
    (h : tV A.K A E .f (chn ma mb mc g g') σ H Q) : tChain r r' (tV A.K A E md1 ma) (tV A.K A E md2 mb) (tV A.K A E md3 mc) σ H Q := by
  obtain ⟨cn, f, Γ, R, h⟩ := h
  refine ⟨cn, f, Γ, R, M.wp_mono (M.wp_bind.mp h) (fun d q w H1 k1 g1 r1 => ?_) fun _ x => x⟩
  have R1 := R.kx k1 g1
  refine ⟨cn, f, Γ, R1, M.wp_mono (M.wp_bind.mp q) (fun u q w' H2 k2 g2 r2 => ?_) fun _ x => x⟩
  have R2 := R1.kx k2 g2
  have b2 := R1.rb r2
  have q := M.wp_bind.mp (M.wp_bind.mp q)
  refine hr _ _ _ _ ⟨Fz A cn f Γ, nZ A, d, u, R1.rbk k2 (R.rb r1), b2, ?_⟩
  have t1 := tm d u
  cases e1 : g d u with
  | ret z =>
    rw [e1] at q
    cases z with
    | bl k =>
      intro w3 H3 s3 r3
      refine ⟨k, (by cases r3; rfl), ?_⟩
      have k3 : Kx A.gh.Z H H3 := (k1.trans k2).trans (same_kx s3)
      have g3 := A.gh.same g2 s3
      have q' : (if k = true then mc Γ >>= fun z => g' u z else .ret (.bl false)).wp _ _ := q
      cases k with
      | true =>
        rw [if_pos rfl] at q' ⊢
        have R3 := R2.kx (same_kx s3) g3
        refine ⟨cn, f, Γ, R3, M.wp_mono (M.wp_bind.mp q') (fun z q w4 H4 k4 g4 r4 => ?_) fun _ x => x⟩
        refine hr' _ _ _ _ ⟨Fz A cn f Γ, nZ A, u, z, R3.rbk k4 (R2.rbk (same_kx s3) b2), R3.rb r4, ?_⟩
        exact tD R (k3.trans k4) g4 (tm' u z) q
      | false => exact q' (.bl false) H3 k3 g3 (.bl false)
    | _ => exact False.elim q
  | exc x => rw [e1] at t1; exact False.elim t1
  | stuck => rw [e1] at q; exact False.elim q
  | draw n k => rw [e1] at t1; exact False.elim t1
theorem pev_chain {op op' : CmpOp} {g g' : D → D → M D} (ho : OpR X (compareOp op) (rD A.K g)) (ho' : OpR X (compareOp op') (rD A.K g')) (tm : ∀ x y, Tame (g x y)) (tm' : ∀ x y, Tame (g' x y)) (ha : PEV X A E md1 a ma) (hb : PEV X A E md2 b mb) (hc : PEV X A E md3 c mc)
    (hm : lastMarks [op, op'] [b, c] = false := by with_unfolding_all rfl) : PEV X A E .f (.Compare a [op, op'] [b, c] pos) (chn ma mb mc g g') :=
  ⟨imp_pe (pe_chain ho ho' ha.pe hb.pe hc.pe hm) fun _ _ _ h => tChain_of tm tm' (fun _ _ _ _ z => z) (fun _ _ _ _ z => z) h⟩
theorem ptv_chain {op op' : CmpOp} {g g' : D → D → M D} (ho : OpR X (compareOp op) (rD A.K g)) (ho' : OpR X (compareOp op') (rD A.K g')) (tm : ∀ x y, Tame (g x y)) (tm' : ∀ x y, Tame (g' x y)) (ha : PEV X A E md1 a ma) (hb : PEV X A E md2 b mb) (hc : PEV X A E md3 c mc)
    (hm : lastMarks [op, op'] [b, c] = false := by with_unfolding_all rfl) : PTV X A E (.Compare a [op, op'] [b, c] pos) (tst (chn ma mb mc g g')) := by
  refine ⟨imp_pt (pt_chain ho ho' ha.pe hb.pe hc.pe hm) fun σ H Q ⟨cn, f, Γ, R, h⟩ => ?_⟩
  refine tChain_of (E := E) tm tm' (fun _ _ _ _ z => z) (fun _ _ _ _ z => z) ⟨cn, f, Γ, R, M.wp_mono (M.wp_bind.mp h) (fun d q w H1 k1 g1 r1 => ?_) fun _ x => x⟩
  cases d with
  | bl b => exact ⟨b, rb_bl (R.rb r1), q H1 k1 g1⟩
  | _ => exact q.elim

/-! ### argument lists, displays -/
theorem RqL.length {K : PySem.W.Frag} {H : Hp} {P W : Addr → Prop} : ∀ {vs : List V} {ds : List D}, RqL md K H P W vs ds → vs.length = ds.length
  | _, _, .nil => rfl
  | _, _, .cons _ r => congrArg (· + 1) r.length
theorem RqL.rpl {K : PySem.W.Frag} {H : Hp} {P W : Addr → Prop} : ∀ {vs : List V} {ds : List D}, RqL .s K H P W vs ds → RpL K H P vs ds
  | _, _, .nil => .nil
  | _, _, .cons h r => .cons h r.rpl
structure PAVL (X : Cx) (A : Am) (E : EN) (md : Md) (es : List Expr) (ml : Ga → M (List D)) : Prop where
  pa : PA X es (tA A.K A E md ml)
  len : ∀ Γ Q E', (ml Γ).wp Q E' → (ml Γ).wp (fun ds => Q ds ∧ ds.length = es.length) E'
def nilL : Ga → M (List D) := fun _ => .ret []
def consL (m : Ga → M D) (ml : Ga → M (List D)) : Ga → M (List D) := fun Γ => m Γ >>= fun d => ml Γ >>= fun ds => .ret (d :: ds)
theorem pav_nil : PAVL X A E md [] nilL := ⟨imp_pa pa_nil fun σ H Q ⟨cn, f, Γ, R, h⟩ => h [] H .refl R.g .nil, fun _ _ _ h => ⟨h, rfl⟩⟩
theorem pav_cons (h1 : PEV X A E md e m) (h2 : PAVL X A E md es ml) (hmd : md = .b ∨ md = .s := by first | exact .inl rfl | exact .inr rfl) (hs : starEach (e :: es) X.env = (false, eval e X.env) :: starEach es X.env := by rfl) : PAVL X A E md (e :: es) (consL m ml) := by
  refine ⟨imp_pa (pa_cons h1.pe h2.pa hs) fun σ H Q ⟨cn, f, Γ, R, h⟩ => ⟨cn, f, Γ, R, M.wp_mono (M.wp_bind.mp h) (fun d q w H1 k1 g1 r1 => ?_) fun _ x => x⟩, fun Γ Q E' h => ?_⟩
  · have R1 := R.kx k1 g1
    refine ⟨cn, f, Γ, R1, M.wp_mono (M.wp_bind.mp q) (fun ds q ws H2 k2 g2 r2 => ?_) fun _ x => x⟩
    refine q (w :: ws) H2 (k1.trans k2) g2 (.cons ?_ r2)
    cases md with
    | b => exact R1.rbk k2 r1
    | s => exact R1.rpk k2 r1
    | f => rcases hmd with z | z <;> cases z
  · refine M.wp_bind.mpr (M.wp_mono (M.wp_bind.mp h) (fun d q => ?_) fun _ x => x)
    refine M.wp_bind.mpr (M.wp_mono (h2.len Γ _ _ (M.wp_bind.mp q)) (fun ds q => ⟨q.1, congrArg (· + 1) q.2⟩) fun _ x => x)
theorem RqL.ext {K : PySem.W.Frag} {H : Hp} {P W : Addr → Prop} {vs : List V} {ds : List D} (h : RqL md K H P W vs ds) : True := trivial
def tupV (ml : Ga → M (List D)) : Ga → M D := fun Γ => ml Γ >>= fun ds => .ret (.tup ds)
def lstV (ml : Ga → M (List D)) : Ga → M D := fun Γ => ml Γ >>= fun ds => .ret (.lst ds)
theorem pev_tup {k : Nat} (h : PAVL X A E .s es ml) (hl : es.length ≤ sizeLine := by decide) : PEV X A E .f (.Tuple es k pos) (tupV ml) := by
  refine ⟨imp_pe (pe_tup h.pa) fun σ H Q ⟨cn, f, Γ, R, q⟩ => ⟨cn, f, Γ, R, M.wp_mono (h.len _ _ _ (M.wp_bind.mp q)) (fun ds q ws H1 k1 g1 r1 => ?_) fun _ x => x⟩⟩
  obtain ⟨q, ql⟩ := q
  refine ⟨by rw [r1.length, ql]; exact hl, fun p hp => ?_⟩
  have s := same_new (o := .tup ws) hp
  exact q _ _ (k1.trans (same_kx s)) (A.gh.same g1 s) (.tup (.inl upd_same) (r1.rpl.mono (same_ho s) fun _ _ p _ => p))
theorem pev_lst (h : PAVL X A E .s es ml) (hl : es.length ≤ sizeLine := by decide) : PEV X A E .f (.List es pos) (lstV ml) := by
  refine ⟨imp_pe (pe_lst h.pa) fun σ H Q ⟨cn, f, Γ, R, q⟩ => ⟨cn, f, Γ, R, M.wp_mono (h.len _ _ _ (M.wp_bind.mp q)) (fun ds q ws H1 k1 g1 r1 => ?_) fun _ x => x⟩⟩
  obtain ⟨q, ql⟩ := q
  refine ⟨by rw [r1.length, ql]; exact hl, fun p hp => ?_⟩
  have s := same_new (o := .lst ws) hp
  exact q _ _ (k1.trans (same_kx s)) (A.gh.same g1 s) ⟨p, rfl, R.kx_none k1 g1 hp, ws, upd_same, r1.rpl.mono (same_ho s) fun b u q r => ⟨q, fun e => by subst e; rcases r with r | ⟨o, r⟩ <;> (rw [hp] at r; cases r)⟩⟩

/-! ### calls -/
def xIs (mg : Str → Option Value) (x : Exn) (c : Value) (dd : Option Addr) (H : Hp) : Prop := mg x.1 = some c ∧ match x.2 with
  | none => dd = none
  | some (f, i) => ∃ a, dd = some a ∧ H a = some (.xd [(f, .int i)])
def EK (mg : Str → Option Value) (E : EN) : XK := fun c dd H => ∃ x, xIs mg x c dd H ∧ E x H
/-- THE PROMISE of a def: it gives what the plain function F gives -/
def spM (K : PySem.W.Frag) (mg : Str → Option Value) (gh : Gh) (md : Md) (F : List D → M D) : Sp := fun vs H Q E => ∃ (P : Addr → Prop) (ds : List D), (∀ a, gh.Z a → ¬ P a) ∧ (∀ a, ¬ P a → ¬ gh.Z a → ∃ o, H a = some o ∧ Mut (some o)) ∧ gh.G H ∧ RpL K H P vs ds ∧
  (F ds).wp (fun d => ∀ w H', Kx gh.Z H H' → gh.G H' → Rq md K H H' P (fun a => ¬ gh.Z a) w d → Q w H') fun x => ∀ c dd H', Kx gh.Z H H' → gh.G H' → xIs mg x c dd H' → E c dd H'
def callV (ml : Ga → M (List D)) (F : List D → M D) : Ga → M D := fun Γ => ml Γ >>= F
theorem Rl.exn {K : PySem.W.Frag} {cn : Cn} {f : Nat → Addr} {σ : L2.St} {H H' : Hp} {Γ : Ga} (R : Rl K A cn f σ H Γ) (e : cn.lk = []) (k : Kx A.gh.Z H H') : Kx A.gh.Z A.H0 H' := fun a o z h => by
  rcases R.keep a o z h with q | ⟨ob, hl, _⟩
  · exact k a o z q
  · rw [e] at hl; cases hl
theorem pev_call {k : Nat} {f : Addr} {fd : FuncData} {ps : List Str} {F : List D → M D} (hF : FnG X.prog X.w X.K X.mg X.base (L2.CX X.prog X.w) k f fd ps (spM A.K X.mg A.gh md F)) (hr : Room k X.A) (gd : X.A.guards = some []) (hg : Gl X x) (hm : X.mg x = some (.ref f)) (hk : PySem.W.keepIn X.K (.ref f) = true)
    (hb : Binds X.K fd ps []) (hx : Passes (L2.CX X.prog X.w) X (EK X.mg E)) (ha : PAVL X A E .s (e :: es) ml) (hdb : (x == ("__debug__" : Str)) = false := by decide) (he : starEach (e :: es) X.env = (false, eval e X.env) :: starEach es X.env := by rfl) (hpl : (backTo pos (starEach es X.env)).any (·.1) = false := by rfl) :
    PEV X A E md (.Call (.Name x p) (e :: es) [] pos) (callV ml F) := by
  refine ⟨imp_pe (pe_callG hF hr gd hg hm hk hb .nil hx ha.pa hdb he hpl) fun σ H Q ⟨cn, f, Γ, R, h⟩ => ⟨cn, f, Γ, R, M.wp_mono (M.wp_bind.mp h) (fun ds q ws H1 k1 g1 r1 => ?_) fun _ x => x⟩⟩
  show spM A.K X.mg A.gh md F (ws ++ []) H1 Q _
  rw [List.append_nil]
  have R1 := R.kx k1 g1
  refine ⟨Fz A cn f Γ, ds, fun a z p => p.nz z, fun a n _ => R1.mut n, g1, r1.rpl, M.wp_mono q (fun d q w H' k2 g2 r2 => ?_) fun x hx c dd H' k2 g2 hc => ?_⟩
  · exact q w H' (k1.trans k2) g2 (Rq.later R k1 g1 r2)
  · exact ⟨x, hc, hx.2 H' (R.exn hx.1 (k1.trans k2)) g2⟩
theorem pev_call0 {k : Nat} {f : Addr} {fd : FuncData} {ps : List Str} {F : List D → M D} (hF : FnG X.prog X.w X.K X.mg X.base (L2.CX X.prog X.w) k f fd ps (spM A.K X.mg A.gh md F)) (hr : Room k X.A) (gd : X.A.guards = some []) (hg : Gl X x) (hm : X.mg x = some (.ref f)) (hk : PySem.W.keepIn X.K (.ref f) = true)
    (hb : Binds X.K fd ps []) (hx : Passes (L2.CX X.prog X.w) X (EK X.mg E)) (hdb : (x == ("__debug__" : Str)) = false := by decide) : PEV X A E md (.Call (.Name x p) [] [] pos) (callV nilL F) := by
  refine ⟨imp_pe (pe_call0G hF hr gd hg hm hk hb .nil hx hdb) fun σ H Q ⟨cn, f, Γ, R, h⟩ => ?_⟩
  show spM A.K X.mg A.gh md F ([] ++ []) H Q _
  rw [List.append_nil]
  have h : (F []).wp _ _ := h
  refine ⟨Fz A cn f Γ, [], fun a z p => p.nz z, fun a n _ => R.mut n, R.g, .nil, M.wp_mono h (fun d q w H' k2 g2 r2 => q w H' k2 g2 r2) fun x hx c dd H' k2 g2 hc => ?_⟩
  exact ⟨x, hc, hx.2 H' (R.exn hx.1 k2) g2⟩

/-! ### a def called with what is one's own: it is read there alone -/
mutual
/-- no list, no dict within -/
def D.pu : D → Bool
  | .tup ds => D.puL ds
  | .lst _ => false
  | .dct _ _ => false
  | _ => true
def D.puL : List D → Bool
  | [] => true
  | d :: r => D.pu d && D.puL r
end
mutual
theorem Rp.pu {K : PySem.W.Frag} {H : Hp} {P P' : Addr → Prop} : ∀ {w : V} {d : D}, Rp K H P w d → d.pu = true → Rp K H P' w d
  | _, _, .non, _ => .non
  | _, _, .bl b, _ => .bl b
  | _, _, .int i, _ => .int i
  | _, _, .str x, _ => .str x
  | _, _, .raw v, _ => .raw v
  | _, _, .tup h r, e => .tup h (RpL.pu r e)
  | _, _, .lst _ _ _, e => nomatch e
  | _, _, .dK _ _ _, e => nomatch e
  | _, _, .dT _ _ _, e => nomatch e
theorem RpL.pu {K : PySem.W.Frag} {H : Hp} {P P' : Addr → Prop} : ∀ {ws : List V} {ds : List D}, RpL K H P ws ds → D.puL ds = true → RpL K H P' ws ds
  | _, _, .nil, _ => .nil
  | _, _, .cons (d := d) (ds := ds) h r, e => by
    have e' : (d.pu && D.puL ds) = true := e
    rw [Bool.and_eq_true] at e'
    exact .cons (Rp.pu h e'.1) (RpL.pu r e'.2)
end
/-- what may come back of it -/
def keepC (md : Md) (d : D) : M D := match md, d with
  | .f, .lst ds => if D.puL ds = true then .ret d else .stuck
  | _, d => if d.pu = true then .ret d else .stuck
def D.isDct : D → Bool
  | .dct _ _ => true
  | _ => false
def noDct : List D → Bool
  | [] => true
  | d :: r => !d.isDct && noDct r
theorem RqL.wide {K : PySem.W.Frag} {H : Hp} {P W : Addr → Prop} (pw : ∀ a, P a → W a) : ∀ {vs : List V} {ds : List D}, RqL .b K H P W vs ds → noDct ds = true → RpL K H W vs ds
  | _, _, .nil, _ => .nil
  | _, _, .cons (d := d) (ds := ds) h r, hd => by
    have hd : (!d.isDct && noDct ds) = true := hd
    rw [Bool.and_eq_true] at hd
    refine .cons ?_ (r.wide pw hd.2)
    have hd := hd.1
    have h : Rb K H P W _ d := h
    have o : Ho P H H := .refl
    cases d with
    | lst ds => obtain ⟨a, xs, rfl, hw, hx, r⟩ := h; exact .lst hw hx (r.mono o fun a _ p _ => pw a p)
    | dct t kvs =>
      exact absurd (show false = true from hd) Bool.false_ne_true
    | non => exact Rp.mono o (fun a _ p _ => pw a p) h
    | bl b => exact Rp.mono o (fun a _ p _ => pw a p) h
    | int i => exact Rp.mono o (fun a _ p _ => pw a p) h
    | str x => exact Rp.mono o (fun a _ p _ => pw a p) h
    | tup ds => exact Rp.mono o (fun a _ p _ => pw a p) h
    | raw v => exact Rp.mono o (fun a _ p _ => pw a p) h
theorem keepC_ok {K : PySem.W.Frag} {H0 H : Hp} {P P' W : Addr → Prop} {w : V} {d : D} {Q : D → Prop} {E' : Exn → Prop} (hmd : md = .f ∨ md = .s) (hk : (keepC md d).wp Q E') (h : Rq md K H0 H P W w d) : Q d ∧ Rq md K H0 H P' W w d := by
  rcases hmd with rfl | rfl
  · cases d with
    | lst ds =>
      have hk : (if D.puL ds = true then M.ret (D.lst ds) else .stuck).wp Q E' := hk
      by_cases e : D.puL ds = true
      · rw [if_pos e] at hk
        obtain ⟨a, e1, h0, xs, hx, r⟩ := h
        exact ⟨hk, a, e1, h0, xs, hx, r.pu e⟩
      · rw [if_neg e] at hk; exact hk.elim
    | dct t kvs => exact False.elim hk
    | non => exact ⟨hk, Rp.pu (show Rp K H P w .non from h) rfl⟩
    | bl b => exact ⟨hk, Rp.pu (show Rp K H P w (.bl b) from h) rfl⟩
    | int i => exact ⟨hk, Rp.pu (show Rp K H P w (.int i) from h) rfl⟩
    | str x => exact ⟨hk, Rp.pu (show Rp K H P w (.str x) from h) rfl⟩
    | raw v => exact ⟨hk, Rp.pu (show Rp K H P w (.raw v) from h) rfl⟩
    | tup ds =>
      have hk : (if D.puL ds = true then M.ret (D.tup ds) else .stuck).wp Q E' := hk
      by_cases e : D.puL ds = true
      · rw [if_pos e] at hk
        exact ⟨hk, Rp.pu (show Rp K H P w (.tup ds) from h) e⟩
      · rw [if_neg e] at hk; exact hk.elim
  · have hk : (if d.pu = true then M.ret d else .stuck).wp Q E' := by cases d <;> exact hk
    by_cases e : d.pu = true
    · rw [if_pos e] at hk
      exact ⟨hk, Rp.pu (show Rp K H P w d from h) e⟩
    · rw [if_neg e] at hk; exact hk.elim
def callB (md : Md) (ml : Ga → M (List D)) (F : List D → M D) : Ga → M D := fun Γ => ml Γ >>= fun ds => if noDct ds = true then F ds >>= keepC md else .stuck
theorem pev_callB {k : Nat} {f : Addr} {fd : FuncData} {ps : List Str} {F : List D → M D} (hF : FnG X.prog X.w X.K X.mg X.base (L2.CX X.prog X.w) k f fd ps (spM A.K X.mg A.gh md F)) (hmd : md = .f ∨ md = .s) (hr : Room k X.A) (gd : X.A.guards = some []) (hg : Gl X x) (hm : X.mg x = some (.ref f)) (hk : PySem.W.keepIn X.K (.ref f) = true)
    (hb : Binds X.K fd ps []) (hx : Passes (L2.CX X.prog X.w) X (EK X.mg E)) (ha : PAVL X A E .b (e :: es) ml) (hdb : (x == ("__debug__" : Str)) = false := by decide) (he : starEach (e :: es) X.env = (false, eval e X.env) :: starEach es X.env := by rfl) (hpl : (backTo pos (starEach es X.env)).any (·.1) = false := by rfl) :
    PEV X A E md (.Call (.Name x p) (e :: es) [] pos) (callB md ml F) := by
  refine ⟨imp_pe (pe_callG hF hr gd hg hm hk hb .nil hx ha.pa hdb he hpl) fun σ H Q ⟨cn, f, Γ, R, h⟩ => ⟨cn, f, Γ, R, M.wp_mono (M.wp_bind.mp h) (fun ds q ws H1 k1 g1 r1 => ?_) fun _ x => x⟩⟩
  show spM A.K X.mg A.gh md F (ws ++ []) H1 Q _
  rw [List.append_nil]
  have R1 := R.kx k1 g1
  split at q
  case isFalse => exact q.elim
  rename_i nd
  refine ⟨nZ A, ds, fun a z p => p z, fun a n z => absurd z n, g1, r1.wide (fun a p => p.nz) nd, M.wp_mono (M.wp_bind.mp q) (fun d q w H' k2 g2 r2 => ?_) fun x hx c dd H' k2 g2 hc => ?_⟩
  · obtain ⟨q, r⟩ := keepC_ok (P' := Fz A cn f Γ) hmd q r2
    exact q w H' (k1.trans k2) g2 (Rq.later R k1 g1 r)
  · exact ⟨x, hc, hx.2 H' (R.exn hx.1 (k1.trans k2)) g2⟩

/-! ### calls of what is built in -/
def cD (K : PySem.W.Frag) (g : List D → M D) : List V → Hp → VK → Prop := fun vs H Q => ∃ P W ds, RqL .b K H P W vs ds ∧ (g ds).wp (fun r => ∀ w H', Same H H' → Rf K H H' P w r → Q w H') fun _ => False
theorem tCB_of {r : List V → Hp → VK → Prop} {g : List D → M D} (tm : ∀ ds, Tame (g ds)) (hr : ∀ vs H Q, cD A.K g vs H Q → r vs H Q) {σ : L2.St} {H : Hp} {Q : VK} (h : tV A.K A E .f (callV ml g) σ H Q) : tCB r (tA A.K A E .b ml) σ H Q := by
  obtain ⟨cn, f, Γ, R, h⟩ := h
  exact ⟨cn, f, Γ, R, M.wp_mono (M.wp_bind.mp h) (fun ds q ws H1 k1 g1 r1 => hr _ _ _ ⟨Fz A cn f Γ, nZ A, ds, r1, tD R k1 g1 (tm ds) q⟩) fun _ x => x⟩
theorem pev_bi {id : String} {g : List D → M D} (hc : CallR X (.builtin id) (cD A.K g)) (tm : ∀ ds, Tame (g ds)) (hg : Gl X x) (hm : X.mg x = none) (hv : bootBuiltins x = some (.builtin id)) (ha : PAVL X A E .b (e :: es) ml) (hn : x ≠ "__name__" := by decide) (hdb : (x == ("__debug__" : Str)) = false := by decide)
    (he : starEach (e :: es) X.env = (false, eval e X.env) :: starEach es X.env := by rfl) (hpl : (backTo pos (starEach es X.env)).any (·.1) = false := by rfl) : PEV X A E .f (.Call (.Name x p) (e :: es) [] pos) (callV ml g) :=
  ⟨imp_pe (pe_callB hc hg hm hv ha.pa hn hdb he hpl) fun _ _ _ h => tCB_of tm (fun _ _ _ z => z) h⟩
theorem pev_ty {T : String} {g : List D → M D} (hc : CallR X (.type T) (cD A.K g)) (tm : ∀ ds, Tame (g ds)) (hg : Gl X x) (hm : X.mg x = none) (hv : bootBuiltins x = some (.type T)) (ha : PAVL X A E .b (e :: es) ml) (hn : x ≠ "__name__" := by decide) (hdb : (x == ("__debug__" : Str)) = false := by decide)
    (he : starEach (e :: es) X.env = (false, eval e X.env) :: starEach es X.env := by rfl) (hpl : (backTo pos (starEach es X.env)).any (·.1) = false := by rfl) : PEV X A E .f (.Call (.Name x p) (e :: es) [] pos) (callV ml g) :=
  ⟨imp_pe (pe_callTy hc hg hm hv ha.pa hn hdb he hpl) fun _ _ _ h => tCB_of tm (fun _ _ _ z => z) h⟩
/-- isinstance(e, T): the second argument names a class -/
theorem pav_raw {v : V} {d : D} (hp : PE X e (tC v)) (h : ∀ H P, Rp A.K H P v d) : PEV X A E .b e (fun _ => .ret d) := by
  refine ⟨imp_pe hp fun σ H Q ⟨cn, f, Γ, R, q⟩ => ?_⟩
  exact q v H .refl R.g ((h H (Fz A cn f Γ)).rb fun _ p => p.nz)

/-! ### items -/
theorem pev_ix {g : D → D → M D} (hr : IxR X (rD A.K g)) (tm : ∀ x y, Tame (g x y)) (ha : PEV X A E md1 a ma) (hb : PEV X A E md2 b mb) (hs : PlainIx b := by exact fun _ _ => rfl) : PEV X A E .f (.Subscript a b pos) (bin ma mb g) :=
  ⟨imp_pe (pe_ix hr ha.pe hb.pe hs) fun _ _ _ h => tOp_of tm (fun _ _ _ _ z => z) h⟩
/-- .. of which an item may be a list that stays -/
def rDs (K : PySem.W.Frag) (g : D → D → M D) : R2 := fun x y H Q => ∃ P W d u, Rb K H P W x d ∧ Rb K H P W y u ∧ (g d u).wp (fun r => ∀ w, Rp K H P w r → Q w H) fun _ => False
theorem pev_ixs {g : D → D → M D} (hr : IxR X (rDs A.K g)) (tm : ∀ x y, Tame (g x y)) (ha : PEV X A E md1 a ma) (hb : PEV X A E md2 b mb) (hs : PlainIx b := by exact fun _ _ => rfl) : PEV X A E .s (.Subscript a b pos) (bin ma mb g) := by
  refine ⟨imp_pe (pe_ix hr ha.pe hb.pe hs) fun σ H Q ⟨cn, f, Γ, R, h⟩ => ?_⟩
  refine ⟨cn, f, Γ, R, M.wp_mono (M.wp_bind.mp h) (fun d q w H1 k1 g1 r1 => ?_) fun _ x => x⟩
  refine ⟨cn, f, Γ, R.kx k1 g1, M.wp_mono (M.wp_bind.mp q) (fun u q w' H2 k2 g2 r2 => ?_) fun _ x => x⟩
  exact ⟨Fz A cn f Γ, nZ A, d, u, (R.kx k1 g1).rbk k2 (R.rb r1), (R.kx k1 g1).rb r2, M.wp_mono ((tm d u).wp q) (fun r q w'' h => q w'' H2 (k1.trans k2) g2 h) fun _ z => z⟩
end
end Px

set_option Elab.async false
set_option linter.all false
set_option maxRecDepth 100000
set_option autoImplicit false
namespace Px
open PySem PySem.Spec PyProof.Rows L2

/-! ### statements -/
inductive Ct where
  | nx | rt (d : D) | bk | ct
/-- what was safe is safe and as it was -/
def Hs (A : Am) (cn : Cn) (f : Nat → Addr) (Γ : Ga) (H : Hp) (f' : Nat → Addr) (Γ' : Ga) (H' : Hp) : Prop :=
  ∀ a, Fz A cn f Γ a → ∀ u, H a = some u → Fz A cn f' Γ' a ∧ H' a = some u
def sP (K : PySem.W.Frag) (A : Am) (cn : Cn) (md : Md) (f : Nat → Addr) (Γ : Ga) (H : Hp) (Dn : Ends) : Ct × Ga → Prop := fun r => match r.1 with
  | .nx => ∀ f' σ' H', Hs A cn f Γ H f' r.2 H' → Rl K A cn f' σ' H' r.2 → Dn.nx σ' H'
  | .bk => ∀ f' σ' H', Hs A cn f Γ H f' r.2 H' → Rl K A cn f' σ' H' r.2 → Dn.bk σ' H'
  | .ct => ∀ f' σ' H', Hs A cn f Γ H f' r.2 H' → Rl K A cn f' σ' H' r.2 → Dn.ct σ' H'
  | .rt d => ∀ w H', (∀ a o, ¬ A.gh.Z a → A.H0 a = some o → At cn H' a o) → A.gh.G H' → Rq md K A.H0 H' A.P0 (nZ A) w d → Dn.rt w H'
def tS (K : PySem.W.Frag) (A : Am) (E : EN) (md : Md) (m : Ga → M (Ct × Ga)) : TS := fun Dn σ H => ∃ cn f Γ, Rl K A cn f σ H Γ ∧ (m Γ).wp (sP K A cn md f Γ H Dn) (xP A E cn)
structure PSV (X : Cx) (A : Am) (E : EN) (md : Md) (st : Stmt) (m : Ga → M (Ct × Ga)) : Prop where
  ps : PS X st (tS A.K A E md m)
structure PSVs (X : Cx) (A : Am) (E : EN) (md : Md) (sts : List Stmt) (m : Ga → M (Ct × Ga)) : Prop where
  ps : PSs X sts (tS A.K A E md m)
theorem imp_ps {X : Cx} {st : Stmt} {t t' : TS} (h : PS X st t) (i : ∀ Dn σ H, t' Dn σ H → t Dn σ H) : PS X st t' := ⟨fun pins s σ H Dn I q => h.run pins s σ H Dn I (i Dn σ H q)⟩
theorem imp_pss {X : Cx} {st : List Stmt} {t t' : TS} (h : PSs X st t) (i : ∀ Dn σ H, t' Dn σ H → t Dn σ H) : PSs X st t' := ⟨fun pins s σ H Dn I q => h.run pins s σ H Dn I (i Dn σ H q)⟩
section
variable {K : PySem.W.Frag} {A : Am} {E : EN} {cn : Cn} {f f' f'' : Nat → Addr} {σ σ' : L2.St} {H H' H'' : Hp} {Γ Γ' Γ'' : Ga} {md : Md} {Dn : Ends}
theorem Hs.refl : Hs A cn f Γ H f Γ H := fun a p u e => ⟨p, e⟩
theorem Hs.trans (h : Hs A cn f Γ H f' Γ' H') (h' : Hs A cn f' Γ' H' f'' Γ'' H'') : Hs A cn f Γ H f'' Γ'' H'' := fun a p u e =>
  let ⟨p1, e1⟩ := h a p u e
  h' a p1 u e1
theorem Hs.kx (k : Kx A.gh.Z H H') : Hs A cn f Γ H f Γ H' := fun a p u e => ⟨p, k a u p.nz e⟩
theorem sP.pre {r : Ct × Ga} (h : sP K A cn md f Γ H Dn r) (hs : Hs A cn f Γ H f' Γ' H') : sP K A cn md f' Γ' H' Dn r := by
  obtain ⟨c, Γr⟩ := r
  cases c with
  | nx => exact fun f1 σ1 H1 h1 R1 => h f1 σ1 H1 (hs.trans h1) R1
  | bk => exact fun f1 σ1 H1 h1 R1 => h f1 σ1 H1 (hs.trans h1) R1
  | ct => exact fun f1 σ1 H1 h1 R1 => h f1 σ1 H1 (hs.trans h1) R1
  | rt d => exact h

/-! ### slots -/
theorem set_get {α : Type} {l : List α} {i j : Nat} {x y : α} (h : (l.set i x)[j]? = some y) : (j = i ∧ y = x ∧ i < l.length) ∨ (j ≠ i ∧ l[j]? = some y) := by
  rw [List.getElem?_set] at h
  by_cases e : i = j
  · rw [if_pos e] at h
    by_cases hl : i < l.length
    · rw [if_pos hl] at h
      exact .inl ⟨e.symm, (Option.some.inj h).symm, hl⟩
    · rw [if_neg hl] at h; cases h
  · rw [if_neg e] at h
    exact .inr ⟨fun z => e z.symm, h⟩
theorem set_at {α : Type} {l : List α} {i : Nat} {x : α} (h : i < l.length) : (l.set i x)[i]? = some x := List.getElem?_set_self h
theorem set_ne {α : Type} {l : List α} {i j : Nat} {x : α} (h : j ≠ i) : (l.set i x)[j]? = l[j]? := List.getElem?_set_ne (Ne.symm h)
theorem rd_some {a : Addr} {u : HO} (h : Rd H a u) : ∃ o, H a = some o := by
  rcases h with h | ⟨ob, h⟩
  · exact ⟨_, h⟩
  · exact ⟨_, h⟩
theorem fz_setV {i : Nat} {d : D} {a : Addr} (h : Fz A cn f Γ a) : Fz A cn f (Γ.set i (.v d)) a :=
  ⟨h.1, h.2.1, fun j e hj => by
    rcases set_get hj with ⟨_, e2, _⟩ | ⟨_, hj⟩
    · cases e2
    · exact h.2.2 j e hj⟩
theorem Rl.setV (R : Rl K A cn f σ H Γ) {i : Nat} {w : V} {d : D} (h : Rp K H (Fz A cn f Γ) w d) : Rl K A cn f (σ.set i (some w)) H (Γ.set i (.v d)) where
  len := by rw [List.length_set, List.length_set]; exact R.len
  g := R.g
  keep := R.keep
  lkf := fun a ob h => ⟨fz_setV (R.lkf a ob h).1, (R.lkf a ob h).2⟩
  hdm := R.hdm
  sl := fun j e hj => by
    rcases set_get hj with ⟨rfl, e2, hl⟩ | ⟨ne, hj⟩
    · cases e2
      exact ⟨w, set_at (by rw [R.len]; exact hl), h.mono .refl fun _ _ p _ => fz_setV p⟩
    · obtain ⟨w', h1, h2⟩ := R.sl j e hj
      exact ⟨w', by rw [set_ne ne]; exact h1, h2.mono .refl fun _ _ p _ => fz_setV p⟩
  ow := fun j e hj => by
    rcases set_get hj with ⟨_, e2, _⟩ | ⟨ne, hj⟩
    · cases e2
    · obtain ⟨h1, h2, h3, h4⟩ := R.ow j e hj
      exact ⟨by rw [set_ne ne]; exact h1, h2, h3, h4.mono .refl (fun _ _ p _ => fz_setV p) fun _ z => z⟩
  inj := fun j k d e hj hk => by
    rcases set_get hj with ⟨_, e2, _⟩ | ⟨_, hj⟩
    · cases e2
    · rcases set_get hk with ⟨_, e2, _⟩ | ⟨_, hk⟩
      · cases e2
      · exact R.inj j k d e hj hk
theorem Hs.setV {i : Nat} {d : D} : Hs A cn f Γ H f (Γ.set i (.v d)) H := fun a p u e => ⟨fz_setV p, e⟩
/-- where slot i's own object lies, now -/
def fset (f : Nat → Addr) (i : Nat) (a : Addr) : Nat → Addr := fun j => if j = i then a else f j
theorem fset_same {i : Nat} {a : Addr} : fset f i a i = a := by unfold fset; rw [if_pos rfl]
theorem fset_ne {i j : Nat} {a : Addr} (h : j ≠ i) : fset f i a j = f j := by unfold fset; rw [if_neg h]
theorem fz_setO {i : Nat} {d : D} {a b : Addr} (h : Fz A cn f Γ b) (hb : b ≠ a) : Fz A cn (fset f i a) (Γ.set i (.own d)) b :=
  ⟨h.1, h.2.1, fun j e hj => by
    rcases set_get hj with ⟨rfl, e2, _⟩ | ⟨ne, hj⟩
    · rw [fset_same]; exact Ne.symm hb
    · rw [fset_ne ne]; exact h.2.2 j e hj⟩
theorem ne_fresh {a b : Addr} {u : HO} (h : H a = none) (r : Rd H b u) : b ≠ a := fun e => by
  obtain ⟨o, q⟩ := rd_some r
  rw [e, h] at q; cases q
theorem Rl.setO (R : Rl K A cn f σ H Γ) (k : Kx A.gh.Z H H') (g : A.gh.G H') {i : Nat} {a : Addr} {d : D} (h : H a = none) (o : Ow K H' (fun b => Fz A cn f Γ b ∧ b ≠ a) a d) : Rl K A cn (fset f i a) (σ.set i (some (.ref a))) H' (Γ.set i (.own d)) := by
  have R1 := R.kx k g
  refine ⟨by rw [List.length_set, List.length_set]; exact R.len, g, R1.keep, fun b ob hb => ?_, R1.hdm, fun j e hj => ?_, fun j e hj => ?_, fun j l d' e hj hl ef => ?_⟩
  · obtain ⟨p, u, e⟩ := R.lkf b ob hb
    exact ⟨fz_setO p (fun z => by rw [z, h] at e; cases e), (R1.lkf b ob hb).2⟩
  · rcases set_get hj with ⟨_, e2, _⟩ | ⟨ne, hj⟩
    · cases e2
    · obtain ⟨w', h1, h2⟩ := R.sl j e hj
      exact ⟨w', by rw [set_ne ne]; exact h1, h2.mono (R.ho k) fun b u p r => fz_setO p (ne_fresh h r)⟩
  · rcases set_get hj with ⟨rfl, e2, hl⟩ | ⟨ne, hj⟩
    · cases e2
      rw [fset_same]
      exact ⟨set_at (by rw [R.len]; exact hl), R.h0_none h, (fun z => by obtain ⟨_, xs, q, _⟩ := R.hdm _ z; rw [h] at q; cases q), o.mono .refl (fun b u p _ => fz_setO p.1 p.2) fun _ z => z⟩
    · rw [fset_ne ne]
      obtain ⟨h1, h2, h3, h4⟩ := R.ow j e hj
      exact ⟨by rw [set_ne ne]; exact h1, h2, h3, h4.mono (R.ho k) (fun b u p r => fz_setO p (ne_fresh h r)) fun u q => k _ _ (R.own_nz hj).1 q⟩
  · have other : ∀ {j : Nat} {e : D}, Γ[j]? = some (.own e) → f j ≠ a := fun {j e} hj z => by
      obtain ⟨_, _, _, h4⟩ := R.ow j e hj
      obtain ⟨o, q, _⟩ := h4.mut
      rw [z, h] at q; cases q
    rcases set_get hj with ⟨e1, _, _⟩ | ⟨ne, hj1⟩
    · rcases set_get hl with ⟨e2, _, _⟩ | ⟨ne2, hl1⟩
      · rw [e1, e2]
      · rw [e1, fset_same, fset_ne ne2] at ef
        exact absurd ef.symm (other hl1)
    · rcases set_get hl with ⟨e2, _, _⟩ | ⟨ne2, hl1⟩
      · rw [e2, fset_same, fset_ne ne] at ef
        exact absurd ef (other hj1)
      · rw [fset_ne ne, fset_ne ne2] at ef
        exact R.inj j l d' e hj1 hl1 ef
theorem Hs.setO (k : Kx A.gh.Z H H') {i : Nat} {a : Addr} {d : D} (h : H a = none) : Hs A cn f Γ H (fset f i a) (Γ.set i (.own d)) H' := fun b p u e =>
  ⟨fz_setO p (fun z => by rw [z, h] at e; cases e), k b u p.nz e⟩
/-- an object of one's own is let go: it stays as it is -/
def fz (i : Nat) (Γ : Ga) : Ga := match Γ[i]? with
  | some (.own d) => Γ.set i (.v d)
  | _ => Γ
theorem Rl.drop (R : Rl K A cn f σ H Γ) {i : Nat} {d : D} {H2 : Hp} (hd : Γ[i]? = some (.own d)) (hb : ∀ b, b ≠ f i → H2 b = H b) (rp : Fz A cn f (Γ.set i (.v d)) (f i) → Ho (Fz A cn f Γ) H H2 → Rp K H2 (Fz A cn f (Γ.set i (.v d))) (.ref (f i)) d) :
    Rl K A cn f σ H2 (Γ.set i (.v d)) ∧ Hs A cn f Γ H f (Γ.set i (.v d)) H2 := by
  obtain ⟨h1, h2, h3, h4⟩ := R.ow i d hd
  have fi : Fz A cn f (Γ.set i (.v d)) (f i) := ⟨(R.own_nz hd).2, h3, fun j e hj z => by
    rcases set_get hj with ⟨_, e2, _⟩ | ⟨ne, hj⟩
    · cases e2
    · exact ne (R.inj j i e d hj hd z)⟩
  have nf : ∀ b, Fz A cn f Γ b → b ≠ f i := fun b p z => p.2.2 i d hd z.symm
  have ho : Ho (Fz A cn f Γ) H H2 := by
    refine ⟨fun b u p e => by rw [hb b (nf b p)]; exact e, fun b xs e => ?_⟩
    obtain ⟨u, hu, mu⟩ := h4.mut
    rw [hb b fun z => by rw [z] at e; exact mut_not_frz hu mu e]
    exact e
  refine ⟨⟨by rw [List.length_set]; exact R.len, A.gh.gk H _ R.g fun b z => hb b fun y => (R.own_nz hd).1 (y ▸ z), fun b o z e => ?_, fun a ob h => ?_, fun b m => ?_, fun j e hj => ?_, fun j e hj => ?_, fun j l d e hj hk => ?_⟩, fun b p u e => ⟨fz_setV p, by rw [hb b (nf b p)]; exact e⟩⟩
  · have ne : b ≠ f i := fun y => by rw [y, h2] at e; cases e
    rcases R.keep b o z e with q | ⟨ob, hl, q⟩
    · exact .inl (by rw [hb b ne]; exact q)
    · exact .inr ⟨ob, hl, by rw [hb b ne]; exact q⟩
  · obtain ⟨p, u, q⟩ := R.lkf a ob h
    exact ⟨fz_setV p, u, by rw [hb a (nf a p)]; exact q⟩
  · obtain ⟨z, u, q, mu⟩ := R.hdm b m
    have ne : b ≠ f i := fun y => by rw [y] at m; exact h3 m
    exact ⟨z, u, by rw [hb b ne]; exact q, mu⟩
  · rcases set_get hj with ⟨rfl, e2, hl⟩ | ⟨ne, hj⟩
    · cases e2
      exact ⟨_, h1, rp fi ho⟩
    · obtain ⟨w', q1, q2⟩ := R.sl j e hj
      exact ⟨w', q1, q2.mono ho fun _ _ p _ => fz_setV p⟩
  · rcases set_get hj with ⟨_, e2, _⟩ | ⟨ne, hj⟩
    · cases e2
    · obtain ⟨q1, q2, q3, q4⟩ := R.ow j e hj
      refine ⟨q1, q2, q3, q4.mono ho (fun _ _ p _ => fz_setV p) fun u z => ?_⟩
      rw [hb _ fun y => ne (R.inj j i e _ hj hd y)]
      exact z
  · rcases set_get hj with ⟨_, e2, _⟩ | ⟨_, hj⟩
    · cases e2
    · rcases set_get hk with ⟨_, e2, _⟩ | ⟨_, hk⟩
      · cases e2
      · exact R.inj j l d e hj hk
/-- a list is let go as it stands; a dict is locked -/
theorem Rl.fz (R : Rl K A cn f σ H Γ) (i : Nat) : (Rl K A cn f σ H (fz i Γ) ∧ Hs A cn f Γ H f (fz i Γ) H) ∨ ∃ a u, H a = some u ∧ Mut (some u) ∧ ∀ od, Rl K A cn f σ (upd H a (.frz od u)) (fz i Γ) ∧ Hs A cn f Γ H f (fz i Γ) (upd H a (.frz od u)) := by
  unfold Px.fz
  split
  · rename_i d hd
    obtain ⟨_, _, _, h4⟩ := R.ow i d hd
    cases d with
    | lst ds =>
      obtain ⟨xs, hx, r⟩ := h4
      exact .inl (R.drop hd (fun _ _ => rfl) fun fi ho => .lst fi hx (r.mono .refl fun _ _ p _ => fz_setV p))
    | dct t kvs =>
      rcases h4 with ⟨rfl, l, hx, r⟩ | ⟨rfl, l, hx, r⟩
      · exact .inr ⟨f i, _, hx, trivial, fun od => R.drop hd (fun _ h => upd_ne h) fun fi ho => .dK fi upd_same (r.mono ho fun _ _ p _ => fz_setV p)⟩
      · exact .inr ⟨f i, _, hx, trivial, fun od => R.drop hd (fun _ h => upd_ne h) fun fi ho => .dT fi upd_same (r.mono ho fun _ _ p _ => fz_setV p)⟩
    | _ => exact h4.elim
  · exact .inl ⟨R, .refl⟩
end
end Px

set_option Elab.async false
set_option linter.all false
set_option maxRecDepth 100000
set_option autoImplicit false
namespace Px
open PySem PySem.Spec PyProof.Rows L2
section
variable {X : Cx} {A : Am} {E : EN} {md md1 md2 md3 : Md} {e a b c : Expr} {es rest : List Expr} {st : Stmt} {sts st2 : List Stmt} {m ma mb mc : Ga → M D} {mT mU : Ga → M Bool} {ml : Ga → M (List D)} {m1 m2 : Ga → M (Ct × Ga)} {pos p : Pos} {x : Str}

/-! ### blocks -/
def nextM : Ga → M (Ct × Ga) := fun Γ => .ret (.nx, Γ)
def andThen (r : Ct × Ga) (k : Ga → M (Ct × Ga)) : M (Ct × Ga) := match r.1 with
  | .nx => k r.2
  | .rt d => .ret (.rt d, r.2)
  | .bk => .ret (.bk, r.2)
  | .ct => .ret (.ct, r.2)
def seqM (m1 m2 : Ga → M (Ct × Ga)) : Ga → M (Ct × Ga) := fun Γ => m1 Γ >>= fun r => andThen r m2
theorem psv_nil : PSVs X A E md [] nextM := ⟨imp_pss pss_nil fun Dn σ H ⟨cn, f, Γ, R, h⟩ => h f σ H .refl R⟩
theorem psv_cons (h1 : PSV X A E md st m1) (h2 : PSVs X A E md sts m2) : PSVs X A E md (st :: sts) (seqM m1 m2) := by
  refine ⟨imp_pss (pss_cons h1.ps h2.ps) fun Dn σ H ⟨cn, f, Γ, R, h⟩ => ⟨cn, f, Γ, R, M.wp_mono (M.wp_bind.mp h) (fun r q => ?_) fun _ x => x⟩⟩
  obtain ⟨c, Γ1⟩ := r
  cases c with
  | nx => exact fun f1 σ1 H1 s1 R1 => ⟨cn, f1, Γ1, R1, M.wp_mono q (fun r q => q.pre s1) fun _ x => x⟩
  | rt d => exact q
  | bk => exact q
  | ct => exact q
theorem psv_one (h1 : PSV X A E md st m1) : PSVs X A E md [st] m1 := ⟨pss_one h1.ps⟩
theorem psv_pass : PSV X A E md (.Pass pos) nextM := ⟨imp_ps ps_pass fun Dn σ H ⟨cn, f, Γ, R, h⟩ => h f σ H .refl R⟩
def breakM : Ga → M (Ct × Ga) := fun Γ => .ret (.bk, Γ)
def contM : Ga → M (Ct × Ga) := fun Γ => .ret (.ct, Γ)
theorem psv_break : PSV X A E md (.Break pos) breakM := ⟨imp_ps ps_break fun Dn σ H ⟨cn, f, Γ, R, h⟩ => h f σ H .refl R⟩
theorem psv_continue : PSV X A E md (.Continue pos) contM := ⟨imp_ps ps_continue fun Dn σ H ⟨cn, f, Γ, R, h⟩ => h f σ H .refl R⟩
def ifM (t : Ga → M Bool) (m1 m2 : Ga → M (Ct × Ga)) : Ga → M (Ct × Ga) := fun Γ => t Γ >>= fun k => if k = true then m1 Γ else m2 Γ
theorem psv_if (ht : PTV X A E c mT) (h1 : PSVs X A E md sts m1) (h2 : PSVs X A E md st2 m2) : PSV X A E md (.If c sts st2 pos) (ifM mT m1 m2) := by
  refine ⟨imp_ps (ps_if ht.pt h1.ps h2.ps) fun Dn σ H ⟨cn, f, Γ, R, h⟩ => ⟨cn, f, Γ, R, M.wp_mono (M.wp_bind.mp h) (fun k q H1 k1 g1 => ?_) fun _ x => x⟩⟩
  cases k with
  | true => exact ⟨cn, f, Γ, R.kx k1 g1, M.wp_mono q (fun r q => q.pre (.kx k1)) fun _ x => x⟩
  | false => exact ⟨cn, f, Γ, R.kx k1 g1, M.wp_mono q (fun r q => q.pre (.kx k1)) fun _ x => x⟩
/-- ahead of the statement slot i's object is let go -/
theorem psv_fz (i : Nat) (h : PSV X A E md st m1) : PSV X A E md st (fun Γ => m1 (fz i Γ)) := by
  refine ⟨⟨fun pins s σ H Dn I ⟨cn, f, Γ, R, q⟩ => ?_⟩⟩
  rcases R.fz i with ⟨R1, s1⟩ | ⟨a, u, e, mu, r⟩
  · exact h.ps.run pins s σ H Dn I ⟨cn, f, fz i Γ, R1, M.wp_mono q (fun r q => q.pre s1) fun _ x => x⟩
  · obtain ⟨od, I1⟩ := I.lock e mu
    obtain ⟨R1, s1⟩ := r od
    exact h.ps.run pins s σ _ Dn I1 ⟨cn, f, fz i Γ, R1, M.wp_mono q (fun r q => q.pre s1) fun _ x => x⟩

/-! ### return, expressions, raise -/
def retM (ma : Ga → M D) : Ga → M (Ct × Ga) := fun Γ => ma Γ >>= fun d => .ret (.rt d, Γ)
theorem Rl.keepAt {K : PySem.W.Frag} {cn : Cn} {f : Nat → Addr} {σ : L2.St} {H H' : Hp} {Γ : Ga} (R : Rl K A cn f σ H Γ) (k : Kx A.gh.Z H H') : ∀ a o, ¬ A.gh.Z a → A.H0 a = some o → At cn H' a o := fun a o z e => by
  rcases R.keep a o z e with q | ⟨ob, hl, q⟩
  · exact .inl (k _ _ z q)
  · exact .inr ⟨ob, hl, k _ _ z q⟩
theorem psv_ret (hmd : md = .f ∨ md = .s) (h : PEV X A E md e ma) : PSV X A E md (.Return (some e) pos) (retM ma) := by
  refine ⟨imp_ps (ps_ret h.pe) fun Dn σ H ⟨cn, f, Γ, R, h⟩ => ⟨cn, f, Γ, R, M.wp_mono (M.wp_bind.mp h) (fun d q w H1 k1 g1 r1 => ?_) fun _ x => x⟩⟩
  refine q w H1 (R.keepAt k1) g1 ?_
  rcases hmd with rfl | rfl
  · exact Rf.mono r1 .refl (fun _ _ p _ => p.1) (fun a h => R.h0_none h) fun _ _ _ e => e
  · exact Rp.mono .refl (fun _ _ p _ => p.1) r1
theorem psv_retN : PSV X A E md (.Return none pos) (retM fun _ => .ret .non) := by
  refine ⟨imp_ps ps_retN fun Dn σ H ⟨cn, f, Γ, R, h⟩ => ?_⟩
  refine h .non H (R.keepAt .refl) R.g ?_
  cases md with
  | b => exact .non
  | s => exact .non
  | f => exact .non
def getO (i : Nat) (Γ : Ga) : M D := match Γ[i]? with
  | some (.own d) => .ret d
  | _ => .stuck
theorem psv_retO {i : Nat} (hN : X.N[i]? = some x) (hv : Vis X.env.scope x) (hd : (x == ("__debug__" : Str)) = false := by decide) (hcd : (x == ("__classdict__" : Str)) = false := by decide) : PSV X A E .f (.Return (some (.Name x p)) pos) (retM (getO i)) := by
  refine ⟨imp_ps (ps_ret (pe_var hN hv hd hcd)) fun Dn σ H ⟨cn, f, Γ, R, h⟩ => ?_⟩
  have h := M.wp_bind.mp h
  unfold getO at h
  split at h
  · rename_i d e
    obtain ⟨h1, h2, h3, h4⟩ := R.ow i d e
    refine ⟨_, h1, h _ H (R.keepAt .refl) R.g ?_⟩
    have h5 : Ow A.K H (fun b => A.P0 b ∧ b ≠ f i) (f i) d := h4.mono .refl (fun b _ p _ => ⟨p.1, fun z => p.2.2 i d e z.symm⟩) fun _ z => z
    cases d with
    | lst ds => exact ⟨_, rfl, h2, h5⟩
    | dct t kvs => exact ⟨_, rfl, h2, h5⟩
    | _ => exact h4.elim
  · exact h.elim
/-- a value that is no list and no dict counts as new -/
theorem pev_sf (h : PEV X A E .s e m) : PEV X A E .f e (fun Γ => m Γ >>= keepB) := by
  refine ⟨imp_pe h.pe fun σ H Q ⟨cn, f, Γ, R, h⟩ => ⟨cn, f, Γ, R, M.wp_mono (M.wp_bind.mp h) (fun d q w H' k g r => ?_) fun _ x => x⟩⟩
  cases d with
  | lst ds => exact q.elim
  | dct t kvs => exact q.elim
  | non => exact q w H' k g r
  | bl b => exact q w H' k g r
  | int i => exact q w H' k g r
  | str x => exact q w H' k g r
  | tup ds => exact q w H' k g r
  | raw v => exact q w H' k g r
def exprM (ma : Ga → M D) : Ga → M (Ct × Ga) := fun Γ => ma Γ >>= fun _ => .ret (.nx, Γ)
theorem psv_expr (h : PEV X A E md1 e ma) (hs : swapsWith e none pos.line X.env = pure false := by rfl) : PSV X A E md (.Expr e pos) (exprM ma) :=
  ⟨imp_ps (ps_expr h.pe hs) fun Dn σ H ⟨cn, f, Γ, R, h⟩ => ⟨cn, f, Γ, R, M.wp_mono (M.wp_bind.mp h) (fun d q w H1 k1 g1 r1 => q f σ H1 (.kx k1) (R.kx k1 g1)) fun _ x => x⟩⟩
def raiseM (x : Exn) : Ga → M (Ct × Ga) := fun _ => .exc x
theorem psv_raise {W : WX} {C : Addr} (hc : X.calm = true) (tk : Takes X W) (he : PMk X e (fun _ H Q => Q (.ref C) none H)) (hm : X.mg x = some (.ref C)) (hW : ∀ c d σ H, EK X.mg E c d H → W c d σ H) : PSV X A E md (.Raise (some e) none pos) (raiseM (x, none)) := by
  refine ⟨imp_ps (ps_raise hc tk he) fun Dn σ H ⟨cn, f, Γ, R, h⟩ => ?_⟩
  obtain ⟨h1, h2⟩ := (show xP A E cn (x, none) from h)
  exact hW _ _ _ _ ⟨(x, none), ⟨hm, rfl⟩, h2 H (R.exn h1 .refl) R.g⟩

/-! ### targets -/
/-- but the slots ts, all is as it was -/
def Ag (ts : List Nat) (σ σ' : L2.St) (Γ Γ' : Ga) : Prop := σ'.length = σ.length ∧ (∀ j, j ∉ ts → σ'[j]? = σ[j]?) ∧ ∀ j : Nat, j ∉ ts → Γ'[j]? = Γ[j]?
def tG (K : PySem.W.Frag) (A : Am) (ts : List Nat) (bnd : D → Ga → M Ga) : TG := fun v σ H Q => ∃ cn f Γ d, Rl K A cn f σ H Γ ∧ Rp K H (Fz A cn f Γ) v d ∧
  (bnd d Γ).wp (fun Γ' => ∀ σ', Hs A cn f Γ H f Γ' H → Rl K A cn f σ' H Γ' → Ag ts σ σ' Γ Γ' → Q σ' H) fun _ => False
structure PGV (X : Cx) (A : Am) (tg : Expr) (ts : List Nat) (bnd : D → Ga → M Ga) : Prop where
  pg : PG X tg (tG A.K A ts bnd)
def tGs (K : PySem.W.Frag) (A : Am) (ts : List Nat) (bnd : List D → Ga → M Ga) : TGs := fun vs σ H Q => ∃ cn f Γ ds, Rl K A cn f σ H Γ ∧ RpL K H (Fz A cn f Γ) vs ds ∧
  (bnd ds Γ).wp (fun Γ' => ∀ σ', Hs A cn f Γ H f Γ' H → Rl K A cn f σ' H Γ' → Ag ts σ σ' Γ Γ' → Q σ' H) fun _ => False
structure PGVs (X : Cx) (A : Am) (tgs : List Expr) (ts : List Nat) (bnd : List D → Ga → M Ga) : Prop where
  pg : PGs X tgs (tGs A.K A ts bnd)
theorem imp_pg {tg : Expr} {t t' : TG} (h : PG X tg t) (i : ∀ v σ H Q, t' v σ H Q → t v σ H Q) : PG X tg t' := ⟨fun pins s σ H v u Q I r q => h.run pins s σ H v u Q I r (i v σ H Q q)⟩
theorem imp_pgs {tg : List Expr} {t t' : TGs} (h : PGs X tg t) (i : ∀ v σ H Q, t' v σ H Q → t v σ H Q) : PGs X tg t' := ⟨fun pins s σ H v u Q I r q => h.run pins s σ H v u Q I r (i v σ H Q q)⟩
def bndN (i : Nat) : D → Ga → M Ga := fun d Γ => .ret (Γ.set i (.v d))
theorem pgv_name {i : Nat} (hN : X.N.Nodup) (hi : X.N[i]? = some x) (hx : Loc X.env.scope x) (hf : X.fn x = true ∨ X.env.scope.names.lookup x = some .local := by first | exact .inl rfl | exact .inr rfl | assumption) : PGV X A (.Name x pos) [i] (bndN i) :=
  ⟨imp_pg (pg_name hN hi hx hf) fun v σ H Q ⟨cn, f, Γ, d, R, r, h⟩ => h _ .setV (R.setV r) ⟨List.length_set, fun j hj => set_ne (fun z => hj (by simp [z])), fun j hj => set_ne (fun z => hj (by simp [z]))⟩⟩
def bndNil : List D → Ga → M Ga := fun ds Γ => match ds with
  | [] => .ret Γ
  | _ => .stuck
def bndCons (b : D → Ga → M Ga) (bs : List D → Ga → M Ga) : List D → Ga → M Ga := fun ds Γ => match ds with
  | d :: r => b d Γ >>= bs r
  | _ => .stuck
theorem pgv_nil : PGVs X A [] [] bndNil := by
  refine ⟨imp_pgs pgs_nil fun vs σ H Q ⟨cn, f, Γ, ds, R, r, h⟩ => ?_⟩
  cases r with
  | nil => exact ⟨rfl, h σ .refl R ⟨rfl, fun _ _ => rfl, fun _ _ => rfl⟩⟩
  | cons h1 h2 => exact h.elim
theorem pgv_cons {tg : Expr} {tgs : List Expr} {ts ts' : List Nat} {bn : D → Ga → M Ga} {bs : List D → Ga → M Ga} (h1 : PGV X A tg ts bn) (h2 : PGVs X A tgs ts' bs) (hs : (assignEach (tg :: tgs) X.env).map (·.2) = assign tg X.env :: (assignEach tgs X.env).map (·.2) := by rfl) :
    PGVs X A (tg :: tgs) (ts ++ ts') (bndCons bn bs) := by
  refine ⟨imp_pgs (pgs_cons h1.pg h2.pg hs) fun vs σ H Q ⟨cn, f, Γ, ds, R, r, h⟩ => ?_⟩
  cases r with
  | nil => exact h.elim
  | cons r1 r2 =>
    refine ⟨_, _, rfl, cn, f, Γ, _, R, r1, M.wp_mono (M.wp_bind.mp h) (fun Γ1 q σ1 s1 R1 e1 => ?_) fun _ x => x⟩
    refine ⟨cn, f, Γ1, _, R1, r2.mono .refl (fun a u p r => by obtain ⟨o, e⟩ := rd_some r; exact (s1 a p o e).1), M.wp_mono q (fun Γ2 q σ2 s2 R2 e2 => q σ2 (s1.trans s2) R2 ⟨e2.1.trans e1.1, fun j hj => ?_, fun j hj => ?_⟩) fun _ x => x⟩
    · rw [e2.2.1 j fun z => hj (List.mem_append_right _ z), e1.2.1 j fun z => hj (List.mem_append_left _ z)]
    · rw [e2.2.2 j fun z => hj (List.mem_append_right _ z), e1.2.2 j fun z => hj (List.mem_append_left _ z)]
def bndT (n : Nat) (bs : List D → Ga → M Ga) : D → Ga → M Ga := fun d Γ => match d with
  | .tup ds => if ds.length = n then bs ds Γ else .stuck
  | _ => .stuck
theorem pgv_tup {tgs : List Expr} {k n : Nat} {ts : List Nat} {bs : List D → Ga → M Ga} (hk : KLe A.K X.K) (hc : X.calm = true) (h : PGVs X A tgs ts bs) (hn : (assignEach tgs X.env).length = n := by rfl) (hst : (assignEach tgs X.env).findIdx? (·.1) = none := by rfl) : PGV X A (.Tuple tgs k pos) ts (bndT n bs) := by
  refine ⟨imp_pg (pg_tup hc h.pg hn hst) fun v σ H Q ⟨cn, f, Γ, d, R, r, h⟩ => ?_⟩
  cases r with
  | @tup a xs ds hq r =>
    have h : (if ds.length = n then bs ds Γ else .stuck).wp _ _ := h
    by_cases hl : ds.length = n
    · rw [if_pos hl] at h
      exact ⟨_, _, rfl, TpX.kle hk hq, by rw [r.length]; exact hl, cn, f, Γ, ds, R, r, h⟩
    · rw [if_neg hl] at h; exact h.elim
  | _ => exact h.elim

/-! ### assignments -/
def asgM (ma : Ga → M D) (bnd : D → Ga → M Ga) : Ga → M (Ct × Ga) := fun Γ => ma Γ >>= fun d => bnd d Γ >>= fun Γ' => .ret (.nx, Γ')
theorem wp_false {α : Type} {m : M α} {Q : α → Prop} {E' : Exn → Prop} (h : m.wp Q fun _ => False) : m.wp Q E' := M.wp_mono h (fun _ q => q) fun _ z => z.elim
/-- a target neither draws nor raises -/
def TameG (bnd : D → Ga → M Ga) : Prop := ∀ d Γ Q E', (bnd d Γ).wp Q E' → (bnd d Γ).wp Q fun _ => False
theorem tame_n {i : Nat} : TameG (bndN i) := fun _ _ _ _ h => h
theorem tame_nil : ∀ ds Γ Q E', (bndNil ds Γ).wp Q E' → (bndNil ds Γ).wp Q fun _ => False := fun ds Γ Q E' h => by
  cases ds with
  | nil => exact h
  | cons d r => exact h.elim
theorem tame_cons {bn : D → Ga → M Ga} {bs : List D → Ga → M Ga} (h1 : TameG bn) (h2 : ∀ ds Γ Q E', (bs ds Γ).wp Q E' → (bs ds Γ).wp Q fun _ => False) : ∀ ds Γ Q E', (bndCons bn bs ds Γ).wp Q E' → (bndCons bn bs ds Γ).wp Q fun _ => False := fun ds Γ Q E' h => by
  cases ds with
  | nil => exact h.elim
  | cons d r => exact M.wp_bind.mpr (M.wp_mono (h1 _ _ _ _ (M.wp_bind.mp h)) (fun Γ' q => h2 _ _ _ _ q) fun _ x => x)
theorem tame_t {n : Nat} {bs : List D → Ga → M Ga} (h2 : ∀ ds Γ Q E', (bs ds Γ).wp Q E' → (bs ds Γ).wp Q fun _ => False) : TameG (bndT n bs) := fun d Γ Q E' h => by
  cases d with
  | tup ds =>
    have h : (if ds.length = n then bs ds Γ else .stuck).wp Q E' := h
    show (if ds.length = n then bs ds Γ else .stuck).wp Q _
    by_cases hl : ds.length = n
    · rw [if_pos hl] at h ⊢; exact h2 _ _ _ _ h
    · rw [if_neg hl] at h; exact h.elim
  | _ => exact h.elim
theorem psv_asg {tg : Expr} {ts : List Nat} {bnd : D → Ga → M Ga} (he : PEV X A E .s e ma) (hg : PGV X A tg ts bnd) (ht : TameG bnd) (hs : swapsWithSole [tg] e pos.line X.env = pure false := by rfl) (hw : swappedStores [tg] e X.env = pure none := by rfl)
    (h1 : (assignEach [tg] X.env).map (·.2) = [assign tg X.env] := by rfl) : PSV X A E md (.Assign [tg] e pos) (asgM ma bnd) := by
  refine ⟨imp_ps (ps_asg he.pe hg.pg hs hw h1) fun Dn σ H ⟨cn, f, Γ, R, h⟩ => ⟨cn, f, Γ, R, M.wp_mono (M.wp_bind.mp h) (fun d q w H1 k1 g1 r1 => ?_) fun _ x => x⟩⟩
  exact ⟨cn, f, Γ, d, R.kx k1 g1, r1, M.wp_mono (ht _ _ _ _ (M.wp_bind.mp q)) (fun Γ' q σ' s' R' _ => q f σ' H1 ((Hs.kx k1).trans s') R') fun _ z => z⟩
def slF (d : D) : Sl := match d with
  | .lst ds => .own (.lst ds)
  | .dct t kvs => .own (.dct t kvs)
  | d => .v d
theorem Rl.setF {K : PySem.W.Frag} {cn : Cn} {f : Nat → Addr} {σ : L2.St} {H H' : Hp} {Γ : Ga} {w : V} {d : D} (R : Rl K A cn f σ H Γ) (k : Kx A.gh.Z H H') (g : A.gh.G H') {i : Nat} (r : Rf K H H' (Fz A cn f Γ) w d) :
    ∃ f', Rl K A cn f' (σ.set i (some w)) H' (Γ.set i (slF d)) ∧ Hs A cn f Γ H f' (Γ.set i (slF d)) H' := by
  cases d with
  | lst ds =>
    obtain ⟨a, rfl, hn, ho⟩ := r
    exact ⟨_, R.setO k g hn ho, .setO k hn⟩
  | dct t kvs =>
    obtain ⟨a, rfl, hn, ho⟩ := r
    exact ⟨_, R.setO k g hn ho, .setO k hn⟩
  | non => exact ⟨f, (R.kx k g).setV r, (Hs.kx k).trans .setV⟩
  | bl b => exact ⟨f, (R.kx k g).setV r, (Hs.kx k).trans .setV⟩
  | int i => exact ⟨f, (R.kx k g).setV r, (Hs.kx k).trans .setV⟩
  | str x => exact ⟨f, (R.kx k g).setV r, (Hs.kx k).trans .setV⟩
  | tup ds => exact ⟨f, (R.kx k g).setV r, (Hs.kx k).trans .setV⟩
  | raw v => exact ⟨f, (R.kx k g).setV r, (Hs.kx k).trans .setV⟩
/-- name = what is new -/
def setM (i : Nat) (ma : Ga → M D) : Ga → M (Ct × Ga) := fun Γ => ma Γ >>= fun d => .ret (.nx, Γ.set i (slF d))
theorem psv_setOf {i : Nat} {pos' : Pos} (hps : ∀ te, PE X e te → PS X (.Assign [.Name x pos'] e pos) (tAsg te (gName i))) (he : PEV X A E .f e ma) : PSV X A E md (.Assign [.Name x pos'] e pos) (setM i ma) := by
  refine ⟨imp_ps (hps _ he.pe) fun Dn σ H ⟨cn, f, Γ, R, h⟩ => ⟨cn, f, Γ, R, M.wp_mono (M.wp_bind.mp h) (fun d q w H1 k1 g1 r1 => ?_) fun _ x => x⟩⟩
  obtain ⟨f', R', s'⟩ := R.setF k1 g1 (i := i) r1
  exact q f' _ H1 s' R'
theorem psv_set {i : Nat} {pos' : Pos} (hN : X.N.Nodup) (hi : X.N[i]? = some x) (hx : Loc X.env.scope x) (he : PEV X A E .f e ma) (hs : swapsWith e (some (.Name x pos')) pos.line X.env = pure false := by rfl) (hf : X.fn x = true ∨ X.env.scope.names.lookup x = some .local := by first | exact .inl rfl | exact .inr rfl | assumption) :
    PSV X A E md (.Assign [.Name x pos'] e pos) (setM i ma) := psv_setOf (fun te h => ps_set hN hi hx h hs hf) he
/-- name = a value that stays where it is -/
def setSM (i : Nat) (ma : Ga → M D) : Ga → M (Ct × Ga) := fun Γ => ma Γ >>= fun d => .ret (.nx, Γ.set i (.v d))
theorem psv_setS {i : Nat} {pos' : Pos} (hN : X.N.Nodup) (hi : X.N[i]? = some x) (hx : Loc X.env.scope x) (he : PEV X A E .s e ma) (hs : swapsWith e (some (.Name x pos')) pos.line X.env = pure false := by rfl) (hf : X.fn x = true ∨ X.env.scope.names.lookup x = some .local := by first | exact .inl rfl | exact .inr rfl | assumption) :
    PSV X A E md (.Assign [.Name x pos'] e pos) (setSM i ma) := by
  refine ⟨imp_ps (ps_set hN hi hx he.pe hs hf) fun Dn σ H ⟨cn, f, Γ, R, h⟩ => ⟨cn, f, Γ, R, M.wp_mono (M.wp_bind.mp h) (fun d q w H1 k1 g1 r1 => ?_) fun _ x => x⟩⟩
  exact q f _ H1 ((Hs.kx k1).trans .setV) ((R.kx k1 g1).setV r1)
end
end Px

set_option Elab.async false
set_option linter.all false
set_option maxRecDepth 100000
set_option autoImplicit false
namespace Px
open PySem PySem.Spec PyProof.Rows L2
section
variable {K : PySem.W.Frag} {A : Am} {cn : Cn} {f : Nat → Addr} {σ : L2.St} {H H' : Hp} {Γ : Ga} {a b : Addr} {d : D} {w : V}
/-! ### what is made is hidden until it has a name -/
def Cn.plus (cn : Cn) (as : List Addr) : Cn := ⟨cn.lk, as ++ cn.hd, cn.e⟩
theorem fz_plus (as : List Addr) : Fz A (cn.plus as) f Γ b ↔ Fz A cn f Γ b ∧ b ∉ as := by
  unfold Fz Cn.plus
  simp only [List.mem_append, not_or]
  exact ⟨fun h => ⟨⟨h.1, h.2.1.2, h.2.2⟩, h.2.1.1⟩, fun h => ⟨h.1.1, ⟨h.2, h.1.2.1⟩, h.1.2.2⟩⟩
theorem Rl.hide (R : Rl K A cn f σ H Γ) (k : Kx A.gh.Z H H') (g : A.gh.G H') {as : List Addr} (hn : ∀ a, a ∈ as → H a = none ∧ ∃ o, H' a = some o ∧ Mut (some o)) : Rl K A (cn.plus as) f σ H' Γ := by
  have R1 := R.kx k g
  have pp : ∀ b u, Fz A cn f Γ b → Rd H b u → Fz A (cn.plus as) f Γ b := fun b u p r => (fz_plus as).mpr ⟨p, fun z => by
    obtain ⟨o, e⟩ := rd_some r
    rw [(hn b z).1] at e; cases e⟩
  refine ⟨R.len, g, R1.keep, fun b ob hb => ?_, fun b hb => ?_, fun i d e => ?_, fun i d e => ?_, R.inj⟩
  · obtain ⟨p, u, e⟩ := R.lkf b ob hb
    exact ⟨pp b (.frz ob u) p (.inl e), (R1.lkf b ob hb).2⟩
  · rcases List.mem_append.mp hb with hb | hb
    · exact ⟨(fun z => by obtain ⟨xs, e⟩ := A.gh.gz H b R.g z; rw [(hn b hb).1] at e; cases e), (hn b hb).2⟩
    · exact R1.hdm b hb
  · obtain ⟨w, h1, h2⟩ := R.sl i d e
    exact ⟨w, h1, h2.mono (R.ho k) pp⟩
  · obtain ⟨h1, h2, h3, h4⟩ := R.ow i d e
    refine ⟨h1, h2, fun z => ?_, h4.mono (R.ho k) pp fun u => k _ _ (R.own_nz e).1⟩
    rcases List.mem_append.mp z with z | z
    · obtain ⟨o, q, _⟩ := h4.mut
      rw [(hn _ z).1] at q; cases q
    · exact h3 z
/-- the hidden one gets the name i -/
theorem Rl.unhide {as : List Addr} (R : Rl K A (cn.plus (a :: as)) f σ H Γ) (ha : a ∉ as) (hc : a ∉ cn.hd) (h0 : A.H0 a = none) {i : Nat} (o : Ow K H (Fz A (cn.plus (a :: as)) f Γ) a d) :
    Rl K A (cn.plus as) (fset f i a) (σ.set i (some (.ref a))) H (Γ.set i (.own d)) ∧ ∀ b, Fz A (cn.plus (a :: as)) f Γ b → Fz A (cn.plus as) (fset f i a) (Γ.set i (.own d)) b := by
  have pp : ∀ b, Fz A (cn.plus (a :: as)) f Γ b → Fz A (cn.plus as) (fset f i a) (Γ.set i (.own d)) b := fun b p => by
    obtain ⟨p1, p2⟩ := (fz_plus (a :: as)).mp p
    rw [List.mem_cons, not_or] at p2
    exact fz_setO ((fz_plus as).mpr ⟨p1, p2.2⟩) p2.1
  have other : ∀ {j : Nat} {e : D}, Γ[j]? = some (.own e) → f j ≠ a := fun {j e} hj z => by
    obtain ⟨_, _, h3, _⟩ := R.ow j e hj
    exact h3 (by rw [z]; exact List.mem_append_left _ List.mem_cons_self)
  refine ⟨⟨by rw [List.length_set, List.length_set]; exact R.len, R.g, R.keep, fun b ob hb => ⟨pp b (R.lkf b ob hb).1, (R.lkf b ob hb).2⟩, fun b hb => R.hdm b (by
    rcases List.mem_append.mp hb with hb | hb
    · exact List.mem_append_left _ (List.mem_cons_of_mem _ hb)
    · exact List.mem_append_right _ hb), fun j e hj => ?_, fun j e hj => ?_, fun j l d' e hj hl ef => ?_⟩, pp⟩
  · rcases set_get hj with ⟨_, e2, _⟩ | ⟨ne, hj⟩
    · cases e2
    · obtain ⟨w', h1, h2⟩ := R.sl j e hj
      exact ⟨w', by rw [set_ne ne]; exact h1, h2.mono .refl fun b _ p _ => pp b p⟩
  · rcases set_get hj with ⟨e1, e2, hl⟩ | ⟨ne, hj⟩
    · cases e2
      rw [e1, fset_same]
      exact ⟨set_at (by rw [R.len]; exact hl), h0, fun z => (List.mem_append.mp z).elim ha hc, o.mono .refl (fun b _ p _ => pp b p) fun _ z => z⟩
    · rw [fset_ne ne]
      obtain ⟨h1, h2, h3, h4⟩ := R.ow j e hj
      refine ⟨by rw [set_ne ne]; exact h1, h2, fun z => h3 ?_, h4.mono .refl (fun b _ p _ => pp b p) fun _ z => z⟩
      rcases List.mem_append.mp z with z | z
      · exact List.mem_append_left _ (List.mem_cons_of_mem _ z)
      · exact List.mem_append_right _ z
  · rcases set_get hj with ⟨e1, _, _⟩ | ⟨ne, hj1⟩
    · rcases set_get hl with ⟨e2, _, _⟩ | ⟨ne2, hl1⟩
      · rw [e1, e2]
      · rw [e1, fset_same, fset_ne ne2] at ef
        exact absurd ef.symm (other hl1)
    · rcases set_get hl with ⟨e2, _, _⟩ | ⟨ne2, hl1⟩
      · rw [e2, fset_same, fset_ne ne] at ef
        exact absurd ef (other hj1)
      · rw [fset_ne ne, fset_ne ne2] at ef
        exact R.inj j l d' e hj1 hl1 ef
/-- values for slots: as: where the new ones lie -/
inductive RmL (K : PySem.W.Frag) (A : Am) (H : Hp) (P : Addr → Prop) : List Addr → List V → List Sl → Prop
  | nil : RmL K A H P [] [] []
  | v {as : List Addr} {w : V} {ws : List V} {d : D} {ss : List Sl} : Rp K H P w d → RmL K A H P as ws ss → RmL K A H P as (w :: ws) (.v d :: ss)
  | o {a : Addr} {as : List Addr} {ws : List V} {d : D} {ss : List Sl} : Ow K H P a d → A.H0 a = none → a ∉ as → RmL K A H P as ws ss → RmL K A H P (a :: as) (.ref a :: ws) (.own d :: ss)
theorem RmL.mono {P P' : Addr → Prop} (o : Ho P H H') (pp : ∀ a u, P a → Rd H a u → P' a) : ∀ {as : List Addr} {ws : List V} {ss : List Sl}, RmL K A H P as ws ss → (∀ a u, a ∈ as → H a = some u → H' a = some u) → RmL K A H' P' as ws ss
  | _, _, _, .nil, _ => .nil
  | _, _, _, .v h r, k => .v (h.mono o pp) (r.mono o pp k)
  | _, _, _, .o h h0 ha r, k => .o (h.mono o pp fun u => k _ u List.mem_cons_self) h0 ha (r.mono o pp fun a u hm => k a u (List.mem_cons_of_mem _ hm))
def setAll {α : Type} : List Nat → List α → List α → List α
  | i :: is, x :: xs, l => setAll is xs (l.set i x)
  | _, _, l => l
theorem assignAll : ∀ {as : List Addr} {ws : List V} {ss : List Sl} (is : List Nat) {f : Nat → Addr} {σ : L2.St} {Γ : Ga}, (∀ a, a ∈ as → a ∉ cn.hd) → RmL K A H (Fz A (cn.plus as) f Γ) as ws ss → is.length = ss.length → Rl K A (cn.plus as) f σ H Γ →
    ∃ f', Rl K A cn f' (setAll is (ws.map some) σ) H (setAll is ss Γ) ∧ ∀ b, Fz A (cn.plus as) f Γ b → Fz A cn f' (setAll is ss Γ) b
  | _, _, _, [], f, σ, Γ, _, .nil, _, R => ⟨f, R, fun b p => p⟩
  | _, _, _, [], _, _, _, _, .v _ _, hl, _ => by simp at hl
  | _, _, _, [], _, _, _, _, .o _ _ _ _, hl, _ => by simp at hl
  | _, _, _, i :: is, _, _, _, _, .nil, hl, _ => by simp at hl
  | as, _, _, i :: is, f, σ, Γ, hd, .v (w := w) (d := d) h r, hl, R => by
    have R1 := R.setV (i := i) h
    obtain ⟨f', R2, p2⟩ := assignAll is hd (r.mono .refl (fun a _ p _ => fz_setV (i := i) (d := d) p) fun _ _ _ z => z) (by simpa using hl) R1
    exact ⟨f', R2, fun b p => p2 b (fz_setV p)⟩
  | a :: as, _, _, i :: is, f, σ, Γ, hd, .o h h0 ha r, hl, R => by
    obtain ⟨R1, p1⟩ := R.unhide ha (hd a List.mem_cons_self) h0 (i := i) h
    obtain ⟨f', R2, p2⟩ := assignAll is (fun a hm => hd a (List.mem_cons_of_mem _ hm)) (r.mono .refl (fun b _ p _ => p1 b p) fun _ _ _ z => z) (by simpa using hl) R1
    exact ⟨f', R2, fun b p => p2 b (p1 b p)⟩
end
section
variable {X : Cx} {A : Am} {E : EN} {md md1 md2 md3 : Md} {e a b c : Expr} {es rest : List Expr} {st : Stmt} {sts st2 : List Stmt} {m ma mb mc : Ga → M D} {mT mU : Ga → M Bool} {ml : Ga → M (List Sl)} {m1 m2 : Ga → M (Ct × Ga)} {pos p : Pos} {x : Str}
def tM (K : PySem.W.Frag) (A : Am) (E : EN) (ml : Ga → M (List Sl)) : TA := fun σ H Q => ∃ cn f Γ, Rl K A cn f σ H Γ ∧
  (ml Γ).wp (fun ss => ∀ as ws H', Kx A.gh.Z H H' → A.gh.G H' → (∀ a, a ∈ as → H a = none) → Rl K A (cn.plus as) f σ H' Γ → RmL K A H' (Fz A (cn.plus as) f Γ) as ws ss → Q ws H') (xP A E cn)
structure PMV (X : Cx) (A : Am) (E : EN) (es : List Expr) (ml : Ga → M (List Sl)) : Prop where
  pa : PA X es (tM A.K A E ml)
  len : ∀ Γ Q E', (ml Γ).wp Q E' → (ml Γ).wp (fun ss => Q ss ∧ ss.length = es.length) E'
def nilS : Ga → M (List Sl) := fun _ => .ret []
def consS (m : Ga → M D) (ml : Ga → M (List Sl)) : Ga → M (List Sl) := fun Γ => m Γ >>= fun d => ml Γ >>= fun ss => .ret (.v d :: ss)
def consF (m : Ga → M D) (ml : Ga → M (List Sl)) : Ga → M (List Sl) := fun Γ => m Γ >>= fun d => ml Γ >>= fun ss => .ret (slF d :: ss)
theorem pmv_nil : PMV X A E [] nilS := ⟨imp_pa pa_nil fun σ H Q ⟨cn, f, Γ, R, h⟩ => h [] [] H .refl R.g (fun _ z => nomatch z) R .nil, fun _ _ _ h => ⟨h, rfl⟩⟩
theorem len_cons {m : Ga → M D} {ml : Ga → M (List Sl)} {g : D → Sl} {es : List Expr} (h2 : ∀ Γ Q E', (ml Γ).wp Q E' → (ml Γ).wp (fun ss => Q ss ∧ ss.length = es.length) E') (Γ : Ga) (Q : List Sl → Prop) (E' : Exn → Prop)
    (h : (m Γ >>= fun d => ml Γ >>= fun ss => M.ret (g d :: ss)).wp Q E') : (m Γ >>= fun d => ml Γ >>= fun ss => M.ret (g d :: ss)).wp (fun ss => Q ss ∧ ss.length = (e :: es).length) E' := by
  refine M.wp_bind.mpr (M.wp_mono (M.wp_bind.mp h) (fun d q => ?_) fun _ x => x)
  exact M.wp_bind.mpr (M.wp_mono (h2 Γ _ _ (M.wp_bind.mp q)) (fun ds q => ⟨q.1, congrArg (· + 1) q.2⟩) fun _ x => x)
theorem Rl.congr {K : PySem.W.Frag} {cn : Cn} {f : Nat → Addr} {σ : L2.St} {H : Hp} {Γ : Ga} {l l' : List Addr} (R : Rl K A (cn.plus l) f σ H Γ) (h : ∀ b, b ∈ l' ↔ b ∈ l) : Rl K A (cn.plus l') f σ H Γ := by
  have hh : ∀ b, b ∈ (cn.plus l').hd ↔ b ∈ (cn.plus l).hd := fun b => by show b ∈ l' ++ cn.hd ↔ b ∈ l ++ cn.hd; rw [List.mem_append, List.mem_append, h b]
  have ff : ∀ b, Fz A (cn.plus l) f Γ b → Fz A (cn.plus l') f Γ b := fun b p => ⟨p.1, fun z => p.2.1 ((hh b).mp z), p.2.2⟩
  exact ⟨R.len, R.g, R.keep, fun b ob hb => ⟨ff b (R.lkf b ob hb).1, (R.lkf b ob hb).2⟩, fun b hb => R.hdm b ((hh b).mp hb), fun i d e => let ⟨w, h1, h2⟩ := R.sl i d e; ⟨w, h1, h2.mono .refl fun b _ p _ => ff b p⟩,
    fun i d e => let ⟨h1, h2, h3, h4⟩ := R.ow i d e; ⟨h1, h2, fun z => h3 ((hh _).mp z), h4.mono .refl (fun b _ p _ => ff b p) fun _ z => z⟩, R.inj⟩
theorem pmv_s (h1 : PEV X A E .s e m) (h2 : PMV X A E es ml) (hs : starEach (e :: es) X.env = (false, eval e X.env) :: starEach es X.env := by rfl) : PMV X A E (e :: es) (consS m ml) := by
  refine ⟨imp_pa (pa_cons h1.pe h2.pa hs) fun σ H Q ⟨cn, f, Γ, R, h⟩ => ⟨cn, f, Γ, R, M.wp_mono (M.wp_bind.mp h) (fun d q w H1 k1 g1 r1 => ?_) fun _ x => x⟩, len_cons h2.len⟩
  have R1 := R.kx k1 g1
  refine ⟨cn, f, Γ, R1, M.wp_mono (M.wp_bind.mp q) (fun ds q as ws H2 k2 g2 n2 R2 r2 => ?_) fun _ x => x⟩
  exact q as (w :: ws) H2 (k1.trans k2) g2 (fun a hm => R.kx_none k1 g1 (n2 a hm)) R2 (.v (r1.mono (R1.ho k2) fun b u p r => (fz_plus as).mpr ⟨p, fun z => by obtain ⟨o, e⟩ := rd_some r; rw [n2 b z] at e; cases e⟩) r2)
theorem pmv_f (h1 : PEV X A E .f e m) (h2 : PMV X A E es ml) (hs : starEach (e :: es) X.env = (false, eval e X.env) :: starEach es X.env := by rfl) : PMV X A E (e :: es) (consF m ml) := by
  refine ⟨imp_pa (pa_cons h1.pe h2.pa hs) fun σ H Q ⟨cn, f, Γ, R, h⟩ => ⟨cn, f, Γ, R, M.wp_mono (M.wp_bind.mp h) (fun d q w H1 k1 g1 r1 => ?_) fun _ x => x⟩, len_cons h2.len⟩
  have R1 := R.kx k1 g1
  have plain : slF d = .v d → Rp A.K H1 (Fz A cn f Γ) w d → tM A.K A E ml σ H1 fun ws H2 => Q (w :: ws) H2 := fun e1 r1 => by
    refine ⟨cn, f, Γ, R1, M.wp_mono (M.wp_bind.mp q) (fun ds q as ws H2 k2 g2 n2 R2 r2 => ?_) fun _ x => x⟩
    refine q as (w :: ws) H2 (k1.trans k2) g2 (fun a hm => R.kx_none k1 g1 (n2 a hm)) R2 ?_
    rw [e1]
    exact .v (r1.mono (R1.ho k2) fun b u p r => (fz_plus as).mpr ⟨p, fun z => by obtain ⟨o, e⟩ := rd_some r; rw [n2 b z] at e; cases e⟩) r2
  have made : ∀ a, slF d = .own d → w = .ref a → H a = none → Ow A.K H1 (fun b => Fz A cn f Γ b ∧ b ≠ a) a d → tM A.K A E ml σ H1 fun ws H2 => Q (w :: ws) H2 := fun a e1 e2 hn ho => by
    subst e2
    have hm := ho.mut
    have R1' : Rl A.K A (cn.plus [a]) f σ H1 Γ := R.hide k1 g1 fun b hb => by
      have e : b = a := by simpa using hb
      subst e
      exact ⟨hn, hm⟩
    refine ⟨cn.plus [a], f, Γ, R1', M.wp_mono (M.wp_bind.mp q) (fun ds q as ws H2 k2 g2 n2 R2 r2 => ?_) fun _ x => x⟩
    have na : a ∉ as := fun z => by obtain ⟨o, e, _⟩ := hm; rw [n2 a z] at e; cases e
    have e3 : (cn.plus [a]).plus as = cn.plus (as ++ [a]) := by unfold Cn.plus; simp
    rw [e3] at R2 r2
    have ff : ∀ b, Fz A (cn.plus (as ++ [a])) f Γ b → Fz A (cn.plus (a :: as)) f Γ b := fun b p => by
      obtain ⟨p1, p2⟩ := (fz_plus _).mp p
      refine (fz_plus _).mpr ⟨p1, fun z => p2 ?_⟩
      rcases List.mem_cons.mp z with z | z
      · rw [z]; simp
      · exact List.mem_append_left _ z
    refine q (a :: as) (.ref a :: ws) H2 (k1.trans k2) g2 (fun b hb => ?_) (R2.congr fun b => by simp [or_comm]) ?_
    · rcases List.mem_cons.mp hb with e | hb
      · rw [e]; exact hn
      · exact R.kx_none k1 g1 (n2 b hb)
    · rw [e1]
      have hz : ¬ A.gh.Z a := A.nz0 (R.h0_none hn)
      refine .o (ho.mono (R1.ho k2 |> fun o => ⟨fun b u p r => o.ex b u p.1 r, o.tp⟩) (fun b u p r => (fz_plus _).mpr ⟨p.1, fun z => ?_⟩) fun u => k2 a u hz) (R.h0_none hn) na (r2.mono .refl (fun b _ p _ => ff b p) fun _ _ _ z => z)
      rcases List.mem_cons.mp z with z | z
      · exact p.2 z
      · obtain ⟨o, e⟩ := rd_some r
        rw [n2 b z] at e; cases e
  cases d with
  | lst ds => obtain ⟨a, e, hn, ho⟩ := r1; exact made a rfl e hn ho
  | dct t kvs => obtain ⟨a, e, hn, ho⟩ := r1; exact made a rfl e hn ho
  | non => exact plain rfl r1
  | bl b => exact plain rfl r1
  | int i => exact plain rfl r1
  | str x => exact plain rfl r1
  | tup ds => exact plain rfl r1
  | raw v => exact plain rfl r1
def parM (is : List Nat) (ml : Ga → M (List Sl)) : Ga → M (Ct × Ga) := fun Γ => ml Γ >>= fun ss => .ret (.nx, setAll is ss Γ)
theorem RmL.length {K : PySem.W.Frag} {H : Hp} {P : Addr → Prop} : ∀ {as : List Addr} {ws : List V} {ss : List Sl}, RmL K A H P as ws ss → ws.length = ss.length
  | _, _, _, .nil => rfl
  | _, _, _, .v _ r => congrArg (· + 1) r.length
  | _, _, _, .o _ _ _ r => congrArg (· + 1) r.length
theorem par_end {is : List Nat} {cn : Cn} {f : Nat → Addr} {σ : L2.St} {H H' H2 : Hp} {Γ : Ga} {Dn : Ends} {as : List Addr} {ws : List V} {ss : List Sl} (R : Rl A.K A cn f σ H Γ) (hl : is.length = ss.length)
    (q : sP A.K A cn md f Γ H Dn (.nx, setAll is ss Γ)) (k : Kx A.gh.Z H H') (g : A.gh.G H') (n : ∀ a, a ∈ as → H a = none) (R' : Rl A.K A (cn.plus as) f σ H' Γ) (r : RmL A.K A H' (Fz A (cn.plus as) f Γ) as ws ss)
    (s2 : Same H' H2) : Dn.nx (setAll is (ws.map some) σ) H2 := by
  have R2 := R'.kx (same_kx s2) (A.gh.same g s2)
  have r2 := r.mono (P' := Fz A (cn.plus as) f Γ) (same_ho s2) (fun _ _ p _ => p) fun a u _ e => s2 a u e
  obtain ⟨f', R3, p3⟩ := assignAll is (fun a hm z => by obtain ⟨_, o, e, _⟩ := R.hdm a z; rw [n a hm] at e; cases e) r2 hl R2
  refine q f' _ H2 (fun b p u e => ⟨p3 b ((fz_plus as).mpr ⟨p, fun z => by rw [n b z] at e; cases e⟩), s2 _ _ (k b u p.nz e)⟩) R3
theorem psv_par2 {i j : Nat} {x y : Str} {px py pt : Pos} {kt k2 : Nat} {pt2 : Pos} (hc : X.calm = true) (hN : X.N.Nodup) (hi : X.N[i]? = some x) (hj : X.N[j]? = some y) (hij : i ≠ j) (hx : X.env.scope.names.lookup x = some .local) (hy : X.env.scope.names.lookup y = some .local)
    (ha : PMV X A E [a, b] ml) (hw : swappedStores [.Tuple [.Name x px, .Name y py] kt pt] (.Tuple [a, b] k2 pt2) X.env = pure (some [x, y])) (hs : swapsWithSole [.Tuple [.Name x px, .Name y py] kt pt] (.Tuple [a, b] k2 pt2) pos.line X.env = pure false := by rfl) :
    PSV X A E md (.Assign [.Tuple [.Name x px, .Name y py] kt pt] (.Tuple [a, b] k2 pt2) pos) (parM [i, j] ml) := by
  refine ⟨imp_ps (ps_par hc hN hi hj hij hx hy ha.pa hw hs) fun Dn σ H ⟨cn, f, Γ, R, h⟩ => ⟨cn, f, Γ, R, M.wp_mono (ha.len _ _ _ (M.wp_bind.mp h)) (fun ss q as ws H1 k1 g1 n1 R1 r1 => ?_) fun _ x => x⟩⟩
  obtain ⟨q, hl⟩ := q
  have e := par_end (H2 := H1) R (is := [i, j]) hl.symm q k1 g1 n1 R1 r1 fun _ _ e => e
  have hw : ws.length = 2 := by rw [r1.length, hl]; rfl
  match ws, hw with
  | [v, w], _ => exact ⟨v, w, rfl, e⟩
theorem psv_par3 {i j l : Nat} {x y z : Str} {px py pz pt : Pos} {kt k2 : Nat} {pt2 : Pos} (hc : X.calm = true) (hN : X.N.Nodup) (hi : X.N[i]? = some x) (hj : X.N[j]? = some y) (hl : X.N[l]? = some z) (hij : i ≠ j) (hil : i ≠ l) (hjl : j ≠ l) (hx : X.env.scope.names.lookup x = some .local)
    (hy : X.env.scope.names.lookup y = some .local) (hz : X.env.scope.names.lookup z = some .local) (ha : PMV X A E [a, b, c] ml) (hw : swappedStores [.Tuple [.Name x px, .Name y py, .Name z pz] kt pt] (.Tuple [a, b, c] k2 pt2) X.env = pure (some [x, y, z]))
    (hs : swapsWithSole [.Tuple [.Name x px, .Name y py, .Name z pz] kt pt] (.Tuple [a, b, c] k2 pt2) pos.line X.env = pure false := by rfl) :
    PSV X A E md (.Assign [.Tuple [.Name x px, .Name y py, .Name z pz] kt pt] (.Tuple [a, b, c] k2 pt2) pos) (parM [i, j, l] ml) := by
  refine ⟨imp_ps (ps_par3 hc hN hi hj hl hij hil hjl hx hy hz ha.pa hw hs) fun Dn σ H ⟨cn, f, Γ, R, h⟩ => ⟨cn, f, Γ, R, M.wp_mono (ha.len _ _ _ (M.wp_bind.mp h)) (fun ss q as ws H1 k1 g1 n1 R1 r1 => ?_) fun _ x => x⟩⟩
  obtain ⟨q, hl⟩ := q
  have e := par_end (H2 := H1) R (is := [i, j, l]) hl.symm q k1 g1 n1 R1 r1 fun _ _ e => e
  have hw : ws.length = 3 := by rw [r1.length, hl]; rfl
  match ws, hw with
  | [v1, v2, v3], _ => exact ⟨v1, v2, v3, rfl, e⟩
end
end Px

set_option Elab.async false
set_option linter.all false
set_option maxRecDepth 100000
set_option autoImplicit false
namespace Px
open PySem PySem.Spec PyProof.Rows L2

/-! ### sources: a list, a tuple, a text -/
inductive Src where
  | l (a : Addr) (xs : List V) | t (a : Addr) (xs : List V) | z (x : Str)
def Src.v : Src → V
  | .l a _ => .ref a
  | .t a _ => .ref a
  | .z x => .str x
def Src.n : Src → Nat
  | .l _ xs => xs.length
  | .t _ xs => xs.length
  | .z x => x.cps.size
def Src.ok (K : PySem.W.Frag) (H : Hp) : Src → Prop
  | .l a xs => SqL K H a xs
  | .t a xs => SqT K H a xs
  | .z _ => True
def Src.at (s : Src) (i : Nat) : Option V := match s with
  | .l _ xs => xs[i]?
  | .t _ xs => xs[i]?
  | .z x => x.cps[i]?.map fun c => .str ⟨#[c]⟩
theorem Src.at_some {s : Src} {i : Nat} (h : i < s.n) : ∃ x, s.at i = some x := by
  cases s with
  | l a xs => exact ⟨_, List.getElem?_eq_getElem h⟩
  | t a xs => exact ⟨_, List.getElem?_eq_getElem h⟩
  | z x => exact ⟨_, by show (x.cps[i]?.map _) = _; rw [Array.getElem?_eq_getElem (show i < x.cps.size from h)]; rfl⟩
/-- an iterator over it, i items gone -/
def Src.it (s : Src) (tk : Tok) (it : Addr) (i : Nat) (h : Heap) : Prop := match s with
  | .l a _ => h.IsListIter it a i
  | .t a _ => h.IsTupleIter it a i
  | .z x => h.IsStrIter it (strIterType x) x tk i
def Src.obj (s : Src) (tk : Tok) : Obj := match s with
  | .l a _ => { cls := .type "list_iterator", data := .fields #[.ref a, .int 0 0] }
  | .t a _ => { cls := .type "tuple_iterator", data := .fields #[.ref a, .int 0 0] }
  | .z x => { cls := .type (strIterType x), data := .fields #[.str x tk, .int 0 0] }
theorem Src.it_at {s : Src} {tk : Tok} {it : Addr} {i : Nat} {h h' : Heap} (x : s.it tk it i h) (k : ∀ o, h.get? it = some o → h'.get? it = some o) : s.it tk it i h' := by
  cases s with
  | l a xs => exact x.at k
  | t a xs => exact x.at k
  | z y => obtain ⟨o, e, r⟩ := x; exact ⟨o, k o e, r⟩
theorem Src.it_obj {s : Src} {tk : Tok} {it : Addr} {i : Nat} {h : Heap} (x : s.it tk it i h) : ∃ o, h.get? it = some o ∧ ∀ v, o.data ≠ .cell v := by
  cases s with
  | l a xs => obtain ⟨o, e, _, d⟩ := x; exact ⟨o, e, fun v q => by rw [d] at q; cases q⟩
  | t a xs => obtain ⟨o, e, _, d⟩ := x; exact ⟨o, e, fun v q => by rw [d] at q; cases q⟩
  | z y => obtain ⟨o, e, _, d⟩ := x; exact ⟨o, e, fun v q => by rw [d] at q; cases q⟩
theorem Src.it_new {s : Src} {tk : Tok} {it : Addr} {h : Heap} (x : h.get? it = some (s.obj tk)) : s.it tk it 0 h := by
  cases s with
  | l a xs => exact ⟨_, x, rfl, rfl⟩
  | t a xs => exact ⟨_, x, rfl, rfl⟩
  | z y => exact ⟨_, x, rfl, rfl⟩
def Src.tok (_ : Src) (v : Value) : Tok := match v with
  | Value.str _ tk => tk
  | _ => 0
section
variable {X : Cx} {pins : List (Addr × Obj)} {σ : L2.St} {H : Hp} {s : Shared}
/-- what an iterator over it draws -/
theorem Src.draws (I : Inv X pins σ H s) {A : Around} (hh : A.handled = none) {src : Src} {v : Value} (rv : RelV src.v v) (ok : src.ok X.K H) {it : Addr} (hn : H it = none) (hb : X.base.get? it = none) :
    ∃ (fp : List Addr) (P : Nat → Value → Prop) (SS : Heap → Prop), Draws X.prog X.w A it (it :: fp) src.n P (fun i h => src.it (src.tok v) it i h ∧ SS h) ∧ SS s.heap ∧ it ∉ fp ∧ (∀ b, b ∈ fp → ∃ o, s.heap.get? b = some o ∧ (H b ≠ none ∨ X.base.get? b ≠ none)) ∧ (∀ i u, P i u → ∃ x, src.at i = some x ∧ RelV x u) := by
  cases src with
  | l a xs =>
    cases rv
    obtain ⟨its, r, p, hz⟩ := I.list ok
    have hne : a ≠ it := fun e => by
      subst e
      rcases ok with h | ⟨o, _, _, hk, _⟩
      · rcases h with h | ⟨o, h⟩
        · rw [hn] at h; cases h
        · rw [hn] at h; cases h
      · have q := I.ok.mod.kin a o hk
        rw [hb] at q; cases q
    refine ⟨[a], fun i u => its.toArray[i]? = some u, fun h => h.IsList a its.toArray, ?_, p.isList, by simpa using Ne.symm hne, fun b hb => ?_, fun i u e => ?_⟩
    · have := Draws.list (prog := X.prog) (w := X.w) hh it a hne its.toArray
      have e : its.toArray.size = (Src.l a xs).n := by show its.toArray.size = xs.length; rw [List.size_toArray]; exact r.length.symm
      rw [← e]; exact this
    · have e : b = a := by simpa using hb
      subst e
      obtain ⟨o, n, e, _⟩ := p
      refine ⟨o, e, ?_⟩
      rcases ok with h | ⟨o, _, _, hk, _⟩
      · rcases h with h | ⟨o, h⟩
        · exact .inl (by rw [h]; simp)
        · exact .inl (by rw [h]; simp)
      · exact .inr (by rw [I.ok.mod.kin _ o hk]; simp)
    · have e' : its[i]? = some u := by simpa using e
      have hl : i < xs.length := by rw [r.length]; exact (List.getElem?_eq_some_iff.mp e').1
      obtain ⟨u', h1, h2⟩ := r.get (List.getElem?_eq_getElem hl)
      rw [e'] at h1; cases h1
      exact ⟨_, List.getElem?_eq_getElem hl, h2⟩
  | t a xs =>
    cases rv
    obtain ⟨its, r, p, hz⟩ := I.tuple ok
    have hne : a ≠ it := fun e => by
      subst e
      rcases ok with h | ⟨o, _, _, hk, _⟩
      · rcases h with h | ⟨o, h⟩
        · rw [hn] at h; cases h
        · rw [hn] at h; cases h
      · have q := I.ok.mod.kin a o hk
        rw [hb] at q; cases q
    refine ⟨[a], fun i u => its.toArray[i]? = some u, fun h => h.IsTuple a its.toArray, ?_, p, by simpa using Ne.symm hne, fun b hb => ?_, fun i u e => ?_⟩
    · have := Draws.tuple (prog := X.prog) (w := X.w) hh it a hne its.toArray
      have e : its.toArray.size = (Src.t a xs).n := by show its.toArray.size = xs.length; rw [List.size_toArray]; exact r.length.symm
      rw [← e]; exact this
    · have e : b = a := by simpa using hb
      subst e
      obtain ⟨o, e, _⟩ := p
      refine ⟨o, e, ?_⟩
      rcases ok with h | ⟨o, _, _, hk, _⟩
      · rcases h with h | ⟨o, h⟩
        · exact .inl (by rw [h]; simp)
        · exact .inl (by rw [h]; simp)
      · exact .inr (by rw [I.ok.mod.kin _ o hk]; simp)
    · have e' : its[i]? = some u := by simpa using e
      have hl : i < xs.length := by rw [r.length]; exact (List.getElem?_eq_some_iff.mp e').1
      obtain ⟨u', h1, h2⟩ := r.get (List.getElem?_eq_getElem hl)
      rw [e'] at h1; cases h1
      exact ⟨_, List.getElem?_eq_getElem hl, h2⟩
  | z x =>
    obtain ⟨t, rfl⟩ := rv
    refine ⟨[], fun i v => ∃ c u, x.cps[i]? = some c ∧ v = .str ⟨#[c]⟩ u, fun _ => True, ?_, trivial, (by simp), (fun b hb => absurd hb (by simp)), fun i u h => ?_⟩
    · have D := Draws.text (prog := X.prog) (w := X.w) hh it x t
      exact ⟨fun i h st => D.live i h st.1, fun i h h' st k => ⟨D.frame i h h' st.1 k, trivial⟩, fun i s Q E hi st q => D.item i s Q E hi st.1 fun x h' tk a b c => q x h' tk a ⟨b, trivial⟩ c, fun s Q E st q => D.done s Q E st.1 q⟩
    · obtain ⟨c, u', h1, h2⟩ := h
      subst h2
      exact ⟨.str ⟨#[c]⟩, by show x.cps[i]?.map _ = _; rw [h1]; rfl, ⟨u', rfl⟩⟩
theorem Src.begins (I : Inv X pins σ H s) {src : Src} {v : Value} (rv : RelV src.v v) (ok : src.ok X.K H) : ∃ SS : Heap → Prop, Begins v (src.obj (src.tok v)) SS ∧ SS s.heap := by
  cases src with
  | l a xs =>
    cases rv
    obtain ⟨its, r, p, hz⟩ := I.list ok
    exact ⟨_, begins_list a its.toArray, p.isList⟩
  | t a xs =>
    cases rv
    obtain ⟨its, r, p, hz⟩ := I.tuple ok
    exact ⟨_, begins_tuple a its.toArray, p⟩
  | z x =>
    obtain ⟨t, rfl⟩ := rv
    exact ⟨_, begins_text x t, trivial⟩
theorem Src.inj (I : Inv X pins σ H s) {src src' : Src} (e : src.v = src'.v) (h : src.ok X.K H) (h' : src'.ok X.K H) : ∀ i, src.at i = src'.at i := fun i => by
  have ex : ∀ {a : Addr} {xs ys : List V}, SqL X.K H a xs → SqT X.K H a ys → False := fun {a xs ys} h1 h2 => by
    obtain ⟨_, _, ⟨o, n, e1, c1, _⟩, _⟩ := I.list h1
    obtain ⟨_, _, ⟨o', e2, c2, _⟩, _⟩ := I.tuple h2
    rw [e1] at e2; cases e2
    rw [c1] at c2; exact absurd (Value.type.inj c2) (by decide)
  cases src with
  | l a xs => cases src' with
    | l b ys => cases e; show xs[i]? = ys[i]?; rw [I.list_inj h h']
    | t b ys => cases e; exact (ex h h').elim
    | z y => cases e
  | t a xs => cases src' with
    | l b ys => cases e; exact (ex h' h).elim
    | t b ys => cases e; show xs[i]? = ys[i]?; rw [I.tuple_inj h h']
    | z y => cases e
  | z x => cases src' with
    | l b ys => cases e
    | t b ys => cases e
    | z y => cases e; rfl
end

/-! ### enumerate(v) -/
set_option maxHeartbeats 1000000 in
theorem meets_enumerate_new1 {v : Value} {o : Obj} {H : Heap → Prop} (B : Begins v o H) :
    Meets (Builtin.«enumerate.__new__» ⟨[.type "enumerate", v], []⟩) (fun _ R s => H s.heap ∧
      R (.ok (.ret (.ref (s.heap.push o).objs.size))) { s with heap := (s.heap.push o).push { cls := .type "enumerate", data := .fields #[.none, .bool false, .ref s.heap.objs.size, rawInt 0, .none, .none] } }) :=
  .of_wp fun prog w A R s h => by
    obtain ⟨hp, g, d, tk, os⟩ := s; obtain ⟨h1, h⟩ := h
    have hsub := sub_enumerate
    have q1 : ∀ {A' : Around} {E : Value → Shared → Prop} {Q : Value → Shared → Prop}, Q (.ref hp.objs.size) ⟨hp.push o, g, d, tk, os⟩ → wpAny (model prog w) A' (pyIter v) Q E ⟨hp, g, d, tk, os⟩ :=
      fun q => B.iter prog w _ _ ⟨hp, g, d, tk, os⟩ _ h1 q
    wp_walk using q1
    refine wpAny_stack_any fun st => wpAny_pure ?_
    split
    · rename_i c _ _ _ _ _
      cases (c == Value.type "enumerate")
      · wp_walk using q1
        exact ⟨_, rfl, h⟩
      · wp_walk using q1
        exact ⟨_, rfl, h⟩
    · wp_walk using q1
      exact ⟨_, rfl, h⟩
theorem enum_begins1 {prog : Program} {w : World} {A : Around} {E : Value → Shared → Prop} {s : Shared} {v : Value} {o : Obj} {H : Heap → Prop} {Q : Value → Shared → Prop} (B : Begins v o H) (h1 : H s.heap)
    (h : ∀ h', IsEnum h' (s.heap.objs.size + 1) s.heap.objs.size 0 .none → h'.get? s.heap.objs.size = some o → h'.objs.size = s.heap.objs.size + 2 →
      (∀ b o, s.heap.get? b = some o → h'.get? b = some o) → Q (.ref (s.heap.objs.size + 1)) { s with heap := h' }) :
    wpAny (model prog w) A (call (.type "enumerate") [v]) Q E s := by
  refine callType_new F.called_enumerate (by decide) (F.typeCall_enumerate_1 _) (F.newCall_enumerate_1 _) (fun obj => F.args_object_init_2 obj _) F.entry_enumerate_new (meets_enumerate_new1 B) ⟨h1, ?_⟩
  have hz : (s.heap.push o).objs.size = s.heap.objs.size + 1 := Heap.size_push ..
  show _ ∧ _
  rw [hz]
  have he : IsEnum ((s.heap.push o).push { cls := .type "enumerate", data := .fields #[.none, .bool false, .ref s.heap.objs.size, rawInt 0, .none, .none] }) (s.heap.objs.size + 1) s.heap.objs.size 0 .none := by
    have := Heap.get?_push_size (s.heap.push o) (o := { cls := .type "enumerate", data := .fields #[.none, .bool false, .ref s.heap.objs.size, rawInt 0, .none, .none] }) rfl
    rw [hz] at this; exact this
  refine ⟨⟨_, he, rfl⟩, h _ he (Heap.get?_push_of_some _ (Heap.get?_push_size _ B.free)) (by rw [Heap.size_push, hz]) fun b o x => Heap.get?_push_of_some _ (Heap.get?_push_of_some _ x)⟩
/-- pairs of a number and an item -/
def Iten (K : PySem.W.Frag) (src : Src) : It :=
  ⟨fun i H => src.ok K H ∧ i < src.n, fun i H v H' => ∃ T x, v = .ref T ∧ H T = none ∧ H' = upd H T (.tup [.int (i : Nat), x]) ∧ src.at i = some x, fun i H => src.ok K H ∧ i = src.n⟩
theorem turn_en {P : Program} {w : World} {K : PySem.W.Frag} {elts : List Expr} {kk : Nat} {tpos : Pos} (src : Src) (v : Value) (rv : RelV src.v v) (e it : Addr) (hb : ∀ (X : Cx), X.K = K → ∀ (pins : List (Addr × Obj)) (s : Shared) (σ : L2.St) (H : Hp), Inv X pins σ H s → FpOk X pins H it → X.base.get? it = none) :
    Turn P w K (.Tuple elts kk tpos) (Iten K src) [e, it] e (fun i h => (∃ old, IsEnum h e it ((i : Nat) : Int) old) ∧ src.it (src.tok v) it i h ∧ e ≠ it) where
  mem := by simp
  obj := fun i h st b hb => by
    obtain ⟨⟨old, he⟩, hi, _⟩ := st
    have e' : b = e ∨ b = it := by simpa using hb
    rcases e' with z | z
    · rw [z]; exact ⟨_, he, fun v q => nomatch q⟩
    · rw [z]; exact Src.it_obj hi
  keep := fun i h h' st k => let ⟨⟨old, he⟩, hi, hne⟩ := st; ⟨⟨old, k e (by simp) _ he⟩, Src.it_at hi fun o q => k it (by simp) o q, hne⟩
  item := by
    intro X hP hw hK hc i pins s σ H E I hf st hg
    subst hP hw hK
    obtain ⟨⟨old, he⟩, hit, hne⟩ := st
    obtain ⟨ok, hi⟩ := hg
    obtain ⟨fp, P, SS, D, ss, nfp, hfp, hP⟩ := Src.draws I (A := X.A.in1) (I.ok.hd hc) rv ok (hf it (by simp)).1 (hb X rfl pins s σ H I (hf it (by simp)))
    have hel : e < s.heap.objs.size := Heap.lt_size he
    have hil : it < s.heap.objs.size := by obtain ⟨_, q, _⟩ := Src.it_obj hit; exact Heap.lt_size q
    have hef : e ∉ it :: fp := fun z => by
      rcases List.mem_cons.mp z with z | z
      · exact hne z
      · obtain ⟨o, ho, hh⟩ := hfp e z
        rcases hh with hh | hh
        · exact hh (hf e (by simp)).1
        · cases q : X.base.get? e with
          | none => exact hh q
          | some u =>
            have := I.bk e u q
            rw [he] at this
            have q2 := (hf e (by simp))
            exact hh (by
              have := I.ok.bs e u q
              rcases q2.2.2.2.1 with z | z
              · exact absurd z (I.ok.noex e u q)
              · exact absurd (Nat.lt_of_lt_of_le (Heap.lt_size q) (Nat.le_trans I.ok.bsz z)) (Nat.lt_irrefl _))
    refine wpAny_pyNext_enum_itemC D he ⟨hit, ss⟩ hi hne hef fun u h' tk hPu ho st' hT hsz hk => ?_
    obtain ⟨x, hx, ru⟩ := hP i u hPu
    refine ⟨_, rfl, wpAny_letOwnedTupleGo_enum (s := { s with heap := h', toks := tk + 1 }) ho fun h'' he' sb => ?_⟩
    have hT2 : h''.get? s.heap.objs.size = some { cls := .type "tuple", data := .seq #[.int i tk, u] } := (sb.2 _ (Nat.ne_of_gt hel)).trans hT
    have new : ObjOk X.prog X.w (upd H s.heap.objs.size (.tup [.int (i : Nat), x])) h'' s.heap.objs.size (.tup [.int (i : Nat), x]) :=
      ⟨by show 2 ≤ sizeLine; decide, [.int i tk, u], .cons ⟨_, rfl⟩ (.cons ru .nil), ⟨_, hT2, rfl, _, rfl⟩⟩
    have I1 : Inv X pins σ (upd H s.heap.objs.size (.tup [.int (i : Nat), x])) { s with heap := h'', toks := tk + 1 } :=
      I.turnedNew (ch := [e, it]) (fun b ob hb q => (sb.2 b (fun z => hb (by simp [z]))).trans (hk b ob (fun z => hb (by simp [z])) (fun z => hb (by simp [z])) q)) hf (Nat.le_refl _) new
    refine ⟨.ref s.heap.objs.size, _, I1, rfl, ⟨_, x, rfl, I.hok.fresh (Nat.le_refl _), rfl, hx⟩, ⟨⟨u, ?_⟩, Src.it_at st'.1 fun o q => (sb.2 it (Ne.symm hne)).trans q, hne⟩, fun b hb => ?_⟩
    · have e1 : ((i + 1 : Nat) : Int) = (i : Int) + 1 := by omega
      rw [e1]; exact he'
    · have hb' : b < s.heap.objs.size := by
        have e' : b = e ∨ b = it := by simpa using hb
        rcases e' with z | z
        · rw [z]; exact hel
        · rw [z]; exact hil
      rw [upd_ne (Nat.ne_of_lt hb')]
      exact (hf b hb).1
  done := by
    intro X hP hw hK hc i pins s σ H E I hf st hg
    subst hP hw hK
    obtain ⟨⟨old, he⟩, hit, hne⟩ := st
    obtain ⟨ok, rfl⟩ := hg
    obtain ⟨fp, P, SS, D, ss, nfp, hfp, hP⟩ := Src.draws I (A := X.A.in1) (I.ok.hd hc) rv ok (hf it (by simp)).1 (hb X rfl pins s σ H I (hf it (by simp)))
    obtain ⟨f0, f1, f2, f3, f4, f5⟩ := hf it (by simp)
    exact wpAny_pyNext_enum_endD D he ⟨hit, ss⟩ fun h' eb => ⟨rfl, I.turned (t' := s.toks) (fun b o hb q => eb b o hb q) f0 f1 f3 f4 f5⟩
  self := fun A i s Q E st h => let ⟨⟨_, he⟩, _⟩ := st; wpAny_pyIter_enum he h

theorem fp_base {X : Cx} {pins : List (Addr × Obj)} {s : Shared} {σ : L2.St} {H : Hp} (I : Inv X pins σ H s) {it : Addr} (h : FpOk X pins H it) : X.base.get? it = none := by
  cases q : X.base.get? it with
  | none => rfl
  | some u =>
    rcases h.2.2.2.1 with z | z
    · exact absurd z (I.ok.noex it u q)
    · exact absurd (Nat.lt_of_lt_of_le (Heap.lt_size q) (Nat.le_trans I.ok.bsz z)) (Nat.lt_irrefl _)
/-- one argument: what it is walked as -/
def iEn (K : PySem.W.Frag) (ta : TA) : TI := fun σ H R => ta σ H fun vs H1 => ∃ src : Src, vs = [src.v] ∧ src.ok K H1 ∧ (src.n ≤ sizeLine ∨ (∃ z, src = .z z) → R (Iten K src) H1)
theorem Src.size {X : Cx} {pins : List (Addr × Obj)} {s : Shared} {σ : L2.St} {H : Hp} (I : Inv X pins σ H s) {src : Src} (ok : src.ok X.K H) : src.n ≤ sizeLine ∨ ∃ z, src = .z z := by
  cases src with
  | l a xs => exact .inl (I.list ok).choose_spec.2.2
  | t a xs => exact .inl (I.tuple ok).choose_spec.2.2
  | z x => exact .inr ⟨x, rfl⟩
theorem pi_en {X : Cx} {e : Expr} {ta : TA} {p pos tpos : Pos} {elts : List Expr} {kk : Nat} (hg : Gl X "enumerate") (hm : X.mg "enumerate" = none) (ha : PA X [e] ta) (hs : starEach [e] X.env = [(false, eval e X.env)] := by rfl) :
    PI X (.Tuple elts kk tpos) (.Call (.Name "enumerate" p) [e] [] pos) (iEn X.K ta) := by
  refine ⟨fun pins s σ H R I h => ?_⟩
  refine Call_ (ld_blt I hg hm boot_enumerate (PyProof.Rows.callWith_type1 (thn (ha.run pos pins s σ H _ I h) fun us s1 ⟨vs, H1, I1, r1, q1⟩ => ?_) hs rfl))
  obtain ⟨src, ex, ok, q⟩ := q1
  subst ex
  cases r1 with
  | cons r rr =>
    cases rr
    rename_i v _
    obtain ⟨SS, B, ss⟩ := Src.begins I1 r ok
    refine enum_begins1 B ss fun h' he hit hsz hk => wpAny_pyIter_enum he ?_
    have I2 : Inv X pins σ H1 { s1 with heap := h' } := I1.kept (t' := s1.toks) hk
    refine ⟨s1.heap.objs.size + 1, [s1.heap.objs.size + 1, s1.heap.objs.size], _, _, H1, rfl, I2, turn_en src v r (s1.heap.objs.size + 1) s1.heap.objs.size (fun X' hK pins s σ H I f => fp_base I f), ⟨⟨.none, he⟩, Src.it_new hit, Nat.succ_ne_self _⟩, fun b hb => ?_, q (Src.size I1 ok)⟩
    have e' : b = s1.heap.objs.size + 1 ∨ b = s1.heap.objs.size := by simpa using hb
    have hle : s1.heap.objs.size ≤ b := by
      rcases e' with z | z
      · rw [z]; exact Nat.le_add_right _ _
      · rw [z]; exact Nat.le_refl _
    exact I1.fpOk hle (I1.hok.fresh hle)
/-! ### zip(v, u) -/
def Itzp (K : PySem.W.Frag) (s1 s2 : Src) : It :=
  ⟨fun i H => s1.ok K H ∧ s2.ok K H ∧ i < s1.n ∧ i < s2.n, fun i H v H' => ∃ T x y, v = .ref T ∧ H T = none ∧ H' = upd H T (.tup [x, y]) ∧ s1.at i = some x ∧ s2.at i = some y, fun i H => s1.ok K H ∧ s2.ok K H ∧ i ≤ s1.n ∧ i ≤ s2.n ∧ (i = s1.n ∨ i = s2.n)⟩
/-- the cells of a zip, apart -/
structure ZpA (z TI TO i1 i2 : Addr) : Prop where
  a1 : TI ≠ z
  a2 : TO ≠ z
  a3 : TI ≠ TO
  a4 : TI ≠ i1
  a5 : TI ≠ i2
  a6 : z ≠ i1
  a7 : z ≠ i2
  a8 : TO ≠ i1
  a9 : TO ≠ i2
  b1 : i1 ≠ i2
theorem turn_zp {P : Program} {w : World} {K : PySem.W.Frag} {elts : List Expr} {kk : Nat} {tpos : Pos} (sa sb : Src) (va vb : Value) (ra : RelV sa.v va) (rb : RelV sb.v vb) {z TI TO i1 i2 : Addr} (Z : ZpA z TI TO i1 i2) :
    Turn P w K (.Tuple elts kk tpos) (Itzp K sa sb) [z, TI, TO, i1, i2] z (fun i h => IsZip h z TI TO .none ∧ IsTupOf2 h TI (.ref i1) (.ref i2) ∧ (∃ a1 a2, IsTupOf2 h TO a1 a2) ∧ sa.it (sa.tok va) i1 i h ∧ sb.it (sb.tok vb) i2 i h) where
  mem := by simp
  obj := fun i h st b hb => by
    obtain ⟨hz, hTI, ⟨a1, a2, hTO⟩, h1, h2⟩ := st
    have e' : b = z ∨ b = TI ∨ b = TO ∨ b = i1 ∨ b = i2 := by simpa using hb
    rcases e' with e | e | e | e | e
    · rw [e]; exact ⟨_, hz, fun v q => nomatch q⟩
    · rw [e]; exact ⟨_, hTI, fun v q => nomatch q⟩
    · rw [e]; exact ⟨_, hTO, fun v q => nomatch q⟩
    · rw [e]; exact Src.it_obj h1
    · rw [e]; exact Src.it_obj h2
  keep := fun i h h' st k => by
    obtain ⟨hz, hTI, ⟨a1, a2, hTO⟩, h1, h2⟩ := st
    exact ⟨k z (by simp) _ hz, k TI (by simp) _ hTI, ⟨a1, a2, k TO (by simp) _ hTO⟩, Src.it_at h1 fun o q => k i1 (by simp) o q, Src.it_at h2 fun o q => k i2 (by simp) o q⟩
  item := by
    intro X hP hw hK hc i pins s σ H E I hf st hg
    subst hP hw hK
    obtain ⟨hz, hTI, ⟨a1, a2, hTO⟩, h1, h2⟩ := st
    obtain ⟨ok1, ok2, hi1, hi2⟩ := hg
    have f1 := hf i1 (by simp)
    have f2 := hf i2 (by simp)
    obtain ⟨fp1, P1, S1, D1, ss1, n1, hfp1, hP1⟩ := Src.draws I (A := X.A.in1) (I.ok.hd hc) ra ok1 f1.1 (fp_base I f1)
    obtain ⟨fp2, P2, S2, D2, ss2, n2, hfp2, hP2⟩ := Src.draws I (A := X.A.in1) (I.ok.hd hc) rb ok2 f2.1 (fp_base I f2)
    have far1 : ∀ b ∈ [z, TI, TO, i1, i2], b ∉ fp1 := fun b hb q => by
      obtain ⟨o, ho, hh⟩ := hfp1 b q
      rcases hh with hh | hh
      · exact hh (hf b hb).1
      · exact hh (fp_base I (hf b hb))
    have far2 : ∀ b ∈ [z, TI, TO, i1, i2], b ∉ fp2 := fun b hb q => by
      obtain ⟨o, ho, hh⟩ := hfp2 b q
      rcases hh with hh | hh
      · exact hh (hf b hb).1
      · exact hh (fp_base I (hf b hb))
    have nin : ∀ {b c : Addr} {l : List Addr}, b ≠ c → b ∉ l → b ∉ c :: l := fun h1 h2 q => (List.mem_cons.mp q).elim h1 h2
    have S : ZipSep2 z TI TO i1 i2 (i1 :: fp1) (i2 :: fp2) := ⟨Z.a1, Z.a2, Z.a3, Z.a4, List.mem_cons_self, nin Z.a6 (far1 z (by simp)), nin Z.a8 (far1 TO (by simp)), Z.a5, List.mem_cons_self, nin Z.a7 (far2 z (by simp)), nin Z.a9 (far2 TO (by simp)), nin Z.b1 (far2 i1 (by simp)), nin (Ne.symm Z.b1) (far1 i2 (by simp))⟩
    refine wpAny_pyNext_zipD2_item S D1 D2 hz hTI hTO ⟨h1, ss1⟩ ⟨h2, ss2⟩ hi1 hi2 fun u1 u2 h' tk y1 y2 b1 b2 d1 d2 hT hsz hk => ?_
    obtain ⟨x, hx, rx⟩ := hP1 i u1 y1
    obtain ⟨y, hy, ry⟩ := hP2 i u2 y2
    have lt : ∀ {c : Addr} {o : Obj}, s.heap.get? c = some o → c < s.heap.objs.size := fun e => Heap.lt_size e
    have lz := lt hz
    refine ⟨_, rfl, wpAny_letOwnedTupleGo_zip (s := { s with heap := h', toks := tk }) b1 fun h'' hz' sb' => ?_⟩
    have hT2 : IsTupOf2 h'' s.heap.objs.size u1 u2 := (sb'.2 _ (Nat.ne_of_gt lz)).trans hT
    have new : ObjOk X.prog X.w (upd H s.heap.objs.size (.tup [x, y])) h'' s.heap.objs.size (.tup [x, y]) :=
      ⟨by show 2 ≤ sizeLine; decide, [u1, u2], .cons rx (.cons ry .nil), ⟨_, hT2, rfl, _, rfl⟩⟩
    have I1 : Inv X pins σ (upd H s.heap.objs.size (.tup [x, y])) { s with heap := h'', toks := tk } :=
      I.turnedNew (ch := [z, TI, TO, i1, i2]) (fun b ob hb q => (sb'.2 b (fun z => hb (by simp [z]))).trans (hk b ob (fun z => hb (by simp [z])) (fun z => hb (by simp [z])) (fun z => hb (by simp [z])) (fun z => hb (by simp [z])) q)) hf (Nat.le_refl _) new
    refine ⟨.ref s.heap.objs.size, _, I1, rfl, ⟨_, x, y, rfl, I.hok.fresh (Nat.le_refl _), rfl, hx, hy⟩, ⟨hz', (sb'.2 TI Z.a1).trans (hk TI _ Z.a1 Z.a3 Z.a4 Z.a5 hTI), ⟨_, _, (sb'.2 TO Z.a2).trans b2⟩, Src.it_at d1.1 fun o q => (sb'.2 i1 (Ne.symm Z.a6)).trans q, Src.it_at d2.1 fun o q => (sb'.2 i2 (Ne.symm Z.a7)).trans q⟩, fun b hb => ?_⟩
    have hb' : b < s.heap.objs.size := by
      have e' : b = z ∨ b = TI ∨ b = TO ∨ b = i1 ∨ b = i2 := by simpa using hb
      rcases e' with e | e | e | e | e
      · rw [e]; exact lz
      · rw [e]; exact lt hTI
      · rw [e]; exact lt hTO
      · rw [e]; obtain ⟨_, q, _⟩ := Src.it_obj h1; exact lt q
      · rw [e]; obtain ⟨_, q, _⟩ := Src.it_obj h2; exact lt q
    rw [upd_ne (Nat.ne_of_lt hb')]
    exact (hf b hb).1
  done := by
    intro X hP hw hK hc i pins s σ H E I hf st hg
    subst hP hw hK
    obtain ⟨hz, hTI, ⟨a1, a2, hTO⟩, h1, h2⟩ := st
    obtain ⟨ok1, ok2, hi1, hi2, hend⟩ := hg
    have f1 := hf i1 (by simp)
    have f2 := hf i2 (by simp)
    obtain ⟨fp1, P1, S1, D1, ss1, n1, hfp1, hP1⟩ := Src.draws I (A := X.A.in1) (I.ok.hd hc) ra ok1 f1.1 (fp_base I f1)
    obtain ⟨fp2, P2, S2, D2, ss2, n2, hfp2, hP2⟩ := Src.draws I (A := X.A.in1) (I.ok.hd hc) rb ok2 f2.1 (fp_base I f2)
    have far1 : ∀ b ∈ [z, TI, TO, i1, i2], b ∉ fp1 := fun b hb q => by
      obtain ⟨o, ho, hh⟩ := hfp1 b q
      rcases hh with hh | hh
      · exact hh (hf b hb).1
      · exact hh (fp_base I (hf b hb))
    have far2 : ∀ b ∈ [z, TI, TO, i1, i2], b ∉ fp2 := fun b hb q => by
      obtain ⟨o, ho, hh⟩ := hfp2 b q
      rcases hh with hh | hh
      · exact hh (hf b hb).1
      · exact hh (fp_base I (hf b hb))
    have nin : ∀ {b c : Addr} {l : List Addr}, b ≠ c → b ∉ l → b ∉ c :: l := fun h1 h2 q => (List.mem_cons.mp q).elim h1 h2
    have S : ZipSep2 z TI TO i1 i2 (i1 :: fp1) (i2 :: fp2) := ⟨Z.a1, Z.a2, Z.a3, Z.a4, List.mem_cons_self, nin Z.a6 (far1 z (by simp)), nin Z.a8 (far1 TO (by simp)), Z.a5, List.mem_cons_self, nin Z.a7 (far2 z (by simp)), nin Z.a9 (far2 TO (by simp)), nin Z.b1 (far2 i1 (by simp)), nin (Ne.symm Z.b1) (far1 i2 (by simp))⟩
    exact wpAny_pyNext_zipD2_end S D1 D2 hz hTI hTO ⟨h1, ss1⟩ ⟨h2, ss2⟩ hi1 hi2 hend fun h' tk hk => ⟨rfl, I.turnedL (t' := tk) (ch := [z, TI, TO, i1, i2]) (fun c o hb q =>
      hk c o (fun q' => hb (by simp [q'])) (fun q' => hb (by simp [q'])) (fun q' => hb (by simp [q'])) (fun q' => hb (by simp [q'])) q) hf⟩
  self := fun A i s Q E st h => wpAny_pyIter_zip st.1 h
def iZp (K : PySem.W.Frag) (ta : TA) : TI := fun σ H R => ta σ H fun vs H1 => ∃ sa sb : Src, vs = [sa.v, sb.v] ∧ sa.ok K H1 ∧ sb.ok K H1 ∧ ((sa.n ≤ sizeLine ∨ (∃ z, sa = .z z)) → (sb.n ≤ sizeLine ∨ (∃ z, sb = .z z)) → R (Itzp K sa sb) H1)
theorem pi_zp {X : Cx} {e e2 : Expr} {ta : TA} {p pos tpos : Pos} {elts : List Expr} {kk : Nat} (hg : Gl X "zip") (hm : X.mg "zip" = none) (ha : PA X [e, e2] ta)
    (hs : starEach [e, e2] X.env = (false, eval e X.env) :: starEach [e2] X.env := by rfl) (hpl : (backTo pos (starEach [e2] X.env)).any (·.1) = false := by rfl) :
    PI X (.Tuple elts kk tpos) (.Call (.Name "zip" p) [e, e2] [] pos) (iZp X.K ta) := by
  refine ⟨fun pins s σ H R I h => ?_⟩
  refine Call_ (ld_blt I hg hm PyProof.Rows.boot_zip (PyProof.Rows.callWith_type1 (thn (ha.run pos pins s σ H _ I h) fun us s1 ⟨vs, H1, I1, r1, q1⟩ => ?_) hs hpl))
  obtain ⟨sa, sb, ex, ok1, ok2, q⟩ := q1
  subst ex
  obtain ⟨va, vb, rfl, r, r'⟩ := Vals.two r1
  obtain ⟨S1, B1, ss1⟩ := Src.begins I1 r ok1
  obtain ⟨S2, B2, ss2⟩ := Src.begins I1 r' ok2
  refine zip_begins2 B1 B2 ss1 ss2 fun h' hz hTI hTO h1 h2 hsz hk => wpAny_pyIter_zip hz ?_
  have I2 : Inv X pins σ H1 { s1 with heap := h' } := I1.kept (t' := s1.toks) hk
  generalize hN : s1.heap.objs.size = N at *
  refine ⟨N + 4, [N + 4, N + 2, N + 3, N, N + 1], _, _, H1, rfl, I2, turn_zp sa sb va vb r r' (z := N + 4) (TI := N + 2) (TO := N + 3) (i1 := N) (i2 := N + 1) ⟨?_, ?_, ?_, ?_, ?_, ?_, ?_, ?_, ?_, ?_⟩, ⟨hz, hTI, ⟨_, _, hTO⟩, Src.it_new h1, Src.it_new h2⟩, fun c hcm => ?_, q (Src.size I1 ok1) (Src.size I1 ok2)⟩
  all_goals first
    | (show (_ : Nat) ≠ _; omega)
    | skip
  have e' : c = N + 4 ∨ c = N + 2 ∨ c = N + 3 ∨ c = N ∨ c = N + 1 := by simpa using hcm
  have hle : s1.heap.objs.size ≤ c := by
    rw [hN]
    rcases e' with z | z | z | z | z
    · rw [z]; exact Nat.le_add_right _ _
    · rw [z]; exact Nat.le_add_right _ _
    · rw [z]; exact Nat.le_add_right _ _
    · rw [z]; exact Nat.le_refl _
    · rw [z]; exact Nat.le_add_right _ _
  exact I1.fpOk hle (I1.hok.fresh hle)
/-! ### v itself -/
def Itsq (K : PySem.W.Frag) (src : Src) : It :=
  ⟨fun i H => src.ok K H ∧ i < src.n, fun i H v H' => H' = H ∧ src.at i = some v, fun i H => src.ok K H ∧ i = src.n⟩
def iSq (K : PySem.W.Frag) (te : TE) : TI := fun σ H R => te σ H fun v H1 => ∃ src : Src, v = src.v ∧ src.ok K H1 ∧ (src.n ≤ sizeLine ∨ (∃ z, src = .z z) → R (Itsq K src) H1)
theorem Turn.map {P : Program} {w : World} {K : PySem.W.Frag} {tg : Expr} {J J' : It} {fp : List Addr} {it : Addr} {tn : Nat → Heap → Prop} (T : Turn P w K tg J fp it tn) (hg : ∀ i H, J'.go i H → J.go i H) (hs : ∀ i H, J'.stop i H → J.stop i H)
    (hy : ∀ (X : Cx), X.K = K → ∀ i pins s σ H x H', Inv X pins σ H s → J'.go i H → J.yld i H x H' → J'.yld i H x H') : Turn P w K tg J' fp it tn :=
  ⟨T.mem, T.obj, T.keep, fun X hP hw hK hc i pins s σ H E I hf st g => thn (T.item X hP hw hK hc i pins s σ H E I hf st (hg i H g)) fun r s1 ⟨u, e, h⟩ => ⟨u, e, thn h fun _ s2 ⟨x, H', I', rv, y, t, k⟩ => ⟨x, H', I', rv, hy X hK i pins s σ H x H' I g y, t, k⟩⟩,
    fun X hP hw hK hc i pins s σ H E I hf st g => T.done X hP hw hK hc i pins s σ H E I hf st (hs i H g), T.self⟩
theorem sq_at {X : Cx} {tg : Expr} {pins : List (Addr × Obj)} {s1 : Shared} {σ : L2.St} {H1 : Hp} {R : It → Hp → Prop} {v : Value} {src : Src} (I1 : Inv X pins σ H1 s1) (r1 : RelV src.v v) (ok : src.ok X.K H1) (q : src.n ≤ sizeLine ∨ (∃ z, src = .z z) → R (Itsq X.K src) H1) :
    wpAny (model X.prog X.w) X.A (pyIter v) (PIE X pins σ tg R) X.xe s1 := by
  have q := q (Src.size I1 ok)
  cases src with
  | l a xs =>
    cases r1
    obtain ⟨its, rv, p, hz⟩ := I1.list ok
    refine wpAny_pyIter_list p.isList ?_
    have T : Turn X.prog X.w X.K tg (Itsq X.K (.l a xs)) [s1.heap.objs.size] s1.heap.objs.size (fun i h => h.IsListIter s1.heap.objs.size a i) := Turn.map (turn_list a _) (fun i H g => ⟨xs, _, g.1, List.getElem?_eq_getElem g.2⟩) (fun i H g => ⟨xs, g.1, by rw [g.2]; exact Nat.le_refl _⟩) fun X' hK i pins s σ H x H' I' g y => ⟨y.1, y.2 xs g.1⟩
    refine ⟨s1.heap.objs.size, [s1.heap.objs.size], _, _, H1, rfl, I1.kept (t' := s1.toks) fun b o e => Heap.get?_push_of_some _ e, T, ⟨_, Heap.get?_push_size _ rfl, rfl, rfl⟩, fun b hb => ?_, q⟩
    have e : b = s1.heap.objs.size := by simpa using hb
    subst e
    exact I1.fpOk (Nat.le_refl _) (I1.hok.fresh (Nat.le_refl _))
  | t a xs =>
    cases r1
    obtain ⟨its, rv, p, hz⟩ := I1.tuple ok
    refine wpAny_pyIter_tuple (show s1.heap.IsTuple a its.toArray from p) ?_
    have T : Turn X.prog X.w X.K tg (Itsq X.K (.t a xs)) [s1.heap.objs.size] s1.heap.objs.size (fun i h => h.IsTupleIter s1.heap.objs.size a i) := Turn.map (turn_tuple a _) (fun i H g => ⟨xs, _, g.1, List.getElem?_eq_getElem g.2⟩) (fun i H g => ⟨xs, g.1, by rw [g.2]; exact Nat.le_refl _⟩) fun X' hK i pins s σ H x H' I' g y => ⟨y.1, y.2 xs g.1⟩
    refine ⟨s1.heap.objs.size, [s1.heap.objs.size], _, _, H1, rfl, I1.kept (t' := s1.toks) fun b o e => Heap.get?_push_of_some _ e, T, ⟨_, Heap.get?_push_size _ rfl, rfl, rfl⟩, fun b hb => ?_, q⟩
    have e : b = s1.heap.objs.size := by simpa using hb
    subst e
    exact I1.fpOk (Nat.le_refl _) (I1.hok.fresh (Nat.le_refl _))
  | z x =>
    obtain ⟨t, rfl⟩ := r1
    have T : ∀ ty, (ty = "str_ascii_iterator" ∨ ty = "str_iterator") → Turn X.prog X.w X.K tg (Itsq X.K (.z x)) [s1.heap.objs.size] s1.heap.objs.size (fun i h => h.IsStrIter s1.heap.objs.size ty x t i) := fun ty hty => Turn.map (turn_str _ x t ty hty) (fun i H g => g.2) (fun i H g => by show x.cps.size ≤ i; rw [g.2]; exact Nat.le_refl _) fun X' hK i pins s σ H v H' I' g y => ⟨y.1, by
      obtain ⟨c, h1, h2⟩ := y.2
      show x.cps[i]?.map _ = _
      rw [h1, h2]; rfl⟩
    cases ha : x.cps.all (· < 128)
    · exact wpAny_pyIter_wide ha (pi_one (tk := s1.toks) I1 _ (T "str_iterator" (.inr rfl)) ⟨_, Heap.get?_push_size _ rfl, rfl, rfl⟩ q)
    · exact wpAny_pyIter_ascii ha (pi_one (tk := s1.toks) I1 _ (T "str_ascii_iterator" (.inl rfl)) ⟨_, Heap.get?_push_size _ rfl, rfl, rfl⟩ q)
theorem pi_sq {X : Cx} {tg e : Expr} {te : TE} (he : PE X e te) : PI X tg e (iSq X.K te) := by
  refine ⟨fun pins s σ H R I h => ?_⟩
  refine thn (he.run pins s σ H _ I h) fun v s1 ⟨y, H1, I1, r1, src, ex, ok, q⟩ => ?_
  subst ex
  exact sq_at I1 r1 ok q
end Px

set_option Elab.async false
set_option linter.all false
set_option maxRecDepth 100000
set_option autoImplicit false
namespace Px
open PySem PySem.Spec PyProof.Rows L2

/-! ### what is walked -/
/-- the iterator gives the items ds, while what lies at S stands -/
def ItOk (K : PySem.W.Frag) (S P : Addr → Prop) (H : Hp) (J : It) (ds : List D) : Prop := ∀ (P' : Addr → Prop) (H' : Hp), (∀ a u, S a → H a = some u → H' a = some u) → (∀ a u, P a → H a = some u → P' a) →
  (∀ i, i < ds.length → J.go i H') ∧ (∀ i d x H'', ds[i]? = some d → J.yld i H' x H'' → Same H' H'' ∧ Rp K H'' P' x d) ∧ J.stop ds.length H'
def Sm (md : Md) (A : Am) (cn : Cn) (f : Nat → Addr) (Γ : Ga) : Addr → Prop := match md with
  | .b => nZ A
  | _ => Fz A cn f Γ
def tI (K : PySem.W.Frag) (A : Am) (E : EN) (md : Md) (m : Ga → M (List D)) : TI := fun σ H R' => ∃ cn f Γ, Rl K A cn f σ H Γ ∧
  (m Γ).wp (fun ds => ∀ J H', Kx A.gh.Z H H' → A.gh.G H' → ds.length ≤ sizeLine → ItOk K (Sm md A cn f Γ) (Fz A cn f Γ) H' J ds → R' J H') (xP A E cn)
structure PIV (X : Cx) (A : Am) (E : EN) (md : Md) (tg iter : Expr) (m : Ga → M (List D)) : Prop where
  pi : PI X tg iter (tI A.K A E md m)
theorem imp_pi {X : Cx} {tg iter : Expr} {t t' : TI} (h : PI X tg iter t) (i : ∀ σ H R, t' σ H R → t σ H R) : PI X tg iter t' := ⟨fun pins s σ H R I q => h.run pins s σ H R I (i σ H R q)⟩
/-- the items of what is walked -/
def signs (x : Str) : List D := x.cps.toList.map fun c => .str ⟨#[c]⟩
def itemsD : D → M (List D)
  | .lst ds => .ret ds
  | .tup ds => .ret ds
  | .str x => if x.cps.size ≤ 16777216 then .ret (signs x) else .stuck
  | _ => .stuck
section
variable {K : PySem.W.Frag} {A : Am} {E : EN} {cn : Cn} {f : Nat → Addr} {σ : L2.St} {H H' H1 : Hp} {Γ : Ga} {a : Addr} {w : V} {d : D} {md : Md}
/-- what is to be read in the mode, as a source -/
structure SrcOk (K K' : PySem.W.Frag) (S P : Addr → Prop) (H : Hp) (src : Src) (ds : List D) : Prop where
  n : src.n = ds.length
  ok : ∀ H', (∀ a u, S a → H a = some u → H' a = some u) → src.ok K' H'
  at_ : ∀ i d, ds[i]? = some d → ∃ x, src.at i = some x ∧ Rp K H P x d
theorem src_of {K' : PySem.W.Frag} (hk : KLe K K') {S P : Addr → Prop} (ht : ∀ a xs, H a = some (.tup xs) → S a) (h : Rb K H P S w d) {ds : List D} {Q : List D → Prop} {E' : Exn → Prop} (q : (itemsD d).wp Q E') : ∃ src ds, itemsD d = .ret ds ∧ Q ds ∧ w = src.v ∧ SrcOk K K' S P H src ds ∧ (src.n ≤ sizeLine ∨ (∃ z, src = .z z) → ds.length ≤ sizeLine) := by
  cases d with
  | lst ds =>
    obtain ⟨a, xs, e, hw, hx, r⟩ := h
    refine ⟨.l a xs, ds, rfl, q, e, ⟨r.length, fun H' k => .inl ?_, fun i d hd => ?_⟩, fun z => ?_⟩
    · exact .inl (k _ _ hw hx)
    · obtain ⟨v, h1, h2⟩ := r.get hd
      exact ⟨v, h1, h2⟩
    · rcases z with z | ⟨_, z⟩
      · rw [← r.length]; exact z
      · cases z
  | tup ds =>
    cases h with
    | @tup a xs _ hx r =>
      refine ⟨.t a xs, ds, rfl, q, rfl, ⟨r.length, fun H' k => ?_, fun i d hd => ?_⟩, fun z => ?_⟩
      · rcases hx with hx | hx
        · exact .inl (.inl (k _ _ (ht _ _ hx) hx))
        · exact .inr (let ⟨o, its, n, hl, z⟩ := hx; ⟨o, its, n, hk _ _ hl, z⟩)
      · obtain ⟨v, h1, h2⟩ := r.get hd
        exact ⟨v, h1, h2⟩
      · rcases z with z | ⟨_, z⟩
        · rw [← r.length]; exact z
        · cases z
  | str x =>
    cases h
    have q' : (if x.cps.size ≤ 16777216 then M.ret (signs x) else .stuck).wp Q E' := q
    by_cases hl : x.cps.size ≤ 16777216
    · rw [if_pos hl] at q'
      have el : (signs x).length = x.cps.size := by unfold signs; rw [List.length_map, Array.length_toList]
      refine ⟨.z x, signs x, if_pos hl, q', rfl, ⟨el.symm, fun _ _ => trivial, fun i d hd => ?_⟩, fun _ => by rw [el, sizeLine_eq]; exact hl⟩
      unfold signs at hd
      rw [List.getElem?_map, Array.getElem?_toList] at hd
      cases hc : x.cps[i]? with
      | none => rw [hc] at hd; cases hd
      | some c =>
        rw [hc] at hd
        cases hd
        exact ⟨.str ⟨#[c]⟩, by show x.cps[i]?.map _ = _; rw [hc]; rfl, .str _⟩
    · rw [if_neg hl] at q'; exact q'.elim
  | _ => exact q.elim
theorem rp_at {S P P' : Addr → Prop} (ht : ∀ a xs, H a = some (.tup xs) → S a) (hp : ∀ a, P a → S a) (k : ∀ a u, S a → H a = some u → H' a = some u) (p : ∀ a u, P a → H a = some u → P' a) (h : Rp K H P w d) : Rp K H' P' w d := by
  refine h.mono ⟨fun a u pa r => ?_, fun a xs r => ?_⟩ fun a u pa r => ?_
  · exact k _ _ (hp a pa) r
  · exact k _ _ (ht a xs r) r
  · obtain ⟨o, e⟩ := rd_some r
    exact p a o pa e
theorem it_sq {K' : PySem.W.Frag} {S P : Addr → Prop} {src : Src} {ds : List D} (ht : ∀ a xs, H a = some (.tup xs) → S a) (hp : ∀ a, P a → S a) (s : SrcOk K K' S P H src ds) : ItOk K S P H (Itsq K' src) ds := fun P' H' k p =>
  ⟨fun i hi => ⟨s.ok H' k, by rw [s.n]; exact hi⟩, fun i d x H'' hd y => by
    obtain ⟨e, y⟩ := y
    subst e
    obtain ⟨v, h1, h2⟩ := s.at_ i d hd
    rw [h1] at y; cases y
    exact ⟨Same.refl _, rp_at ht hp k p h2⟩, ⟨s.ok H' k, s.n.symm⟩⟩
/-- pairs of a number and an item -/
def enumL (ds : List D) : List D := (List.range ds.length).zipWith (fun i d => .tup [.int (i : Nat), d]) ds
theorem enumL_get {ds : List D} {i : Nat} : (enumL ds)[i]? = ds[i]?.map fun d => .tup [.int (i : Nat), d] := by
  unfold enumL
  rw [List.getElem?_zipWith]
  by_cases hi : i < ds.length
  · rw [List.getElem?_eq_getElem hi, List.getElem?_range hi]; rfl
  · rw [List.getElem?_eq_none (by omega : ds.length ≤ i)]
    cases (List.range ds.length)[i]? <;> rfl
theorem enumL_len {ds : List D} : (enumL ds).length = ds.length := by unfold enumL; simp
theorem it_en {K' : PySem.W.Frag} {S P : Addr → Prop} {src : Src} {ds : List D} (ht : ∀ a xs, H a = some (.tup xs) → S a) (hp : ∀ a, P a → S a) (s : SrcOk K K' S P H src ds) : ItOk K S P H (Iten K' src) (enumL ds) := fun P' H' k p =>
  ⟨fun i hi => ⟨s.ok H' k, by rw [s.n]; rw [enumL_len] at hi; exact hi⟩, fun i d x H'' hd y => by
    obtain ⟨T, x1, e1, hT, e2, y⟩ := y
    subst e1 e2
    rw [enumL_get] at hd
    cases hc : ds[i]? with
    | none => rw [hc] at hd; cases hd
    | some d1 =>
      rw [hc] at hd
      cases hd
      obtain ⟨v, h1, h2⟩ := s.at_ i d1 hc
      rw [h1] at y; cases y
      exact ⟨same_new hT, .tup (.inl upd_same) (.cons (.int _) (.cons ((rp_at ht hp k p h2).mono (same_ho (same_new hT)) fun _ _ p _ => p) .nil))⟩, ⟨s.ok H' k, by rw [enumL_len]; exact s.n.symm⟩⟩
def zipL (ds es : List D) : List D := List.zipWith (fun a b => .tup [a, b]) ds es
theorem it_zp {K' : PySem.W.Frag} {S P : Addr → Prop} {s1 s2 : Src} {ds es : List D} (ht : ∀ a xs, H a = some (.tup xs) → S a) (hp : ∀ a, P a → S a) (h1 : SrcOk K K' S P H s1 ds) (h2 : SrcOk K K' S P H s2 es) : ItOk K S P H (Itzp K' s1 s2) (zipL ds es) := fun P' H' k p => by
  have hl : (zipL ds es).length = min ds.length es.length := by unfold zipL; simp
  refine ⟨fun i hi => ⟨h1.ok H' k, h2.ok H' k, by rw [h1.n]; omega, by rw [h2.n]; omega⟩, fun i d x H'' hd y => ?_, ⟨h1.ok H' k, h2.ok H' k, by rw [h1.n]; omega, by rw [h2.n]; omega, by rw [h1.n, h2.n]; omega⟩⟩
  obtain ⟨T, x1, x2, e1, hT, e2, y1, y2⟩ := y
  subst e1 e2
  unfold zipL at hd
  rw [List.getElem?_zipWith] at hd
  cases hc : ds[i]? with
  | none => rw [hc] at hd; cases hd
  | some d1 =>
    cases hc2 : es[i]? with
    | none => rw [hc, hc2] at hd; cases hd
    | some d2 =>
      rw [hc, hc2] at hd
      cases hd
      have o := same_ho (P := P') (same_new (o := .tup [x1, x2]) hT)
      obtain ⟨v1, q1, r1⟩ := h1.at_ i d1 hc
      obtain ⟨v2, q2, r2⟩ := h2.at_ i d2 hc2
      rw [q1] at y1; cases y1
      rw [q2] at y2; cases y2
      exact ⟨same_new hT, .tup (.inl upd_same) (.cons ((rp_at ht hp k p r1).mono o fun _ _ p _ => p) (.cons ((rp_at ht hp k p r2).mono o fun _ _ p _ => p) .nil))⟩
theorem sm_tup (R : Rl K A cn f σ H Γ) : ∀ a xs, H a = some (.tup xs) → Sm md A cn f Γ a := fun a xs r => by
  cases md with
  | b => exact (R.tup r).nz
  | s => exact R.tup r
  | f => exact R.tup r
theorem sm_fz : ∀ a, Fz A cn f Γ a → Sm md A cn f Γ a := fun a p => by
  cases md with
  | b => exact p.nz
  | s => exact p
  | f => exact p
theorem Rl.rbm (R : Rl K A cn f σ H Γ) (h : Rq md K H H' (Fz A cn f Γ) (nZ A) w d) : Rb K H' (Fz A cn f Γ) (Sm md A cn f Γ) w d := by
  cases md with
  | b => exact h
  | s => exact Rp.rb h fun _ p => p
  | f => exact Rf.rb h (fun _ => R.fresh) fun _ p => p
end
section
variable {X : Cx} {A : Am} {E : EN} {md md1 md2 md3 : Md} {e a b c tg : Expr} {es rest : List Expr} {st : Stmt} {sts st2 : List Stmt} {m ma mb mc : Ga → M D} {mi : Ga → M (List D)} {mT mU : Ga → M Bool} {ml : Ga → M (List D)} {m1 m2 : Ga → M (Ct × Ga)} {pos p : Pos} {x : Str}
def itM (ma : Ga → M D) : Ga → M (List D) := fun Γ => ma Γ >>= itemsD
theorem piv_sq (hk : KLe A.K X.K) (he : PEV X A E md e ma) : PIV X A E md tg e (itM ma) := by
  refine ⟨imp_pi (pi_sq he.pe) fun σ H R' ⟨cn, f, Γ, R, h⟩ => ⟨cn, f, Γ, R, M.wp_mono (M.wp_bind.mp h) (fun d q w H1 k1 g1 r1 => ?_) fun _ x => x⟩⟩
  have R1 := R.kx k1 g1
  obtain ⟨src, ds, e1, q, ew, s, hz⟩ := src_of hk (S := Sm md A cn f Γ) (sm_tup R1) (R.rbm r1) q (ds := [])
  exact ⟨src, ew, s.ok H1 fun _ _ _ e => e, fun z => q _ H1 k1 g1 (hz z) (it_sq (sm_tup R1) sm_fz s)⟩
def enM (ma : Ga → M D) : Ga → M (List D) := fun Γ => ma Γ >>= itemsD >>= fun ds => .ret (enumL ds)
/-- one argument, in its mode -/
theorem pa_one {e : Expr} (he : PEV X A E md e ma) (hs : starEach [e] X.env = (false, eval e X.env) :: starEach [] X.env := by rfl) : PA X [e] (tCons (tV A.K A E md ma) tNil) := pa_cons he.pe pa_nil hs
theorem piv_en (hk : KLe A.K X.K) {tpos : Pos} {elts : List Expr} {kk : Nat} (hg : Gl X "enumerate") (hm : X.mg "enumerate" = none) (he : PEV X A E md e ma) (hs : starEach [e] X.env = [(false, eval e X.env)] := by rfl) (hs2 : starEach [e] X.env = (false, eval e X.env) :: starEach [] X.env := by rfl) :
    PIV X A E md (.Tuple elts kk tpos) (.Call (.Name "enumerate" p) [e] [] pos) (enM ma) := by
  refine ⟨imp_pi (pi_en hg hm (pa_one he hs2) hs) fun σ H R' ⟨cn, f, Γ, R, h⟩ => ⟨cn, f, Γ, R, M.wp_mono (M.wp_bind.mp (M.wp_bind.mp h)) (fun d q w H1 k1 g1 r1 => ?_) fun _ x => x⟩⟩
  have R1 := R.kx k1 g1
  obtain ⟨src, ds, e1, q, ew, s, hz⟩ := src_of hk (S := Sm md A cn f Γ) (sm_tup R1) (R.rbm r1) q (ds := [])
  refine ⟨src, by rw [ew], s.ok H1 fun _ _ _ e => e, fun z => ?_⟩
  exact q _ H1 k1 g1 (by rw [enumL_len]; exact hz z) (it_en (sm_tup R1) sm_fz s)
def zpM (ma mb : Ga → M D) : Ga → M (List D) := fun Γ => ma Γ >>= fun d => mb Γ >>= fun e => itemsD d >>= fun ds => itemsD e >>= fun es => .ret (zipL ds es)
theorem tame_items {d : D} {Q : List D → Prop} {E' : Exn → Prop} (h : (itemsD d).wp Q E') : ∃ ds, itemsD d = .ret ds ∧ Q ds := by
  cases d with
  | lst ds => exact ⟨_, rfl, h⟩
  | tup ds => exact ⟨_, rfl, h⟩
  | str x =>
    have h' : (if x.cps.size ≤ 16777216 then M.ret (signs x) else .stuck).wp Q E' := h
    by_cases hl : x.cps.size ≤ 16777216
    · rw [if_pos hl] at h'; exact ⟨_, if_pos hl, h'⟩
    · rw [if_neg hl] at h'; exact h'.elim
  | _ => exact h.elim
theorem piv_zp (hk : KLe A.K X.K) {tpos : Pos} {elts : List Expr} {kk : Nat} (hmd : md = .b ∨ md = .s) (hg : Gl X "zip") (hm : X.mg "zip" = none) (ha : PEV X A E md a ma) (hb : PEV X A E md b mb) (hs : starEach [a, b] X.env = (false, eval a X.env) :: starEach [b] X.env := by rfl) (hs2 : starEach [b] X.env = (false, eval b X.env) :: starEach [] X.env := by rfl)
    (hpl : (backTo pos (starEach [b] X.env)).any (·.1) = false := by rfl) : PIV X A E md (.Tuple elts kk tpos) (.Call (.Name "zip" p) [a, b] [] pos) (zpM ma mb) := by
  refine ⟨imp_pi (pi_zp hg hm (pa_cons ha.pe (pa_one hb hs2) hs) hs hpl) fun σ H R' ⟨cn, f, Γ, R, h⟩ => ⟨cn, f, Γ, R, M.wp_mono (M.wp_bind.mp h) (fun d q w H1 k1 g1 r1 => ?_) fun _ x => x⟩⟩
  have R1 := R.kx k1 g1
  refine ⟨cn, f, Γ, R1, M.wp_mono (M.wp_bind.mp q) (fun d2 q w2 H2 k2 g2 r2 => ?_) fun _ x => x⟩
  have R2 := R1.kx k2 g2
  have q := M.wp_bind.mp q
  have rb1 : Rb A.K H2 (Fz A cn f Γ) (Sm md A cn f Γ) w d := by
    rcases hmd with rfl | rfl
    · exact R1.rbk k2 r1
    · exact (R1.rpk k2 r1).rb fun _ p => p
  obtain ⟨s1, ds, e1, q, ew, o1, hz1⟩ := src_of hk (S := Sm md A cn f Γ) (sm_tup R2) rb1 q (ds := [])
  obtain ⟨s2, es, e2, q, ew2, o2, hz2⟩ := src_of hk (S := Sm md A cn f Γ) (sm_tup R2) (R1.rbm r2) (M.wp_bind.mp q) (ds := [])
  refine ⟨s1, s2, by rw [ew, ew2], o1.ok H2 fun _ _ _ e => e, o2.ok H2 fun _ _ _ e => e, fun z1 z2 => q _ H2 (k1.trans k2) g2 ?_ (it_zp (sm_tup R2) sm_fz o1 o2)⟩
  unfold zipL
  rw [List.length_zipWith]
  have := hz1 z1
  omega
/-! ranges -/
def rangeL (lo c : Int) (n : Nat) : List D := (List.range n).map fun i => .int (lo + (i : Nat) * c)
def rangeD : List D → M (List D)
  | [.int j] => if j ≤ 16777216 ∧ -(2 ^ 62) ≤ j then .ret (rangeL 0 1 j.toNat) else .stuck
  | [.int i, .int j] => if -(2 ^ 62) ≤ i ∧ i < 2 ^ 62 ∧ -(2 ^ 62) ≤ j ∧ j < 2 ^ 62 ∧ j - i ≤ 16777216 then .ret (rangeL i 1 (j - i).toNat) else .stuck
  | _ => .stuck
theorem it_range {K : PySem.W.Frag} {S P : Addr → Prop} {H : Hp} {lo : Int} {n : Nat} : ItOk K S P H (Itr lo n) (rangeL lo 1 n) := fun P' H' k p => by
  have hl : (rangeL lo 1 n).length = n := by unfold rangeL; simp
  refine ⟨fun i hi => by rw [hl] at hi; exact hi, fun i d x H'' hd y => ?_, by rw [hl]; exact Nat.le_refl _⟩
  obtain ⟨e1, e2⟩ := y
  subst e1 e2
  unfold rangeL at hd
  rw [List.getElem?_map] at hd
  cases hc : (List.range n)[i]? with
  | none => rw [hc] at hd; cases hd
  | some j =>
    rw [hc] at hd
    cases hd
    have : j = i := by
      obtain ⟨h1, h2⟩ := List.getElem?_eq_some_iff.mp hc
      simpa using h2.symm
    subst this
    exact ⟨Same.refl _, by show Rp K _ P' (V.int (lo + (j : Nat))) (D.int (lo + (j : Nat) * 1)); rw [Int.mul_one]; exact .int _⟩
theorem piv_range1 (hg : Gl X "range") (hm : X.mg "range" = none) (ha : PAVL X A E .b [a] ml) (hs : starEach [a] X.env = [(false, eval a X.env)] := by rfl) : PIV X A E .s tg (.Call (.Name "range" p) [a] [] pos) (fun Γ => ml Γ >>= rangeD) := by
  refine ⟨imp_pi (pi_range1 hg hm ha.pa hs) fun σ H R' ⟨cn, f, Γ, R, h⟩ => ⟨cn, f, Γ, R, M.wp_mono (ha.len _ _ _ (M.wp_bind.mp h)) (fun ds q ws H1 k1 g1 r1 => ?_) fun _ x => x⟩⟩
  obtain ⟨q, hl⟩ := q
  match ds, hl with
  | [d], _ =>
    cases r1 with
    | cons h1 h2 =>
      cases h2
      cases d with
      | int j =>
        have q' : (if j ≤ 16777216 ∧ -(2 ^ 62) ≤ j then M.ret (rangeL 0 1 j.toNat) else .stuck).wp _ _ := q
        by_cases hj : j ≤ 16777216 ∧ -(2 ^ 62) ≤ j
        · rw [if_pos hj] at q'
          cases (show Rp A.K H1 (Fz A cn f Γ) _ (.int j) from h1)
          refine ⟨j, rfl, hj.2, by have := hj.1; omega, q' _ H1 k1 g1 ?_ it_range⟩
          unfold rangeL
          rw [List.length_map, List.length_range, sizeLine_eq]
          have := hj.1
          omega
        · rw [if_neg hj] at q'; exact q'.elim
      | _ => exact q.elim
theorem piv_range2 (hg : Gl X "range") (hm : X.mg "range" = none) (ha : PAVL X A E .b [a, b] ml) (hs : starEach [a, b] X.env = [(false, eval a X.env), (false, eval b X.env)] := by rfl) (hs2 : starEach [b] X.env = [(false, eval b X.env)] := by rfl) : PIV X A E .s tg (.Call (.Name "range" p) [a, b] [] pos) (fun Γ => ml Γ >>= rangeD) := by
  refine ⟨imp_pi (pi_range2 hg hm ha.pa hs hs2) fun σ H R' ⟨cn, f, Γ, R, h⟩ => ⟨cn, f, Γ, R, M.wp_mono (ha.len _ _ _ (M.wp_bind.mp h)) (fun ds q ws H1 k1 g1 r1 => ?_) fun _ x => x⟩⟩
  obtain ⟨q, hl⟩ := q
  match ds, hl with
  | [d, d2], _ =>
    cases r1 with
    | cons h1 h2 =>
      cases h2 with
      | cons h2 h3 =>
        cases h3
        cases d with
        | int i =>
          cases d2 with
          | int j =>
            have q' : (if -(2 ^ 62) ≤ i ∧ i < 2 ^ 62 ∧ -(2 ^ 62) ≤ j ∧ j < 2 ^ 62 ∧ j - i ≤ 16777216 then M.ret (rangeL i 1 (j - i).toNat) else .stuck).wp _ _ := q
            by_cases hj : -(2 ^ 62) ≤ i ∧ i < 2 ^ 62 ∧ -(2 ^ 62) ≤ j ∧ j < 2 ^ 62 ∧ j - i ≤ 16777216
            · rw [if_pos hj] at q'
              obtain ⟨j1, j2, j3, j4, j5⟩ := hj
              cases (show Rp A.K H1 (Fz A cn f Γ) _ (.int i) from h1)
              cases (show Rp A.K H1 (Fz A cn f Γ) _ (.int j) from h2)
              refine ⟨i, j, rfl, ⟨j1, j2, j3, j4⟩, q' _ H1 k1 g1 ?_ it_range⟩
              unfold rangeL
              rw [List.length_map, List.length_range, sizeLine_eq]
              omega
            · rw [if_neg hj] at q'; exact q'.elim
          | _ => exact q.elim
        | _ => exact q.elim

/-! ### for -/
def forM (body : D → Ga → M (Ct × Ga)) : List D → Ga → M (Ct × Ga)
  | [], Γ => .ret (.nx, Γ)
  | d :: r, Γ => body d Γ >>= fun x => match x.1 with
    | .nx => forM body r x.2
    | .ct => forM body r x.2
    | .bk => .ret (.nx, x.2)
    | .rt d => .ret (.rt d, x.2)
def forS (mi : Ga → M (List D)) (bnd : D → Ga → M Ga) (m1 : Ga → M (Ct × Ga)) : Ga → M (Ct × Ga) := fun Γ => mi Γ >>= fun ds => forM (fun d Γ => bnd d Γ >>= m1) ds Γ
theorem psv_for {iter : Expr} {ts : List Nat} {bnd : D → Ga → M Ga} (hp : PassesOwn (model X.prog X.w) X.A X.env X.xe) (hc : X.calm = true) (hi : PIV X A E .s tg iter mi) (hg : PGV X A tg ts bnd) (ht : TameG bnd) (hb : PSVs X A E md sts m1)
    (hs : ∀ x, foldedSetIterable iter X.env x = pure x := by intro _; rfl) : PSV X A E md (.For tg iter sts [] pos) (forS mi bnd m1) := by
  refine ⟨imp_ps (ps_for hp hc hi.pi hg.pg hb.ps hs) fun Dn σ0 H ⟨cn, f0, Γ0, R, h⟩ => ⟨cn, f0, Γ0, R, M.wp_mono (M.wp_bind.mp h) (fun ds q J H0 k0 g0 hz it => ?_) fun _ x => x⟩⟩
  have R0 := R.kx k0 g0
  have it' : ItOk A.K (Fz A cn f0 Γ0) (Fz A cn f0 Γ0) H0 J ds := it
  refine ⟨fun i k σ H' => ∃ f Γ, Rl A.K A cn f σ H' Γ ∧ Hs A cn f0 Γ0 H0 f Γ H' ∧ i ≤ ds.length ∧ k = ds.length - i ∧ (forM (fun d Γ => bnd d Γ >>= m1) (ds.drop i) Γ).wp (sP A.K A cn md f Γ H' Dn) (xP A E cn),
    ⟨ds.length, f0, Γ0, R0, .refl, Nat.zero_le _, rfl, M.wp_mono q (fun r q => q.pre (.kx k0)) fun _ x => x⟩, ?_⟩
  rintro i k σ H' ⟨f, Γ, R, hs', hi, rfl, q⟩
  obtain ⟨go, yl, stop⟩ := it' (Fz A cn f Γ) H' (fun a u p e => (hs' a p u e).2) (fun a u p e => (hs' a p u e).1)
  by_cases hlt : i < ds.length
  · refine .inr ⟨go i hlt, fun σ' H'' => ∃ f' Γ', Rl A.K A cn f' σ' H'' Γ' ∧ Hs A cn f0 Γ0 H0 f' Γ' H'' ∧ (forM (fun d Γ => bnd d Γ >>= m1) (ds.drop (i + 1)) Γ').wp (sP A.K A cn md f' Γ' H'' Dn) (xP A E cn), fun σ' H'' ⟨f', Γ', R', s', q'⟩ => ⟨ds.length - (i + 1), by omega, f', Γ', R', s', hlt, rfl, q'⟩, fun x H1 y => ?_⟩
    obtain ⟨sm, rx⟩ := yl i _ x H1 (List.getElem?_eq_getElem hlt) y
    have R1 := R.kx (same_kx sm) (A.gh.same R.g sm)
    rw [List.drop_eq_getElem_cons hlt] at q
    have q := M.wp_bind.mp (M.wp_bind.mp q)
    refine ⟨cn, f, Γ, _, R1, rx, M.wp_mono (ht _ _ _ _ q) (fun Γ2 q σ2 s2 R2 _ => ?_) fun _ z => z⟩
    refine ⟨cn, f, Γ2, R2, M.wp_mono q (fun r q => ?_) fun _ x => x⟩
    have s02 : Hs A cn f Γ H' f Γ2 H1 := (Hs.kx (same_kx sm)).trans s2
    obtain ⟨c, Γ3⟩ := r
    cases c with
    | nx => exact fun f3 σ3 H3 s3 R3 => ⟨f3, Γ3, R3, hs'.trans (s02.trans s3), M.wp_mono q (fun r q => q.pre (s02.trans s3)) fun _ x => x⟩
    | ct => exact fun f3 σ3 H3 s3 R3 => ⟨f3, Γ3, R3, hs'.trans (s02.trans s3), M.wp_mono q (fun r q => q.pre (s02.trans s3)) fun _ x => x⟩
    | bk => exact fun f3 σ3 H3 s3 R3 => q f3 σ3 H3 (s02.trans s3) R3
    | rt d => exact q
  · have e : i = ds.length := by omega
    subst e
    rw [List.drop_length] at q
    exact .inl ⟨stop, q f σ H' .refl R⟩

/-! ### while -/
def whileM (c : Ga → M Bool) (m1 : Ga → M (Ct × Ga)) : Nat → Ga → M (Ct × Ga)
  | 0, _ => .stuck
  | n + 1, Γ => c Γ >>= fun k => if k = true then m1 Γ >>= fun x => (match x.1 with
    | .nx => whileM c m1 n x.2
    | .ct => whileM c m1 n x.2
    | .bk => .ret (.nx, x.2)
    | .rt d => .ret (.rt d, x.2)) else .ret (.nx, Γ)
theorem psv_while (n : Nat) (hp : PassesOwn (model X.prog X.w) X.A X.env X.xe) (hc : PTV X A E c mT) (hb : PSVs X A E md sts m1) : PSV X A E md (.While c sts [] pos) (whileM mT m1 n) := by
  refine ⟨imp_ps (ps_while hp hc.pt hb.ps) fun Dn σ0 H0 ⟨cn, f0, Γ0, R0, h⟩ => ?_⟩
  refine ⟨fun k σ H => ∃ f Γ, Rl A.K A cn f σ H Γ ∧ (whileM mT m1 k Γ).wp (sP A.K A cn md f Γ H Dn) (xP A E cn), ⟨n, f0, Γ0, R0, h⟩, ?_⟩
  rintro k σ H ⟨f, Γ, R, q⟩
  cases k with
  | zero => exact q.elim
  | succ k =>
    refine ⟨cn, f, Γ, R, M.wp_mono (M.wp_bind.mp q) (fun b q H1 k1 g1 => ?_) fun _ x => x⟩
    have R1 := R.kx k1 g1
    cases b with
    | true =>
      refine if_pos rfl |>.mpr ⟨fun σ' H' => ∃ f' Γ', Rl A.K A cn f' σ' H' Γ' ∧ (whileM mT m1 k Γ').wp (sP A.K A cn md f' Γ' H' Dn) (xP A E cn), fun σ' H' ⟨f', Γ', R', q'⟩ => ⟨k, Nat.lt_succ_self _, f', Γ', R', q'⟩, cn, f, Γ, R1, M.wp_mono (M.wp_bind.mp q) (fun r q => ?_) fun _ x => x⟩
      obtain ⟨c, Γ3⟩ := r
      cases c with
      | nx => exact fun f3 σ3 H3 s3 R3 => ⟨f3, Γ3, R3, M.wp_mono q (fun r q => q.pre ((Hs.kx k1).trans s3)) fun _ x => x⟩
      | ct => exact fun f3 σ3 H3 s3 R3 => ⟨f3, Γ3, R3, M.wp_mono q (fun r q => q.pre ((Hs.kx k1).trans s3)) fun _ x => x⟩
      | bk => exact fun f3 σ3 H3 s3 R3 => q f3 σ3 H3 ((Hs.kx k1).trans s3) R3
      | rt d => exact q
    | false => exact q f σ H1 (.kx k1) R1
end
end Px

set_option Elab.async false
set_option linter.all false
set_option maxRecDepth 100000
set_option autoImplicit false
namespace Px
open PySem PySem.Spec PyProof.Rows L2

/-! ### list comprehensions -/
def wipeG (Γ : Ga) : List Nat → Ga
  | [] => Γ
  | v :: vs => (wipeG Γ vs).set v .un
def Sl.isOwn : Sl → Bool
  | .own _ => true
  | _ => false
def ownFree (vs : List Nat) (Γ : Ga) : Bool := vs.all fun i => match Γ[i]? with
  | some s => !s.isOwn
  | none => true
section
variable {K : PySem.W.Frag} {A : Am} {E : EN} {cn : Cn} {f : Nat → Addr} {σ σ' : L2.St} {H H' H1 : Hp} {Γ Γ' : Ga} {a b : Addr} {w : V} {d : D} {md : Md}
theorem wipeG_len : ∀ vs : List Nat, (wipeG Γ vs).length = Γ.length
  | [] => rfl
  | v :: vs => by unfold wipeG; rw [List.length_set, wipeG_len vs]
theorem wipeG_get : ∀ {vs : List Nat} {i : Nat} {s : Sl}, (wipeG Γ vs)[i]? = some s → s ≠ .un → Γ[i]? = some s ∧ i ∉ vs
  | [], _, _, h, _ => ⟨h, by simp⟩
  | v :: vs, i, s, h, hs => by
    unfold wipeG at h
    rcases set_get h with ⟨_, e, _⟩ | ⟨ne, h⟩
    · exact absurd e hs
    · obtain ⟨h1, h2⟩ := wipeG_get h hs
      exact ⟨h1, fun z => (List.mem_cons.mp z).elim ne h2⟩
theorem wipeG_out : ∀ {vs : List Nat} {i : Nat}, i ∉ vs → (wipeG Γ vs)[i]? = Γ[i]?
  | [], _, _ => rfl
  | v :: vs, i, h => by
    unfold wipeG
    rw [List.mem_cons, not_or] at h
    rw [set_ne h.1, wipeG_out h.2]
theorem wipe_out : ∀ {vs : List Nat} {i : Nat}, i ∉ vs → (wipe σ vs)[i]? = σ[i]?
  | [], _, _ => rfl
  | v :: vs, i, h => by
    unfold wipe
    rw [List.mem_cons, not_or] at h
    rw [set_ne h.1, wipe_out h.2]
theorem wipe_in : ∀ {vs : List Nat} {i : Nat}, i ∈ vs → i < σ.length → (wipe σ vs)[i]? = some none
  | v :: vs, i, h, hl => by
    unfold wipe
    by_cases e : i = v
    · subst e
      exact set_at (by rw [wipe_length]; exact hl)
    · rw [set_ne e]
      exact wipe_in ((List.mem_cons.mp h).elim (fun z => absurd z e) id) hl
theorem wipe_ag {vs ts : List Nat} (ht : ∀ j, j ∈ ts → j ∈ vs) (ag : Ag ts (wipe σ vs) σ' Γ Γ') : wipe σ' vs = wipe σ vs := by
  have hl : σ'.length = σ.length := by rw [ag.1, wipe_length]
  refine List.ext_getElem? fun j => ?_
  by_cases hj : j ∈ vs
  · by_cases hlt : j < σ.length
    · rw [wipe_in hj hlt, wipe_in hj (by rw [hl]; exact hlt)]
    · rw [List.getElem?_eq_none (by rw [wipe_length]; omega), List.getElem?_eq_none (by rw [wipe_length]; omega)]
  · rw [wipe_out hj, ag.2.1 j (fun z => hj (ht j z)), wipe_out hj]
theorem ownFree_at {vs : List Nat} (h : ownFree vs Γ = true) {i : Nat} {d : D} (e : Γ[i]? = some (.own d)) : i ∉ vs := fun hm => by
  have := List.all_eq_true.mp h i hm
  rw [e] at this
  exact absurd (show false = true from this) Bool.false_ne_true
theorem fz_wipe {vs : List Nat} (h : ownFree vs Γ = true) : Fz A cn f (wipeG Γ vs) b ↔ Fz A cn f Γ b :=
  ⟨fun p => ⟨p.1, p.2.1, fun i d e => p.2.2 i d (by rw [wipeG_out (ownFree_at h e)]; exact e)⟩, fun p => ⟨p.1, p.2.1, fun i d e => p.2.2 i d (wipeG_get e (by simp)).1⟩⟩
theorem Rl.wipe (R : Rl K A cn f σ H Γ) {vs : List Nat} (h : ownFree vs Γ = true) : Rl K A cn f (L2.wipe σ vs) H (wipeG Γ vs) := by
  refine ⟨by rw [wipe_length, wipeG_len]; exact R.len, R.g, R.keep, fun b ob hb => ⟨(fz_wipe h).mpr (R.lkf b ob hb).1, (R.lkf b ob hb).2⟩, R.hdm, fun i d e => ?_, fun i d e => ?_, fun i j d e h1 h2 => R.inj i j d e (wipeG_get h1 (by simp)).1 (wipeG_get h2 (by simp)).1⟩
  · obtain ⟨e1, e2⟩ := wipeG_get e (by simp)
    obtain ⟨w, h1, h2⟩ := R.sl i d e1
    exact ⟨w, by rw [wipe_out e2]; exact h1, h2.mono .refl fun _ _ p _ => (fz_wipe h).mpr p⟩
  · obtain ⟨e1, e2⟩ := wipeG_get e (by simp)
    obtain ⟨h1, h2, h3, h4⟩ := R.ow i d e1
    exact ⟨by rw [wipe_out e2]; exact h1, h2, h3, h4.mono .refl (fun _ _ p _ => (fz_wipe h).mpr p) fun _ z => z⟩
/-- one item's part -/
def lcOne (bnd : D → Ga → M Ga) (cond : Ga → M Bool) (elt : Ga → M D) (Γ : Ga) (d : D) : M (List D) := (bnd d Γ >>= fun Γ2 => cond Γ2 >>= fun k => if k = true then (elt Γ2 >>= fun e => .ret [e]) else .ret []).noexc
def lcGo (one : D → M (List D)) : List D → M (List D)
  | [] => .ret []
  | d :: r => one d >>= fun l => lcGo one r >>= fun es => .ret (l ++ es)
def lcM (vs : List Nat) (mi : Ga → M (List D)) (bnd : D → Ga → M Ga) (cond : Ga → M Bool) (elt : Ga → M D) : Ga → M D := fun Γ =>
  if ownFree vs Γ = true then mi Γ >>= fun ds => lcGo (lcOne bnd cond elt (wipeG Γ vs)) ds >>= fun es => .ret (.lst es) else .stuck
theorem tLc_of {vs ts : List Nat} {mi : Ga → M (List D)} {bnd : D → Ga → M Ga} {cond : Ga → M Bool} {elt : Ga → M D} (hts : ∀ j, j ∈ ts → j ∈ vs) (ht : TameG bnd) {Q : VK} (h : tV K A E .f (lcM vs mi bnd cond elt) σ H Q) :
    tLc (tI K A E md mi) (tG K A ts bnd) (tT K A never cond) (tV K A never .s elt) vs σ H Q := by
  obtain ⟨cn, f, Γ, R, h⟩ := h
  unfold lcM at h
  by_cases ho : ownFree vs Γ = true
  · rw [if_pos ho] at h
    refine ⟨cn, f, Γ, R, M.wp_mono (M.wp_bind.mp h) (fun ds q J H1 k1 g1 hz it D hD => ?_) fun _ x => x⟩
    have R1 := R.kx k1 g1
    have hDz : ¬ A.gh.Z D := fun z => by obtain ⟨xs, e⟩ := A.gh.gz H1 D g1 z; rw [hD] at e; cases e
    have hn := R.kx_none k1 g1 hD
    -- the state at a turn
    have st : ∀ {H2 : Hp} {o : HO}, Kx A.gh.Z H1 H2 → A.gh.G H2 → H2 D = some o → Mut (some o) → Rl K A (cn.plus [D]) f (L2.wipe σ vs) H2 (wipeG Γ vs) := fun k g e m =>
      (R1.wipe ho).hide k g fun a ha => by
        have ea : a = D := by simpa using ha
        subst ea
        exact ⟨hD, _, e, m⟩
    have sub : ∀ b, Fz A (cn.plus [D]) f (wipeG Γ vs) b → Fz A cn f Γ b ∧ b ≠ D := fun b p => by
      obtain ⟨p1, p2⟩ := (fz_plus [D]).mp p
      exact ⟨(fz_wipe ho).mp p1, fun z => p2 (by simp [z])⟩
    have sub' : ∀ b, Fz A cn f Γ b → b ≠ D → Fz A (cn.plus [D]) f (wipeG Γ vs) b := fun b p n => (fz_plus [D]).mpr ⟨(fz_wipe ho).mpr p, by simpa using n⟩
    refine ⟨fun i k H2 => ∃ acc es, H2 D = some (.lst acc) ∧ acc.length ≤ i ∧ i ≤ ds.length ∧ k = ds.length - i ∧ RpL K H2 (Fz A (cn.plus [D]) f (wipeG Γ vs)) acc es ∧ Kx A.gh.Z H1 H2 ∧ A.gh.G H2 ∧
      (lcGo (lcOne bnd cond elt (wipeG Γ vs)) (ds.drop i)).wp (fun es' => ∀ w H', Kx A.gh.Z H H' → A.gh.G H' → Rq .f K H H' (Fz A cn f Γ) (nZ A) w (.lst (es ++ es')) → Q w H') (xP A E cn),
      ⟨ds.length, [], [], upd_same, Nat.le_refl _, Nat.zero_le _, rfl, .nil, Kx.upd hD, A.gh.same g1 (same_new hD), M.wp_mono (M.wp_bind.mp q) (fun es' q => q) fun _ x => x⟩, ?_⟩
    rintro i k H2 ⟨acc, es, hacc, hal, hi, rfl, rl, k2, g2, q⟩
    have R2 := st k2 g2 hacc trivial
    obtain ⟨go, yl, stop⟩ := it (Fz A (cn.plus [D]) f (wipeG Γ vs)) H2 (fun a u p e => k2 a u (by cases md with | b => exact p | s => exact Fz.nz p | f => exact Fz.nz p) e) (fun a u p e => sub' a p fun z => by rw [z, hD] at e; cases e)
    by_cases hlt : i < ds.length
    · rw [List.drop_eq_getElem_cons hlt] at q
      have q := M.wp_bind.mp q
      refine .inr ⟨go i hlt, fun H3 => ∃ acc es, H3 D = some (.lst acc) ∧ acc.length ≤ i + 1 ∧ RpL K H3 (Fz A (cn.plus [D]) f (wipeG Γ vs)) acc es ∧ Kx A.gh.Z H1 H3 ∧ A.gh.G H3 ∧
        (lcGo (lcOne bnd cond elt (wipeG Γ vs)) (ds.drop (i + 1))).wp (fun es' => ∀ w H', Kx A.gh.Z H H' → A.gh.G H' → Rq .f K H H' (Fz A cn f Γ) (nZ A) w (.lst (es ++ es')) → Q w H') (xP A E cn),
        fun H3 ⟨acc, es, a1, a2, a3, a4, a5, a6⟩ => ⟨ds.length - (i + 1), by omega, acc, es, a1, a2, hlt, rfl, a3, a4, a5, a6⟩, fun x H3 y => ?_⟩
      obtain ⟨sm, rx⟩ := yl i _ x H3 (List.getElem?_eq_getElem hlt) y
      have kk3 : Kx A.gh.Z H2 H3 := same_kx sm
      have g3 := A.gh.same g2 sm
      have R3 := R2.kx kk3 g3
      have q := M.wp_bind.mp (M.wp_noexc q)
      refine ⟨cn.plus [D], f, wipeG Γ vs, _, R3, rx, M.wp_mono q (fun Γ2 q σ2 s2 R4 ag => ⟨wipe_ag hts ag, ?_⟩) fun _ x => x⟩
      have back : ∀ b, Fz A (cn.plus [D]) f Γ2 b → Fz A (cn.plus [D]) f (wipeG Γ vs) b := fun b p => ⟨p.1, p.2.1, fun j d e => p.2.2 j d (by
        rw [ag.2.2 j fun z => (wipeG_get e (by simp)).2 (hts j z)]; exact e)⟩
      refine ⟨cn.plus [D], f, Γ2, R4, M.wp_mono (M.wp_bind.mp q) (fun b q H4 k4 g4 => ?_) fun _ x => x.elim⟩
      have hD4 : H4 D = some (.lst acc) := k4 _ _ hDz (kk3 _ _ hDz hacc)
      have k24 : Kx A.gh.Z H2 H4 := kk3.trans k4
      cases b with
      | true =>
        refine if_pos rfl |>.mpr ⟨cn.plus [D], f, Γ2, R4.kx k4 g4, M.wp_mono (M.wp_bind.mp q) (fun e q y H5 k5 g5 r5 => ?_) fun _ x => x.elim⟩
        have hD5 : H5 D = some (.lst acc) := k5 _ _ hDz hD4
        have k25 : Kx A.gh.Z H2 H5 := k24.trans k5
        have o5 : Ho (Fz A (cn.plus [D]) f (wipeG Γ vs)) H5 (upd H5 D (.lst (acc ++ [y]))) := ⟨fun a u p r => by
          rw [upd_ne (sub a p).2]; exact r, fun a xs r => by
          have ne : a ≠ D := fun z => by
            rw [z] at r
            exact mut_not_frz hD5 trivial r
          rw [upd_ne ne]; exact r⟩
        refine ⟨acc, hD5, by have := hal; omega, acc ++ [y], es ++ [e], upd_same, by rw [List.length_append]; simp; omega, ?_, ?_, ?_, ?_⟩
        · refine RpL.append ((rl.mono (R2.ho k25) fun _ _ p _ => p).mono o5 fun _ _ p _ => p) (.cons ?_ .nil)
          exact (Rp.mono .refl (fun b _ p _ => back b p) r5).mono o5 fun _ _ p _ => p
        · intro a u z e
          have ne : a ≠ D := fun zz => by rw [zz, hD] at e; cases e
          rw [upd_ne ne]
          exact (k2.trans k25) a u z e
        · exact A.gh.gk H5 _ g5 fun a z => upd_ne fun zz => hDz (zz ▸ z)
        · refine M.wp_mono (M.wp_bind.mp q) (fun es' q => ?_) fun _ x => x
          rw [List.append_assoc]
          exact q
      | false =>
        refine if_neg Bool.false_ne_true |>.mpr ⟨acc, es, hD4, by omega, rl.mono (R2.ho k24) fun _ _ p _ => p, k2.trans k24, g4, ?_⟩
        exact M.wp_mono (M.wp_bind.mp q) (fun es' q => q) fun _ x => x
    · have e : i = ds.length := by omega
      subst e
      rw [List.drop_length] at q
      have q : ∀ w H', Kx A.gh.Z H H' → A.gh.G H' → Rq .f K H H' (Fz A cn f Γ) (nZ A) w (.lst (es ++ [])) → Q w H' := q
      rw [List.append_nil] at q
      exact .inl ⟨stop, q _ H2 (k1.trans k2) g2 ⟨D, rfl, hn, acc, hacc, rl.mono .refl fun b _ p _ => sub b p⟩⟩
  · rw [if_neg ho] at h; exact h.elim
end
end Px

set_option Elab.async false
set_option linter.all false
set_option maxRecDepth 100000
set_option autoImplicit false
namespace Px
open PySem PySem.Spec PyProof.Rows L2

/-! ### a body's surroundings -/
structure Bd (X : Cx) (A : Am) (E : EN) (k : Nat) : Prop where
  calm : X.calm = true
  nd : X.N.Nodup
  hr : Room k X.A
  gd : X.A.guards = some []
  hx : Passes (L2.CX X.prog X.w) X (EK X.mg E)
  kle : KLe A.K X.K
section
variable {X : Cx} {A : Am} {E : EN} {k : Nat}
theorem Bd.u1 (B : Bd X A E k) : X.A.units + 1 < cLine := by have := B.hr.un; omega
theorem Bd.u64 (B : Bd X A E k) : X.A.units + 64 < cLine := by have := B.hr.un; omega
theorem Bd.u0 (B : Bd X A E k) : X.A.units < cLine := by have := B.hr.un; omega
theorem Bd.u100 (B : Bd X A E k) : X.A.units + 100 < cLine := by have := B.hr.un; omega
theorem Bd.blk (B : Bd X A E k) {s : Shared} {H : Hp} {scope : Scope} {cenv : Env} {fp : List Addr} : Bd (X.blk s H scope cenv fp) A never k :=
  ⟨B.calm, B.nd, B.hr, B.gd, fun pins σ H s e s' I h => by
    obtain ⟨_, _, _, _, _, _, _, _, _, _, _, _, ⟨_, _, z⟩⟩ := h
    exact z.elim, B.kle⟩
end

/-! ### comprehensions -/
section
variable {X : Cx} {A : Am} {E : EN} {k : Nat} {md md1 md2 : Md} {e a b c tg : Expr} {es rest : List Expr} {st : Stmt} {sts st2 : List Stmt} {m ma mb mc : Ga → M D} {mi : Ga → M (List D)} {mT mU : Ga → M Bool} {ml : Ga → M (List D)} {m1 m2 : Ga → M (Ct × Ga)} {pos p : Pos} {x : Str}
def yesT : Ga → M Bool := fun _ => .ret true
structure PTsV (X : Cx) (A : Am) (E : EN) (ifs : List Expr) (m : Ga → M Bool) : Prop where
  pts : PTs X ifs (tT A.K A E m)
theorem ptsv_nil : PTsV X A E [] yesT := ⟨⟨fun pins s σ H Q I ⟨cn, f, Γ, R, h⟩ => pts_nil.run pins s σ H Q I (h H .refl R.g)⟩⟩
theorem ptsv_one (h : PTV X A E c mT) : PTsV X A E [c] mT := ⟨pts_one h.pt⟩
theorem pev_lc {elt iter : Expr} {ifs : List Expr} {scope : Scope} {own : List (Str × Nat)} {ts : List Nat} {bnd : D → Ga → M Ga} {cond : Ga → M Bool} {me : Ga → M D} (B : Bd X A E k) (hi : PIV X A E md tg iter mi) (ok : BlkOk X.N X.env.scope scope own)
    (hg : ∀ (s : Shared) (H : Hp) (C : Addr) (cl : List (Str × Addr)) (fp : List Addr), PGV (X.blk s H scope (compEnvC scope cl C X.env) fp) A tg ts bnd) (tb : TameG bnd) (hts : ∀ j, j ∈ ts → j ∈ own.map (·.2))
    (hc : ∀ (s : Shared) (H : Hp) (C : Addr) (cl : List (Str × Addr)) (fp : List Addr), PTsV (X.blk s H scope (compEnvC scope cl C X.env) fp) A never ifs cond)
    (he : ∀ (s : Shared) (H : Hp) (C : Addr) (cl : List (Str × Addr)) (fp : List Addr), PEV (X.blk s H scope (compEnvC scope cl C X.env) fp) A never .s elt me) (hs : ∀ x, foldedSetIterable iter X.env x = pure x := by intro _; rfl) :
    PEV X A E .f (.ListComp elt [⟨tg, iter, ifs, 0⟩] scope pos) (lcM (own.map (·.2)) mi bnd cond me) :=
  ⟨imp_pe (pe_lc B.calm B.nd hi.pi ok (fun s H C cl fp => (hg s H C cl fp).pg) (fun s H C cl fp => (hc s H C cl fp).pts) (fun s H C cl fp => (he s H C cl fp).pe) hs) fun _ _ _ h => tLc_of hts tb h⟩
theorem psv_setLc {i : Nat} {y : Str} {py : Pos} {spos : Pos} {elt iter : Expr} {ifs : List Expr} {scope : Scope} {own : List (Str × Nat)} {ts : List Nat} {bnd : D → Ga → M Ga} {cond : Ga → M Bool} {me : Ga → M D} (B : Bd X A E k) (hy : X.N[i]? = some y) (hyl : X.env.scope.names.lookup y = some .local)
    (hsw : swapsWith (.ListComp elt [⟨tg, iter, ifs, 0⟩] scope pos) (some (.Name y py)) spos.line X.env = pure true) (hi : PIV X A E md1 tg iter mi) (ok : BlkOk X.N X.env.scope scope own)
    (hg : ∀ (s : Shared) (H : Hp) (C : Addr) (cl : List (Str × Addr)) (fp : List Addr), PGV (X.blk s H scope (compEnvC scope cl C X.env) fp) A tg ts bnd) (tb : TameG bnd) (hts : ∀ j, j ∈ ts → j ∈ own.map (·.2))
    (hc : ∀ (s : Shared) (H : Hp) (C : Addr) (cl : List (Str × Addr)) (fp : List Addr), PTsV (X.blk s H scope (compEnvC scope cl C X.env) fp) A never ifs cond)
    (he : ∀ (s : Shared) (H : Hp) (C : Addr) (cl : List (Str × Addr)) (fp : List Addr), PEV (X.blk s H scope (compEnvC scope cl C X.env) fp) A never .s elt me) (hs : ∀ x, foldedSetIterable iter X.env x = pure x := by intro _; rfl) :
    PSV X A E md (.Assign [.Name y py] (.ListComp elt [⟨tg, iter, ifs, 0⟩] scope pos) spos) (setM i (lcM (own.map (·.2)) mi bnd cond me)) := by
  refine ⟨imp_ps (ps_setLc B.calm B.nd hy hyl hsw hi.pi ok (fun s H C cl fp => (hg s H C cl fp).pg) (fun s H C cl fp => (hc s H C cl fp).pts) (fun s H C cl fp => (he s H C cl fp).pe) hs) fun Dn σ H ⟨cn, f, Γ, R, h⟩ => ?_⟩
  refine tLc_of hts tb ⟨cn, f, Γ, R, M.wp_mono (M.wp_bind.mp h) (fun d q w H1 k1 g1 r1 => ?_) fun _ x => x⟩
  obtain ⟨f', R', s'⟩ := R.setF k1 g1 (i := i) r1
  exact q f' _ H1 s' R'

/-! ### names, short -/
theorem vS (i : Nat) (hN : X.N[i]? = some x := by rfl) (hv : Vis X.env.scope x := by first | exact Or.inl rfl | exact Or.inr (Or.inl rfl) | exact Or.inr (Or.inr rfl)) (hd : (x == ("__debug__" : Str)) = false := by decide)
    (hcd : (x == ("__classdict__" : Str)) = false := by decide) : PEV X A E .s (.Name x pos) (getS i) := pev_var hN hv hd hcd
theorem vB (i : Nat) (hN : X.N[i]? = some x := by rfl) (hv : Vis X.env.scope x := by first | exact Or.inl rfl | exact Or.inr (Or.inl rfl) | exact Or.inr (Or.inr rfl)) (hd : (x == ("__debug__" : Str)) = false := by decide)
    (hcd : (x == ("__classdict__" : Str)) = false := by decide) : PEV X A E .b (.Name x pos) (getB i) := pev_varB hN hv hd hcd
theorem gN (i : Nat) (B : Bd X A E k) (hi : X.N[i]? = some x := by rfl) (hx : Loc X.env.scope x := by first | exact Or.inl rfl | exact Or.inr rfl) (hf : X.fn x = true ∨ X.env.scope.names.lookup x = some .local := by first | exact .inl rfl | exact .inr rfl | assumption) : PGV X A (.Name x pos) [i] (bndN i) :=
  pgv_name B.nd hi hx hf

/-! ### a def -/
def fnEnd (r : Ct × Ga) : M D := match r.1 with
  | .rt d => .ret d
  | .nx => .ret .non
  | _ => .stuck
def fnM (np n : Nat) (body : Ga → M (Ct × Ga)) : List D → M D := fun ds => if ds.length = np then body (ds.map Sl.v ++ List.replicate (n - np) Sl.un) >>= fnEnd else .stuck
theorem RpL.at_ {K : PySem.W.Frag} {H : Hp} {P : Addr → Prop} {vs : List V} {ds : List D} (r : RpL K H P vs ds) {i : Nat} {d : D} (h : ds[i]? = some d) : ∃ v, vs[i]? = some v ∧ Rp K H P v d := r.get h
/-- the wish of a body about exceptions -/
def enOf (mg : Str → Option Value) (E : XK) : EN := fun x H' => ∀ c dd, xIs mg x c dd H' → E c dd H'
theorem okXG {P : Program} {w : World} {K : PySem.W.Frag} {mg : Str → Option Value} {base : Heap} {x qual : Str} {st : Stmt} {f : Addr} {fd : FuncData} {N ps : List Str} {k : Nat} {sp : Sp} (F : Fun K x qual st f fd) (S : FnScope N ps (defScope st)) (len : ∀ vs H Q E, sp vs H Q E → vs.length = ps.length)
    (hbody : ∀ (cdv : Value) (A : Around) (outer : List Env) (s : Shared) (H : Hp) (vs : List V) (Q : VK) (E : XK), Room k (A.deeper (envOfC qual (defScope st) s.heap.objs.size f cdv)) → (A.deeper (envOfC qual (defScope st) s.heap.objs.size f cdv)).guards = some [] → sp vs H Q E →
      ∃ t, PSs (cxOf (L2.CX P w) P w K mg base N qual (defScope st) f cdv A outer s H E) (defBody st) t ∧ t { nx := fun _ H' => Q .non H', rt := Q } (start N vs) H) : FnG P w K mg base (L2.CX P w) (k + 1) f fd ps sp := by
  obtain ⟨oc, od, kV, doc, pm, an, cdv, ct, osl, rfl, lk, hcd⟩ := F.ex
  refine ⟨len, fun A outer s H args us vs Q E hr gd e0 hb r hsp => ?_⟩
  have hl := len _ _ _ _ hsp
  have KX : K.In s.heap := e0.mod.kin.keeps fun b o e => (e0.bs b o e).1
  have lim : s.heap.NoLimit := e0.mod.nolimit.keeps fun b o e => (e0.bs b o e).1
  have hkind : ∀ y ∈ ps.zip us, (defScope st).names.lookup y.1 = some .local ∨ ((defScope st).names.lookup y.1 = some .cell ∧ ((cellsFrom (s.heap.objs.size + 1) (defScope st).names []).lookup y.1).isSome = true) := fun ⟨n, v⟩ hy => by
    rcases S.par n (List.of_mem_zip hy).1 with q | q
    · exact .inl q
    · exact .inr ⟨q, PySem.W.cellsFrom_some _ _ _ (.inl q)⟩
  refine codeAny_call_function hr.depth (KX _ _ lk) rfl S.co S.gen rfl (PySem.W.codeRec_of KX hcd) (hb _ _ _ _ ?_)
  refine wpAny_newFunctionEnv_cells S.kind hkind fun env he s1 x => ?_
  subst he
  refine ⟨lim.keeps x.toInCall.keep, codeAny_func ?_⟩
  obtain ⟨t, ht, hq⟩ := hbody cdv A outer s H vs Q E (hr.deeper _) gd hsp
  have I : Inv (cxOf (L2.CX P w) P w K mg base N qual (defScope st) f cdv A outer s H E) [] (start N vs) H s1 := inv_start S hr.hd e0 hl r x
  refine wpAny_mono (ht.run [] s1 (start N vs) H _ I hq) (fun fl s' hs => ?_) fun e s' hs => hs
  have fin : ∀ {σ' : L2.St} {H' : Hp} {v : V} {u : Value}, Inv (cxOf (L2.CX P w) P w K mg base N qual (defScope st) f cdv A outer s H E) [] σ' H' s' → RelV v u → Q v H' → CE outer P w H s Q u s' :=
    fun {σ' H' v u} J rv q => ⟨v, H', J.os, J.bare, J.base, J.hok, rv, q⟩
  cases fl with
  | ret u =>
    obtain ⟨v, σ', H', J, rv, q⟩ := hs
    exact fin J rv q
  | next =>
    obtain ⟨σ', H', J, q⟩ := hs
    exact fin (v := V.non) (u := Value.none) J rfl q
  | brk =>
    obtain ⟨_, _, _, q⟩ := hs
    exact False.elim q
  | cont =>
    obtain ⟨_, _, _, q⟩ := hs
    exact False.elim q
theorem fn_ok {P : Program} {w : World} {K : PySem.W.Frag} {mg : Str → Option Value} {base : Heap} {x qual : Str} {st : Stmt} {f : Addr} {fd : FuncData} {N ps : List Str} {k : Nat} {gh : Gh} {KA : PySem.W.Frag} {body : Ga → M (Ct × Ga)} (hmd : md = .f ∨ md = .s) (F : Fun K x qual st f fd) (S : FnScope N ps (defScope st)) (kle : KLe KA K)
    (h : ∀ (cdv : Value) (A' : Around) (outer : List Env) (s : Shared) (H : Hp) (E : XK) (P0 : Addr → Prop) (g0 : gh.G H) (zp : ∀ a, gh.Z a → ¬ P0 a) (p0 : ∀ a, ¬ P0 a → ¬ gh.Z a → ∃ o, H a = some o ∧ Mut (some o)),
      Bd (cxOf (L2.CX P w) P w K mg base N qual (defScope st) f cdv A' outer s H E) ⟨gh, KA, H, P0, g0, zp, p0⟩ (enOf mg E) k →
      PSVs (cxOf (L2.CX P w) P w K mg base N qual (defScope st) f cdv A' outer s H E) ⟨gh, KA, H, P0, g0, zp, p0⟩ (enOf mg E) md (defBody st) body) :
    FnG P w K mg base (L2.CX P w) (k + 1) f fd ps (spM KA mg gh md (fnM ps.length N.length body)) := by
  have npl : ps.length ≤ N.length := by have := congrArg List.length S.pre; rw [List.length_take] at this; omega
  have len : ∀ vs H Q E, spM KA mg gh md (fnM ps.length N.length body) vs H Q E → vs.length = ps.length := fun vs H Q E ⟨P0, ds, _, _, _, r, h⟩ => by
    unfold fnM at h
    by_cases hl : ds.length = ps.length
    · rw [r.length]; exact hl
    · rw [if_neg hl] at h; exact h.elim
  refine okXG F S len fun cdv A' outer s H vs Q E hr gd hsp => ?_
  have hl := len vs H Q E hsp
  obtain ⟨P0, ds, zp, p0, g0, r, hw⟩ := hsp
  have hld : ds.length = ps.length := by rw [← r.length]; exact hl
  have tk : Takes (cxOf (L2.CX P w) P w K mg base N qual (defScope st) f cdv A' outer s H E) (fun cls d _ H => E cls d H) := takes_of rfl rfl rfl rfl
  have B : Bd (cxOf (L2.CX P w) P w K mg base N qual (defScope st) f cdv A' outer s H E) ⟨gh, KA, H, P0, g0, zp, p0⟩ (enOf mg E) k :=
    ⟨rfl, S.nd, hr, gd, passes_call tk fun cls d σ H' ⟨x, h1, h2⟩ => h2 cls d h1, kle⟩
  refine ⟨_, (h cdv A' outer s H E P0 g0 zp p0 B).ps, ⟨⟨[], [], rfl⟩, fun _ => 0, ds.map Sl.v ++ List.replicate (N.length - ps.length) Sl.un, ?_, ?_⟩⟩
  · have noOwn : ∀ (i : Nat) (d : D), (ds.map Sl.v ++ List.replicate (N.length - ps.length) Sl.un)[i]? ≠ some (.own d) := fun i d e => by
      have hm := List.mem_of_getElem? e
      rcases List.mem_append.mp hm with hm | hm
      · obtain ⟨_, _, z⟩ := List.mem_map.mp hm; cases z
      · have := List.eq_of_mem_replicate hm; cases this
    refine ⟨?_, g0, fun a o z e => .inl e, fun a ob hm => absurd hm (by simp), fun a hm => absurd hm (by simp), fun i d e => ?_, fun i d e => absurd e (noOwn i d), fun i j d e h1 _ => absurd h1 (noOwn i d)⟩
    · unfold L2.start
      rw [List.length_append, List.length_append, List.length_map, List.length_map, List.length_replicate, List.length_replicate, hl, hld]
    have hi : i < ds.length := by
      by_cases hi : i < ds.length
      · exact hi
      · rw [List.getElem?_append_right (by simpa using hi)] at e
        rw [List.getElem?_replicate] at e
        split at e <;> cases e
    rw [List.getElem?_append_left (by simpa using hi), List.getElem?_map] at e
    obtain ⟨d', hd'⟩ : ∃ d', ds[i]? = some d' := ⟨_, List.getElem?_eq_getElem hi⟩
    rw [hd'] at e
    cases e
    obtain ⟨v, h1, h2⟩ := r.get hd'
    refine ⟨v, ?_, h2.mono .refl fun b u pb _ => ⟨pb, by simp, fun j e hj => absurd hj (noOwn j e)⟩⟩
    unfold L2.start
    have hv : i < vs.length := by rw [r.length]; exact hi
    rw [List.getElem?_append_left (by simpa using hv), List.getElem?_map, h1]
    rfl
  · unfold fnM at hw
    rw [if_pos hld] at hw
    refine M.wp_mono (M.wp_bind.mp hw) (fun r q => ?_) fun x hx => ⟨rfl, fun H' k1 g1 c dd hc => hx c dd H' k1 g1 hc⟩
    obtain ⟨c, Γ'⟩ := r
    cases c with
    | nx =>
      intro f' σ' H' s' R'
      have k' : Kx gh.Z H H' := fun a o z e => by
        rcases R'.keep a o z e with q | ⟨ob, hl, _⟩
        · exact q
        · cases hl
      refine q .non H' k' R'.g ?_
      rcases hmd with rfl | rfl
      · exact .non
      · exact .non
    | rt d =>
      intro w' H' k' g' r'
      exact q w' H' (fun a o z e => by
        rcases k' a o z e with q | ⟨ob, hl, _⟩
        · exact q
        · cases hl) g' r'
    | bk => exact False.elim q
    | ct => exact False.elim q

/-! ### raise X() -/
theorem pmk0 {C : Addr} {bmB : List Value} {N newId initId : String} (F : ExcBaseFacts N newId initId bmB) (q : PySem.W.excIn X.K C bmB newId = true) (gC : X.mg x = some (.ref C)) (kC : PySem.W.keepIn X.K (.ref C) = true) (r : Raises X (.ref C)) (hg : Gl X x)
    (hdb : (x == ("__debug__" : Str)) = false := by decide) : PMk X (.Call (.Name x p) [] [] pos) (fun _ H Q => Q (.ref C) none H) := by
  intro pins s σ H Q I h
  refine wpAny_Call_Name_kw (ld_glob I hg gC ?_ hdb)
  refine PySem.W.callWith_K0 I.kIn kC ?_
  show wpAny _ _ (call (.ref C) []) _ _ _
  obtain ⟨bm, N, nm, qn, bs, hdct, sn, sub, ab, col, dd, k0, k1, k2, k3, k5, mN, hC, hN, hni, T⟩ := exc_obj I.kIn q
  refine wpAny_call_exc_subT F T hC hN hni (fun h' e hm => ?_) (by show 0 ≤ sizeLine; exact Nat.zero_le _)
  exact mk_of I hm r h (I.hok.gone hm.new)
/-- what is known of an exception class of the text, without a body -/
structure ExCls (K : PySem.W.Frag) (mg : Str → Option Value) (x : Str) (C : Addr) : Prop where
  g : mg x = some (.ref C)
  ex : PySem.W.excIn K C [.type "ValueError", .type "Exception", .type "BaseException", .type "object"] "ValueError.__new__" = true
  kp : PySem.W.keepIn K (.ref C) = true
  b : PySem.W.subIn K (.ref C) (.type "BaseException") = some true
  t : PySem.W.typeIn K (.ref C) = some (.type "type")
theorem psv_raise0 {P : Program} {w : World} {K : PySem.W.Frag} {mg : Str → Option Value} {base : Heap} {N : List Str} {qual : Str} {sc : Scope} {fa : Addr} {cdv : Value} {A' : Around} {outer : List Env} {s : Shared} {H : Hp} {E : XK} {C : Addr} {A : Am} {pos2 : Pos} (T : ExCls K mg x C)
    (hg : Gl (cxOf (L2.CX P w) P w K mg base N qual sc fa cdv A' outer s H E) x := by rfl) (hdb : (x == ("__debug__" : Str)) = false := by decide) :
    PSV (cxOf (L2.CX P w) P w K mg base N qual sc fa cdv A' outer s H E) A (enOf mg E) md (.Raise (some (.Call (.Name x p) [] [] pos)) none pos2) (raiseM (x, none)) :=
  psv_raise rfl (takes_of rfl rfl rfl rfl) (pmk0 PySem.F.excBase_ValueError T.ex T.g T.kp (raises_own T.b T.t) hg hdb) T.g fun c d σ H' ⟨x, h1, h2⟩ => h2 c d h1
theorem passes_body {P : Program} {w : World} {K : PySem.W.Frag} {mg : Str → Option Value} {base : Heap} {N : List Str} {qual : Str} {sc : Scope} {fa : Addr} {cdv : Value} {A' : Around} {outer : List Env} {s : Shared} {H : Hp} {E : XK} :
    PassesOwn (model P w) (cxOf (L2.CX P w) P w K mg base N qual sc fa cdv A' outer s H E).A (cxOf (L2.CX P w) P w K mg base N qual sc fa cdv A' outer s H E).env (cxOf (L2.CX P w) P w K mg base N qual sc fa cdv A' outer s H E).xe := passes_of (X := cxOf (L2.CX P w) P w K mg base N qual sc fa cdv A' outer s H E) rfl
end
end Px

set_option Elab.async false
set_option linter.all false
set_option maxRecDepth 100000
set_option autoImplicit false
namespace Px
open PySem PySem.Spec PyProof.Rows L2

/-! ### data without dicts, as the library's data -/
mutual
def toPy : D → PyData
  | .non => .none
  | .bl b => .bool b
  | .int i => .int i
  | .str x => .str x
  | .tup ds => .tuple (toPyL ds)
  | .lst ds => .list (toPyL ds)
  | .dct _ _ => .none
  | .raw _ => .none
def toPyL : List D → List PyData
  | [] => []
  | d :: r => toPy d :: toPyL r
end
mutual
/-- no dict, nothing raw within -/
def D.pl : D → Bool
  | .tup ds => D.plL ds
  | .lst ds => D.plL ds
  | .dct _ _ => false
  | .raw _ => false
  | _ => true
def D.plL : List D → Bool
  | [] => true
  | d :: r => D.pl d && D.plL r
end
mutual
def D.dep : D → Nat
  | .tup ds => D.depL ds + 1
  | .lst ds => D.depL ds + 1
  | .dct _ _ => 0
  | _ => 0
def D.depL : List D → Nat
  | [] => 0
  | d :: r => max (D.dep d) (D.depL r)
end
theorem toPyL_map : ∀ ds : List D, toPyL ds = ds.map toPy
  | [] => rfl
  | d :: r => congrArg (toPy d :: ·) (toPyL_map r)
theorem plL_all : ∀ ds : List D, D.plL ds = ds.all D.pl
  | [] => rfl
  | d :: r => by
    show (d.pl && D.plL r) = (d.pl && r.all D.pl)
    rw [plL_all r]
mutual
theorem toPy_plain : ∀ d : D, d.pl = true → (toPy d).plain = true
  | .non, _ => rfl
  | .bl _, _ => rfl
  | .int _, _ => rfl
  | .str _, _ => rfl
  | .tup ds, h => toPyL_plain ds h
  | .lst ds, h => toPyL_plain ds h
  | .dct _ _, h => nomatch h
  | .raw _, h => nomatch h
theorem toPyL_plain : ∀ ds : List D, D.plL ds = true → PyData.plainAll (toPyL ds) = true
  | [], _ => rfl
  | d :: r, h => by
    have h : (d.pl && D.plL r) = true := h
    rw [Bool.and_eq_true] at h
    show ((toPy d).plain && PyData.plainAll (toPyL r)) = true
    rw [toPy_plain d h.1, toPyL_plain r h.2]; rfl
end
mutual
theorem toPy_dep : ∀ d : D, (toPy d).depth ≤ d.dep
  | .non => Nat.le_refl _
  | .bl _ => Nat.le_refl _
  | .int _ => Nat.le_refl _
  | .str _ => Nat.le_refl _
  | .tup ds => by
    have := toPyL_dep ds
    show PyData.depth (.tuple (toPyL ds)) ≤ D.depL ds + 1
    simp only [PyData.depth]
    omega
  | .lst ds => by
    have := toPyL_dep ds
    show PyData.depth (.list (toPyL ds)) ≤ D.depL ds + 1
    simp only [PyData.depth]
    omega
  | .dct _ _ => Nat.zero_le _
  | .raw _ => Nat.zero_le _
theorem toPyL_dep : ∀ ds : List D, PyData.depthAll (toPyL ds) ≤ D.depL ds
  | [] => Nat.le_refl _
  | d :: r => by
    have h1 := toPy_dep d
    have h2 := toPyL_dep r
    show PyData.depthAll (toPy d :: toPyL r) ≤ max d.dep (D.depL r)
    simp only [PyData.depthAll]
    omega
end
section
variable {X : Cx} {A : Am} {pins : List (Addr × Obj)} {σ : L2.St} {H : Hp} {s : Shared} {P W : Addr → Prop}
mutual
theorem Rp.dp {K K' : PySem.W.Frag} (kle : KLe K K') : ∀ {v : V} {d : D}, Rp K H P v d → d.pl = true → Dp K' H v (toPy d)
  | _, _, .non, _ => .non
  | _, _, .bl b, _ => .bl b
  | _, _, .int i, _ => .int i
  | _, _, .str x, _ => .str x
  | _, _, .raw v, h => nomatch h
  | _, _, .tup h r, e => .tup (TpX.kle kle h) (RpL.dp kle r e)
  | _, _, .lst _ h r, e => .lst (.of h) (RpL.dp kle r e)
  | _, _, .dK _ _ _, e => nomatch e
  | _, _, .dT _ _ _, e => nomatch e
theorem RpL.dp {K K' : PySem.W.Frag} (kle : KLe K K') : ∀ {vs : List V} {ds : List D}, RpL K H P vs ds → D.plL ds = true → DpAll K' H vs (toPyL ds)
  | _, _, .nil, _ => .nil
  | _, _, .cons (d := d) (ds := ds) h r, e => by
    have e' : (d.pl && D.plL ds) = true := e
    rw [Bool.and_eq_true] at e'
    exact .cons (Rp.dp kle h e'.1) (RpL.dp kle r e'.2)
end
theorem Rb.dp {K K' : PySem.W.Frag} (kle : KLe K K') {v : V} {d : D} (h : Rb K H P W v d) (e : d.pl = true) : Dp K' H v (toPy d) := by
  cases d with
  | lst ds => obtain ⟨a, xs, rfl, _, hx, r⟩ := h; exact .lst (.of hx) (r.dp kle e)
  | dct t kvs => cases e
  | non => exact Rp.dp kle (show Rp K H P v .non from h) e
  | bl b => exact Rp.dp kle (show Rp K H P v (.bl b) from h) e
  | int i => exact Rp.dp kle (show Rp K H P v (.int i) from h) e
  | str x => exact Rp.dp kle (show Rp K H P v (.str x) from h) e
  | tup ds => exact Rp.dp kle (show Rp K H P v (.tup ds) from h) e
  | raw w => cases e
theorem Rb.reads (kle : KLe A.K X.K) (I : Inv X pins σ H s) {v : V} {u : Value} {d : D} (h : Rb A.K H P W v d) (e : d.pl = true) (r : RelV v u) : ∃ as, Reads s.heap u (toPy d) as := Dp.reads I _ v u (h.dp kle e) r
end

/-! ### operations -/
def addD : D → D → M D
  | .int i, .int j => .ret (.int (i + j))
  | .str x, .str y => if x.length + y.length ≤ 16777216 then .ret (.str (x ++ y)) else .stuck
  | .tup xs, .tup ys => if xs.length + ys.length ≤ 16777216 then .ret (.tup (xs ++ ys)) else .stuck
  | .lst xs, .lst ys => if xs.length + ys.length ≤ 16777216 then .ret (.lst (xs ++ ys)) else .stuck
  | _, _ => .stuck
def subD : D → D → M D
  | .int i, .int j => .ret (.int (i - j))
  | _, _ => .stuck
def smallI (i : Int) : Bool := decide (-(2 ^ 64) < i) && decide (i < 2 ^ 64)
def mulD : D → D → M D
  | .int i, .int j => if (smallI i || smallI j) = true then .ret (.int (i * j)) else .stuck
  | _, _ => .stuck
def fdivD : D → D → M D
  | .int i, .int j => if 0 < j ∧ j < 1073741824 then .ret (.int (i / j)) else .stuck
  | _, _ => .stuck
def modD : D → D → M D
  | .int i, .int j => if 0 < j then .ret (.int (i % j)) else .stuck
  | _, _ => .stuck
def negD : D → M D
  | .int i => .ret (.int (-i))
  | _ => .stuck
def okD (d e : D) : Bool := d.pl && e.pl && decide (min d.dep e.dep ≤ 60)
/-- equal, as Python has it (1 and True are) -/
def eqB (d e : D) : Bool := PyData.eqv (toPy d) (toPy e)
def eqD (d e : D) : M D := if okD d e = true then .ret (.bl (eqB d e)) else .stuck
def neD (d e : D) : M D := if okD d e = true then .ret (.bl (!eqB d e)) else .stuck
def inD (x c : D) : M D := match c with
  | .lst ds => if (D.plL ds && x.pl && decide (min (D.depL ds) x.dep ≤ 60)) = true then .ret (.bl (ds.any fun y => eqB y x)) else .stuck
  | .tup ds => if (D.plL ds && x.pl && decide (min (D.depL ds) x.dep ≤ 60)) = true then .ret (.bl (ds.any fun y => eqB y x)) else .stuck
  | _ => .stuck
def bnotM (m : M D) : M D := m >>= fun d => match d with
  | .bl b => .ret (.bl (!b))
  | _ => .stuck
def notInD (x c : D) : M D := bnotM (inD x c)
def ltD (d e : D) : M D := match d, e with
  | .int i, .int j => .ret (.bl (decide (i < j)))
  | .tup xs, .tup ys => if (okD d e && PySem.W.alike (toPy d) (toPy e)) = true then .ret (.bl (PySem.W.dataLt (toPy d) (toPy e))) else .stuck
  | _, _ => .stuck
def leD (d e : D) : M D := match d, e with
  | .int i, .int j => .ret (.bl (decide (i ≤ j)))
  | _, _ => .stuck
def gtD (d e : D) : M D := match d, e with
  | .int i, .int j => .ret (.bl (decide (j < i)))
  | _, _ => .stuck
def geD (d e : D) : M D := match d, e with
  | .int i, .int j => .ret (.bl (decide (j ≤ i)))
  | _, _ => .stuck
def isND (x y : D) : M D := match y, x with
  | .non, .non => .ret (.bl true)
  | .non, .raw _ => .stuck
  | .non, _ => .ret (.bl false)
  | .bl b, .bl c => .ret (.bl (b == c))
  | _, _ => .stuck
def isNotD (x y : D) : M D := bnotM (isND x y)
theorem tame_if {c : Prop} [Decidable c] {d : D} : Tame (if c then M.ret d else .stuck) := by
  by_cases h : c
  · rw [if_pos h]; trivial
  · rw [if_neg h]; trivial
theorem tame_add (x y : D) : Tame (addD x y) := by
  cases x <;> cases y <;> first | trivial | exact tame_if
theorem tame_sub (x y : D) : Tame (subD x y) := by cases x <;> cases y <;> trivial
theorem tame_mul (x y : D) : Tame (mulD x y) := by cases x <;> cases y <;> first | trivial | exact tame_if
theorem tame_fdiv (x y : D) : Tame (fdivD x y) := by cases x <;> cases y <;> first | trivial | exact tame_if
theorem tame_mod (x y : D) : Tame (modD x y) := by cases x <;> cases y <;> first | trivial | exact tame_if
theorem tame_neg (x : D) : Tame (negD x) := by cases x <;> trivial
theorem tame_eq (x y : D) : Tame (eqD x y) := tame_if
theorem tame_ne (x y : D) : Tame (neD x y) := tame_if
theorem tame_in (x y : D) : Tame (inD x y) := by cases y <;> first | trivial | exact tame_if
theorem tame_bnot {m : M D} (h : Tame m) : Tame (bnotM m) := by
  cases m with
  | ret d => cases d <;> trivial
  | stuck => trivial
  | exc x => exact h
  | draw n k => exact h
theorem tame_notIn (x y : D) : Tame (notInD x y) := tame_bnot (tame_in x y)
theorem tame_lt (x y : D) : Tame (ltD x y) := by cases x <;> cases y <;> first | trivial | exact tame_if
theorem tame_le (x y : D) : Tame (leD x y) := by cases x <;> cases y <;> trivial
theorem tame_gt (x y : D) : Tame (gtD x y) := by cases x <;> cases y <;> trivial
theorem tame_ge (x y : D) : Tame (geD x y) := by cases x <;> cases y <;> trivial
theorem tame_is (x y : D) : Tame (isND x y) := by cases y <;> cases x <;> trivial
theorem tame_isNot (x y : D) : Tame (isNotD x y) := tame_bnot (tame_is x y)
section
variable {X : Cx} {A : Am} {E : EN} {k : Nat}
theorem rb_int {K : PySem.W.Frag} {H : Hp} {P W : Addr → Prop} {w : V} {i : Int} (h : Rb K H P W w (.int i)) : w = .int i := by cases h; rfl
theorem rb_str {K : PySem.W.Frag} {H : Hp} {P W : Addr → Prop} {w : V} {i : Str} (h : Rb K H P W w (.str i)) : w = .str i := by cases h; rfl
theorem rb_non {K : PySem.W.Frag} {H : Hp} {P W : Addr → Prop} {w : V} (h : Rb K H P W w .non) : w = .non := by cases h; rfl
theorem rb_tup {K : PySem.W.Frag} {H : Hp} {P W : Addr → Prop} {w : V} {ds : List D} (h : Rb K H P W w (.tup ds)) : ∃ a xs, w = .ref a ∧ TpX K H a xs ∧ RpL K H P xs ds := by
  cases h with
  | tup hx r => exact ⟨_, _, rfl, hx, r⟩
/-- ints in, under C -/
theorem op_ints {f : Value → Value → Sem Value} {C : Int → Int → Prop} {gv : Int → Int → V} {g : D → D → M D} {gd : Int → Int → D} (ho : OpR X f (rI C gv)) (hg : ∀ d e Q, (g d e).wp Q (fun _ => False) → ∃ i j, d = .int i ∧ e = .int j ∧ C i j ∧ Q (gd i j)) (hd : ∀ i j K H0 H P, Rf K H0 H P (gv i j) (gd i j)) :
    OpR X f (rD A.K g) := by
  intro pins s σ H x y v u Q I rx ry ⟨P, W, d, e, r1, r2, h⟩
  obtain ⟨i, j, rfl, rfl, c, q⟩ := hg d e _ h
  cases rb_int r1
  cases rb_int r2
  exact ho pins s σ H _ _ v u Q I rx ry ⟨i, j, rfl, rfl, c, q _ H (Same.refl _) (hd _ _ _ _ _ _)⟩
theorem op_ints0 {f : Value → Value → Sem Value} {gv : Int → Int → V} {g : D → D → M D} {gd : Int → Int → D} (ho : OpR X f (rI0 gv)) (hg : ∀ d e Q, (g d e).wp Q (fun _ => False) → ∃ i j, d = .int i ∧ e = .int j ∧ Q (gd i j)) (hd : ∀ i j K H0 H P, Rf K H0 H P (gv i j) (gd i j)) :
    OpR X f (rD A.K g) := by
  intro pins s σ H x y v u Q I rx ry ⟨P, W, d, e, r1, r2, h⟩
  obtain ⟨i, j, rfl, rfl, q⟩ := hg d e _ h
  cases rb_int r1
  cases rb_int r2
  exact ho pins s σ H _ _ v u Q I rx ry ⟨i, j, rfl, rfl, q _ H (Same.refl _) (hd _ _ _ _ _ _)⟩
theorem o_sub : OpR X (binaryOp .Sub) (rD A.K subD) := op_ints0 (gd := fun i j => .int (i - j)) op_sub (fun d e Q h => by cases d <;> cases e <;> first | exact h.elim | exact ⟨_, _, rfl, rfl, h⟩) fun _ _ _ _ _ _ => .int _
theorem wp_if {c : Prop} [Decidable c] {d : D} {Q : D → Prop} {E' : Exn → Prop} (h : (if c then M.ret d else .stuck).wp Q E') : c ∧ Q d := by
  by_cases hc : c
  · rw [if_pos hc] at h; exact ⟨hc, h⟩
  · rw [if_neg hc] at h; exact h.elim
theorem cmul_of {i j : Int} (h : (smallI i || smallI j) = true) : CMul i j := by
  unfold smallI at h
  simp only [Bool.or_eq_true, Bool.and_eq_true, decide_eq_true_eq] at h
  exact h
theorem o_mul : OpR X (binaryOp .Mult) (rD A.K mulD) := op_ints (gd := fun i j => .int (i * j)) op_mul (fun d e Q h => by
  cases d <;> cases e <;> first
    | exact h.elim
    | (obtain ⟨c, q⟩ := wp_if h; exact ⟨_, _, rfl, rfl, cmul_of c, q⟩)) fun _ _ _ _ _ _ => .int _
theorem o_fdiv : OpR X (binaryOp .FloorDiv) (rD A.K fdivD) := op_ints (gd := fun i j => .int (i / j)) op_fdiv (fun d e Q h => by
  cases d <;> cases e <;> first
    | exact h.elim
    | (obtain ⟨c, q⟩ := wp_if h; exact ⟨_, _, rfl, rfl, c, q⟩)) fun _ _ _ _ _ _ => .int _
theorem o_mod : OpR X (binaryOp .Mod) (rD A.K modD) := op_ints (gd := fun i j => .int (i % j)) op_mod (fun d e Q h => by
  cases d <;> cases e <;> first
    | exact h.elim
    | (obtain ⟨c, q⟩ := wp_if h; exact ⟨_, _, rfl, rfl, c, q⟩)) fun _ _ _ _ _ _ => .int _
theorem o_neg : UnR X (unaryOp .USub) (uD A.K negD) := by
  intro pins s σ H x v Q I rx ⟨P, W, d, r1, h⟩
  cases d with
  | int i =>
    cases rb_int r1
    exact un_neg pins s σ H _ v Q I rx ⟨i, rfl, h _ H (Same.refl _) (.int _)⟩
  | _ => exact h.elim
theorem o_le : OpR X (compareOp .LtE) (rD A.K leD) := op_ints0 (gd := fun i j => .bl (decide (i ≤ j))) op_le (fun d e Q h => by cases d <;> cases e <;> first | exact h.elim | exact ⟨_, _, rfl, rfl, h⟩) fun _ _ _ _ _ _ => .bl _
theorem o_gt : OpR X (compareOp .Gt) (rD A.K gtD) := op_ints0 (gd := fun i j => .bl (decide (j < i))) op_gt (fun d e Q h => by cases d <;> cases e <;> first | exact h.elim | exact ⟨_, _, rfl, rfl, h⟩) fun _ _ _ _ _ _ => .bl _
theorem o_ge : OpR X (compareOp .GtE) (rD A.K geD) := op_ints0 (gd := fun i j => .bl (decide (j ≤ i))) op_ge (fun d e Q h => by cases d <;> cases e <;> first | exact h.elim | exact ⟨_, _, rfl, rfl, h⟩) fun _ _ _ _ _ _ => .bl _
theorem o_lt (B : Bd X A E k) : OpR X (compareOp .Lt) (rD A.K ltD) := by
  intro pins s σ H x y v u Q I rx ry ⟨P, W, d, e, r1, r2, h⟩
  cases d with
  | int i =>
    cases e with
    | int j =>
      cases rb_int r1
      cases rb_int r2
      exact op_lt pins s σ H _ _ v u Q I rx ry ⟨i, j, rfl, rfl, h _ H (Same.refl _) (.bl _)⟩
    | _ => exact h.elim
  | tup xs =>
    cases e with
    | tup ys =>
      obtain ⟨c, q⟩ := wp_if h
      rw [Bool.and_eq_true] at c
      obtain ⟨ok, al⟩ := c
      unfold okD at ok
      simp only [Bool.and_eq_true, decide_eq_true_eq] at ok
      obtain ⟨as, ra⟩ := r1.reads B.kle I ok.1.1 rx
      obtain ⟨bs, rb⟩ := r2.reads B.kle I ok.1.2 ry
      have d1 := toPy_dep (.tup xs)
      have d2 := toPy_dep (.tup ys)
      have hu := B.u64
      refine PySem.W.rcLt_alike _ _ X.A s v u as bs ra rb al (fun z => nomatch z) (by have := ok.2; omega) X.prog X.w _ _ ?_
      exact ⟨.bl _, H, I, rfl, q _ H (Same.refl _) (.bl _)⟩
    | _ => exact h.elim
  | _ => exact h.elim
theorem o_eq (B : Bd X A E k) : OpR X (compareOp .Eq) (rD A.K eqD) := by
  intro pins s σ H x y v u Q I rx ry ⟨P, W, d, e, r1, r2, h⟩
  obtain ⟨ok, q⟩ := wp_if h
  unfold okD at ok
  simp only [Bool.and_eq_true, decide_eq_true_eq] at ok
  obtain ⟨as, ra⟩ := r1.reads B.kle I ok.1.1 rx
  obtain ⟨bs, rb⟩ := r2.reads B.kle I ok.1.2 ry
  have d1 := toPy_dep d
  have d2 := toPy_dep e
  have hu := B.u64
  exact SeqAt.eq_plain ra rb (toPy_plain d ok.1.1) (toPy_plain e ok.1.2) (by have := ok.2; omega) ⟨.bl _, H, I, rfl, q _ H (Same.refl _) (.bl _)⟩
theorem o_ne (B : Bd X A E k) : OpR X (compareOp .NotEq) (rD A.K neD) := by
  intro pins s σ H x y v u Q I rx ry ⟨P, W, d, e, r1, r2, h⟩
  obtain ⟨ok, q⟩ := wp_if h
  unfold okD at ok
  simp only [Bool.and_eq_true, decide_eq_true_eq] at ok
  obtain ⟨as, ra⟩ := r1.reads B.kle I ok.1.1 rx
  obtain ⟨bs, rb⟩ := r2.reads B.kle I ok.1.2 ry
  have d1 := toPy_dep d
  have d2 := toPy_dep e
  have hu := B.u64
  exact SeqAt.ne_plain ra rb (toPy_plain d ok.1.1) (toPy_plain e ok.1.2) (by have := ok.2; omega) ⟨.bl _, H, I, rfl, q _ H (Same.refl _) (.bl _)⟩
theorem any_toPy {x : D} : ∀ ds : List D, ((toPyL ds).any fun y => PyData.eqv y (toPy x)) = ds.any fun y => eqB y x
  | [] => rfl
  | d :: r => by
    show (PyData.eqv (toPy d) (toPy x) || _) = (eqB d x || _)
    rw [any_toPy r]; rfl
theorem in_core {pins : List (Addr × Obj)} {σ : L2.St} {H : Hp} {s : Shared} {P W : Addr → Prop} {x y : V} {v u : Value} {d c : D} (B : Bd X A E k) (I : Inv X pins σ H s) (rx : RelV x v) (ry : RelV y u) (r1 : Rb A.K H P W x d) (r2 : Rb A.K H P W y c) {Q : D → Prop} (h : (inD d c).wp Q fun _ => False) :
    ∃ b, Q (.bl b) ∧ inD d c = .ret (.bl b) ∧ (∀ {Q' : Value → Shared → Prop} {E' : Value → Shared → Prop}, Q' (.bool b) s → wpAny (model X.prog X.w) X.A (compareOp .In v u) Q' E' s) ∧ ∀ {Q' : Value → Shared → Prop} {E' : Value → Shared → Prop}, Q' (.bool (!b)) s → wpAny (model X.prog X.w) X.A (compareOp .NotIn v u) Q' E' s := by
  have hu := B.u64
  cases c with
  | lst ds =>
    obtain ⟨ok, q⟩ := wp_if h
    refine ⟨_, q, if_pos ok, ?_⟩
    simp only [Bool.and_eq_true, decide_eq_true_eq] at ok
    obtain ⟨as, ra⟩ := r1.reads B.kle I ok.1.2 rx
    obtain ⟨bs, rb⟩ := r2.reads B.kle I (show D.plL ds = true from ok.1.1) ry
    have d1 := toPy_dep d
    have d2 := toPyL_dep ds
    rw [← any_toPy]
    exact ⟨fun q => SeqAt.in_list_data rb ra (toPyL_plain ds ok.1.1) (toPy_plain d ok.1.2) (by have := ok.2; omega) q, fun q => SeqAt.notIn_list_data rb ra (toPyL_plain ds ok.1.1) (toPy_plain d ok.1.2) (by have := ok.2; omega) q⟩
  | tup ds =>
    obtain ⟨ok, q⟩ := wp_if h
    refine ⟨_, q, if_pos ok, ?_⟩
    simp only [Bool.and_eq_true, decide_eq_true_eq] at ok
    obtain ⟨as, ra⟩ := r1.reads B.kle I ok.1.2 rx
    obtain ⟨bs, rb⟩ := r2.reads B.kle I (show D.plL ds = true from ok.1.1) ry
    have d1 := toPy_dep d
    have d2 := toPyL_dep ds
    rw [← any_toPy]
    exact ⟨fun q => SeqAt.in_tuple_data rb ra (toPyL_plain ds ok.1.1) (toPy_plain d ok.1.2) (by have := ok.2; omega) q, fun q => SeqAt.notIn_tuple_data rb ra (toPyL_plain ds ok.1.1) (toPy_plain d ok.1.2) (by have := ok.2; omega) q⟩
  | _ => exact h.elim
theorem o_in (B : Bd X A E k) : OpR X (compareOp .In) (rD A.K inD) := by
  intro pins s σ H x y v u Q I rx ry ⟨P, W, d, e, r1, r2, h⟩
  obtain ⟨b, q, _, h1, _⟩ := in_core B I rx ry r1 r2 h
  exact h1 ⟨.bl _, H, I, rfl, q _ H (Same.refl _) (.bl _)⟩
theorem o_notIn (B : Bd X A E k) : OpR X (compareOp .NotIn) (rD A.K notInD) := by
  intro pins s σ H x y v u Q I rx ry ⟨P, W, d, e, r1, r2, h⟩
  have h' := M.wp_bind.mp h
  obtain ⟨b, q, _, _, h1⟩ := in_core B I rx ry r1 r2 h'
  exact h1 ⟨.bl _, H, I, rfl, q _ H (Same.refl _) (.bl _)⟩
end
end Px

set_option Elab.async false
set_option linter.all false
set_option maxRecDepth 100000
set_option autoImplicit false
namespace Px
open PySem PySem.Spec PyProof.Rows L2

/-! ### more operations, items, slices -/
section
variable {X : Cx} {A : Am} {E : EN} {k : Nat} {md md1 md2 : Md} {e a b c : Expr} {es : List Expr} {m ma mb mc : Ga → M D} {pos p p1 p2 p3 : Pos} {x : Str}
theorem o_add (B : Bd X A E k) : OpR X (binaryOp .Add) (rD A.K addD) := by
  intro pins s σ H x y v u Q I rx ry ⟨P, W, d, e, r1, r2, h⟩
  cases d with
  | int i =>
    cases e with
    | int j =>
      cases rb_int r1
      cases rb_int r2
      exact op_add pins s σ H _ _ v u Q I rx ry ⟨i, j, rfl, rfl, h _ H (Same.refl _) (.int _)⟩
    | _ => exact h.elim
  | str i =>
    cases e with
    | str j =>
      cases rb_str r1
      cases rb_str r2
      obtain ⟨c, q⟩ := wp_if h
      exact op_add_str pins s σ H _ _ v u Q I rx ry ⟨i, j, rfl, rfl, by rw [sizeLine_eq]; exact c, q _ H (Same.refl _) (.str _)⟩
    | _ => exact h.elim
  | tup xs =>
    cases e with
    | tup ys =>
      obtain ⟨c, q⟩ := wp_if h
      obtain ⟨a, xs1, rfl, h1, l1⟩ := rb_tup r1
      obtain ⟨b, ys1, rfl, h2, l2⟩ := rb_tup r2
      refine op_catA pins s σ H _ _ v u Q I rx ry ⟨a, b, xs1, ys1, rfl, rfl, TpX.kle B.kle h1, TpX.kle B.kle h2, by rw [l1.length, l2.length, sizeLine_eq]; exact c, fun z => ?_, fun _ z => ?_, fun _ _ p hp => ?_⟩
      · subst z
        cases l1
        exact q _ H (Same.refl _) (.tup h2 l2)
      · subst z
        cases l2
        exact q _ H (Same.refl _) (.tup h1 (by rw [List.append_nil]; exact l1))
      · have s1 := same_new (o := .tup (xs1 ++ ys1)) hp
        exact q _ _ s1 (.tup (.inl upd_same) ((l1.append l2).mono (same_ho s1) fun _ _ p _ => p))
    | _ => exact h.elim
  | lst xs =>
    cases e with
    | lst ys =>
      obtain ⟨c, q⟩ := wp_if h
      obtain ⟨a, xs1, rfl, _, h1, l1⟩ := r1
      obtain ⟨b, ys1, rfl, _, h2, l2⟩ := r2
      refine op_cat pins s σ H _ _ v u Q I rx ry ⟨a, b, xs1, ys1, rfl, rfl, h1, h2, by rw [l1.length, l2.length, sizeLine_eq]; exact c, fun p hp => ?_⟩
      have s1 := same_new (o := .lst (xs1 ++ ys1)) hp
      exact q _ _ s1 ⟨p, rfl, hp, _, upd_same, (l1.append l2).mono (same_ho s1) fun b _ q r => ⟨q, fun e => by subst e; obtain ⟨o, r⟩ := rd_some r; rw [hp] at r; cases r⟩⟩
    | _ => exact h.elim
  | _ => exact h.elim
/-- a list times a number -/
def repD : D → D → M D
  | .lst xs, .int j => if xs.length * j.toNat ≤ 16777216 ∧ j < 2 ^ 62 ∧ -(2 ^ 62) ≤ j then .ret (.lst (List.replicate j.toNat xs).flatten) else .stuck
  | _, _ => .stuck
theorem tame_rep (x y : D) : Tame (repD x y) := by cases x <;> cases y <;> first | trivial | exact tame_if
theorem RpL.repn {K : PySem.W.Frag} {H : Hp} {P : Addr → Prop} {vs : List V} {ds : List D} (h : RpL K H P vs ds) : ∀ n : Nat, RpL K H P (List.replicate n vs).flatten (List.replicate n ds).flatten
  | 0 => .nil
  | n + 1 => by
    rw [List.replicate_succ, List.replicate_succ, List.flatten_cons, List.flatten_cons]
    exact h.append (h.repn n)
theorem new_ne {K : PySem.W.Frag} {H : Hp} {P : Addr → Prop} {p : Addr} {o : HO} {vs : List V} {ds : List D} (hp : H p = none) (h : RpL K H P vs ds) : RpL K (upd H p o) (fun b => P b ∧ b ≠ p) vs ds :=
  h.mono (same_ho (same_new hp)) fun b _ q r => ⟨q, fun e => by subst e; obtain ⟨o, r⟩ := rd_some r; rw [hp] at r; cases r⟩
theorem o_rep : OpR X (binaryOp .Mult) (rD A.K repD) := by
  intro pins s σ H x y v u Q I rx ry ⟨P, W, d, e, r1, r2, h⟩
  cases d with
  | lst xs =>
    cases e with
    | int j =>
      obtain ⟨c, q⟩ := wp_if h
      obtain ⟨a, xs1, rfl, _, h1, l1⟩ := r1
      cases rb_int r2
      refine op_rep pins s σ H _ _ v u Q I rx ry ⟨a, j, xs1, rfl, rfl, h1, by omega, by omega, by rw [l1.length, sizeLine_eq]; exact c.1, fun p hp => ?_⟩
      exact q _ _ (same_new hp) ⟨p, rfl, hp, _, upd_same, new_ne hp (l1.repn _)⟩
    | _ => exact h.elim
  | _ => exact h.elim
def powD : D → D → M D
  | .int i, .int j => if 0 ≤ j ∧ j ≤ 64 ∧ 0 ≤ i ∧ i ≤ 16 then .ret (.int (i ^ j.toNat)) else .stuck
  | _, _ => .stuck
theorem tame_pow (x y : D) : Tame (powD x y) := by cases x <;> cases y <;> first | trivial | exact tame_if
theorem cpow_of {i j : Int} (h : 0 ≤ j ∧ j ≤ 64 ∧ 0 ≤ i ∧ i ≤ 16) : CPow i j := by
  refine ⟨h.1, by omega, ?_⟩
  have : i.natAbs ≤ 16 := by omega
  exact Nat.lt_of_le_of_lt this (by decide)
theorem o_pow : OpR X (binaryOp .Pow) (rD A.K powD) := op_ints (gd := fun i j => .int (i ^ j.toNat)) op_pow (fun d e Q h => by
  cases d <;> cases e <;> first
    | exact h.elim
    | (obtain ⟨c, q⟩ := wp_if h; exact ⟨_, _, rfl, rfl, cpow_of c, q⟩)) fun _ _ _ _ _ _ => .int _
theorem is_core {pins : List (Addr × Obj)} {σ : L2.St} {H : Hp} {s : Shared} {P W : Addr → Prop} {x y : V} {v u : Value} {d c : D} (I : Inv X pins σ H s) (rx : RelV x v) (ry : RelV y u) (r1 : Rb A.K H P W x d) (r2 : Rb A.K H P W y c) {Q : D → Prop} (h : (isND d c).wp Q fun _ => False) :
    (∃ b, Q (.bl b) ∧ isND d c = .ret (.bl b) ∧ y = .non ∧ decide (x = .non) = b) ∨ (∃ b b1 b2, Q (.bl b) ∧ isND d c = .ret (.bl b) ∧ x = .bl b1 ∧ y = .bl b2 ∧ decide (b1 = b2) = b) := by
  cases c with
  | non =>
    cases rb_non r2
    left
    cases d with
    | non => cases rb_non r1; exact ⟨true, h, rfl, rfl, rfl⟩
    | bl b => cases rb_bl r1; exact ⟨false, h, rfl, rfl, rfl⟩
    | int i => cases rb_int r1; exact ⟨false, h, rfl, rfl, rfl⟩
    | str i => cases rb_str r1; exact ⟨false, h, rfl, rfl, rfl⟩
    | tup ds => obtain ⟨a, xs, rfl, _⟩ := rb_tup r1; exact ⟨false, h, rfl, rfl, rfl⟩
    | lst ds => obtain ⟨a, xs, rfl, _⟩ := r1; exact ⟨false, h, rfl, rfl, rfl⟩
    | dct t ds => obtain ⟨a, rfl, _⟩ := r1; exact ⟨false, h, rfl, rfl, rfl⟩
    | raw v => exact h.elim
  | bl b2 =>
    cases rb_bl r2
    right
    cases d with
    | bl b1 => cases rb_bl r1; exact ⟨_, b1, b2, h, rfl, rfl, rfl, by cases b1 <;> cases b2 <;> rfl⟩
    | _ => exact h.elim
  | _ => exact h.elim
theorem o_is : OpR X (compareOp .Is) (rD A.K isND) := by
  intro pins s σ H x y v u Q I rx ry ⟨P, W, d, e, r1, r2, h⟩
  rcases is_core I rx ry r1 r2 h with ⟨b, q, _, e1, e2⟩ | ⟨b, b1, b2, q, _, e1, e2, e3⟩
  · exact op_isN pins s σ H x y v u Q I rx ry ⟨e1, by rw [e2]; exact q _ H (Same.refl _) (.bl _)⟩
  · exact op_isBl pins s σ H x y v u Q I rx ry ⟨b1, b2, e1, e2, by rw [e3]; exact q _ H (Same.refl _) (.bl _)⟩
theorem o_isNot : OpR X (compareOp .IsNot) (rD A.K isNotD) := by
  intro pins s σ H x y v u Q I rx ry ⟨P, W, d, e, r1, r2, h⟩
  rcases is_core I rx ry r1 r2 (M.wp_bind.mp h) with ⟨b, q, _, e1, e2⟩ | ⟨b, b1, b2, q, _, e1, e2, e3⟩
  · exact op_notN pins s σ H x y v u Q I rx ry ⟨e1, by rw [e2]; exact q _ H (Same.refl _) (.bl _)⟩
  · exact op_notBl pins s σ H x y v u Q I rx ry ⟨b1, b2, e1, e2, by rw [e3]; exact q _ H (Same.refl _) (.bl _)⟩

/-! items -/
def atD (ds : List D) (i : Int) : M D := match atI ds i with
  | some d => .ret d
  | none => .stuck
def itemD : D → D → M D
  | .lst ds, .int i => atD ds i
  | .tup ds, .int i => atD ds i
  | .str z, .int i => if z.length ≤ 16777216 then (match atI z.cps.toList i with
    | some c => .ret (.str ⟨#[c]⟩)
    | none => .stuck) else .stuck
  | _, _ => .stuck
theorem tame_at (ds : List D) (i : Int) : Tame (atD ds i) := by unfold atD; split <;> trivial
theorem tame_item (x y : D) : Tame (itemD x y) := by
  cases x <;> cases y <;> first | trivial | exact tame_at _ _ | skip
  show Tame (if _ then _ else _)
  split
  · split <;> trivial
  · trivial
theorem RpL.atI {K : PySem.W.Frag} {H : Hp} {P : Addr → Prop} {vs : List V} {ds : List D} (r : RpL K H P vs ds) {i : Int} {d : D} (h : L2.atI ds i = some d) : ∃ v, L2.atI vs i = some v ∧ Rp K H P v d := by
  unfold L2.atI at h ⊢
  rw [← r.length] at h
  cases e : ixN vs.length i with
  | none => rw [e] at h; cases h
  | some j => rw [e] at h; exact r.get h
theorem wp_at {ds : List D} {i : Int} {Q : D → Prop} (h : (atD ds i).wp Q fun _ => False) : ∃ d, L2.atI ds i = some d ∧ Q d := by
  unfold atD at h
  split at h
  · rename_i d e; exact ⟨d, e, h⟩
  · exact h.elim
theorem ix_item (B : Bd X A E k) : IxR X (rDs A.K itemD) := by
  intro value slice pins s σ H x y v u Q I rx ry ⟨P, W, d, e, r1, r2, h⟩ hs
  cases d with
  | lst ds =>
    cases e with
    | int i =>
      obtain ⟨d, e, q⟩ := wp_at h
      obtain ⟨a, xs, rfl, _, hx, l⟩ := r1
      cases rb_int r2
      obtain ⟨z, e1, r⟩ := l.atI e
      exact ix_list value slice pins s σ H _ _ v u Q I rx ry ⟨a, xs, i, z, rfl, rfl, .of hx, e1, q _ r⟩ hs
    | _ => exact h.elim
  | tup ds =>
    cases e with
    | int i =>
      obtain ⟨d, e, q⟩ := wp_at h
      obtain ⟨a, xs, rfl, hx, l⟩ := rb_tup r1
      cases rb_int r2
      obtain ⟨z, e1, r⟩ := l.atI e
      exact ix_tup value slice pins s σ H _ _ v u Q I rx ry ⟨a, xs, i, z, rfl, rfl, TpX.kle B.kle hx, e1, q _ r⟩ hs
    | _ => exact h.elim
  | str z =>
    cases e with
    | int i =>
      cases rb_str r1
      cases rb_int r2
      have h : (if z.length ≤ 16777216 then (match L2.atI z.cps.toList i with
        | some c => M.ret (D.str ⟨#[c]⟩)
        | none => .stuck) else .stuck).wp _ _ := h
      split at h
      · rename_i hl
        split at h
        · rename_i c e1
          exact ix_str value slice pins s σ H _ _ v u Q I rx ry ⟨z, i, c, rfl, rfl, by rw [sizeLine_eq]; exact hl, e1, h _ (.str _)⟩ hs
        · exact h.elim
      · exact h.elim
    | _ => exact h.elim
  | _ => exact h.elim
theorem pev_item (B : Bd X A E k) (ha : PEV X A E md1 a ma) (hb : PEV X A E md2 b mb) (hs : PlainIx b := by exact fun _ _ => rfl) : PEV X A E .s (.Subscript a b pos) (bin ma mb itemD) := pev_ixs (ix_item B) tame_item ha hb hs

/-! slices -/
def cutD (xs : List D) (lo hi : Option Int) : List D := (xs.drop (HT.sIx xs.length 0 lo)).take (HT.sIx xs.length xs.length hi - HT.sIx xs.length 0 lo)
theorem RpL.cut {K : PySem.W.Frag} {H : Hp} {P : Addr → Prop} {vs : List V} {ds : List D} (r : RpL K H P vs ds) (lo hi : Option Int) : RpL K H P (cutV vs lo hi) (cutD ds lo hi) := by
  unfold cutV cutD
  rw [r.length]
  exact (r.drop _).take _
def sliceD (lo hi : Option Int) : D → M D
  | .lst ds => .ret (.lst (cutD ds lo hi))
  | .tup ds => .ret (.tup (cutD ds lo hi))
  | .str z => if z.length ≤ 16777216 then .ret (.str (cutS z lo hi)) else .stuck
  | _ => .stuck
theorem tame_slice (lo hi : Option Int) (x : D) : Tame (sliceD lo hi x) := by cases x <;> first | trivial | exact tame_if
def rSD (K : PySem.W.Frag) (g : Option Int → Option Int → D → M D) : V → Option Int → Option Int → Hp → VK → Prop := fun x lo hi H Q => ∃ P W d, Rb K H P W x d ∧ (g lo hi d).wp (fun r => ∀ w H', Same H H' → Rf K H H' P w r → Q w H') fun _ => False
theorem sl_slice (B : Bd X A E k) : SlR X (rSD A.K sliceD) := by
  intro pins s σ H x v vl vu lo hi sl Q I rx hs pl pu ⟨P, W, d, r1, h⟩
  cases d with
  | lst ds =>
    obtain ⟨a, xs, rfl, _, hx, l⟩ := r1
    exact sl_list pins s σ H _ v vl vu lo hi sl Q I rx hs pl pu ⟨a, xs, rfl, .of hx, fun p hp => h _ _ (same_new hp) ⟨p, rfl, hp, _, upd_same, new_ne hp (l.cut lo hi)⟩⟩
  | tup ds =>
    obtain ⟨a, xs, rfl, hx, l⟩ := rb_tup r1
    refine sl_tupA pins s σ H _ v vl vu lo hi sl Q I rx hs pl pu ⟨a, xs, rfl, TpX.kle B.kle hx, fun z => h _ _ (Same.refl _) ?_, fun z p hp => h _ _ (same_new hp) (.tup (.inl upd_same) ((l.cut lo hi).mono (same_ho (same_new hp)) fun _ _ p _ => p))⟩
    have e : cutD ds lo hi = ds := by
      unfold cutD
      rw [l.length] at z
      rw [z.1, z.2]
      simp
    rw [e]
    exact .tup hx l
  | str z =>
    obtain ⟨c, q⟩ := wp_if h
    cases rb_str r1
    exact sl_str pins s σ H _ v vl vu lo hi sl Q I rx hs pl pu ⟨z, rfl, by rw [sizeLine_eq]; exact c, q _ _ (Same.refl _) (.str _)⟩
  | _ => exact h.elim
/-- a part of a slice -/
def tO (K : PySem.W.Frag) (A : Am) (E : EN) (m : Ga → M (Option Int)) : TO := fun σ H Q => ∃ cn f Γ, Rl K A cn f σ H Γ ∧
  (m Γ).wp (fun d => ∀ H', Kx A.gh.Z H H' → A.gh.G H' → Q d H') (xP A E cn)
structure POV (X : Cx) (A : Am) (E : EN) (e : Option Expr) (m : Ga → M (Option Int)) : Prop where
  po : PO X e (tO A.K A E m)
def toI : D → M (Option Int)
  | .int i => .ret (some i)
  | _ => .stuck
def noO : Ga → M (Option Int) := fun _ => .ret none
def smO (m : Ga → M D) : Ga → M (Option Int) := fun Γ => m Γ >>= toI
theorem pov_none : POV X A E none noO := by
  refine ⟨⟨fun pins s σ H Q I ⟨cn, f, Γ, R, h⟩ => po_none.run pins s σ H Q I ?_⟩⟩
  exact h H .refl R.g
theorem pov_some (ha : PEV X A E md e m) : POV X A E (some e) (smO m) := by
  refine ⟨⟨fun pins s σ H Q I ⟨cn, f, Γ, R, h⟩ => (po_some ha.pe).run pins s σ H Q I ?_⟩⟩
  refine ⟨cn, f, Γ, R, M.wp_mono (M.wp_bind.mp h) (fun d q w H1 k1 g1 r1 => ?_) fun _ x => x⟩
  cases d with
  | int i => exact ⟨i, rb_int (R.rb r1), q H1 k1 g1⟩
  | _ => exact q.elim
def slV (ma : Ga → M D) (ml mh : Ga → M (Option Int)) : Ga → M D := fun Γ => ma Γ >>= fun d => ml Γ >>= fun l => mh Γ >>= fun h => sliceD l h d
theorem pev_slice {lo hi : Option Expr} {ml mh : Ga → M (Option Int)} (B : Bd X A E k) (ha : PEV X A E md a ma) (hl : POV X A E lo ml) (hh : POV X A E hi mh) : PEV X A E .f (.Subscript a (.Slice lo hi none p2) pos) (slV ma ml mh) := by
  refine ⟨imp_pe (pe_slice (sl_slice B) ha.pe hl.po hh.po) fun σ H Q ⟨cn, f, Γ, R, h⟩ => ⟨cn, f, Γ, R, M.wp_mono (M.wp_bind.mp h) (fun d q w H1 k1 g1 r1 => ?_) fun _ x => x⟩⟩
  have R1 := R.kx k1 g1
  refine ⟨cn, f, Γ, R1, M.wp_mono (M.wp_bind.mp q) (fun l q H2 k2 g2 => ?_) fun _ x => x⟩
  have R2 := R1.kx k2 g2
  refine ⟨cn, f, Γ, R2, M.wp_mono (M.wp_bind.mp q) (fun u q H3 k3 g3 => ?_) fun _ x => x⟩
  refine ⟨Fz A cn f Γ, nZ A, d, R2.rbk k3 (R1.rbk k2 (R.rb r1)), ?_⟩
  exact tD R ((k1.trans k2).trans k3) g3 (tame_slice l u d) q
/-! xs[::-1] of a list, a tuple -/
theorem adjust_back (n : Nat) : Builtin.Slice.sliceAdjust none none (-1) (n : Int) = ((n : Int) - 1, -1) := by
  unfold Builtin.Slice.sliceAdjust
  have h1 : ((-1 : Int) < 0) := by omega
  simp only [h1, if_true]
theorem places_back (n : Nat) : Builtin.Slice.slicePlaces ((n : Int) - 1) (-1) (-1) = n := by
  unfold Builtin.Slice.slicePlaces
  have h1 : ¬ ((-1 : Int) > 0) := by omega
  simp only [h1, if_false]
  rw [show (- -1 : Int) = 1 by decide, Int.ediv_one]
  split <;> omega
theorem pick_back (xs : Array Value) : ((List.range xs.size).filterMap fun (m : Nat) => xs[(((xs.size : Int) - 1) + (m : Int) * (-1)).toNat]?).toArray = xs.toList.reverse.toArray := by
  have e : (List.range xs.size).filterMap (fun (m : Nat) => xs[(((xs.size : Int) - 1) + (m : Int) * (-1)).toNat]?) = ((List.range xs.size).map fun k => xs.size - 1 - k).filterMap (xs[·]?) := by
    rw [List.filterMap_map]
    have cg : ∀ (l : List Nat) (f g : Nat → Option Value), (∀ m, m ∈ l → f m = g m) → l.filterMap f = l.filterMap g := fun l f g hl => by
      induction l with
      | nil => rfl
      | cons a r ih => rw [List.filterMap_cons, List.filterMap_cons, hl a List.mem_cons_self, ih fun m hm => hl m (List.mem_cons_of_mem _ hm)]
    refine cg _ _ _ fun m hm => ?_
    have := List.mem_range.mp hm
    have e : (((xs.size : Int) - 1) + (m : Int) * (-1)).toNat = xs.size - 1 - m := by omega
    show xs[_]? = xs[_]?
    rw [e]
  rw [e, PySem.W.krv_range, List.filterMap_reverse, PySem.W.krv_all]
section
variable {prog : Program} {w : World} {A : Around} {E : Value → Shared → Prop} {s : Shared}
theorem sliceApplied_back {sl : Addr} {vs : Value} {n : Nat} {Q : Int × Int × Nat → Shared → Prop} (hs : s.heap.IsSliceOf sl .none .none vs) (ps : IsPart vs (some (-1)))
    (h : Q ((n : Int) - 1, -1, n) s) : wpAny (model prog w) A (Builtin.Slice.sliceApplied (.ref sl) (pure (n : Int))) Q E s := by
  obtain ⟨os, hos, hcs, hds⟩ := id hs
  unfold Builtin.Slice.sliceApplied Builtin.Slice.sliceFields
  refine wpAny_bind (wpAny_bind (wpAny_field hos hds (x := .none) rfl (wpAny_bind (wpAny_field hos hds (x := .none) rfl (wpAny_bind (wpAny_field hos hds (x := vs) rfl (wpAny_pure ?_)))))))
  refine wpAny_bind (HT.slicePart_ ps ?_)
  show wpAny _ _ (if ((-1 : Int) == 0) = true then _ else _) _ _ s
  rw [if_neg (by decide)]
  refine wpAny_bind (slicePart_none (wpAny_bind (slicePart_none (wpAny_bind (wpAny_pure ?_)))))
  show wpAny _ _ (match Builtin.Slice.sliceAdjust none none (-1) (n : Int) with | (lo, hi) => pure (lo, (-1 : Int), Builtin.Slice.slicePlaces lo hi (-1))) _ _ s
  rw [adjust_back n]
  show wpAny _ _ (pure ((n : Int) - 1, (-1 : Int), Builtin.Slice.slicePlaces ((n : Int) - 1) (-1) (-1))) _ _ s
  rw [places_back]
  exact wpAny_pure h
theorem getItem_tuple_back {t sl : Addr} {items : Array Value} {vs : Value} {Q : Value → Shared → Prop} (ht : IsTup s.heap t items) (hs : s.heap.IsSliceOf sl .none .none vs) (ps : IsPart vs (some (-1)))
    (h : Q (.ref s.heap.objs.size) { s with heap := s.heap.push { cls := .type "tuple", data := .seq items.toList.reverse.toArray } })
    (hsz : items.size ≤ sizeLine) : wpAny (model prog w) A (getItem (.ref t) (.ref sl)) Q E s := by
  have htake : sizeOk (.seq items.toList.reverse.toArray) := by
    show items.toList.reverse.toArray.size ≤ sizeLine
    rw [List.size_toArray, List.length_reverse, Array.length_toList]
    exact hsz
  obtain ⟨os, hos, hcs, hds⟩ := id hs
  have hTs : s.TypeIs (.ref sl) "slice" := ⟨os, hos, hcs⟩
  unfold getItem
  try with_reducible refine wpAny_holding ?_
  first | refine wpAny_bind (wpAny_pure ?_) | skip
  refine wpAny_bind (wpAny_sequenceKey ht.typeIs (by decide) ?_)
  refine wpAny_bind (wpAny_callSpecial?_slot (name := Str.ofString "__getitem__") ht.typeIs PyProof.Rows.slot_tuple_getitem
    (wpAny_call_entry PyProof.Rows.slot_tuple_getitem ht.typeIs entry_tuple_getitem ?_ (args_tuple_getitem _ _)))
  show wpAny _ _ (Builtin.Tuple.tupleItemsOf (.ref t) >>= _) _ _ s
  refine wpAny_bind (tupleItemsOf_ ht ?_)
  refine wpAny_bind (wpAny_typeOf hTs ?_)
  rw [if_pos (by decide)]
  refine wpAny_bind (sliceApplied_back hs ps ?_)
  have hno : ¬ (((items.size : Int) - 1 == 0 && (-1 : Int) == 1 && items.size == items.size) = true) := by
    intro q
    rw [Bool.and_eq_true, Bool.and_eq_true] at q
    exact absurd (eq_of_beq q.1.2) (by decide)
  show wpAny _ _ (if ((items.size : Int) - 1 == 0 && (-1 : Int) == 1 && items.size == items.size) = true then _ else _) _ _ s
  rw [if_neg hno, pick_back]
  first
    | exact wpAny_bind (m := Builtin.Tuple.tupleExact _) (wpAny_newObj_type (wpAny_pure ⟨_, rfl, wpAny_pure h⟩) htake)
    | exact wpAny_bind (m := Builtin.Tuple.tupleExact _) (wpAny_newObj_type (wpAny_bind (wpAny_pure (wpAny_pure ⟨_, rfl, wpAny_pure h⟩))) htake)
    | exact wpAny_bind (wpAny_bind (m := Builtin.Tuple.tupleExact _) (wpAny_newObj_type (wpAny_pure (wpAny_pure ⟨_, rfl, wpAny_pure h⟩)) htake))
    | exact wpAny_bind (wpAny_bind (m := Builtin.Tuple.tupleExact _) (wpAny_newObj_type (wpAny_pure ⟨_, rfl, wpAny_pure h⟩) htake))
end
def tRevA (K : PySem.W.Frag) (te : TE) : TE := fun σ H Q => te σ H fun x H1 => ∃ a xs, x = .ref a ∧ ((H1 a = some (.lst xs) ∧ ∀ p, H1 p = none → Q (.ref p) (upd H1 p (.lst xs.reverse))) ∨ (SqT K H1 a xs ∧ ∀ p, H1 p = none → Q (.ref p) (upd H1 p (.tup xs.reverse))))
theorem pe_revA {e : Expr} {te : TE} {k : Nat} {p1 p2 p3 pos : Pos} (he : PE X e te) : PE X (.Subscript e (.Slice none none (some (.UnaryOp .USub (.Constant (.int 1) k p1) p2)) p3) pos) (tRevA X.K te) := by
  refine ⟨fun pins s σ H Q I h => ?_⟩
  refine Subscript_ (thn (he.run pins s σ H _ I h) fun v s1 ⟨x, H1, I1, r1, q1⟩ => ?_)
  obtain ⟨a, xs, ex, q⟩ := q1
  subst ex
  cases r1
  have hst : PO X (some (.UnaryOp .USub (.Constant (.int 1) k p1) p2)) (tPart (tUn (rU fun i => .int (-i)) (tC (.int 1)))) := po_some (pe_un un_neg pe_int)
  refine wpAny_Slice (thn (po_none.run pins s1 σ H1 (fun o H2 => o = none ∧ H2 = H1) I1 ⟨rfl, rfl⟩) fun vl s2 ⟨l, H2, I2, pl, el, e2⟩ => ?_)
  subst el e2
  refine thn (po_none.run pins s2 σ H2 (fun o H3 => o = none ∧ H3 = H2) I2 ⟨rfl, rfl⟩) fun vu s3 ⟨u, H3, I3, pu, eu, e3⟩ => ?_
  subst eu e3
  refine thn (hst.run pins s3 σ H3 (fun o H4 => o = some (-1) ∧ H4 = H3) I3 ⟨1, rfl, -1, rfl, rfl, rfl⟩) fun vs s4 ⟨o, H4, I4, ps, eo, e4⟩ => ?_
  subst eo e4
  have I5 : Inv X pins σ H4 { s4 with heap := s4.heap.push { cls := .type "slice", data := .fields #[vl, vu, vs] } } := I4.kept (t' := s4.toks) fun b ob q => Heap.get?_push_of_some _ q
  rcases q with ⟨hx, q⟩ | ⟨hx, q⟩
  · obtain ⟨its, r, ht, hz⟩ := I5.list (SqL.of hx)
    have hlen := r.length
    show wpAny (model X.prog X.w) X.A (subscriptTail e (.Slice none none (some (.UnaryOp .USub (.Constant (.int 1) k p1) p2)) p3) (.ref a) (.ref s4.heap.objs.size)) (EP X pins σ Q) X.xe { s4 with heap := s4.heap.push { cls := .type "slice", data := .fields #[vl, vu, vs] } }
    refine tail_any (ops := [.ref a, .ref s4.heap.objs.size]) ht.isList.typeIs (PySem.slot_list_getitem.lookup) ?_ (by with_unfolding_all rfl)
    refine wpAny_getItem_list_slice ht.isList (Heap.IsSliceOf.new _ vl vu vs) pl pu ps (by decide) ?_ (by rw [List.size_toArray]; omega)
    rw [PySem.W.krv_pick]
    refine ⟨.ref _, _, I5.laid (t' := s4.toks) (o := .lst xs.reverse) (fun b ob q => Heap.get?_push_of_some _ q) (Nat.le_refl _) ?_, rfl, q _ (I5.hok.fresh (Nat.le_refl _))⟩
    exact ⟨by rw [List.length_reverse]; exact hz, _, 0, r.reverse, Heap.get?_push_size _ rfl⟩
  · obtain ⟨its, r, ht, hz⟩ := I5.tuple hx
    have hlen := r.length
    cases pl
    cases pu
    show wpAny (model X.prog X.w) X.A (subscriptTail e (.Slice none none (some (.UnaryOp .USub (.Constant (.int 1) k p1) p2)) p3) (.ref a) (.ref s4.heap.objs.size)) (EP X pins σ Q) X.xe { s4 with heap := s4.heap.push { cls := .type "slice", data := .fields #[.none, .none, vs] } }
    refine tail_any (ops := [.ref a, .ref s4.heap.objs.size]) ht.typeIs (PyProof.Rows.slot_tuple_getitem.lookup) ?_ (by with_unfolding_all rfl)
    refine getItem_tuple_back ht (Heap.IsSliceOf.new _ .none .none vs) ps ?_ (by rw [List.size_toArray]; omega)
    refine ⟨.ref _, _, I5.laid (t' := s4.toks) (o := .tup xs.reverse) (fun b ob q => Heap.get?_push_of_some _ q) (Nat.le_refl _) ?_, rfl, q _ (I5.hok.fresh (Nat.le_refl _))⟩
    exact ⟨by rw [List.length_reverse]; exact hz, _, r.reverse, IsTup.new _ _⟩
def revD : D → M D
  | .lst ds => .ret (.lst ds.reverse)
  | .tup ds => .ret (.tup ds.reverse)
  | _ => .stuck
theorem tame_rev (x : D) : Tame (revD x) := by cases x <;> trivial
theorem pev_rev {kk : Nat} (B : Bd X A E k) (ha : PEV X A E md a ma) : PEV X A E .f (.Subscript a (.Slice none none (some (.UnaryOp .USub (.Constant (.int 1) kk p1) p2)) p3) pos) (una ma revD) := by
  refine ⟨imp_pe (pe_revA ha.pe) fun σ H Q ⟨cn, f, Γ, R, h⟩ => ⟨cn, f, Γ, R, M.wp_mono (M.wp_bind.mp h) (fun d q w H1 k1 g1 r1 => ?_) fun _ x => x⟩⟩
  have b := R.rb r1
  have q := tD R k1 g1 (tame_rev d) q
  cases d with
  | lst ds =>
    obtain ⟨a, xs, rfl, _, hx, l⟩ := b
    exact ⟨a, xs, rfl, .inl ⟨hx, fun p hp => q _ _ (same_new hp) ⟨p, rfl, hp, _, upd_same, new_ne hp l.reverse⟩⟩⟩
  | tup ds =>
    obtain ⟨a, xs, rfl, hx, l⟩ := rb_tup b
    exact ⟨a, xs, rfl, .inr ⟨TpX.kle B.kle hx, fun p hp => q _ _ (same_new hp) (.tup (.inl upd_same) (l.reverse.mono (same_ho (same_new hp)) fun _ _ p _ => p))⟩⟩
  | _ => exact q.elim
end
end Px

set_option Elab.async false
set_option linter.all false
set_option maxRecDepth 100000
set_option autoImplicit false
namespace Px
open PySem PySem.Spec PyProof.Rows L2

/-! ### what is built in -/
section
variable {X : Cx} {A : Am} {E : EN} {k : Nat} {md md1 md2 : Md} {e a b c : Expr} {es : List Expr} {m ma mb mc : Ga → M D} {pos p p1 p2 p3 : Pos} {x : Str}
theorem rq1 {K : PySem.W.Frag} {H : Hp} {P W : Addr → Prop} {vs : List V} {d : D} (h : RqL .b K H P W vs [d]) : ∃ v, vs = [v] ∧ Rb K H P W v d := by
  cases h with
  | cons h1 h2 => cases h2; exact ⟨_, rfl, h1⟩
theorem rq2 {K : PySem.W.Frag} {H : Hp} {P W : Addr → Prop} {vs : List V} {d e : D} (h : RqL .b K H P W vs [d, e]) : ∃ v w, vs = [v, w] ∧ Rb K H P W v d ∧ Rb K H P W w e := by
  cases h with
  | cons h1 h2 =>
    cases h2 with
    | cons h2 h3 => cases h3; exact ⟨_, _, rfl, h1, h2⟩
def lenD : List D → M D
  | [.lst ds] => .ret (.int ds.length)
  | [.tup ds] => .ret (.int ds.length)
  | [.str z] => if z.length ≤ 16777216 then .ret (.int z.length) else .stuck
  | _ => .stuck
theorem tame_len : ∀ ds, Tame (lenD ds)
  | [] => trivial
  | [d] => by cases d <;> first | trivial | exact tame_if
  | d :: e :: r => by unfold lenD; split <;> first | trivial | exact tame_if
theorem c_len (B : Bd X A E k) : CallR X (.builtin "len") (cD A.K lenD) := by
  intro pins s σ H vs us Q I r ⟨P, W, ds, h1, h⟩
  match ds with
  | [] => exact h.elim
  | _ :: _ :: _ => unfold lenD at h; split at h <;> simp_all [M.wp]
  | [d] =>
    obtain ⟨v, rfl, rb⟩ := rq1 h1
    cases d with
    | lst ds =>
      obtain ⟨a, xs, rfl, _, hx, l⟩ := rb
      exact call_len_seq pins s σ H _ us Q I r ⟨a, xs, rfl, .inl (.of hx), by rw [l.length]; exact h _ H (Same.refl _) (.int _)⟩
    | tup ds =>
      obtain ⟨a, xs, rfl, hx, l⟩ := rb_tup rb
      exact call_len_seq pins s σ H _ us Q I r ⟨a, xs, rfl, .inr (TpX.kle B.kle hx), by rw [l.length]; exact h _ H (Same.refl _) (.int _)⟩
    | str z =>
      cases rb_str rb
      obtain ⟨c, q⟩ := wp_if h
      exact call_len_str pins s σ H _ us Q I r ⟨z, rfl, by rw [sizeLine_eq]; exact c, q _ H (Same.refl _) (.int _)⟩
    | _ => exact h.elim
/-! lists of ints, of bools -/
def intsOf : List D → Option (List Int)
  | [] => some []
  | .int i :: r => (intsOf r).map (i :: ·)
  | _ => none
def blsOf : List D → Option (List Bool)
  | [] => some []
  | .bl i :: r => (blsOf r).map (i :: ·)
  | _ => none
theorem intsOf_eq : ∀ {ds : List D} {ns : List Int}, intsOf ds = some ns → ds = ns.map .int
  | [], ns, h => by cases h; rfl
  | d :: r, ns, h => by
    cases d with
    | int i =>
      have h : (intsOf r).map (i :: ·) = some ns := h
      cases e : intsOf r with
      | none => rw [e] at h; cases h
      | some ms => rw [e] at h; cases h; rw [intsOf_eq e]; rfl
    | _ => cases h
theorem blsOf_eq : ∀ {ds : List D} {ns : List Bool}, blsOf ds = some ns → ds = ns.map .bl
  | [], ns, h => by cases h; rfl
  | d :: r, ns, h => by
    cases d with
    | bl i =>
      have h : (blsOf r).map (i :: ·) = some ns := h
      cases e : blsOf r with
      | none => rw [e] at h; cases h
      | some ms => rw [e] at h; cases h; rw [blsOf_eq e]; rfl
    | _ => cases h
theorem intsOf_map : ∀ ns : List Int, intsOf (ns.map .int) = some ns
  | [] => rfl
  | n :: r => by show (intsOf (r.map .int)).map (n :: ·) = _; rw [intsOf_map r]; rfl
theorem blsOf_map : ∀ ns : List Bool, blsOf (ns.map .bl) = some ns
  | [] => rfl
  | n :: r => by show (blsOf (r.map .bl)).map (n :: ·) = _; rw [blsOf_map r]; rfl
theorem rpl_ints {K : PySem.W.Frag} {H : Hp} {P : Addr → Prop} : ∀ {ns : List Int} {vs : List V}, RpL K H P vs (ns.map .int) → vs = ns.map V.int
  | [], _, .nil => rfl
  | _ :: _, _, .cons h r => by cases h; rw [rpl_ints r]; rfl
theorem rpl_bls {K : PySem.W.Frag} {H : Hp} {P : Addr → Prop} : ∀ {ns : List Bool} {vs : List V}, RpL K H P vs (ns.map .bl) → vs = ns.map V.bl
  | [], _, .nil => rfl
  | _ :: _, _, .cons h r => by cases h; rw [rpl_bls r]; rfl
def onInts (ds : List D) (f : List Int → M D) : M D := match intsOf ds with
  | some ns => f ns
  | none => .stuck
def onBls (ds : List D) (f : List Bool → M D) : M D := match blsOf ds with
  | some ns => f ns
  | none => .stuck
def sumD : List D → M D
  | [.lst ds] => onInts ds fun ns => .ret (.int ns.sum)
  | _ => .stuck
def allD : List D → M D
  | [.lst ds] => onBls ds fun ns => .ret (.bl (ns.all id))
  | _ => .stuck
def anyD : List D → M D
  | [.lst ds] => onBls ds fun ns => .ret (.bl (ns.any id))
  | _ => .stuck
theorem tame_onInts {ds : List D} {f : List Int → M D} (h : ∀ ns, Tame (f ns)) : Tame (onInts ds f) := by unfold onInts; split <;> first | trivial | exact h _
theorem tame_onBls {ds : List D} {f : List Bool → M D} (h : ∀ ns, Tame (f ns)) : Tame (onBls ds f) := by unfold onBls; split <;> first | trivial | exact h _
theorem tame_sum : ∀ ds, Tame (sumD ds) := fun ds => by unfold sumD; split <;> first | trivial | exact tame_onInts fun _ => trivial
theorem tame_all : ∀ ds, Tame (allD ds) := fun ds => by unfold allD; split <;> first | trivial | exact tame_onBls fun _ => trivial
theorem tame_any : ∀ ds, Tame (anyD ds) := fun ds => by unfold anyD; split <;> first | trivial | exact tame_onBls fun _ => trivial
theorem wp_onInts {ds : List D} {f : List Int → M D} {Q : D → Prop} {E' : Exn → Prop} (h : (onInts ds f).wp Q E') : ∃ ns, ds = ns.map .int ∧ (f ns).wp Q E' := by
  unfold onInts at h; split at h
  · rename_i ns e; exact ⟨ns, intsOf_eq e, h⟩
  · exact h.elim
theorem wp_onBls {ds : List D} {f : List Bool → M D} {Q : D → Prop} {E' : Exn → Prop} (h : (onBls ds f).wp Q E') : ∃ ns, ds = ns.map .bl ∧ (f ns).wp Q E' := by
  unfold onBls at h; split at h
  · rename_i ns e; exact ⟨ns, blsOf_eq e, h⟩
  · exact h.elim
theorem c_sum (B : Bd X A E k) : CallR X (.builtin "sum") (cD A.K sumD) := by
  intro pins s σ H vs us Q I r ⟨P, W, ds, h1, h⟩
  unfold sumD at h
  split at h
  · rename_i ds
    obtain ⟨ns, rfl, q⟩ := wp_onInts h
    obtain ⟨v, rfl, a, xs, rfl, _, hx, l⟩ := rq1 h1
    cases rpl_ints l
    exact cr_sum B.calm pins s σ H _ us Q I r ⟨a, ns, rfl, .of hx, q _ H (Same.refl _) (.int _)⟩
  · exact h.elim
theorem c_all (B : Bd X A E k) : CallR X (.builtin "all") (cD A.K allD) := by
  intro pins s σ H vs us Q I r ⟨P, W, ds, h1, h⟩
  unfold allD at h
  split at h
  · rename_i ds
    obtain ⟨ns, rfl, q⟩ := wp_onBls h
    obtain ⟨v, rfl, a, xs, rfl, _, hx, l⟩ := rq1 h1
    cases rpl_bls l
    exact cr_all B.calm pins s σ H _ us Q I r ⟨a, ns, rfl, .of hx, q _ H (Same.refl _) (.bl _)⟩
  · exact h.elim
theorem c_any (B : Bd X A E k) : CallR X (.builtin "any") (cD A.K anyD) := by
  intro pins s σ H vs us Q I r ⟨P, W, ds, h1, h⟩
  unfold anyD at h
  split at h
  · rename_i ds
    obtain ⟨ns, rfl, q⟩ := wp_onBls h
    obtain ⟨v, rfl, a, xs, rfl, _, hx, l⟩ := rq1 h1
    cases rpl_bls l
    exact cr_any B.calm pins s σ H _ us Q I r ⟨a, ns, rfl, .of hx, q _ H (Same.refl _) (.bl _)⟩
  · exact h.elim
def tupleD : List D → M D
  | [.lst ds] => .ret (.tup ds)
  | [.tup ds] => .ret (.tup ds)
  | _ => .stuck
theorem tame_tuple : ∀ ds, Tame (tupleD ds) := fun ds => by unfold tupleD; split <;> trivial
theorem c_tuple (B : Bd X A E k) : CallR X (.type "tuple") (cD A.K tupleD) := by
  intro pins s σ H vs us Q I r ⟨P, W, ds, h1, h⟩
  unfold tupleD at h
  split at h
  · obtain ⟨v, rfl, a, xs, rfl, _, hx, l⟩ := rq1 h1
    exact call_tuple_of pins s σ H _ us Q I r ⟨a, xs, rfl, .inl ⟨.of hx, fun p hp => h _ _ (same_new hp) (.tup (.inl upd_same) (l.mono (same_ho (same_new hp)) fun _ _ p _ => p))⟩⟩
  · obtain ⟨v, rfl, rb⟩ := rq1 h1
    obtain ⟨a, xs, rfl, hx, l⟩ := rb_tup rb
    exact call_tuple_of pins s σ H _ us Q I r ⟨a, xs, rfl, .inr ⟨TpX.kle B.kle hx, h _ _ (Same.refl _) rb⟩⟩
  · exact h.elim
def listD : List D → M D
  | [.lst ds] => .ret (.lst ds)
  | [.tup ds] => .ret (.lst ds)
  | _ => .stuck
theorem tame_list : ∀ ds, Tame (listD ds) := fun ds => by unfold listD; split <;> trivial
theorem c_list (B : Bd X A E k) : CallR X (.type "list") (cD A.K listD) := by
  intro pins s σ H vs us Q I r ⟨P, W, ds, h1, h⟩
  unfold listD at h
  split at h
  · obtain ⟨v, rfl, a, xs, rfl, _, hx, l⟩ := rq1 h1
    exact call_list_of pins s σ H _ us Q I r ⟨a, xs, rfl, .inl (.of hx), fun p hp => h _ _ (same_new hp) ⟨p, rfl, hp, _, upd_same, new_ne hp l⟩⟩
  · obtain ⟨v, rfl, rb⟩ := rq1 h1
    obtain ⟨a, xs, rfl, hx, l⟩ := rb_tup rb
    exact call_list_of pins s σ H _ us Q I r ⟨a, xs, rfl, .inr (TpX.kle B.kle hx), fun p hp => h _ _ (same_new hp) ⟨p, rfl, hp, _, upd_same, new_ne hp l⟩⟩
  · exact h.elim
def absD : List D → M D
  | [.int i] => .ret (.int (if i < 0 then -i else i))
  | _ => .stuck
theorem tame_abs : ∀ ds, Tame (absD ds) := fun ds => by unfold absD; split <;> trivial
theorem c_abs : CallR X (.builtin "abs") (cD A.K absD) := by
  intro pins s σ H vs us Q I r ⟨P, W, ds, h1, h⟩
  unfold absD at h
  split at h
  · obtain ⟨v, rfl, rb⟩ := rq1 h1
    cases rb_int rb
    exact call_abs pins s σ H _ us Q I r ⟨_, rfl, h _ _ (Same.refl _) (.int _)⟩
  · exact h.elim
def intD : List D → M D
  | [.int i] => .ret (.int i)
  | [.bl b] => .ret (.int (if b then 1 else 0))
  | _ => .stuck
theorem tame_int : ∀ ds, Tame (intD ds) := fun ds => by unfold intD; split <;> trivial
theorem c_int : CallR X (.type "int") (cD A.K intD) := by
  intro pins s σ H vs us Q I r ⟨P, W, ds, h1, h⟩
  unfold intD at h
  split at h
  · obtain ⟨v, rfl, rb⟩ := rq1 h1
    cases rb_int rb
    exact call_int1 pins s σ H _ us Q I r (.inl ⟨_, rfl, h _ _ (Same.refl _) (.int _)⟩)
  · obtain ⟨v, rfl, rb⟩ := rq1 h1
    cases rb_bl rb
    exact call_int1 pins s σ H _ us Q I r (.inr ⟨_, rfl, h _ _ (Same.refl _) (.int _)⟩)
  · exact h.elim
/-! min, max -/
def alikeD (ds : List D) : Bool := ds.all (fun x => ds.all fun y => PySem.W.alike (toPy x) (toPy y)) && ds.all fun x => match x with
  | .non => false
  | _ => true
def minL (d : D) (ds : List D) : D := ds.foldl (fun a y => if PySem.W.dataLt (toPy y) (toPy a) = true then y else a) d
def maxL (d : D) (ds : List D) : D := ds.foldl (fun a y => if PySem.W.dataLt (toPy a) (toPy y) = true then y else a) d
def minD : List D → M D
  | [.lst (d :: ds)] => if (D.plL (d :: ds) && alikeD (d :: ds) && decide (D.depL (d :: ds) ≤ 60)) = true then keepB (minL d ds) else .stuck
  | [.tup (d :: ds)] => if (D.plL (d :: ds) && alikeD (d :: ds) && decide (D.depL (d :: ds) ≤ 60)) = true then keepB (minL d ds) else .stuck
  | [.int i, .int j] => .ret (.int (if j < i then j else i))
  | _ => .stuck
def maxD : List D → M D
  | [.lst (d :: ds)] => if (D.plL (d :: ds) && alikeD (d :: ds) && decide (D.depL (d :: ds) ≤ 60)) = true then keepB (maxL d ds) else .stuck
  | [.tup (d :: ds)] => if (D.plL (d :: ds) && alikeD (d :: ds) && decide (D.depL (d :: ds) ≤ 60)) = true then keepB (maxL d ds) else .stuck
  | [.int i, .int j] => .ret (.int (if i < j then j else i))
  | _ => .stuck
theorem tame_keepB {d : D} : Tame (keepB d) := by unfold keepB; split <;> trivial
theorem tame_ifk {c : Prop} [Decidable c] {m : M D} (h : Tame m) : Tame (if c then m else .stuck) := by
  split
  · exact h
  · trivial
theorem tame_min : ∀ ds, Tame (minD ds) := fun ds => by unfold minD; split <;> first | trivial | exact tame_ifk tame_keepB
theorem tame_max : ∀ ds, Tame (maxD ds) := fun ds => by unfold maxD; split <;> first | trivial | exact tame_ifk tame_keepB
mutual
theorem toPy_inj : ∀ {d e : D}, d.pl = true → e.pl = true → toPy d = toPy e → d = e
  | .non, e, _, h2, h => by
    cases e with
    | non => rfl
    | dct t _ => exact absurd (show false = true from h2) Bool.false_ne_true
    | raw _ => exact absurd (show false = true from h2) Bool.false_ne_true
    | _ => cases h
  | .bl b, e, _, h2, h => by cases e <;> first | (cases h; rfl) | cases h | cases h2
  | .int i, e, _, h2, h => by cases e <;> first | (cases h; rfl) | cases h | cases h2
  | .str x, e, _, h2, h => by cases e <;> first | (cases h; rfl) | cases h | cases h2
  | .tup ds, e, h1, h2, h => by
    cases e with
    | tup es => rw [toPyL_inj h1 h2 (PyData.tuple.inj h)]
    | dct t _ => cases h2
    | raw _ => cases h2
    | _ => cases h
  | .lst ds, e, h1, h2, h => by
    cases e with
    | lst es => rw [toPyL_inj h1 h2 (PyData.list.inj h)]
    | dct t _ => cases h2
    | raw _ => cases h2
    | _ => cases h
  | .dct _ _, _, h, _, _ => nomatch h
  | .raw _, _, h, _, _ => nomatch h
theorem toPyL_inj : ∀ {ds es : List D}, D.plL ds = true → D.plL es = true → toPyL ds = toPyL es → ds = es
  | [], [], _, _, _ => rfl
  | [], _ :: _, _, _, h => nomatch h
  | _ :: _, [], _, _, h => nomatch h
  | d :: ds, e :: es, h1, h2, h => by
    have h1 : (d.pl && D.plL ds) = true := h1
    have h2 : (e.pl && D.plL es) = true := h2
    rw [Bool.and_eq_true] at h1 h2
    have h : toPy d :: toPyL ds = toPy e :: toPyL es := h
    rw [toPy_inj h1.1 h2.1 (List.cons.inj h).1, toPyL_inj h1.2 h2.2 (List.cons.inj h).2]
end
theorem alikeD_ok {ds : List D} (h : alikeD ds = true) (hp : D.plL ds = true) : PySem.W.AlikeAll (toPyL ds) := by
  unfold alikeD at h
  rw [Bool.and_eq_true] at h
  rw [toPyL_map]
  refine ⟨fun x hx y hy => ?_, fun x hx => ?_⟩
  · obtain ⟨d, hd, rfl⟩ := List.mem_map.mp hx
    obtain ⟨e, he, rfl⟩ := List.mem_map.mp hy
    exact List.all_eq_true.mp (List.all_eq_true.mp h.1 d hd) e he
  · obtain ⟨d, hd, rfl⟩ := List.mem_map.mp hx
    have h1 := List.all_eq_true.mp h.2 d hd
    rw [plL_all] at hp
    have h2 := List.all_eq_true.mp hp d hd
    cases d with
    | non => exact absurd (show false = true from h1) Bool.false_ne_true
    | dct t _ => exact absurd (show false = true from h2) Bool.false_ne_true
    | raw _ => exact absurd (show false = true from h2) Bool.false_ne_true
    | _ => intro z; cases z
theorem foldl_toPy {f : PyData → PyData → Bool} : ∀ (ds : List D) (d : D), (toPyL ds).foldl (fun a y => if f a y = true then y else a) (toPy d) = toPy (ds.foldl (fun a y => if f (toPy a) (toPy y) = true then y else a) d)
  | [], _ => rfl
  | y :: r, d => by
    show (toPyL r).foldl _ (if f (toPy d) (toPy y) = true then toPy y else toPy d) = toPy (r.foldl _ (if f (toPy d) (toPy y) = true then y else d))
    rw [← foldl_toPy r]
    by_cases h : f (toPy d) (toPy y) = true
    · rw [if_pos h, if_pos h]
    · rw [if_neg h, if_neg h]
theorem foldl_mem {f : D → D → Bool} : ∀ (ds : List D) (d : D), ds.foldl (fun a y => if f a y = true then y else a) d ∈ d :: ds
  | [], d => List.mem_cons_self
  | y :: r, d => by
    show r.foldl _ (if f d y = true then y else d) ∈ _
    have := foldl_mem (f := f) r (if f d y = true then y else d)
    rcases List.mem_cons.mp this with h | h
    · rw [h]
      by_cases c : f d y = true
      · rw [if_pos c]; exact List.mem_cons_of_mem _ List.mem_cons_self
      · rw [if_neg c]; exact List.mem_cons_self
    · exact List.mem_cons_of_mem _ (List.mem_cons_of_mem _ h)
theorem RpL.at' {K : PySem.W.Frag} {H : Hp} {P : Addr → Prop} : ∀ {vs : List V} {ds : List D} {i : Nat} {v : V}, RpL K H P vs ds → vs[i]? = some v → ∃ d, d ∈ ds ∧ Rp K H P v d
  | _, _, _, _, .nil, e => by simp at e
  | _, _, 0, _, .cons h _, e => by simp at e; subst e; exact ⟨_, List.mem_cons_self, h⟩
  | _, _, i + 1, v, .cons _ r, e => by
    obtain ⟨d, h1, h2⟩ := r.at' (i := i) (v := v) (by simpa using e)
    exact ⟨d, List.mem_cons_of_mem _ h1, h2⟩
theorem paired_at {α β : Type} {R : α → β → Prop} : ∀ {xs : List α} {ys : List β} {i : Nat} {y : β}, Paired R xs ys → ys[i]? = some y → ∃ x, xs[i]? = some x ∧ R x y
  | _, _, _, _, .nil, e => by simp at e
  | _, _, 0, _, .cons h _, e => by simp at e; subst e; exact ⟨_, rfl, h⟩
  | _, _, i + 1, v, .cons _ r, e => by
    obtain ⟨x, h1, h2⟩ := paired_at r (i := i) (by simpa using e)
    exact ⟨x, by simpa using h1, h2⟩
/-- the item that min or max has picked -/
theorem picked (B : Bd X A E k) {pins : List (Addr × Obj)} {σ : L2.St} {H : Hp} {s : Shared} {P : Addr → Prop} {vs : List V} {its : List Value} {ds : List D} {d : D} {v : Value} {h' : Heap} {i : Nat} {as : List Addr}
    (I : Inv X pins σ H s) (l : RpL A.K H P vs ds) (r : Paired RelV vs its) (hp : D.plL ds = true) (hd : d ∈ ds) (hv : its[i]? = some v) (hr : Reads h' v (toPy d) as) (hk : ∀ b o, s.heap.get? b = some o → h'.get? b = some o) :
    ∃ w, RelV w v ∧ Rp A.K H P w d := by
  obtain ⟨w, hw, rw'⟩ := paired_at r hv
  obtain ⟨e, he, re⟩ := l.at' hw
  have hpe : e.pl = true := by rw [plL_all] at hp; exact List.all_eq_true.mp hp e he
  have hpd : d.pl = true := by rw [plL_all] at hp; exact List.all_eq_true.mp hp d hd
  obtain ⟨bs, rd⟩ := Rb.reads B.kle I (re.rb (W := P) fun _ p => p) hpe rw'
  have := (Reads.unique hr _ _ (PySem.W.reads_keeps hk rd)).1
  rw [toPy_inj hpd hpe this]
  exact ⟨w, rw', re⟩
theorem rp_rf {K : PySem.W.Frag} {H0 H : Hp} {P : Addr → Prop} {w : V} {d : D} {Q : D → Prop} {E' : Exn → Prop} (h : (keepB d).wp Q E') (r : Rp K H P w d) : Rf K H0 H P w d ∧ Q d := by
  cases d with
  | lst ds => exact h.elim
  | dct t ds => exact h.elim
  | non => exact ⟨r, h⟩
  | bl b => exact ⟨r, h⟩
  | int b => exact ⟨r, h⟩
  | str b => exact ⟨r, h⟩
  | tup b => exact ⟨r, h⟩
  | raw b => exact ⟨r, h⟩
theorem readsAll_of (B : Bd X A E k) {pins : List (Addr × Obj)} {σ : L2.St} {H : Hp} {s : Shared} {P : Addr → Prop} (I : Inv X pins σ H s) : ∀ {vs : List V} {ds : List D} {its : List Value}, RpL A.K H P vs ds → D.plL ds = true → Paired RelV vs its → ∃ as, ReadsAll s.heap its (toPyL ds) as
  | _, _, _, .nil, _, .nil => ⟨[], .nil⟩
  | _, _, _, .cons (d := d) (ds := ds) h r, hp, .cons r1 r2 => by
    have hp : (d.pl && D.plL ds) = true := hp
    rw [Bool.and_eq_true] at hp
    obtain ⟨as, h1⟩ := Rb.reads B.kle I (h.rb (W := P) fun _ p => p) hp.1 r1
    obtain ⟨bs, h2⟩ := readsAll_of B I r hp.2 r2
    exact ⟨_, .cons h1 h2⟩
theorem dep_all (d : D) (ds : List D) : PyData.depthAll (toPy d :: toPyL ds) ≤ D.depL (d :: ds) := toPyL_dep (d :: ds)
theorem c_min (B : Bd X A E k) : CallR X (.builtin "min") (cD A.K minD) := by
  intro pins s σ H vs us Q I r ⟨P, W, ds, h1, h⟩
  have hu := B.u64
  unfold minD at h
  split at h
  · rename_i d ds
    split at h
    · rename_i c
      simp only [Bool.and_eq_true, decide_eq_true_eq] at c
      obtain ⟨v, rfl, a, xs, rfl, _, hx, l⟩ := rq1 h1
      obtain ⟨u, rfl, ru⟩ := vals1 r
      cases ru
      obtain ⟨its, rv, hl, _⟩ := I.list (SqL.of hx)
      obtain ⟨as, ra⟩ := readsAll_of B I l c.1.1 rv
      have hd := dep_all d ds
      refine PySem.W.min_list_data (vs := its.toArray) (I.ok.hd B.calm) hl.isList (x := toPy d) (xs := toPyL ds) ra (alikeD_ok c.1.2 c.1.1) (by have := c.2; omega) fun i v h' tk bs hv hr hk => ?_
      unfold PySem.W.minD at hr
      rw [foldl_toPy (f := fun a y => PySem.W.dataLt y a)] at hr
      obtain ⟨w, r1, r2⟩ := picked B I l rv c.1.1 (foldl_mem (f := fun a y => PySem.W.dataLt (toPy y) (toPy a)) ds d) (by simpa using hv) hr hk
      obtain ⟨r3, q⟩ := rp_rf (H0 := H) h r2
      exact ⟨w, H, I.kept hk, r1, q _ _ (Same.refl _) r3⟩
    · exact h.elim
  · rename_i d ds
    split at h
    · rename_i c
      simp only [Bool.and_eq_true, decide_eq_true_eq] at c
      obtain ⟨v, rfl, rb⟩ := rq1 h1
      obtain ⟨a, xs, rfl, hx, l⟩ := rb_tup rb
      obtain ⟨u, rfl, ru⟩ := vals1 r
      cases ru
      obtain ⟨its, rv, hl, _⟩ := I.tuple (TpX.kle B.kle hx)
      obtain ⟨as, ra⟩ := readsAll_of B I l c.1.1 rv
      have hd := dep_all d ds
      refine PySem.W.min_tuple_data (vs := its.toArray) (I.ok.hd B.calm) hl (x := toPy d) (xs := toPyL ds) ra (alikeD_ok c.1.2 c.1.1) (by have := c.2; omega) fun i v h' tk bs hv hr hk => ?_
      unfold PySem.W.minD at hr
      rw [foldl_toPy (f := fun a y => PySem.W.dataLt y a)] at hr
      obtain ⟨w, r1, r2⟩ := picked B I l rv c.1.1 (foldl_mem (f := fun a y => PySem.W.dataLt (toPy y) (toPy a)) ds d) (by simpa using hv) hr hk
      obtain ⟨r3, q⟩ := rp_rf (H0 := H) h r2
      exact ⟨w, H, I.kept hk, r1, q _ _ (Same.refl _) r3⟩
    · exact h.elim
  · obtain ⟨v, w, rfl, r1, r2⟩ := rq2 h1
    cases rb_int r1
    cases rb_int r2
    exact call_min2 B.calm pins s σ H _ us Q I r ⟨_, _, rfl, h _ _ (Same.refl _) (.int _)⟩
  · exact h.elim
theorem c_max (B : Bd X A E k) : CallR X (.builtin "max") (cD A.K maxD) := by
  intro pins s σ H vs us Q I r ⟨P, W, ds, h1, h⟩
  have hu := B.u64
  unfold maxD at h
  split at h
  · rename_i d ds
    split at h
    · rename_i c
      simp only [Bool.and_eq_true, decide_eq_true_eq] at c
      obtain ⟨v, rfl, a, xs, rfl, _, hx, l⟩ := rq1 h1
      obtain ⟨u, rfl, ru⟩ := vals1 r
      cases ru
      obtain ⟨its, rv, hl, _⟩ := I.list (SqL.of hx)
      obtain ⟨as, ra⟩ := readsAll_of B I l c.1.1 rv
      have hd := dep_all d ds
      refine PySem.W.max_list_data (vs := its.toArray) (I.ok.hd B.calm) hl.isList (x := toPy d) (xs := toPyL ds) ra (alikeD_ok c.1.2 c.1.1) (by have := c.2; omega) fun i v h' tk bs hv hr hk => ?_
      unfold PySem.W.maxD at hr
      rw [foldl_toPy (f := fun a y => PySem.W.dataLt a y)] at hr
      obtain ⟨w, r1, r2⟩ := picked B I l rv c.1.1 (foldl_mem (f := fun a y => PySem.W.dataLt (toPy a) (toPy y)) ds d) (by simpa using hv) hr hk
      obtain ⟨r3, q⟩ := rp_rf (H0 := H) h r2
      exact ⟨w, H, I.kept hk, r1, q _ _ (Same.refl _) r3⟩
    · exact h.elim
  · rename_i d ds
    split at h
    · rename_i c
      simp only [Bool.and_eq_true, decide_eq_true_eq] at c
      obtain ⟨v, rfl, rb⟩ := rq1 h1
      obtain ⟨a, xs, rfl, hx, l⟩ := rb_tup rb
      obtain ⟨u, rfl, ru⟩ := vals1 r
      cases ru
      obtain ⟨its, rv, hl, _⟩ := I.tuple (TpX.kle B.kle hx)
      obtain ⟨as, ra⟩ := readsAll_of B I l c.1.1 rv
      have hd := dep_all d ds
      refine PySem.W.max_tuple_data (vs := its.toArray) (I.ok.hd B.calm) hl (x := toPy d) (xs := toPyL ds) ra (alikeD_ok c.1.2 c.1.1) (by have := c.2; omega) fun i v h' tk bs hv hr hk => ?_
      unfold PySem.W.maxD at hr
      rw [foldl_toPy (f := fun a y => PySem.W.dataLt a y)] at hr
      obtain ⟨w, r1, r2⟩ := picked B I l rv c.1.1 (foldl_mem (f := fun a y => PySem.W.dataLt (toPy a) (toPy y)) ds d) (by simpa using hv) hr hk
      obtain ⟨r3, q⟩ := rp_rf (H0 := H) h r2
      exact ⟨w, H, I.kept hk, r1, q _ _ (Same.refl _) r3⟩
    · exact h.elim
  · obtain ⟨v, w, rfl, r1, r2⟩ := rq2 h1
    cases rb_int r1
    cases rb_int r2
    exact call_max2 B.calm pins s σ H _ us Q I r ⟨_, _, rfl, h _ _ (Same.refl _) (.int _)⟩
  · exact h.elim
/-! isinstance -/
def isaP (T : String) (d : D) : M D :=
  if d.pl = true then (if T = "int" then .ret (.bl (toPy d).isInt) else if T = "bool" then .ret (.bl (toPy d).isBool) else if T = "tuple" then .ret (.bl (toPy d).isTuple) else if T = "str" then .ret (.bl (toPy d).isStr) else if T = "list" then .ret (.bl (toPy d).isList) else if T = "dict" then .ret (.bl (toPy d).isDict) else .stuck) else .stuck
def isaD : List D → M D
  | [d, .raw (.ty T)] => isaP T d
  | _ => .stuck
theorem tame_isaP (T : String) (d : D) : Tame (isaP T d) := by
  unfold isaP
  repeat' split
  all_goals trivial
theorem tame_isa : ∀ ds, Tame (isaD ds) := fun ds => by unfold isaD; split <;> first | trivial | exact tame_isaP _ _
theorem c_isa (B : Bd X A E k) : CallR X (.builtin "isinstance") (cD A.K isaD) := by
  intro pins s σ H vs us Q I r ⟨P, W, ds, h1, h⟩
  unfold isaD at h
  split at h
  · rename_i d T
    obtain ⟨v, w, rfl, r1, r2⟩ := rq2 h1
    have ew : w = .ty T := by cases r2; rfl
    subst ew
    obtain ⟨u1, u2, rfl, q1, q2⟩ := vals2 r
    cases (show u2 = Value.type T from q2)
    unfold isaP at h
    split at h
    · rename_i hp
      obtain ⟨as, rd⟩ := r1.reads B.kle I hp q1
      have fin : ∀ b : Bool, (∀ w H', Same H H' → Rf A.K H H' P w (.bl b) → Q w H') → ∀ tk, s.toks ≤ tk → EP X pins σ Q (.bool b) { s with toks := tk } := fun b q tk _ => ⟨.bl b, H, I.tok _, rfl, q _ _ (Same.refl _) (.bl _)⟩
      split at h
      · rename_i e; subst e; exact PySem.W.isinstance_int_data rd (fin _ h)
      split at h
      · rename_i e; subst e; exact PySem.W.isinstance_bool_data rd (fin _ h)
      split at h
      · rename_i e; subst e; exact PySem.W.isinstance_tuple_data rd (fin _ h)
      split at h
      · rename_i e; subst e; exact PySem.W.isinstance_str_data rd (fin _ h)
      split at h
      · rename_i e; subst e; exact PySem.W.isinstance_list_data rd (fin _ h)
      split at h
      · rename_i e; subst e; exact PySem.W.isinstance_dict_data rd (fin _ h)
      · exact h.elim
    · exact h.elim
  · exact h.elim
/-- the name of a built-in class -/
theorem pev_cls {T : String} (hg : Gl X x) (hm : X.mg x = none) (hv : bootBuiltins x = some (.type T)) (hn : x ≠ "__name__" := by decide) (hd : (x == ("__debug__" : Str)) = false := by decide) : PEV X A E .b (.Name x pos) (fun _ => .ret (.raw (.ty T))) :=
  pav_raw (pe_bltn (v := .ty T) hg hm hv rfl hn hd) fun H P => .raw _
end
end Px

set_option Elab.async false
set_option linter.all false
set_option maxRecDepth 100000
set_option autoImplicit false
namespace Px
open PySem PySem.Spec PyProof.Rows L2

/-! ### what is one's own is changed -/
section
variable {K : PySem.W.Frag} {A : Am} {cn : Cn} {f : Nat → Addr} {σ : L2.St} {H H' : Hp} {Γ : Ga} {a b : Addr} {d d' : D} {w : V} {i : Nat} {o : HO}
theorem fz_own (e : Γ[i]? = some (.own d)) : Fz A cn f (Γ.set i (.own d')) a ↔ Fz A cn f Γ a := by
  have hl : i < Γ.length := (List.getElem?_eq_some_iff.mp e).1
  refine ⟨fun h => ⟨h.1, h.2.1, fun j x hj => ?_⟩, fun h => ⟨h.1, h.2.1, fun j x hj => ?_⟩⟩
  · by_cases q : j = i
    · rw [q]; exact h.2.2 i d' (set_at hl)
    · exact h.2.2 j x (by rw [set_ne q]; exact hj)
  · rcases set_get hj with ⟨q, _, _⟩ | ⟨_, hj⟩
    · rw [q]; exact h.2.2 i d e
    · exact h.2.2 j x hj
theorem Fz.ne (h : Fz A cn f Γ b) (e : Γ[i]? = some (.own d)) : b ≠ f i := fun z => h.2.2 i d e z.symm
/-- nothing that is safe changes when an object of one's own does -/
theorem Rl.ho_put (R : Rl K A cn f σ H Γ) (e : Γ[i]? = some (.own d)) : Ho (Fz A cn f Γ) H (upd H (f i) o) := by
  obtain ⟨_, _, _, h4⟩ := R.ow i d e
  obtain ⟨u, hu, mu⟩ := h4.mut
  refine ⟨fun b u p r => ?_, fun b xs r => ?_⟩
  · rw [upd_ne (p.ne e)]; exact r
  · have ne : b ≠ f i := fun z => by rw [z] at r; exact mut_not_frz hu mu r
    rw [upd_ne ne]; exact r
theorem Rl.put (R : Rl K A cn f σ H Γ) (e : Γ[i]? = some (.own d)) (m : Mut (some o)) (ow : Ow K (upd H (f i) o) (Fz A cn f Γ) (f i) d') :
    Rl K A cn f σ (upd H (f i) o) (Γ.set i (.own d')) ∧ Hs A cn f Γ H f (Γ.set i (.own d')) (upd H (f i) o) := by
  obtain ⟨h1, h2, h3, h4⟩ := R.ow i d e
  have hl : i < Γ.length := (List.getElem?_eq_some_iff.mp e).1
  have ho : Ho (Fz A cn f Γ) H (upd H (f i) o) := R.ho_put e
  have pp : ∀ b, Fz A cn f Γ b → Fz A cn f (Γ.set i (.own d')) b := fun b p => (fz_own e).mpr p
  refine ⟨⟨by rw [List.length_set]; exact R.len, A.gh.gk H _ R.g fun b z => upd_ne fun q => (R.own_nz e).1 (q ▸ z), fun b u z q => ?_, fun b ob hb => ?_, fun b hb => ?_, fun j x hj => ?_, fun j x hj => ?_, fun j l x y hj hk q => ?_⟩, fun b p u q => ⟨pp b p, by rw [upd_ne (p.ne e)]; exact q⟩⟩
  · have ne : b ≠ f i := fun y => by rw [y, h2] at q; cases q
    rcases R.keep b u z q with r | ⟨ob, hk, r⟩
    · exact .inl (by rw [upd_ne ne]; exact r)
    · exact .inr ⟨ob, hk, by rw [upd_ne ne]; exact r⟩
  · obtain ⟨p, u, q⟩ := R.lkf b ob hb
    exact ⟨pp b p, u, by rw [upd_ne (p.ne e)]; exact q⟩
  · obtain ⟨z, u, q, mu⟩ := R.hdm b hb
    exact ⟨z, u, by
      have ne : b ≠ f i := fun y => by rw [y] at hb; exact h3 hb
      rw [upd_ne ne]; exact q, mu⟩
  · rcases set_get hj with ⟨_, q, _⟩ | ⟨_, hj⟩
    · cases q
    · obtain ⟨w, q1, q2⟩ := R.sl j x hj
      exact ⟨w, q1, q2.mono ho fun b _ p _ => pp b p⟩
  · rcases set_get hj with ⟨q1, q2, _⟩ | ⟨ne, hj⟩
    · cases q2
      subst q1
      exact ⟨h1, h2, h3, ow.mono .refl (fun b _ p _ => pp b p) fun _ z => z⟩
    · obtain ⟨q1, q2, q3, q4⟩ := R.ow j x hj
      refine ⟨q1, q2, q3, q4.mono ho (fun b _ p _ => pp b p) fun u z => ?_⟩
      rw [upd_ne fun y => ne (R.inj j i x d hj e y)]
      exact z
  · have back : ∀ {j : Nat} {x : D}, (Γ.set i (.own d'))[j]? = some (.own x) → ∃ y, Γ[j]? = some (.own y) := fun {j x} hj => by
      rcases set_get hj with ⟨q1, _, _⟩ | ⟨_, hj⟩
      · rw [q1]; exact ⟨_, e⟩
      · exact ⟨_, hj⟩
    obtain ⟨x', hj⟩ := back hj
    obtain ⟨y', hk⟩ := back hk
    exact R.inj j l x' y' hj hk q
theorem Rl.putL (R : Rl K A cn f σ H Γ) (e : Γ[i]? = some (.own d)) {xs : List V} {ds : List D} (r : RpL K H (Fz A cn f Γ) xs ds) :
    Rl K A cn f σ (upd H (f i) (.lst xs)) (Γ.set i (.own (.lst ds))) ∧ Hs A cn f Γ H f (Γ.set i (.own (.lst ds))) (upd H (f i) (.lst xs)) :=
  R.put e trivial ⟨xs, upd_same, r.mono (R.ho_put e) fun _ _ p _ => p⟩
end
section
variable {X : Cx} {A : Am} {E : EN} {k : Nat} {md md1 md2 : Md} {e a b c : Expr} {es : List Expr} {m ma mb mc : Ga → M D} {ml : Ga → M (List D)} {pos p p1 p2 p3 apos : Pos} {x y : Str} {i j : Nat}
def ownL (i : Nat) (Γ : Ga) (f : List D → M (Ct × Ga)) : M (Ct × Ga) := match Γ[i]? with
  | some (.own (.lst ds)) => f ds
  | _ => .stuck
theorem wp_ownL {Γ : Ga} {f : List D → M (Ct × Ga)} {Q : Ct × Ga → Prop} {E' : Exn → Prop} (h : (ownL i Γ f).wp Q E') : ∃ ds, Γ[i]? = some (.own (.lst ds)) ∧ (f ds).wp Q E' := by
  unfold ownL at h
  split at h
  · rename_i ds e; exact ⟨ds, e, h⟩
  · exact h.elim
/-- a method of lists: what it gives, what the list is then -/
def MthOk (K : PySem.W.Frag) (md : Md) (r : V → List V → Hp → VK → Prop) (g : List D → List D → Option (D × List D)) : Prop := ∀ (l : Addr) (xs : List V) (ds : List D) (vs : List V) (es : List D) (H : Hp) (Q : VK) (P W : Addr → Prop) (d : D) (ds' : List D),
  H l = some (.lst xs) → RpL K H P xs ds → RqL md K H P W vs es → g ds es = some (d, ds') → (∀ w xs', Rp K H P w d → RpL K H P xs' ds' → Q w (upd H l (.lst xs'))) → r (.ref l) vs H Q
def appG : List D → List D → Option (D × List D) := fun ds es => match es with
  | [d] => if ds.length < 16777216 then some (.non, ds ++ [d]) else none
  | _ => none
def extG : List D → List D → Option (D × List D) := fun ds es => match es with
  | [.lst es] => if ds.length + es.length ≤ 16777216 then some (.non, ds ++ es) else none
  | _ => none
def pop0G : List D → List D → Option (D × List D) := fun ds es => match es with
  | [] => match ds[ds.length - 1]? with
    | some d => some (d, ds.dropLast)
    | none => none
  | _ => none
def popG : List D → List D → Option (D × List D) := fun ds es => match es with
  | [.int i] => match seqIndex? i ds.length with
    | some k => match ds[k]? with
      | some d => if -(2 ^ 62) ≤ i ∧ i < 2 ^ 62 then some (d, ds.eraseIdx k) else none
      | none => none
    | none => none
  | _ => none
theorem mth_append {K : PySem.W.Frag} : MthOk K .s rAppend appG := fun l xs ds vs es H Q P W d ds' hx r rv e q => by
  unfold appG at e
  split at e
  · split at e
    · rename_i d hl
      cases e
      cases rv with
      | cons h1 h2 =>
        cases h2
        exact ⟨l, xs, _, rfl, rfl, hx, by rw [r.length, sizeLine_eq]; exact hl, q _ _ .non (r.append (.cons h1 .nil))⟩
    · cases e
  · cases e
theorem mth_extend {K : PySem.W.Frag} : MthOk K .b rExtend extG := fun l xs ds vs es H Q P W d ds' hx r rv e q => by
  unfold extG at e
  split at e
  · split at e
    · rename_i es hl
      cases e
      obtain ⟨v, rfl, a, ys, rfl, _, hy, r2⟩ := rq1 rv
      exact ⟨l, a, xs, ys, rfl, rfl, hx, hy, by rw [r.length, r2.length, sizeLine_eq]; exact hl, q _ _ .non (r.append r2)⟩
    · cases e
  · cases e
theorem mth_popAt {K : PySem.W.Frag} : MthOk K .b rPopAt popG := fun l xs ds vs es H Q P W d ds' hx r rv e q => by
  unfold popG at e
  split at e
  · rename_i i
    obtain ⟨v, rfl, rb⟩ := rq1 rv
    cases rb_int rb
    split at e
    · rename_i k hk
      split at e
      · rename_i y hy
        split at e
        · rename_i hl
          cases e
          obtain ⟨w, h1, h2⟩ := r.get hy
          exact ⟨l, xs, i, k, w, rfl, rfl, hx, by omega, by omega, by rw [r.length]; exact hk, h1, q _ _ h2 (r.erase k)⟩
        · cases e
      · cases e
    · cases e
  · cases e
theorem mth_pop {K : PySem.W.Frag} : MthOk K .b rPop pop0G := fun l xs ds vs es H Q P W d ds' hx r rv e q => by
  unfold pop0G at e
  split at e
  · cases rv
    split at e
    · rename_i y hy
      cases e
      obtain ⟨w, h1, h2⟩ := r.get hy
      exact ⟨l, xs, w, rfl, rfl, hx, by rw [r.length]; exact h1, q _ _ h2 r.dropLast⟩
    · cases e
  · cases e
def mthM (i : Nat) (ml : Ga → M (List D)) (g : List D → List D → Option (D × List D)) (kk : D → Ga → M (Ct × Ga)) : Ga → M (Ct × Ga) := fun Γ => ownL i Γ fun ds => ml Γ >>= fun es => match g ds es with
  | some (d, ds') => kk d (Γ.set i (.own (.lst ds')))
  | none => .stuck
theorem mth_run {r : V → List V → Hp → VK → Prop} {g : List D → List D → Option (D × List D)} {kk : D → Ga → M (Ct × Ga)} (hr : MthOk A.K md r g) {Dn : Ends} {md' : Md} {σ : L2.St} {H : Hp} {Q : VK} {cn : Cn} {f : Nat → Addr} {Γ : Ga} (R : Rl A.K A cn f σ H Γ) (h : (mthM i ml g kk Γ).wp (sP A.K A cn md' f Γ H Dn) (xP A E cn))
    (hQ : ∀ d ds' w xs' H1, Kx A.gh.Z H H1 → Rl A.K A cn f σ (upd H1 (f i) (.lst xs')) (Γ.set i (.own (.lst ds'))) → Rp A.K (upd H1 (f i) (.lst xs')) (Fz A cn f (Γ.set i (.own (.lst ds')))) w d →
      (kk d (Γ.set i (.own (.lst ds')))).wp (sP A.K A cn md' f (Γ.set i (.own (.lst ds'))) (upd H1 (f i) (.lst xs')) Dn) (xP A E cn) → Q w (upd H1 (f i) (.lst xs'))) {K' : PySem.W.Frag} :
    tBM K' "list" r (tVar i) (tA A.K A E md ml) σ H Q := by
  obtain ⟨ds, e, h⟩ := wp_ownL h
  obtain ⟨h1, _, _, xs0, hx0, _⟩ := R.ow i _ e
  refine ⟨_, h1, .inl ⟨rfl, xs0, SqL.of hx0⟩, cn, f, Γ, R, M.wp_mono (M.wp_bind.mp h) (fun es q ws H1 k1 g1 r1 => ?_) fun _ x => x⟩
  have R1 := R.kx k1 g1
  obtain ⟨_, _, _, xs, hx, rx⟩ := R1.ow i _ e
  split at q
  · rename_i d ds' eg
    refine hr (f i) xs ds ws es H1 Q _ _ d ds' hx rx r1 eg fun w xs' rw' rx' => ?_
    obtain ⟨R2, s2⟩ := R1.putL e rx'
    exact hQ d ds' w xs' H1 k1 R2 (rw'.mono (R1.ho_put e) fun b _ p _ => (fz_own e).mpr p) (M.wp_mono q (fun r q => q.pre ((Hs.kx k1).trans s2)) fun _ x => x)
  · exact q.elim
theorem mth_run0 {r : V → List V → Hp → VK → Prop} {g : List D → List D → Option (D × List D)} {kk : D → Ga → M (Ct × Ga)} (hr : MthOk A.K .b r g) {Dn : Ends} {md' : Md} {σ : L2.St} {H : Hp} {Q : VK} {cn : Cn} {f : Nat → Addr} {Γ : Ga} (R : Rl A.K A cn f σ H Γ) (h : (mthM i nilL g kk Γ).wp (sP A.K A cn md' f Γ H Dn) (xP A E cn))
    (hQ : ∀ d ds' w xs' H1, Kx A.gh.Z H H1 → Rl A.K A cn f σ (upd H1 (f i) (.lst xs')) (Γ.set i (.own (.lst ds'))) → Rp A.K (upd H1 (f i) (.lst xs')) (Fz A cn f (Γ.set i (.own (.lst ds')))) w d →
      (kk d (Γ.set i (.own (.lst ds')))).wp (sP A.K A cn md' f (Γ.set i (.own (.lst ds'))) (upd H1 (f i) (.lst xs')) Dn) (xP A E cn) → Q w (upd H1 (f i) (.lst xs'))) {K' : PySem.W.Frag} :
    tBM0 K' "list" r (tVar i) σ H Q := by
  obtain ⟨ds, e, h⟩ := wp_ownL h
  obtain ⟨h1, _, _, xs, hx, rx⟩ := R.ow i _ e
  refine ⟨_, h1, .inl ⟨rfl, xs, SqL.of hx⟩, ?_⟩
  have q : (match g ds [] with
    | some (d, ds') => kk d (Γ.set i (.own (.lst ds')))
    | none => M.stuck).wp _ _ := h
  split at q
  · rename_i d ds' eg
    refine hr (f i) xs ds [] [] H Q (Fz A cn f Γ) (nZ A) d ds' hx rx .nil eg fun w xs' rw' rx' => ?_
    obtain ⟨R2, s2⟩ := R.putL e rx'
    exact hQ d ds' w xs' H .refl R2 (rw'.mono (R.ho_put e) fun b _ p _ => (fz_own e).mpr p) (M.wp_mono q (fun r q => q.pre s2) fun _ x => x)
  · exact q.elim
/-- its value is let go -/
def dropK' : D → Ga → M (Ct × Ga) := fun _ Γ => .ret (.nx, Γ)
/-- its value is assigned -/
def bndK (bnd : D → Ga → M Ga) : D → Ga → M (Ct × Ga) := fun d Γ => bnd d Γ >>= fun Γ' => .ret (.nx, Γ')
section
variable {name : Str} {id : String} {r : V → List V → Hp → VK → Prop} {g : List D → List D → Option (D × List D)}
theorem psv_mexp (hr : MthOk A.K md1 r g) (slot : Slot "list" name id) (hty : typeOf (.builtin id) = pure (.type "method_descriptor")) (hm : MtR X id r) (he : PAVL X A E md1 (e :: es) ml) (hN : X.N[i]? = some x := by rfl) (hv : Vis X.env.scope x := by first | exact Or.inl rfl | exact Or.inr (Or.inl rfl) | exact Or.inr (Or.inr rfl)) (hd : (x == ("__debug__" : Str)) = false := by decide) (hcd : (x == ("__classdict__" : Str)) = false := by decide)
    (hbase : attributeBase (.Name x p) name X.env (eval (.Name x p) X.env) = eval (.Name x p) X.env := by rfl)
    (hfew : ((backTo p1 (starEach (e :: es) X.env)).all (fun x => !x.1) && (backToKw p1 (keywordEach [] X.env)).all (fun x => x.1.isSome) && decide ((e :: es).length + ([] : List Keyword).length + (if ([] : List Keyword).isEmpty then 0 else 1) < 30)) = true := by rfl)
    (hline : (apos.endLine == p1.line) = true := by rfl) (hs : starEach (e :: es) X.env = (false, eval e X.env) :: starEach es X.env := by rfl) (hplain : (backTo p1 (starEach es X.env)).any (·.1) = false := by rfl)
    (hsw : swapsWith (.Call (.Attribute (.Name x p) name apos) (e :: es) [] p1) none pos.line X.env = pure false := by rfl) :
    PSV X A E md (.Expr (.Call (.Attribute (.Name x p) name apos) (e :: es) [] p1) pos) (mthM i ml g dropK') :=
  ⟨imp_ps (ps_expr (pe_bm PySem.F.plainAttrs_list slot hty hm (pe_var hN hv hd hcd) he.pa hbase hfew hline hs hplain) hsw) fun Dn σ H ⟨cn, f, Γ, R, h⟩ =>
    mth_run hr R h fun d ds' w xs' H1 k1 R2 rw' q => q f σ _ .refl R2⟩
theorem psv_mexp0 (hr : MthOk A.K .b r g) (slot : Slot "list" name id) (hty : typeOf (.builtin id) = pure (.type "method_descriptor")) (hm : MtR X id r) (hN : X.N[i]? = some x := by rfl) (hv : Vis X.env.scope x := by first | exact Or.inl rfl | exact Or.inr (Or.inl rfl) | exact Or.inr (Or.inr rfl)) (hd : (x == ("__debug__" : Str)) = false := by decide) (hcd : (x == ("__classdict__" : Str)) = false := by decide)
    (hbase : attributeBase (.Name x p) name X.env (eval (.Name x p) X.env) = eval (.Name x p) X.env := by rfl)
    (hline : (apos.endLine == p1.line) = true := by rfl)
    (hsw : swapsWith (.Call (.Attribute (.Name x p) name apos) [] [] p1) none pos.line X.env = pure false := by rfl) :
    PSV X A E md (.Expr (.Call (.Attribute (.Name x p) name apos) [] [] p1) pos) (mthM i nilL g dropK') :=
  ⟨imp_ps (ps_expr (pe_bm0 PySem.F.plainAttrs_list slot hty hm (pe_var hN hv hd hcd) hbase hline) hsw) fun Dn σ H ⟨cn, f, Γ, R, h⟩ =>
    mth_run0 hr R h fun d ds' w xs' H1 k1 R2 rw' q => q f σ _ .refl R2⟩
theorem psv_masg {tg : Expr} {ts : List Nat} {bnd : D → Ga → M Ga} (hg : PGV X A tg ts bnd) (ht : TameG bnd) (hr : MthOk A.K md1 r g) (slot : Slot "list" name id) (hty : typeOf (.builtin id) = pure (.type "method_descriptor")) (hm : MtR X id r) (he : PAVL X A E md1 (e :: es) ml) (hN : X.N[i]? = some x := by rfl) (hv : Vis X.env.scope x := by first | exact Or.inl rfl | exact Or.inr (Or.inl rfl) | exact Or.inr (Or.inr rfl)) (hd : (x == ("__debug__" : Str)) = false := by decide) (hcd : (x == ("__classdict__" : Str)) = false := by decide)
    (hbase : attributeBase (.Name x p) name X.env (eval (.Name x p) X.env) = eval (.Name x p) X.env := by rfl)
    (hfew : ((backTo p1 (starEach (e :: es) X.env)).all (fun x => !x.1) && (backToKw p1 (keywordEach [] X.env)).all (fun x => x.1.isSome) && decide ((e :: es).length + ([] : List Keyword).length + (if ([] : List Keyword).isEmpty then 0 else 1) < 30)) = true := by rfl)
    (hline : (apos.endLine == p1.line) = true := by rfl) (hs : starEach (e :: es) X.env = (false, eval e X.env) :: starEach es X.env := by rfl) (hplain : (backTo p1 (starEach es X.env)).any (·.1) = false := by rfl)
    (hsw : swapsWithSole [tg] (.Call (.Attribute (.Name x p) name apos) (e :: es) [] p1) pos.line X.env = pure false := by rfl) (hw : swappedStores [tg] (.Call (.Attribute (.Name x p) name apos) (e :: es) [] p1) X.env = pure none := by rfl)
    (h1 : (assignEach [tg] X.env).map (·.2) = [assign tg X.env] := by rfl) :
    PSV X A E md (.Assign [tg] (.Call (.Attribute (.Name x p) name apos) (e :: es) [] p1) pos) (mthM i ml g (bndK bnd)) :=
  ⟨imp_ps (ps_asg (pe_bm PySem.F.plainAttrs_list slot hty hm (pe_var hN hv hd hcd) he.pa hbase hfew hline hs hplain) hg.pg hsw hw h1) fun Dn σ H ⟨cn, f, Γ, R, h⟩ =>
    mth_run hr R h fun d ds' w xs' H1 k1 R2 rw' q => ⟨cn, f, _, d, R2, rw', M.wp_mono (ht _ _ _ _ (M.wp_bind.mp q)) (fun Γ' q σ' s' R' _ => q f σ' _ s' R') fun _ z => z⟩⟩
theorem psv_masg0 {tg : Expr} {ts : List Nat} {bnd : D → Ga → M Ga} (hg : PGV X A tg ts bnd) (ht : TameG bnd) (hr : MthOk A.K .b r g) (slot : Slot "list" name id) (hty : typeOf (.builtin id) = pure (.type "method_descriptor")) (hm : MtR X id r) (hN : X.N[i]? = some x := by rfl) (hv : Vis X.env.scope x := by first | exact Or.inl rfl | exact Or.inr (Or.inl rfl) | exact Or.inr (Or.inr rfl)) (hd : (x == ("__debug__" : Str)) = false := by decide) (hcd : (x == ("__classdict__" : Str)) = false := by decide)
    (hbase : attributeBase (.Name x p) name X.env (eval (.Name x p) X.env) = eval (.Name x p) X.env := by rfl)
    (hline : (apos.endLine == p1.line) = true := by rfl)
    (hsw : swapsWithSole [tg] (.Call (.Attribute (.Name x p) name apos) [] [] p1) pos.line X.env = pure false := by rfl) (hw : swappedStores [tg] (.Call (.Attribute (.Name x p) name apos) [] [] p1) X.env = pure none := by rfl)
    (h1 : (assignEach [tg] X.env).map (·.2) = [assign tg X.env] := by rfl) :
    PSV X A E md (.Assign [tg] (.Call (.Attribute (.Name x p) name apos) [] [] p1) pos) (mthM i nilL g (bndK bnd)) :=
  ⟨imp_ps (ps_asg (pe_bm0 PySem.F.plainAttrs_list slot hty hm (pe_var hN hv hd hcd) hbase hline) hg.pg hsw hw h1) fun Dn σ H ⟨cn, f, Γ, R, h⟩ =>
    mth_run0 hr R h fun d ds' w xs' H1 k1 R2 rw' q => ⟨cn, f, _, d, R2, rw', M.wp_mono (ht _ _ _ _ (M.wp_bind.mp q)) (fun Γ' q σ' s' R' _ => q f σ' _ s' R') fun _ z => z⟩⟩
end
end
end Px

set_option Elab.async false
set_option linter.all false
set_option maxRecDepth 100000
set_option autoImplicit false
namespace Px
open PySem PySem.Spec PyProof.Rows L2

/-! ### keys -/
def keyD : D → Option Key
  | .int i => some (.inl i)
  | .str x => some (.inr x)
  | _ => none
def keysD : List D → Option (List Key)
  | [] => some []
  | d :: r => match keyD d, keysD r with
    | some k, some ks => some (k :: ks)
    | _, _ => none
def ktuD : D → Option (List Key)
  | .tup ds => keysD ds
  | _ => none
theorem keyD_k (k : Key) : keyD (kD k) = some k := by cases k <;> rfl
theorem keyD_eq {d : D} {k : Key} (h : keyD d = some k) : d = kD k := by
  cases d <;> first | (cases h; rfl) | cases h
theorem keysD_k : ∀ ks : List Key, keysD (ks.map kD) = some ks
  | [] => rfl
  | k :: r => by
    show (match keyD (kD k), keysD (r.map kD) with | some k, some ks => some (k :: ks) | _, _ => none) = _
    rw [keyD_k, keysD_k r]
theorem keysD_eq : ∀ {ds : List D} {ks : List Key}, keysD ds = some ks → ds = ks.map kD
  | [], ks, h => by cases h; rfl
  | d :: r, ks, h => by
    have h : (match keyD d, keysD r with | some k, some ks => some (k :: ks) | _, _ => none) = some ks := h
    cases e1 : keyD d with
    | none => rw [e1] at h; cases h
    | some k =>
      cases e2 : keysD r with
      | none => rw [e1, e2] at h; cases h
      | some ks' =>
        rw [e1, e2] at h
        cases h
        rw [keyD_eq e1, keysD_eq e2]; rfl
theorem ktuD_k (ks : List Key) : ktuD (ktD ks) = some ks := keysD_k ks
theorem ktuD_eq {d : D} {ks : List Key} (h : ktuD d = some ks) : d = ktD ks := by
  cases d with
  | tup ds => rw [keysD_eq (show keysD ds = some ks from h)]; rfl
  | _ => cases h
/-- two keys of a dict of the kind t -/
def sameK (t : Bool) (a b : D) : Bool := match t with
  | false => decide (keyD a = keyD b)
  | true => decide (ktuD a = ktuD b)
def isKeyD (t : Bool) (d : D) : Bool := match t with
  | false => (keyD d).isSome
  | true => (ktuD d).isSome
def dval (t : Bool) (kvs : List (D × D)) (k : D) : Option D := (kvs.find? fun p => sameK t p.1 k).map (·.2)
def dput (t : Bool) (kvs : List (D × D)) (k v : D) : List (D × D) :=
  if (kvs.any fun p => sameK t p.1 k) = true then kvs.map (fun p => if sameK t p.1 k = true then (p.1, v) else p) else kvs ++ [(k, v)]
inductive RpO (K : PySem.W.Frag) (H : Hp) (P : Addr → Prop) : Option V → Option D → Prop
  | none : RpO K H P none none
  | some {v : V} {d : D} : Rp K H P v d → RpO K H P (some v) (some d)
section
variable {K : PySem.W.Frag} {H : Hp} {P : Addr → Prop}
theorem RpO.isSome {o : Option V} {d : Option D} (h : RpO K H P o d) : o.isSome = d.isSome := by cases h <;> rfl
theorem RpK.val {k : Key} {d : D} (hk : keyD d = some k) : ∀ {l : List (Key × V)} {kvs : List (D × D)}, RpK K H P l kvs → RpO K H P (valV l k) (dval false kvs d)
  | _, _, .nil => .none
  | _, _, .cons (k := k') (v := v) (l := l) (d := d') (kvs := kvs) h r => by
    have hs : sameK false (kD k') d = decide (k' = k) := by
      unfold sameK
      rw [keyD_k, hk]
      simp
    by_cases e : k' = k
    · rw [valV_pos (p := (k', v)) e]
      have : dval false ((kD k', d') :: kvs) d = some d' := by unfold dval; rw [List.find?_cons, show sameK false (kD k', d').1 d = true by rw [show (kD k', d').1 = kD k' from rfl, hs]; simp [e]]; rfl
      rw [this]
      exact .some h
    · rw [valV_neg (p := (k', v)) e]
      have : dval false ((kD k', d') :: kvs) d = dval false kvs d := by unfold dval; rw [List.find?_cons, show sameK false (kD k', d').1 d = false by rw [show (kD k', d').1 = kD k' from rfl, hs]; simp [e]]
      rw [this]
      exact r.val hk
theorem RpT.val {k : List Key} {d : D} (hk : ktuD d = some k) : ∀ {l : List (List Key × V)} {kvs : List (D × D)}, RpT K H P l kvs → RpO K H P (valV l k) (dval true kvs d)
  | _, _, .nil => .none
  | _, _, .cons (k := k') (v := v) (l := l) (d := d') (kvs := kvs) h r => by
    have hs : sameK true (ktD k') d = decide (k' = k) := by
      unfold sameK
      rw [ktuD_k, hk]
      simp
    by_cases e : k' = k
    · rw [valV_pos (p := (k', v)) e]
      have : dval true ((ktD k', d') :: kvs) d = some d' := by unfold dval; rw [List.find?_cons, show sameK true (ktD k', d').1 d = true by rw [show (ktD k', d').1 = ktD k' from rfl, hs]; simp [e]]; rfl
      rw [this]
      exact .some h
    · rw [valV_neg (p := (k', v)) e]
      have : dval true ((ktD k', d') :: kvs) d = dval true kvs d := by unfold dval; rw [List.find?_cons, show sameK true (ktD k', d').1 d = false by rw [show (ktD k', d').1 = ktD k' from rfl, hs]; simp [e]]
      rw [this]
      exact r.val hk
theorem RpK.any {k : Key} {d : D} (hk : keyD d = some k) : ∀ {l : List (Key × V)} {kvs : List (D × D)}, RpK K H P l kvs → (l.any fun p => decide (p.1 = k)) = kvs.any fun p => sameK false p.1 d
  | _, _, .nil => rfl
  | _, _, .cons (k := k') h r => by
    have hs : sameK false (kD k') d = decide (k' = k) := by unfold sameK; rw [keyD_k, hk]; simp
    rw [List.any_cons, List.any_cons, r.any hk, hs]
theorem RpT.any {k : List Key} {d : D} (hk : ktuD d = some k) : ∀ {l : List (List Key × V)} {kvs : List (D × D)}, RpT K H P l kvs → (l.any fun p => decide (p.1 = k)) = kvs.any fun p => sameK true p.1 d
  | _, _, .nil => rfl
  | _, _, .cons (k := k') h r => by
    have hs : sameK true (ktD k') d = decide (k' = k) := by unfold sameK; rw [ktuD_k, hk]; simp
    rw [List.any_cons, List.any_cons, r.any hk, hs]
theorem RpK.repl {k : Key} {d e : D} {v : V} (hk : keyD d = some k) (hv : Rp K H P v e) : ∀ {l : List (Key × V)} {kvs : List (D × D)}, RpK K H P l kvs → RpK K H P (l.map fun p => if p.1 = k then (p.1, v) else p) (kvs.map fun p => if sameK false p.1 d = true then (p.1, e) else p)
  | _, _, .nil => .nil
  | _, _, .cons (k := k') (v := v') (d := d') h r => by
    have hs : sameK false (kD k') d = decide (k' = k) := by unfold sameK; rw [keyD_k, hk]; simp
    rw [List.map_cons, List.map_cons]
    by_cases q : k' = k
    · rw [if_pos (show (k', v').1 = k from q), if_pos (show sameK false (kD k', d').1 d = true by rw [show (kD k', d').1 = kD k' from rfl, hs]; simp [q])]
      exact .cons hv (r.repl hk hv)
    · rw [if_neg (show ¬ (k', v').1 = k from q), if_neg (show ¬ sameK false (kD k', d').1 d = true by rw [show (kD k', d').1 = kD k' from rfl, hs]; simp [q])]
      exact .cons h (r.repl hk hv)
theorem RpT.repl {k : List Key} {d e : D} {v : V} (hk : ktuD d = some k) (hv : Rp K H P v e) : ∀ {l : List (List Key × V)} {kvs : List (D × D)}, RpT K H P l kvs → RpT K H P (l.map fun p => if p.1 = k then (p.1, v) else p) (kvs.map fun p => if sameK true p.1 d = true then (p.1, e) else p)
  | _, _, .nil => .nil
  | _, _, .cons (k := k') (v := v') (d := d') h r => by
    have hs : sameK true (ktD k') d = decide (k' = k) := by unfold sameK; rw [ktuD_k, hk]; simp
    rw [List.map_cons, List.map_cons]
    by_cases q : k' = k
    · rw [if_pos (show (k', v').1 = k from q), if_pos (show sameK true (ktD k', d').1 d = true by rw [show (ktD k', d').1 = ktD k' from rfl, hs]; simp [q])]
      exact .cons hv (r.repl hk hv)
    · rw [if_neg (show ¬ (k', v').1 = k from q), if_neg (show ¬ sameK true (ktD k', d').1 d = true by rw [show (ktD k', d').1 = ktD k' from rfl, hs]; simp [q])]
      exact .cons h (r.repl hk hv)
theorem RpK.snoc {k : Key} {v : V} {e : D} (hv : Rp K H P v e) : ∀ {l : List (Key × V)} {kvs : List (D × D)}, RpK K H P l kvs → RpK K H P (l ++ [(k, v)]) (kvs ++ [(kD k, e)])
  | _, _, .nil => .cons hv .nil
  | _, _, .cons h r => .cons h (r.snoc hv)
theorem RpT.snoc {k : List Key} {v : V} {e : D} (hv : Rp K H P v e) : ∀ {l : List (List Key × V)} {kvs : List (D × D)}, RpT K H P l kvs → RpT K H P (l ++ [(k, v)]) (kvs ++ [(ktD k, e)])
  | _, _, .nil => .cons hv .nil
  | _, _, .cons h r => .cons h (r.snoc hv)
theorem RpK.put {k : Key} {d e : D} {v : V} {l : List (Key × V)} {kvs : List (D × D)} (r : RpK K H P l kvs) (hk : keyD d = some k) (hv : Rp K H P v e) : RpK K H P (putK l k v) (dput false kvs d e) := by
  unfold putK dput
  rw [r.any hk]
  by_cases q : (kvs.any fun p => sameK false p.1 d) = true
  · rw [if_pos q, if_pos q]; exact r.repl hk hv
  · rw [if_neg q, if_neg q, keyD_eq hk]; exact r.snoc hv
theorem RpT.put {k : List Key} {d e : D} {v : V} {l : List (List Key × V)} {kvs : List (D × D)} (r : RpT K H P l kvs) (hk : ktuD d = some k) (hv : Rp K H P v e) : RpT K H P (putK l k v) (dput true kvs d e) := by
  unfold putK dput
  rw [r.any hk]
  by_cases q : (kvs.any fun p => sameK true p.1 d) = true
  · rw [if_pos q, if_pos q]; exact r.repl hk hv
  · rw [if_neg q, if_neg q, ktuD_eq hk]; exact r.snoc hv
theorem rb_key {W : Addr → Prop} {w : V} {d : D} {k : Key} (h : Rb K H P W w d) (hk : keyD d = some k) : w = kV k := by
  cases d with
  | int i => cases hk; exact rb_int h
  | str i => cases hk; exact rb_str h
  | _ => cases hk
theorem rpl_keys : ∀ {ks : List Key} {vs : List V}, RpL K H P vs (ks.map kD) → vs = ks.map kV
  | [], _, .nil => rfl
  | k :: _, _, .cons h r => by
    rw [rpl_keys r, rb_key (W := P) (h.rb fun _ p => p) (keyD_k k)]; rfl
theorem rb_ktu {W : Addr → Prop} {w : V} {d : D} {ks : List Key} (h : Rb K H P W w d) (hk : ktuD d = some ks) : ∃ b, w = .ref b ∧ TpX K H b (ks.map kV) := by
  cases d with
  | tup ds =>
    obtain ⟨b, xs, e, hx, l⟩ := rb_tup h
    rw [keysD_eq (show keysD ds = some ks from hk)] at l
    rw [rpl_keys l] at hx
    exact ⟨b, e, hx⟩
  | _ => cases hk
end

/-! ### a dict is read -/
/-- what the dict at a holds at the key y; the key may be a constant of the module -/
def DGS (K : PySem.W.Frag) (H : Hp) (a : Addr) (y : V) (r : Option V) : Prop :=
  (∃ kvs k, Rd H a (.dK kvs) ∧ y = kV k ∧ r = valV kvs k) ∨ ∃ kvs k b, Rd H a (.dT kvs) ∧ y = .ref b ∧ SqT K H b (k.map kV) ∧ r = valV kvs k
section
variable {X : Cx} {pins : List (Addr × Obj)} {σ : L2.St} {H : Hp} {s : Shared} {a : Addr} {y v d : V} {u r : Value} {o : Option V} {A : Around} {E : Value → Shared → Prop}
theorem key_ofS {b : Addr} {ks : List Key} (I : Inv X pins σ H s) (h : SqT X.K H b (ks.map kV)) : (tupleKind (mixKind X.prog X.w)).is s.heap ks b := by
  obtain ⟨its, rl, ht, hz⟩ := I.tuple h
  obtain ⟨o, h1, h2, n, h3⟩ := ht
  exact ⟨o, its.toArray, n, h1, h2, h3, by simpa using items_are rl⟩
theorem dgs_typeIs (I : Inv X pins σ H s) (g : DGS X.K H a y o) : s.TypeIs (.ref a) "dict" := by
  rcases g with ⟨kvs, k, e, _, _⟩ | ⟨kvs, k, b, e, _, _, _⟩
  · obtain ⟨_, _, vs, _, dd⟩ := dk_rd I.hok e
    exact dd.typeIs
  · obtain ⟨_, _, xs, _, dd⟩ := dt_rd I.hok e
    exact dd.typeIs
theorem s_getItem {Q : Value → Shared → Prop} (hu : A.units + 1 < cLine) (I : Inv X pins σ H s) (g : DGS X.K H a y (some v)) (ry : RelV y u) (h : ∀ w' s', Inv X pins σ H s' → RelV v w' → Q w' s') :
    wpAny (model X.prog X.w) A (getItem (.ref a) u) Q E s := by
  rcases g with ⟨kvs, k, e, ey, l⟩ | ⟨kvs, k, b, e, ey, eb, l⟩
  · exact d_getItem hu I (.inl ⟨kvs, k, e, ey, l⟩) ry h
  · subst ey
    cases (show u = Value.ref b from ry)
    obtain ⟨z, hd, xs, rel, dd⟩ := dt_rd I.hok e
    obtain ⟨w', hw, rw'⟩ := RelO.some_of (v := v) (o := (atKey xs k).map (·.2)) (by rw [l]; exact rel.val k)
    obtain ⟨p, hp, hp2⟩ := Option.map_eq_some_iff.mp hw
    refine wpAny_getItem_heap (tupleKind_room_in1 hu) (key_ofS I eb) dd hp ?_
    rw [hp2]
    exact h w' _ (I.tok _) rw'
theorem s_in {Q : Value → Shared → Prop} (hu : A.units + 1 < cLine) (I : Inv X pins σ H s) (g : DGS X.K H a y o) (ry : RelV y u) (h : ∀ s', Inv X pins σ H s' → Q (.bool o.isSome) s') :
    wpAny (model X.prog X.w) A (compareOp .In u (.ref a)) Q E s := by
  rcases g with ⟨kvs, k, e, ey, l⟩ | ⟨kvs, k, b, e, ey, eb, l⟩
  · exact d_in hu I (.inl ⟨kvs, k, e, ey, l⟩) ry h
  · subst ey
    cases (show u = Value.ref b from ry)
    obtain ⟨z, hd, xs, rel, dd⟩ := dt_rd I.hok e
    refine wpAny_in_heap (tupleKind_room_in1 hu) (key_ofS I eb) hd dd ?_
    have q := (rel.val k).isSome_eq
    rw [Option.isSome_map] at q
    rw [← q, ← l]
    exact h _ (I.tok _)
theorem s_notIn {Q : Value → Shared → Prop} (hu : A.units + 1 < cLine) (I : Inv X pins σ H s) (g : DGS X.K H a y o) (ry : RelV y u) (h : ∀ s', Inv X pins σ H s' → Q (.bool (!o.isSome)) s') :
    wpAny (model X.prog X.w) A (compareOp .NotIn u (.ref a)) Q E s := by
  rcases g with ⟨kvs, k, e, ey, l⟩ | ⟨kvs, k, b, e, ey, eb, l⟩
  · exact d_notIn hu I (.inl ⟨kvs, k, e, ey, l⟩) ry h
  · subst ey
    cases (show u = Value.ref b from ry)
    obtain ⟨z, hd, xs, rel, dd⟩ := dt_rd I.hok e
    refine wpAny_notIn_heap (tupleKind_room_in1 hu) (key_ofS I eb) hd dd ?_
    have q := (rel.val k).isSome_eq
    rw [Option.isSome_map] at q
    rw [← q, ← l]
    exact h _ (I.tok _)
theorem s_get2 {Q : Value → Shared → Prop} (hu : A.units + 1 < cLine) (I : Inv X pins σ H s) (g : DGS X.K H a y o) (ry : RelV y u) (rd : RelV d r) (h : ∀ w' s', Inv X pins σ H s' → RelV (o.getD d) w' → Q w' s') :
    wpAny (model X.prog X.w) A (call (.builtin "dict.get") [.ref a, u, r]) Q E s := by
  rcases g with ⟨kvs, k, e, ey, l⟩ | ⟨kvs, k, b, e, ey, eb, l⟩
  · exact d_get2 hu I (.inl ⟨kvs, k, e, ey, l⟩) ry rd h
  · subst ey
    cases (show u = Value.ref b from ry)
    obtain ⟨z, hd, xs, rel, dd⟩ := dt_rd I.hok e
    refine call_meetsIn PySem.F.slot_dict_get dd.typeIs PySem.F.entry_dict_get (PySem.F.args_dict_get_3 _ _ _) (meetsH_dict_get_default (tupleKind (mixKind X.prog X.w)) a b hd r) ⟨tupleKind_room_in1 hu, k, xs, key_ofS I eb, dd, h _ _ (I.tok _) ?_⟩
    rw [l]
    exact (rel.val k).getD rd
end
section
variable {X : Cx} {A : Am} {E : EN} {k : Nat} {md md1 md2 md3 : Md} {e a b c f : Expr} {es : List Expr} {m ma mb mc : Ga → M D} {ml : Ga → M (List D)} {pos pos' p p1 p2 p3 apos cpos : Pos} {x y : Str} {i j : Nat}
/-- the dict and the key, at hand -/
theorem dgs_of {H : Hp} {P W : Addr → Prop} {w v : V} {t : Bool} {kvs : List (D × D)} {d : D} (kle : KLe A.K X.K) (h : Rb A.K H P W w (.dct t kvs)) (hk : Rb A.K H P W v d) (ik : isKeyD t d = true) : ∃ a o, w = .ref a ∧ DGS X.K H a v o ∧ RpO A.K H P o (dval t kvs d) := by
  obtain ⟨a, rfl, _, h⟩ := h
  rcases h with ⟨rfl, l, hx, r⟩ | ⟨rfl, l, hx, r⟩
  · obtain ⟨kk, ek⟩ := Option.isSome_iff_exists.mp (show (keyD d).isSome = true from ik)
    exact ⟨a, _, rfl, .inl ⟨l, kk, hx, rb_key hk ek, rfl⟩, r.val ek⟩
  · obtain ⟨kk, ek⟩ := Option.isSome_iff_exists.mp (show (ktuD d).isSome = true from ik)
    obtain ⟨b, rfl, hb⟩ := rb_ktu hk ek
    exact ⟨a, _, rfl, .inr ⟨l, kk, b, hx, rfl, hb.kle kle, rfl⟩, r.val ek⟩
def getD' (x y : D) : M D := match x with
  | .dct t kvs => if isKeyD t y = true then (match dval t kvs y with
    | some d => .ret d
    | none => .stuck) else .stuck
  | x => itemD x y
theorem tame_get (x y : D) : Tame (getD' x y) := by
  unfold getD'
  split
  · split
    · split <;> trivial
    · trivial
  · exact tame_item _ _
theorem ix_get (B : Bd X A E k) : IxR X (rDs A.K getD') := by
  intro value slice pins s σ H x y v u Q I rx ry ⟨P, W, d, e, r1, r2, h⟩ hs
  unfold getD' at h
  split at h
  · split at h
    · rename_i t kvs ik
      obtain ⟨a, o, rfl, g, ro⟩ := dgs_of B.kle r1 r2 ik
      split at h
      · rename_i d hd
        rw [hd] at ro
        cases ro with
        | some rv =>
          cases rx
          exact tail_any (dgs_typeIs I g) PySem.F.slot_dict_getitem.lookup (s_getItem B.u1 I g ry fun w' s' I' rw' => ⟨_, H, I', rw', h _ rv⟩) hs
      · exact h.elim
    · exact h.elim
  · exact ix_item B value slice pins s σ H x y v u Q I rx ry ⟨P, W, _, e, r1, r2, h⟩ hs
/-- a[b]: a list, a tuple, a text, a dict -/
theorem pev_get (B : Bd X A E k) (ha : PEV X A E md1 a ma) (hb : PEV X A E md2 b mb) (hs : PlainIx b := by exact fun _ _ => rfl) : PEV X A E .s (.Subscript a b pos) (bin ma mb getD') := pev_ixs (ix_get B) tame_get ha hb hs
def hasD (x c : D) : M D := match c with
  | .dct t kvs => if isKeyD t x = true then .ret (.bl (dval t kvs x).isSome) else .stuck
  | c => inD x c
def hasNotD (x c : D) : M D := bnotM (hasD x c)
theorem tame_has (x y : D) : Tame (hasD x y) := by
  unfold hasD
  split
  · exact tame_if
  · exact tame_in _ _
theorem tame_hasNot (x y : D) : Tame (hasNotD x y) := tame_bnot (tame_has x y)
theorem o_has (B : Bd X A E k) : OpR X (compareOp .In) (rD A.K hasD) := by
  intro pins s σ H x y v u Q I rx ry ⟨P, W, d, e, r1, r2, h⟩
  unfold hasD at h
  split at h
  · obtain ⟨ik, q⟩ := wp_if h
    obtain ⟨a, o, rfl, g, ro⟩ := dgs_of B.kle r2 r1 ik
    cases ry
    refine s_in B.u1 I g rx fun s' I' => ⟨.bl o.isSome, H, I', rfl, ?_⟩
    rw [ro.isSome]
    exact q _ H (Same.refl _) (.bl _)
  · exact o_in B pins s σ H x y v u Q I rx ry ⟨P, W, d, _, r1, r2, h⟩
theorem o_hasNot (B : Bd X A E k) : OpR X (compareOp .NotIn) (rD A.K hasNotD) := by
  intro pins s σ H x y v u Q I rx ry ⟨P, W, d, e, r1, r2, h⟩
  unfold hasNotD hasD at h
  split at h
  · have h := M.wp_bind.mp h
    obtain ⟨ik, q⟩ := wp_if h
    obtain ⟨a, o, rfl, g, ro⟩ := dgs_of B.kle r2 r1 ik
    cases ry
    refine s_notIn B.u1 I g rx fun s' I' => ⟨.bl (!o.isSome), H, I', rfl, ?_⟩
    rw [ro.isSome]
    exact q _ H (Same.refl _) (.bl _)
  · exact o_notIn B pins s σ H x y v u Q I rx ry ⟨P, W, d, _, r1, r2, h⟩
/-- d.get(k, x) -/
def dget2 (c k x : D) : M D := match c with
  | .dct t kvs => if isKeyD t k = true then .ret ((dval t kvs k).getD x) else .stuck
  | _ => .stuck
def get2V (mc mk mx : Ga → M D) : Ga → M D := fun Γ => mc Γ >>= fun c => mk Γ >>= fun k => mx Γ >>= fun x => dget2 c k x
def tDGS2 (K : PySem.W.Frag) (td ty tx : TE) : TE := fun σ H Q => td σ H fun x H1 => ∃ a, x = .ref a ∧ IsD H1 a ∧ ty σ H1 fun y H2 => tx σ H2 fun z H3 => ∃ o, DGS K H3 a y o ∧ Q (o.getD z) H3
theorem pe_dgs2 {td ty tx : TE} (hu : X.A.units + 1 < cLine) (ho : PE X a td) (he : PE X b ty) (hf : PE X f tx) (m : M2 X a "get" apos b f cpos) : PE X (.Call (.Attribute a "get" apos) [b, f] [] cpos) (tDGS2 X.K td ty tx) := by
  refine ⟨fun pins s σ H Q I h => ?_⟩
  refine wpAny_Call_method m.base m.few m.line PySem.F.plainAttrs_dict PySem.F.slot_dict_get PySem.F.type_dict_get (thn (ho.run pins s σ H _ I h) fun u s1 ⟨x, H1, I1, rx, a, ex, d, q1⟩ => ?_)
  subst ex
  obtain rfl : u = Value.ref a := rx
  obtain ⟨t1, t2, _⟩ := isD_at I1 d
  refine ⟨t1, t2, ?_⟩
  rw [m.trees]
  refine Calls.callWith_builtin rfl (Calls.evalArgs_plain (Calls.spliced_cons (thn (he.run pins s1 σ H1 _ I1 q1) fun iv s2 ⟨y, H2, I2, ry, q2⟩ =>
    Calls.spliced_cons (thn (hf.run pins s2 σ H2 _ I2 q2) fun fv s3 ⟨z, H3, I3, rz, ov, g, q3⟩ => Calls.spliced_nil ?_))))
  exact s_get2 hu I3 g ry rz fun w' s4 I4 rw' => ⟨_, H3, I4, rw', q3⟩
theorem wp_dget2 {c k x : D} {Q : D → Prop} {E' : Exn → Prop} (h : (dget2 c k x).wp Q E') : ∃ t kvs, c = .dct t kvs ∧ isKeyD t k = true ∧ Q ((dval t kvs k).getD x) := by
  unfold dget2 at h
  split at h
  · split at h
    · rename_i t kvs ik; exact ⟨t, kvs, rfl, ik, h⟩
    · exact h.elim
  · exact h.elim
/-- it is a dict: told ahead of the key -/
def asDct (m : Ga → M D) : Ga → M D := fun Γ => m Γ >>= fun d => match d with
  | .dct t kvs => .ret (.dct t kvs)
  | _ => .stuck
theorem pev_get2 (B : Bd X A E k) (ha : PEV X A E md1 a ma) (hb : PEV X A E md2 b mb) (hf : PEV X A E .s f mc) (m : M2 X a "get" apos b f cpos) : PEV X A E .s (.Call (.Attribute a "get" apos) [b, f] [] cpos) (get2V (asDct ma) mb mc) := by
  refine ⟨imp_pe (pe_dgs2 B.u1 ha.pe hb.pe hf.pe m) fun σ H Q ⟨cn, f, Γ, R, h⟩ => ⟨cn, f, Γ, R, M.wp_mono (M.wp_bind.mp (M.wp_bind.mp h)) (fun d q w H1 k1 g1 r1 => ?_) fun _ x => x⟩⟩
  cases d with
  | dct t kvs =>
    have rb := R.rb r1
    obtain ⟨a, rfl, wa, hh⟩ := id rb
    refine ⟨a, rfl, ?_, cn, f, Γ, R.kx k1 g1, M.wp_mono (M.wp_bind.mp q) (fun kd q w2 H2 k2 g2 r2 => ?_) fun _ x => x⟩
    · rcases hh with ⟨_, l, hx, _⟩ | ⟨_, l, hx, _⟩
      · exact .inl ⟨l, hx⟩
      · exact .inr ⟨l, hx⟩
    · have R1 := R.kx k1 g1
      have R2 := R1.kx k2 g2
      refine ⟨cn, f, Γ, R2, M.wp_mono (M.wp_bind.mp q) (fun xd q w3 H3 k3 g3 r3 => ?_) fun _ x => x⟩
      have h2 : (dget2 (.dct t kvs) kd xd).wp _ _ := q
      obtain ⟨_, _, e, ik, q⟩ := wp_dget2 h2
      cases e
      obtain ⟨a', o, e, g, ro⟩ := dgs_of B.kle (R2.rbk k3 (R1.rbk k2 rb)) (R2.rbk k3 (R1.rb r2)) ik
      cases e
      refine ⟨o, g, q _ H3 ((k1.trans k2).trans k3) g3 ?_⟩
      generalize dval t kvs kd = od at ro
      cases ro with
      | none => exact r3
      | some rv => exact rv
  | _ => exact q.elim
theorem m2_of (h1 : attributeBase a x X.env (eval a X.env) = eval a X.env := by rfl) (h2 : ((backTo cpos (starEach [b, f] X.env)).all (fun x => !x.1) && (backToKw cpos (keywordEach [] X.env)).all (fun x => x.1.isSome)
    && decide (([b, f] : List Expr).length + ([] : List Keyword).length + (if ([] : List Keyword).isEmpty then 0 else 1) < 30)) = true := by rfl) (h3 : (apos.endLine == cpos.line) = true := by rfl) (h4 : backTo cpos (starEach [b, f] X.env) = [(false, eval b X.env), (false, eval f X.env)] := by rfl) : M2 X a x apos b f cpos := ⟨h1, h2, h3, h4⟩
/-- {} -/
def dct0 (t : Bool) : Ga → M D := fun _ => .ret (.dct t [])
theorem pev_dict0 (t : Bool) : PEV X A E .f (.Dict [] [] pos) (dct0 t) := by
  cases t with
  | false =>
    refine ⟨imp_pe pe_dnewK fun σ H Q ⟨cn, f, Γ, R, h⟩ => fun p hp => ?_⟩
    have s := same_new (o := .dK []) hp
    exact h _ _ (same_kx s) (A.gh.same R.g s) ⟨p, rfl, hp, .inl ⟨rfl, _, upd_same, .nil⟩⟩
  | true =>
    refine ⟨imp_pe pe_dnewT fun σ H Q ⟨cn, f, Γ, R, h⟩ => fun p hp => ?_⟩
    have s := same_new (o := .dT []) hp
    exact h _ _ (same_kx s) (A.gh.same R.g s) ⟨p, rfl, hp, .inr ⟨rfl, _, upd_same, .nil⟩⟩
theorem call_len_rawB {prog : Program} {w : World} {A : Around} {E : Value → Shared → Prop} {s : Shared} {d : Addr} {es : Array DictEntry} {ep : Nat} {Q : Value → Shared → Prop} (hd : (d == sysModules) = false) (hm : PySem.Heap.DictRaw s.heap d es ep) (hfit : (es.size : Int) < 2 ^ 63)
    (h : Q (.int es.size (s.toks + 1)) { s with toks := s.toks + 1 + 1 }) : wpAny (model prog w) A (call (.builtin "len") [.ref d]) Q E s := by
  refine Calls.call_function_entry kind_len plain_len entry_len (args_len1 _) ?_
  refine wpAny_bind (m := oneArg "len" _) (wpAny_pure ?_)
  refine wpAny_bind (m := callSpecial? (.ref d) (Str.ofString "__len__")) (wpAny_callSpecial?_slot (name := Str.ofString "__len__") (PySem.Heap.DictRaw.typeIs hm) F.slot_dict_len
    (PySem.call_len_raw hd hm ?_))
  show wpAny _ _ _ _ _ { s with toks := s.toks + 1 }
  refine wpAny_bind (wpAny_holding (wpAny_pure ?_))
  refine wpAny_bind (wpAny_letGo ?_)
  show wpAny _ _ (if ((es.size : Nat) : Int) < 0 then _ else _) _ _ _
  rw [if_neg (by omega)]
  show wpAny _ _ (if ((es.size : Nat) : Int) ≥ 2 ^ 63 then _ else _) _ _ _
  rw [if_neg (by omega)]
  exact wpAny_bind (wpAny_mkInt (wpAny_pure ⟨_, rfl, h⟩))
/-- len of a dict too -/
def len2D (ds : List D) : M D := match ds with
  | [.dct _ kvs] => .ret (.int kvs.length)
  | ds => lenD ds
theorem tame_len2 : ∀ ds, Tame (len2D ds) := fun ds => by
  unfold len2D
  split
  · trivial
  · exact tame_len _
theorem c_len2 (B : Bd X A E k) : CallR X (.builtin "len") (cD A.K len2D) := by
  intro pins s σ H vs us Q I r ⟨P, W, ds, h1, h⟩
  unfold len2D at h
  split at h
  · obtain ⟨v, rfl, a, rfl, _, hx⟩ := rq1 h1
    obtain ⟨u, rfl, ru⟩ := vals1 r
    cases ru
    rcases hx with ⟨rfl, l, hx, rl⟩ | ⟨rfl, l, hx, rl⟩
    · refine d_len I hx fun t s' I' => ⟨.int l.length, H, I', ⟨t, rfl⟩, ?_⟩
      rw [rl.length]
      exact h _ H (Same.refl _) (.int _)
    · obtain ⟨z, hd, xs, rel, dd⟩ := dt_rd I.hok hx
      obtain ⟨es, ep, raw, hsz, _⟩ := PySem.Heap.DictOfH.raw dd
      have hl : es.size = l.length := by rw [hsz, Paired.length rel]
      refine call_len_rawB hd raw (by rw [hl]; rw [sizeLine_eq] at z; omega) ⟨.int l.length, H, I.tok _, ⟨_, by rw [hl]⟩, ?_⟩
      rw [rl.length]
      exact h _ H (Same.refl _) (.int _)
  · exact c_len B pins s σ H vs us Q I r ⟨P, W, _, h1, h⟩
end
end Px

set_option Elab.async false
set_option linter.all false
set_option maxRecDepth 100000
set_option autoImplicit false
namespace Px
open PySem PySem.Spec PyProof.Rows L2

/-! ### two dicts compared -/
section
variable {prog : Program} {w : World} {K : Type} [DecidableEq K] {knd : HeapKind prog w K} {A : Around} {E : Value → Shared → Prop} {s : Shared}
inductive HitsT {K : Type} [DecidableEq K] (A : Around) (s : Shared) (xb : List (K × Addr × Value)) : List (K × Addr × Value) → Bool → Prop
  | nil : HitsT A s xb [] true
  | miss {x : K × Addr × Value} {r : List (K × Addr × Value)} : atKey xb x.1 = none → HitsT A s xb (x :: r) false
  | hit {x : K × Addr × Value} {p : Addr × Value} {r : List (K × Addr × Value)} {e b : Bool} : atKey xb x.1 = some p → SeqAt.EqAt A s x.2.2 p.2 e → HitsT A s xb r b → HitsT A s xb (x :: r) (e && b)
theorem samePairsT {nm : String} {a b : Addr} {xa xb : List (K × Addr × Value)} {r : Bool} {Q : Bool → Shared → Prop} (hu : knd.room A) (ha : (a == sysModules) = false) (hb : (b == sysModules) = false)
    (da : s.heap.DictOfH knd a xa) (db : s.heap.DictOfH knd b xb) (hits : xa.length = xb.length → HitsT A s xb xa r) (h : Q (xa.length == xb.length && r) s) :
    wpAny (model prog w) A (Builtin.Dict.samePairs nm a b) Q E s := by
  obtain ⟨oa, es, ep, hoa, _, hda, hea, hia, hna⟩ := da
  obtain ⟨ob, es', ep', hob, _, hdb, heb, hib, hnb⟩ := db
  have hla : xa.length = es.size := (size_of_entries hea).symm
  have hlb : xb.length = es'.size := (size_of_entries heb).symm
  rw [hla, hlb] at h
  unfold Builtin.Dict.samePairs Builtin.Dict.showsAll
  rw [if_neg (show ¬ (a == sysModules) = true by rw [ha]; exact Bool.false_ne_true), if_neg (show ¬ (b == sysModules) = true by rw [hb]; exact Bool.false_ne_true)]
  refine wpAny_bind (wpAny_pure (wpAny_bind (wpAny_pure ?_)))
  refine wpAny_bind (wpAny_dictEntries hoa hda ?_)
  dsimp only
  refine wpAny_bind (wpAny_dictEntries hob hdb ?_)
  by_cases hsz : es.size = es'.size
  case neg =>
    rw [if_pos (by simpa using hsz)]
    have hbf : (es.size == es'.size) = false := by simpa using hsz
    rw [hbf, Bool.false_and] at h
    exact wpAny_bind (wpAny_rule (wpAny_pure h))
  case pos =>
    have h' : Q r s := by simpa [hsz] using h
    have hits' := hits (by rw [hla, hlb]; exact hsz)
    rw [if_neg (by rw [hsz]; simp)]
    refine wpAny_bind (wpAny_dictEpoch hoa hda ?_)
    refine wpAny_bind ?_
    rw [Std.Legacy.Range.forIn_eq_forIn_range']
    simp only [Std.Legacy.Range.size, Nat.sub_zero, Nat.add_sub_cancel, Nat.div_one]
    refine wpAny_forIn_list _
      (fun rest q s' => s' = s ∧ q = (none, ()) ∧ ∃ i, rest = List.range' i (es.size - i) ∧ i ≤ es.size ∧ HitsT A s xb (xa.drop i) r)
      _ ?_ ?_ _ _ ⟨rfl, rfl, 0, by simp, Nat.zero_le _, hits'⟩
    · rintro x rest q s' ⟨rfl, rfl, i, hr, hi, hpre⟩
      have hlt : i < es.size := by
        rcases Nat.lt_or_ge i es.size with h | h
        · exact h
        · rw [Nat.sub_eq_zero_of_le h] at hr; simp at hr
      obtain ⟨rfl, hrest⟩ : x = i ∧ rest = List.range' (i + 1) (es.size - (i + 1)) := by
        have e : es.size - i = (es.size - (i + 1)) + 1 := by omega
        rw [e, List.range'_succ] at hr
        injection hr with h1 h2
        exact ⟨h1, h2⟩
      refine wpAny_bind (wpAny_dictEntries hoa hda ?_)
      have hlt' : x < xa.length := by rw [hla]; exact hlt
      rw [entry_at hea x, List.getElem?_eq_getElem hlt']
      obtain ⟨k, ka, v, hkv⟩ : ∃ k ka v, xa[x] = (k, ka, v) := ⟨_, _, _, rfl⟩
      have hdrop : xa.drop x = (k, ka, v) :: xa.drop (x + 1) := by rw [← hkv]; exact List.drop_eq_getElem_cons hlt'
      have hkey : knd.is s'.heap k ka := by
        have := hia xa[x] (List.getElem_mem hlt')
        rw [hkv] at this; exact this
      rw [hdrop] at hpre
      rw [hkv]
      show wpAny _ _ (holding [Value.ref ka, v] (dictFind b (.ref ka) (knd.hash k) >>= _) >>= _) _ _ _
      refine wpAny_bind (wpAny_holding (wpAny_bind (wpAny_dictFind_heap hu hkey hob hdb heb hib hnb (fun hno => ?_) fun j p hj => ?_)))
      · have hn := atKey_none_of_get hno
        have er : r = false := by
          cases hpre with
          | miss _ => rfl
          | hit hy _ _ => rw [hn] at hy; exact nomatch hy
        rw [er] at h'
        refine wpAny_pure ?_
        show wpAny _ _ (if (!false) = true then _ else _) _ _ _
        rw [if_pos (by decide)]
        exact wpAny_pure (wpAny_pure h')
      · have hv' := atKey_of_get hnb hj
        refine wpAny_bind (wpAny_dictEntries hob hdb ?_)
        rw [entry_at heb j, hj]
        cases hpre with
        | miss hn => rw [hv'] at hn; exact nomatch hn
        | @hit _ p' _ e b' hy he hrr =>
          rw [hv'] at hy
          cases hy
          refine wpAny_holding (he prog w _ _ ?_)
          cases e with
          | false =>
            rw [Bool.false_and] at h'
            show wpAny _ _ (if (!false) = true then _ else _) _ _ _
            rw [if_pos (by decide)]
            exact wpAny_pure (wpAny_pure h')
          | true =>
            rw [Bool.true_and] at h' ⊢
            show wpAny _ _ (if (!true) = true then _ else _) _ _ _
            rw [if_neg (by decide)]
            refine wpAny_bind (wpAny_dictEpoch hoa hda ?_)
            rw [if_neg (by simp)]
            exact wpAny_pure ⟨rfl, rfl, x + 1, hrest, hlt, hrr⟩
    · rintro q s' ⟨rfl, rfl, i, hr, hi, hpre⟩
      have hin : i = es.size := by
        rcases Nat.lt_or_ge i es.size with h | h
        · have e : es.size - i = (es.size - (i + 1)) + 1 := by omega
          rw [e, List.range'_succ] at hr; exact nomatch hr
        · exact Nat.le_antisymm hi h
      refine wpAny_pure ?_
      rw [hin, ← hla, List.drop_length] at hpre
      cases hpre
      exact h'
theorem eqT {a b : Addr} {xa xb : List (K × Addr × Value)} {r : Bool} {Q : Value → Shared → Prop} (hr : knd.room A.in1) (ha : (a == sysModules) = false) (hb : (b == sysModules) = false)
    (da : s.heap.DictOfH knd a xa) (db : s.heap.DictOfH knd b xb) (hu : A.units < cLine) (hits : xa.length = xb.length → HitsT A.in1 s xb xa r) (h : Q (.bool (xa.length == xb.length && r)) s) :
    wpAny (model prog w) A (compareOp .Eq (.ref a) (.ref b)) Q E s := by
  refine wpAny_richCompare_same_room (op := .Eq) da.typeIs db.typeIs PySem.F.slot_dict_eq (wpAny_call_entry PySem.F.slot_dict_eq da.typeIs PySem.F.entry_dict_eq ?_ (PySem.F.args_dict_eq_2 _ _)) hu
  show wpAny _ _ (Builtin.Dict.dictSlotArgs "__eq__" ⟨[.ref a, .ref b], []⟩ >>= _) _ _ s
  refine wpAny_bind ?_
  unfold Builtin.Dict.dictSlotArgs
  refine wpAny_bind (wpAny_notOrdered_dict da.typeIs ?_)
  show wpAny _ _ (pure (Value.ref a, Value.ref b)) _ _ s
  refine wpAny_pure ?_
  refine wpAny_bind (wpAny_isInstance (T := "dict") db.typeIs PySem.F.sub_dict_dict ?_)
  simp only [Bool.not_true, Bool.false_eq_true, if_false]
  refine wpAny_bind (wpAny_pure (wpAny_bind (wpAny_pure ?_)))
  refine wpAny_bind (samePairsT hr ha hb da db hits ?_)
  refine wpAny_pure ⟨_, rfl, ?_, ?_⟩
  · exact fun x => nomatch x
  · simpa using h
theorem neT {a b : Addr} {xa xb : List (K × Addr × Value)} {r : Bool} {Q : Value → Shared → Prop} (hr : knd.room A.in1) (ha : (a == sysModules) = false) (hb : (b == sysModules) = false)
    (da : s.heap.DictOfH knd a xa) (db : s.heap.DictOfH knd b xb) (hu : A.units < cLine) (hits : xa.length = xb.length → HitsT A.in1 s xb xa r) (h : Q (.bool (!(xa.length == xb.length && r))) s) :
    wpAny (model prog w) A (compareOp .NotEq (.ref a) (.ref b)) Q E s := by
  refine wpAny_richCompare_same_room (op := .NotEq) da.typeIs db.typeIs PySem.F.slot_dict_ne (wpAny_call_entry PySem.F.slot_dict_ne da.typeIs PySem.F.entry_dict_ne ?_ (PySem.F.args_dict_ne_2 _ _)) hu
  show wpAny _ _ (Builtin.Dict.dictSlotArgs "__ne__" ⟨[.ref a, .ref b], []⟩ >>= _) _ _ s
  refine wpAny_bind ?_
  unfold Builtin.Dict.dictSlotArgs
  refine wpAny_bind (wpAny_notOrdered_dict da.typeIs ?_)
  show wpAny _ _ (pure (Value.ref a, Value.ref b)) _ _ s
  refine wpAny_pure ?_
  refine wpAny_bind (wpAny_isInstance (T := "dict") db.typeIs PySem.F.sub_dict_dict ?_)
  simp only [Bool.not_true, Bool.false_eq_true, if_false]
  refine wpAny_bind (wpAny_pure (wpAny_bind (wpAny_pure ?_)))
  refine wpAny_bind (samePairsT hr ha hb da db hits ?_)
  refine wpAny_pure ⟨_, rfl, ?_, ?_⟩
  · exact fun x => nomatch x
  · simpa using h
end
/-! by trees -/
/-- each of the left ones stands in the right dict with an equal value -/
def subDct (t : Bool) (kvs' : List (D × D)) : List (D × D) → Bool
  | [] => true
  | p :: r => (match dval t kvs' p.1 with
    | some y => eqB p.2 y
    | none => false) && subDct t kvs' r
def plV (kvs : List (D × D)) : Bool := kvs.all fun p => p.2.pl && decide (p.2.dep ≤ 50)
section
variable {X : Cx} {A : Am} {E : EN} {k : Nat} {K : PySem.W.Frag} {H : Hp} {P P' : Addr → Prop}
theorem eqAt_of (B : Bd X A E k) {pins : List (Addr × Obj)} {σ : L2.St} {s : Shared} (I : Inv X pins σ H s) {v w : V} {u r : Value} {d e : D} (h1 : Rp A.K H P v d) (h2 : Rp A.K H P' w e) (r1 : RelV v u) (r2 : RelV w r) (p1 : (d.pl && decide (d.dep ≤ 50)) = true) (p2 : (e.pl && decide (e.dep ≤ 50)) = true) :
    SeqAt.EqAt X.A.in1 s u r (eqB d e) := by
  rw [Bool.and_eq_true] at p1 p2
  obtain ⟨as, ra⟩ := Rb.reads B.kle I (h1.rb (W := P) fun _ p => p) p1.1 r1
  obtain ⟨bs, rb⟩ := Rb.reads B.kle I (h2.rb (W := P') fun _ p => p) p2.1 r2
  have d1 := toPy_dep d
  have hu := B.u64
  have := of_decide_eq_true p1.2
  refine SeqAt.eqAt_plain _ _ _ _ _ _ _ _ ra rb (toPy_plain d p1.1) (toPy_plain e p2.1) ?_
  show X.A.units + 1 + _ < _
  have := Nat.min_le_left (toPy d).depth (toPy e).depth
  omega
theorem hitsK (B : Bd X A E k) {pins : List (Addr × Obj)} {σ : L2.St} {s : Shared} (I : Inv X pins σ H s) {lb : List (Key × V)} {vb : List (Key × Value)} {kb : List (D × D)} (rb : RpK A.K H P' lb kb) (qb : KV lb vb) (pb : plV kb = true) :
    ∀ {la : List (Key × V)} {va : List (Key × Value)} {ka : List (D × D)}, RpK A.K H P la ka → KV la va → plV ka = true → PySem.W.KeqHits X.A.in1 s vb va (subDct false kb ka)
  | _, _, _, .nil, .nil, _ => .nil
  | _, _, _, .cons (k := kk) (v := v) (d := d) (kvs := ka) h r, .cons (b := (_, u)) q qr, pa => by
    obtain ⟨e1, ru⟩ := q
    cases e1
    have pa : (((d.pl && decide (d.dep ≤ 50))) && plV ka) = true := pa
    rw [Bool.and_eq_true] at pa
    have ih := hitsK B I rb qb pb r qr pa.2
    have g := rb.val (keyD_k kk)
    have g2 := qb.val kk
    show PySem.W.KeqHits _ _ _ _ ((match dval false kb (kD kk) with | some y => eqB d y | none => false) && subDct false kb ka)
    cases e2 : dval false kb (kD kk) with
    | none =>
      rw [e2] at g
      cases e3 : valV lb kk with
      | some y => rw [e3] at g; cases g
      | none =>
        rw [e3] at g2
        cases e4 : valueAt vb kk with
        | some y => rw [e4] at g2; exact g2.elim
        | none => exact .miss e4
    | some y =>
      rw [e2] at g
      cases e3 : valV lb kk with
      | none => rw [e3] at g; cases g
      | some y' =>
        rw [e3] at g g2
        cases e4 : valueAt vb kk with
        | none => rw [e4] at g2; exact g2.elim
        | some u' =>
          rw [e4] at g2
          cases g with
          | some ry =>
            refine .hit e4 (eqAt_of B I h ry ru g2 pa.1 ?_) ih
            unfold dval at e2
            obtain ⟨p, hp, hp2⟩ := Option.map_eq_some_iff.mp e2
            have := List.all_eq_true.mp pb p (List.mem_of_find?_eq_some hp)
            rw [← hp2]; exact this
theorem hitsT (B : Bd X A E k) {pins : List (Addr × Obj)} {σ : L2.St} {s : Shared} (I : Inv X pins σ H s) {lb : List (List Key × V)} {vb : List (List Key × Addr × Value)} {kb : List (D × D)} (rb : RpT A.K H P' lb kb) (qb : KT H lb vb) (pb : plV kb = true) :
    ∀ {la : List (List Key × V)} {va : List (List Key × Addr × Value)} {ka : List (D × D)}, RpT A.K H P la ka → KT H la va → plV ka = true → HitsT X.A.in1 s vb va (subDct true kb ka)
  | _, _, _, .nil, .nil, _ => .nil
  | _, _, _, .cons (k := kk) (v := v) (d := d) (kvs := ka) h r, .cons (b := (_, ad, u)) q qr, pa => by
    obtain ⟨e1, _, ru⟩ := q
    cases e1
    have pa : (((d.pl && decide (d.dep ≤ 50))) && plV ka) = true := pa
    rw [Bool.and_eq_true] at pa
    have ih := hitsT B I rb qb pb r qr pa.2
    have g := rb.val (ktuD_k kk)
    have g2 := qb.val kk
    show HitsT _ _ _ _ ((match dval true kb (ktD kk) with | some y => eqB d y | none => false) && subDct true kb ka)
    cases e2 : dval true kb (ktD kk) with
    | none =>
      rw [e2] at g
      cases e3 : valV lb kk with
      | some y => rw [e3] at g; cases g
      | none =>
        rw [e3] at g2
        cases e4 : atKey vb kk with
        | some y => rw [e4] at g2; exact g2.elim
        | none => exact .miss e4
    | some y =>
      rw [e2] at g
      cases e3 : valV lb kk with
      | none => rw [e3] at g; cases g
      | some y' =>
        rw [e3] at g g2
        cases e4 : atKey vb kk with
        | none => rw [e4] at g2; exact g2.elim
        | some u' =>
          rw [e4] at g2
          cases g with
          | some ry =>
            refine .hit e4 (eqAt_of B I h ry ru g2 pa.1 ?_) ih
            unfold dval at e2
            obtain ⟨p, hp, hp2⟩ := Option.map_eq_some_iff.mp e2
            have := List.all_eq_true.mp pb p (List.mem_of_find?_eq_some hp)
            rw [← hp2]; exact this
def eqDctB (t : Bool) (ka kb : List (D × D)) : Bool := ka.length == kb.length && subDct t kb ka
def equD (x y : D) : M D := match x, y with
  | .dct t ka, .dct t' kb => if (t == t' && (plV ka && plV kb)) = true then .ret (.bl (eqDctB t ka kb)) else .stuck
  | x, y => eqD x y
def neuD (x y : D) : M D := match x, y with
  | .dct t ka, .dct t' kb => if (t == t' && (plV ka && plV kb)) = true then .ret (.bl (!eqDctB t ka kb)) else .stuck
  | x, y => neD x y
theorem tame_equ (x y : D) : Tame (equD x y) := by
  unfold equD
  split
  · exact tame_if
  · exact tame_eq _ _
theorem tame_neu (x y : D) : Tame (neuD x y) := by
  unfold neuD
  split
  · exact tame_if
  · exact tame_ne _ _
theorem dcts_cmp (B : Bd X A E k) {pins : List (Addr × Obj)} {σ : L2.St} {s : Shared} (I : Inv X pins σ H s) {x y : V} {u v : Value} {W W' : Addr → Prop} {t t' : Bool} {ka kb : List (D × D)} (r1 : Rb A.K H P W x (.dct t ka)) (r2 : Rb A.K H P' W' y (.dct t' kb)) (rx : RelV x u) (ry : RelV y v)
    (c : (t == t' && (plV ka && plV kb)) = true) :
    (∀ {E' : Value → Shared → Prop} {Q : Value → Shared → Prop}, Q (.bool (eqDctB t ka kb)) s → wpAny (model X.prog X.w) X.A (compareOp .Eq u v) Q E' s) ∧ ∀ {E' : Value → Shared → Prop} {Q : Value → Shared → Prop}, Q (.bool (!eqDctB t ka kb)) s → wpAny (model X.prog X.w) X.A (compareOp .NotEq u v) Q E' s := by
  rw [Bool.and_eq_true, Bool.and_eq_true] at c
  obtain ⟨ct, pa, pb⟩ := c
  have ct : t = t' := eq_of_beq ct
  subst ct
  obtain ⟨a, rfl, _, h1⟩ := r1
  obtain ⟨b, rfl, _, h2⟩ := r2
  cases rx
  cases ry
  rcases h1 with ⟨rfl, la, ha, ra⟩ | ⟨rfl, la, ha, ra⟩
  · rcases h2 with ⟨_, lb, hb, rb⟩ | ⟨z, _⟩
    · obtain ⟨z1, y1, va, qa, da⟩ := dk_rd I.hok ha
      obtain ⟨z2, y2, vb, qb, db⟩ := dk_rd I.hok hb
      have hh := hitsK B I rb qb pb ra qa pa
      have e : (va.length == vb.length && subDct false kb ka) = eqDctB false ka kb := by
        unfold eqDctB
        rw [← qa.length, ← qb.length, ra.length, rb.length]
      exact ⟨fun q => PySem.W.keq_eq y1 y2 da db B.u0 (fun _ => hh) (by rw [e]; exact q), fun q => PySem.W.keq_ne y1 y2 da db B.u0 (fun _ => hh) (by rw [e]; exact q)⟩
    · cases z
  · rcases h2 with ⟨z, _⟩ | ⟨_, lb, hb, rb⟩
    · cases z
    · obtain ⟨z1, y1, va, qa, da⟩ := dt_rd I.hok ha
      obtain ⟨z2, y2, vb, qb, db⟩ := dt_rd I.hok hb
      have hh := hitsT B I rb qb pb ra qa pa
      have e : (va.length == vb.length && subDct true kb ka) = eqDctB true ka kb := by
        unfold eqDctB
        rw [← Paired.length qa, ← Paired.length qb, ra.length, rb.length]
      exact ⟨fun q => eqT (tupleKind_room_in1 B.u1) y1 y2 da db B.u0 (fun _ => hh) (by rw [e]; exact q), fun q => neT (tupleKind_room_in1 B.u1) y1 y2 da db B.u0 (fun _ => hh) (by rw [e]; exact q)⟩
theorem o_equ (B : Bd X A E k) : OpR X (compareOp .Eq) (rD A.K equD) := by
  intro pins s σ H x y v u Q I rx ry ⟨P, W, d, e, r1, r2, h⟩
  unfold equD at h
  split at h
  · obtain ⟨c, q⟩ := wp_if h
    exact (dcts_cmp B I r1 r2 rx ry c).1 ⟨.bl _, H, I, rfl, q _ H (Same.refl _) (.bl _)⟩
  · exact o_eq B pins s σ H x y v u Q I rx ry ⟨P, W, _, _, r1, r2, h⟩
theorem o_neu (B : Bd X A E k) : OpR X (compareOp .NotEq) (rD A.K neuD) := by
  intro pins s σ H x y v u Q I rx ry ⟨P, W, d, e, r1, r2, h⟩
  unfold neuD at h
  split at h
  · obtain ⟨c, q⟩ := wp_if h
    exact (dcts_cmp B I r1 r2 rx ry c).2 ⟨.bl _, H, I, rfl, q _ H (Same.refl _) (.bl _)⟩
  · exact o_ne B pins s σ H x y v u Q I rx ry ⟨P, W, _, _, r1, r2, h⟩
end
end Px

set_option Elab.async false
set_option linter.all false
set_option maxRecDepth 100000
set_option autoImplicit false
namespace Px
open PySem PySem.Spec PyProof.Rows L2

/-! ### dicts are walked -/
section
variable {X : Cx} {A : Am} {E : EN} {k : Nat} {md md1 md2 md3 : Md} {e a b c f tg : Expr} {es : List Expr} {m ma mb mc : Ga → M D} {ml : Ga → M (List D)} {pos pos' p p1 p2 p3 apos cpos : Pos} {x y : Str} {i j : Nat}
theorem keys_at {pins : List (Addr × Obj)} {s1 : Shared} {σ : L2.St} {H1 : Hp} {R : It → Hp → Prop} {d : Addr} {o : Obj} (I1 : Inv X pins σ H1 s1) (q : (∃ kvs, H1 d = some (.frz o (.dK kvs)) ∧ R (Itk d o kvs) H1) ∨ ∃ kvs, H1 d = some (.frz o (.dT kvs)) ∧ R (Itkt d o kvs) H1) :
    wpAny (model X.prog X.w) X.A (pyIter (.ref d)) (PIE X pins σ tg R) X.xe s1 := by
  rcases q with ⟨kvs, hd, q⟩ | ⟨kvs, hd, q⟩
  · obtain ⟨hs, hgd, hx, es, ep, vs, hdt, hsz, kv, hm⟩ := I1.frzK hd
    refine iter_keys hs hgd hx hdt (pi_one (tk := s1.toks) I1 _ (turn_keys _ hdt) ⟨_, Heap.get?_push_size _ rfl, rfl, ?_⟩ q)
    rw [hsz] <;> rfl
  · obtain ⟨hs, hgd, hx, es, ep, hdt, hsz, ent⟩ := I1.frzT hd
    refine iter_keys hs hgd hx hdt (pi_one (tk := s1.toks) I1 _ (turn_keysT _ hdt) ⟨_, Heap.get?_push_size _ rfl, rfl, ?_⟩ q)
    rw [hsz] <;> rfl
def iAny (K : PySem.W.Frag) (te : TE) : TI := fun σ H R => te σ H fun v H1 => (∃ src : Src, v = src.v ∧ src.ok K H1 ∧ (src.n ≤ sizeLine ∨ (∃ z, src = .z z) → R (Itsq K src) H1)) ∨
  ∃ d o, v = .ref d ∧ ((∃ kvs, H1 d = some (.frz o (.dK kvs)) ∧ (kvs.length ≤ sizeLine → R (Itk d o kvs) H1)) ∨ ∃ kvs, H1 d = some (.frz o (.dT kvs)) ∧ (kvs.length ≤ sizeLine → R (Itkt d o kvs) H1))
theorem pi_any {te : TE} (he : PE X e te) : PI X tg e (iAny X.K te) := by
  refine ⟨fun pins s σ H R I h => ?_⟩
  refine thn (he.run pins s σ H _ I h) fun v s1 ⟨y, H1, I1, r1, q⟩ => ?_
  rcases q with ⟨src, ex, ok, q⟩ | ⟨d, o, ex, q⟩
  · subst ex
    exact sq_at I1 r1 ok q
  · subst ex
    cases r1
    refine keys_at I1 (o := o) ?_
    rcases q with ⟨kvs, hd, q⟩ | ⟨kvs, hd, q⟩
    · exact .inl ⟨kvs, hd, q (dk_rd I1.hok (.inr ⟨o, hd⟩)).1⟩
    · exact .inr ⟨kvs, hd, q (dt_rd I1.hok (.inr ⟨o, hd⟩)).1⟩
def itemsK (d : D) : M (List D) := match d with
  | .dct _ kvs => .ret (kvs.map (·.1))
  | d => itemsD d
theorem RpK.keyAt {K : PySem.W.Frag} {H : Hp} {P : Addr → Prop} : ∀ {l : List (Key × V)} {kvs : List (D × D)} {i : Nat} {d : D}, RpK K H P l kvs → (kvs.map (·.1))[i]? = some d → ∃ k v, l[i]? = some (k, v) ∧ d = kD k
  | _, _, _, _, .nil, e => by simp at e
  | _, _, 0, _, .cons h _, e => by simp at e; subst e; exact ⟨_, _, rfl, rfl⟩
  | _, _, i + 1, d, .cons _ r, e => by
    obtain ⟨k, v, h1, h2⟩ := r.keyAt (i := i) (d := d) (by simpa using e)
    exact ⟨k, v, by simpa using h1, h2⟩
theorem RpT.keyAt {K : PySem.W.Frag} {H : Hp} {P : Addr → Prop} : ∀ {l : List (List Key × V)} {kvs : List (D × D)} {i : Nat} {d : D}, RpT K H P l kvs → (kvs.map (·.1))[i]? = some d → ∃ k v, l[i]? = some (k, v) ∧ d = ktD k
  | _, _, _, _, .nil, e => by simp at e
  | _, _, 0, _, .cons h _, e => by simp at e; subst e; exact ⟨_, _, rfl, rfl⟩
  | _, _, i + 1, d, .cons _ r, e => by
    obtain ⟨k, v, h1, h2⟩ := r.keyAt (i := i) (d := d) (by simpa using e)
    exact ⟨k, v, by simpa using h1, h2⟩
theorem rp_kD {K : PySem.W.Frag} {H : Hp} {P : Addr → Prop} (k : Key) : Rp K H P (kV k) (kD k) := by
  cases k with
  | inl i => exact .int i
  | inr x => exact .str x
theorem rpl_kD {K : PySem.W.Frag} {H : Hp} {P : Addr → Prop} : ∀ ks : List Key, RpL K H P (ks.map kV) (ks.map kD)
  | [] => .nil
  | k :: r => .cons (rp_kD k) (rpl_kD r)
/-- a list, a tuple, a text, a dict (its keys) is walked -/
def anyM (ma : Ga → M D) : Ga → M (List D) := fun Γ => ma Γ >>= itemsK
theorem piv_any (B : Bd X A E k) (he : PEV X A E .s e ma) : PIV X A E .s tg e (anyM ma) := by
  refine ⟨imp_pi (pi_any he.pe) fun σ H R' ⟨cn, f, Γ, R, h⟩ => ⟨cn, f, Γ, R, M.wp_mono (M.wp_bind.mp h) (fun d q w H1 k1 g1 r1 => ?_) fun _ x => x⟩⟩
  have R1 := R.kx k1 g1
  unfold itemsK at q
  split at q
  · rename_i t kvs
    right
    have r1 : Rp A.K H1 (Fz A cn f Γ) w (.dct t kvs) := r1
    have q : ∀ J H', Kx A.gh.Z H H' → A.gh.G H' → (kvs.map (·.1)).length ≤ sizeLine → ItOk A.K (Fz A cn f Γ) (Fz A cn f Γ) H' J (kvs.map (·.1)) → R' J H' := q
    cases r1 with
    | @dK a ob l _ pa hx rl =>
      refine ⟨a, ob, rfl, .inl ⟨l, hx, fun z => q _ H1 k1 g1 (by rw [List.length_map, ← rl.length]; exact z) fun P' H' ks kp => ?_⟩⟩
      have hx' := ks a _ pa hx
      refine ⟨fun i hi => ⟨hx', by rw [List.length_map, ← rl.length] at hi; exact hi⟩, fun i d x H'' hd y => ?_, hx', by rw [List.length_map, rl.length]; exact Nat.le_refl _⟩
      obtain ⟨e, kk, v, h1, h2⟩ := y
      subst e
      obtain ⟨k', v', h3, h4⟩ := rl.keyAt hd
      rw [h1] at h3
      cases h3
      rw [h4, h2]
      exact ⟨Same.refl _, rp_kD _⟩
    | @dT a ob l _ pa hx rl =>
      refine ⟨a, ob, rfl, .inr ⟨l, hx, fun z => q _ H1 k1 g1 (by rw [List.length_map, ← rl.length]; exact z) fun P' H' ks kp => ?_⟩⟩
      have hx' := ks a _ pa hx
      refine ⟨fun i hi => ⟨hx', by rw [List.length_map, ← rl.length] at hi; exact hi⟩, fun i d x H'' hd y => ?_, hx', by rw [List.length_map, rl.length]; exact Nat.le_refl _⟩
      obtain ⟨e, kk, v, qa, h1, h2, h5⟩ := y
      subst e
      obtain ⟨k', v', h3, h4⟩ := rl.keyAt hd
      rw [h1] at h3
      cases h3
      rw [h4, h2]
      exact ⟨Same.refl _, .tup (.inl h5) (rpl_kD _)⟩
  · left
    obtain ⟨src, ds, e1, q, ew, s, hz⟩ := src_of B.kle (S := Sm .s A cn f Γ) (sm_tup R1) (R.rbm r1) q (ds := [])
    exact ⟨src, ew, s.ok H1 fun _ _ _ e => e, fun z => q _ H1 k1 g1 (hz z) (it_sq (sm_tup R1) sm_fz s)⟩

/-! ### d[k] = v, xs[i] = v -/
theorem ps_sput {td ti tv : TE} {o i value : Expr} (ho : PE X o td) (hi : PE X i ti) (hv : PE X value tv) (hs : swapsWith value (some (.Subscript o i pos')) pos.line X.env = pure false) {t : TS}
    (ht : ∀ Dn σ H, t Dn σ H → tv σ H fun v H1 => td σ H1 fun x H2 => ti σ H2 fun y H3 => ∃ a H4, x = .ref a ∧ (DPut H3 a y v H4 ∧ X.A.units + 1 < cLine ∨ rSetL (.ref a) y v H3 fun H' => H' = H4) ∧ Dn.nx σ H4) :
    PS X (.Assign [.Subscript o i pos'] value pos) t := by
  refine ⟨fun pins s σ H D I h => ?_⟩
  refine wpAny_Assign_Subscript (thn (hv.run pins s σ H _ I (ht D σ H h)) fun r s1 ⟨v, H1, I1, rv, q1⟩ => thn (ho.run pins s1 σ H1 _ I1 q1) fun u s2 ⟨x, H2, I2, rx, q2⟩ => thn (hi.run pins s2 σ H2 _ I2 q2) fun iv s3 ⟨y, H3, I3, ry, a, H4, ex, g, q3⟩ => ?_) hs
  subst ex
  rcases g with ⟨g, hu⟩ | g
  · obtain rfl : u = Value.ref a := rx
    exact d_setItem hu I3 g ry rv fun s4 I4 => ⟨σ, H4, I4, q3⟩
  · refine wpAny_mono (set_list pins s3 σ H3 (.ref a) y v u iv r _ I3 rx ry rv g) (fun _ s4 ⟨H', I4, e⟩ => ?_) fun _ _ x => x
    subst e
    exact ⟨σ, H', I4, q3⟩
def sputG (tt : Bool) (i : Nat) (k v : D) (Γ : Ga) : M (Ct × Ga) := match Γ[i]? with
  | some (.own (.dct t kvs)) => if (isKeyD t k && (decide (kvs.length < 16777216) && (tt || !t))) = true then .ret (.nx, Γ.set i (.own (.dct t (dput t kvs k v)))) else .stuck
  | some (.own (.lst ds)) => match k with
    | .int n => match ixN ds.length n with
      | some j => .ret (.nx, Γ.set i (.own (.lst (ds.set j v))))
      | none => .stuck
    | _ => .stuck
  | _ => .stuck
def sputM (tt : Bool) (i : Nat) (mk mv : Ga → M D) : Ga → M (Ct × Ga) := fun Γ => match Γ[i]? with
  | some (.own _) => mv Γ >>= fun v => mk Γ >>= fun k => sputG tt i k v Γ
  | _ => .stuck
/-- no constant of the module is data -/
def NoC (A : Am) : Prop := ∀ a, A.K.lookup a = none
theorem psv_sput (tt : Bool) (hT : tt = true → NoC A) (B : Bd X A E k) (hi : PEV X A E md1 b mb) (hv : PEV X A E .s e mc) (hN : X.N[i]? = some x := by rfl) (hvi : Vis X.env.scope x := by first | exact Or.inl rfl | exact Or.inr (Or.inl rfl) | exact Or.inr (Or.inr rfl))
    (hs : swapsWith e (some (.Subscript (.Name x p) b pos')) pos.line X.env = pure false := by rfl) (hd : (x == ("__debug__" : Str)) = false := by decide) (hcd : (x == ("__classdict__" : Str)) = false := by decide) :
    PSV X A E md (.Assign [.Subscript (.Name x p) b pos'] e pos) (sputM tt i mb mc) := by
  refine ⟨ps_sput (pe_var hN hvi hd hcd) hi.pe hv.pe hs fun Dn σ H ⟨cn, f, Γ, R, h⟩ => ?_⟩
  unfold sputM at h
  split at h
  case h_2 => exact h.elim
  rename_i d0 e0
  have h := M.wp_bind.mp h
  refine ⟨cn, f, Γ, R, M.wp_mono h (fun v q w H1 k1 g1 r1 => ?_) fun _ x => x⟩
  have R1 := R.kx k1 g1
  obtain ⟨hsig, _, _, _⟩ := R.ow i _ e0
  refine ⟨_, hsig, cn, f, Γ, R1, M.wp_mono (M.wp_bind.mp q) (fun kd q w2 H2 k2 g2 r2 => ?_) fun _ x => x⟩
  have R2 := R1.kx k2 g2
  have rv : Rp A.K H2 (Fz A cn f Γ) w v := R1.rpk k2 r1
  have rk := R1.rb r2
  unfold sputG at q
  split at q
  · rename_i t kvs es
    split at q
    · rename_i c
      simp only [Bool.and_eq_true, decide_eq_true_eq] at c
      obtain ⟨ik, hl, ct⟩ := c
      obtain ⟨_, _, _, ow⟩ := R2.ow i _ es
      rcases ow with ⟨rfl, l, hx, rl⟩ | ⟨rfl, l, hx, rl⟩
      · obtain ⟨kk, ek⟩ := Option.isSome_iff_exists.mp (show (keyD kd).isSome = true from ik)
        have ew := rb_key rk ek
        subst ew
        obtain ⟨R3, s3⟩ := R2.put es (o := .dK (putK l kk w)) (d' := .dct false (dput false kvs kd v)) trivial (.inl ⟨rfl, _, upd_same, (rl.put ek rv).mono (R2.ho_put es) fun _ _ p _ => p⟩)
        exact ⟨_, _, rfl, .inl ⟨DPut.k hx (by rw [rl.length, sizeLine_eq]; exact hl), B.u1⟩, q f σ _ ((Hs.kx (k1.trans k2)).trans s3) R3⟩
      · obtain ⟨kk, ek⟩ := Option.isSome_iff_exists.mp (show (ktuD kd).isSome = true from ik)
        obtain ⟨b, rfl, hb⟩ := rb_ktu rk ek
        have ht : tt = true := by
          rcases Bool.or_eq_true_iff.mp ct with z | z
          · exact z
          · cases z
        have hb' : H2 b = some (.tup (kk.map kV)) := by
          rcases hb with z | ⟨o, _, _, z, _⟩
          · exact z
          · rw [hT ht b] at z; cases z
        obtain ⟨R3, s3⟩ := R2.put es (o := .dT (putK l kk w)) (d' := .dct true (dput true kvs kd v)) trivial (.inr ⟨rfl, _, upd_same, (rl.put ek rv).mono (R2.ho_put es) fun _ _ p _ => p⟩)
        exact ⟨_, _, rfl, .inl ⟨DPut.t hx hb' (by rw [rl.length, sizeLine_eq]; exact hl), B.u1⟩, q f σ _ ((Hs.kx (k1.trans k2)).trans s3) R3⟩
    · exact q.elim
  · rename_i ds es
    split at q
    · rename_i n
      split at q
      · rename_i j hj
        obtain ⟨_, _, _, xs, hx, rx⟩ := R2.ow i _ es
        have ew := rb_int rk
        subst ew
        obtain ⟨R3, s3⟩ := R2.putL es (RpL.set rv j rx)
        exact ⟨_, _, rfl, .inr ⟨f i, xs, n, j, rfl, rfl, hx, by rw [rx.length]; exact hj, rfl⟩, q f σ _ ((Hs.kx (k1.trans k2)).trans s3) R3⟩
      · exact q.elim
    · exact q.elim
  · exact q.elim
end
end Px

set_option Elab.async false
set_option linter.all false
set_option maxRecDepth 100000
set_option autoImplicit false
namespace Px
open PySem PySem.Spec PyProof.Rows L2

/-! ### dict comprehensions, keys ints or texts -/
section
variable {K : PySem.W.Frag} {A : Am} {E : EN} {cn : Cn} {f : Nat → Addr} {σ σ' : L2.St} {H H' H1 : Hp} {Γ Γ' : Ga} {a b : Addr} {w : V} {d : D} {md : Md}
def dcOne (bnd : D → Ga → M Ga) (cond : Ga → M Bool) (mk mv : Ga → M D) (Γ : Ga) (d : D) : M (List (D × D)) := (bnd d Γ >>= fun Γ2 => cond Γ2 >>= fun k => if k = true then (mk Γ2 >>= fun y => mv Γ2 >>= fun z => if (keyD y).isSome = true then .ret [(y, z)] else .stuck) else .ret []).noexc
def dputs (acc l : List (D × D)) : List (D × D) := l.foldl (fun a p => dput false a p.1 p.2) acc
def dcGo (one : D → M (List (D × D))) : List D → List (D × D) → M (List (D × D))
  | [], acc => .ret acc
  | d :: r, acc => one d >>= fun l => dcGo one r (dputs acc l)
def dcM (vs : List Nat) (mi : Ga → M (List D)) (bnd : D → Ga → M Ga) (cond : Ga → M Bool) (mk mv : Ga → M D) : Ga → M D := fun Γ =>
  if ownFree vs Γ = true then mi Γ >>= fun ds => dcGo (dcOne bnd cond mk mv (wipeG Γ vs)) ds [] >>= fun es => .ret (.dct false es) else .stuck
theorem tDc_of {vs ts : List Nat} {mi : Ga → M (List D)} {bnd : D → Ga → M Ga} {cond : Ga → M Bool} {mk mv : Ga → M D} {mdk : Md} (hts : ∀ j, j ∈ ts → j ∈ vs) (ht : TameG bnd) {Q : VK} (h : tV K A E .f (dcM vs mi bnd cond mk mv) σ H Q) :
    tDc (tI K A E md mi) (tG K A ts bnd) (tT K A never cond) (tV K A never mdk mk) (tV K A never .s mv) vs σ H Q := by
  obtain ⟨cn, f, Γ, R, h⟩ := h
  unfold dcM at h
  by_cases ho : ownFree vs Γ = true
  · rw [if_pos ho] at h
    refine ⟨cn, f, Γ, R, M.wp_mono (M.wp_bind.mp h) (fun ds q J H1 k1 g1 hz it D hD => ?_) fun _ x => x⟩
    have R1 := R.kx k1 g1
    have hDz : ¬ A.gh.Z D := fun z => by obtain ⟨xs, e⟩ := A.gh.gz H1 D g1 z; rw [hD] at e; cases e
    have hn := R.kx_none k1 g1 hD
    have st : ∀ {H2 : Hp} {o : HO}, Kx A.gh.Z H1 H2 → A.gh.G H2 → H2 D = some o → Mut (some o) → Rl K A (cn.plus [D]) f (L2.wipe σ vs) H2 (wipeG Γ vs) := fun k g e m =>
      (R1.wipe ho).hide k g fun a ha => by
        have ea : a = D := by simpa using ha
        subst ea
        exact ⟨hD, _, e, m⟩
    have sub : ∀ b, Fz A (cn.plus [D]) f (wipeG Γ vs) b → Fz A cn f Γ b ∧ b ≠ D := fun b p => by
      obtain ⟨p1, p2⟩ := (fz_plus [D]).mp p
      exact ⟨(fz_wipe ho).mp p1, fun z => p2 (by simp [z])⟩
    have sub' : ∀ b, Fz A cn f Γ b → b ≠ D → Fz A (cn.plus [D]) f (wipeG Γ vs) b := fun b p n => (fz_plus [D]).mpr ⟨(fz_wipe ho).mpr p, by simpa using n⟩
    refine ⟨fun i k H2 => ∃ acc es, H2 D = some (.dK acc) ∧ acc.length ≤ i ∧ i ≤ ds.length ∧ k = ds.length - i ∧ RpK K H2 (Fz A (cn.plus [D]) f (wipeG Γ vs)) acc es ∧ Kx A.gh.Z H1 H2 ∧ A.gh.G H2 ∧
      (dcGo (dcOne bnd cond mk mv (wipeG Γ vs)) (ds.drop i) es).wp (fun es' => ∀ w H', Kx A.gh.Z H H' → A.gh.G H' → Rq .f K H H' (Fz A cn f Γ) (nZ A) w (.dct false es') → Q w H') (xP A E cn),
      ⟨ds.length, [], [], upd_same, Nat.le_refl _, Nat.zero_le _, rfl, .nil, Kx.upd hD, A.gh.same g1 (same_new hD), M.wp_mono (M.wp_bind.mp q) (fun es' q => q) fun _ x => x⟩, ?_⟩
    rintro i k H2 ⟨acc, es, hacc, hal, hi, rfl, rl, k2, g2, q⟩
    have R2 := st k2 g2 hacc trivial
    obtain ⟨go, yl, stop⟩ := it (Fz A (cn.plus [D]) f (wipeG Γ vs)) H2 (fun a u p e => k2 a u (by cases md with | b => exact p | s => exact Fz.nz p | f => exact Fz.nz p) e) (fun a u p e => sub' a p fun z => by rw [z, hD] at e; cases e)
    by_cases hlt : i < ds.length
    · rw [List.drop_eq_getElem_cons hlt] at q
      have q := M.wp_bind.mp q
      refine .inr ⟨go i hlt, fun H3 => ∃ acc es, H3 D = some (.dK acc) ∧ acc.length ≤ i + 1 ∧ RpK K H3 (Fz A (cn.plus [D]) f (wipeG Γ vs)) acc es ∧ Kx A.gh.Z H1 H3 ∧ A.gh.G H3 ∧
        (dcGo (dcOne bnd cond mk mv (wipeG Γ vs)) (ds.drop (i + 1)) es).wp (fun es' => ∀ w H', Kx A.gh.Z H H' → A.gh.G H' → Rq .f K H H' (Fz A cn f Γ) (nZ A) w (.dct false es') → Q w H') (xP A E cn),
        fun H3 ⟨acc, es, a1, a2, a3, a4, a5, a6⟩ => ⟨ds.length - (i + 1), by omega, acc, es, a1, a2, hlt, rfl, a3, a4, a5, a6⟩, fun x H3 y => ?_⟩
      obtain ⟨sm, rx⟩ := yl i _ x H3 (List.getElem?_eq_getElem hlt) y
      have kk3 : Kx A.gh.Z H2 H3 := same_kx sm
      have g3 := A.gh.same g2 sm
      have R3 := R2.kx kk3 g3
      have q := M.wp_bind.mp (M.wp_noexc q)
      refine ⟨cn.plus [D], f, wipeG Γ vs, _, R3, rx, M.wp_mono q (fun Γ2 q σ2 s2 R4 ag => ⟨wipe_ag hts ag, ?_⟩) fun _ x => x⟩
      have back : ∀ b, Fz A (cn.plus [D]) f Γ2 b → Fz A (cn.plus [D]) f (wipeG Γ vs) b := fun b p => ⟨p.1, p.2.1, fun j d e => p.2.2 j d (by
        rw [ag.2.2 j fun z => (wipeG_get e (by simp)).2 (hts j z)]; exact e)⟩
      refine ⟨cn.plus [D], f, Γ2, R4, M.wp_mono (M.wp_bind.mp q) (fun b q H4 k4 g4 => ?_) fun _ x => x.elim⟩
      have hD4 : H4 D = some (.dK acc) := k4 _ _ hDz (kk3 _ _ hDz hacc)
      have k24 : Kx A.gh.Z H2 H4 := kk3.trans k4
      cases b with
      | true =>
        refine if_pos rfl |>.mpr ⟨cn.plus [D], f, Γ2, R4.kx k4 g4, M.wp_mono (M.wp_bind.mp q) (fun yk q y H5 k5 g5 r5 => ?_) fun _ x => x.elim⟩
        have R5 := (R4.kx k4 g4).kx k5 g5
        refine ⟨cn.plus [D], f, Γ2, R5, M.wp_mono (M.wp_bind.mp q) (fun zv q z H6 k6 g6 r6 => ?_) fun _ x => x.elim⟩
        split at q
        · rename_i ik
          obtain ⟨kk, ek⟩ := Option.isSome_iff_exists.mp ik
          have ey : y = kV kk := rb_key ((R4.kx k4 g4).rb r5) ek
          have hD6 : H6 D = some (.dK acc) := k6 _ _ hDz (k5 _ _ hDz hD4)
          have k26 : Kx A.gh.Z H2 H6 := (k24.trans k5).trans k6
          have o6 : Ho (Fz A (cn.plus [D]) f (wipeG Γ vs)) H6 (upd H6 D (.dK (putK acc kk z))) := ⟨fun a u p r => by
            rw [upd_ne (sub a p).2]; exact r, fun a xs r => by
            have ne : a ≠ D := fun zz => by
              rw [zz] at r
              exact mut_not_frz hD6 trivial r
            rw [upd_ne ne]; exact r⟩
          refine ⟨acc, kk, ey, hD6, by have := hal; omega, putK acc kk z, dput false es yk zv, upd_same, by have := length_putK acc kk z; omega, ?_, ?_, ?_, ?_⟩
          · refine RpK.mono o6 (fun _ _ p _ => p) (RpK.put (rl.mono (R2.ho k26) fun _ _ p _ => p) ek ?_)
            exact Rp.mono .refl (fun b _ p _ => back b p) r6
          · intro a u zz e
            have ne : a ≠ D := fun z2 => by rw [z2, hD] at e; cases e
            rw [upd_ne ne]
            exact (k2.trans k26) a u zz e
          · exact A.gh.gk H6 _ g6 fun a zz => upd_ne fun z2 => hDz (z2 ▸ zz)
          · exact q
        · exact q.elim
      | false =>
        refine if_neg Bool.false_ne_true |>.mpr ⟨acc, es, hD4, by omega, rl.mono (R2.ho k24) fun _ _ p _ => p, k2.trans k24, g4, ?_⟩
        exact q
    · have e : i = ds.length := by omega
      subst e
      rw [List.drop_length] at q
      exact .inl ⟨stop, q _ H2 (k1.trans k2) g2 ⟨D, rfl, hn, .inl ⟨rfl, acc, hacc, rl.mono .refl fun b _ p _ => sub b p⟩⟩⟩
  · rw [if_neg ho] at h; exact h.elim
end
section
variable {X : Cx} {A : Am} {E : EN} {k : Nat} {md md1 md2 : Md} {e a b c tg : Expr} {es rest : List Expr} {st : Stmt} {sts st2 : List Stmt} {m ma mb mc : Ga → M D} {mi : Ga → M (List D)} {mT mU : Ga → M Bool} {ml : Ga → M (List D)} {m1 m2 : Ga → M (Ct × Ga)} {pos p : Pos} {x : Str}
theorem pev_dc {kx vx iter : Expr} {ifs : List Expr} {scope : Scope} {own : List (Str × Nat)} {ts : List Nat} {bnd : D → Ga → M Ga} {cond : Ga → M Bool} {mk mv : Ga → M D} (B : Bd X A E k) (hi : PIV X A E md tg iter mi) (ok : BlkOk X.N X.env.scope scope own)
    (hg : ∀ (s : Shared) (H : Hp) (C : Addr) (cl : List (Str × Addr)) (fp : List Addr), PGV (X.blk s H scope (compEnvC scope cl C X.env) fp) A tg ts bnd) (tb : TameG bnd) (hts : ∀ j, j ∈ ts → j ∈ own.map (·.2))
    (hc : ∀ (s : Shared) (H : Hp) (C : Addr) (cl : List (Str × Addr)) (fp : List Addr), PTsV (X.blk s H scope (compEnvC scope cl C X.env) fp) A never ifs cond)
    (hk : ∀ (s : Shared) (H : Hp) (C : Addr) (cl : List (Str × Addr)) (fp : List Addr), PEV (X.blk s H scope (compEnvC scope cl C X.env) fp) A never md2 kx mk)
    (he : ∀ (s : Shared) (H : Hp) (C : Addr) (cl : List (Str × Addr)) (fp : List Addr), PEV (X.blk s H scope (compEnvC scope cl C X.env) fp) A never .s vx mv) (hs : ∀ x, foldedSetIterable iter X.env x = pure x := by intro _; rfl) :
    PEV X A E .f (.DictComp kx vx [⟨tg, iter, ifs, 0⟩] scope pos) (dcM (own.map (·.2)) mi bnd cond mk mv) :=
  ⟨imp_pe (pe_dc B.calm B.nd hi.pi ok (fun s H C cl fp => (hg s H C cl fp).pg) (fun s H C cl fp => (hc s H C cl fp).pts) (fun s H C cl fp => (hk s H C cl fp).pe) (fun s H C cl fp => (he s H C cl fp).pe) hs) fun _ _ _ h => tDc_of hts tb h⟩
theorem ps_setDc {i : Nat} {y : Str} {py : Pos} {kx vx tg iter : Expr} {ifs : List Expr} {scope : Scope} {own : List (Str × Nat)} {pos spos : Pos} {wi : TI} {g : TG} {tt : TT} {tk tv : TE} (hc : X.calm = true) (hN : X.N.Nodup) (hy : X.N[i]? = some y) (hyl : X.env.scope.names.lookup y = some .local)
    (hsw : swapsWith (.DictComp kx vx [⟨tg, iter, ifs, 0⟩] scope pos) (some (.Name y py)) spos.line X.env = pure true) (hi : PI X tg iter wi) (ok : BlkOk X.N X.env.scope scope own)
    (hg : ∀ (s : Shared) (H : Hp) (C : Addr) (cl : List (Str × Addr)) (fp : List Addr), PG (X.blk s H scope (compEnvC scope cl C X.env) fp) tg g) (ht : ∀ (s : Shared) (H : Hp) (C : Addr) (cl : List (Str × Addr)) (fp : List Addr), PTs (X.blk s H scope (compEnvC scope cl C X.env) fp) ifs tt)
    (hk : ∀ (s : Shared) (H : Hp) (C : Addr) (cl : List (Str × Addr)) (fp : List Addr), PE (X.blk s H scope (compEnvC scope cl C X.env) fp) kx tk)
    (he : ∀ (s : Shared) (H : Hp) (C : Addr) (cl : List (Str × Addr)) (fp : List Addr), PE (X.blk s H scope (compEnvC scope cl C X.env) fp) vx tv) (hs : ∀ x, foldedSetIterable iter X.env x = pure x := by intro _; rfl) :
    PS X (.Assign [.Name y py] (.DictComp kx vx [⟨tg, iter, ifs, 0⟩] scope pos) spos) (tAsg (tDc wi g tt tk tv (own.map (·.2))) (gName i)) := by
  refine ⟨fun pins s σ H D I h => ?_⟩
  rw [exec_Assign_Name_used _ _ _ _ hsw]
  refine wpAny_bind (wpAny_standAt (wpAny_bind ?_))
  show wpAny _ X.A (do let _ ← comprehension (.DictComp kx vx [⟨tg, iter, ifs, 0⟩] scope pos) scope X.env (firstIterPos [⟨tg, iter, ifs, 0⟩] pos) newDict false (eval iter X.env) (some (assign (.Name y py) X.env))) _ _ s
  have h : tDc wi g tt tk tv (own.map (·.2)) σ H (fun x H1 => gName i x σ H1 D.nx) := h
  refine wpAny_bind (thn (dc_core (Qf := fun _ s' => SP X pins D .next s') hc hN I hi ok hg ht hk he hs h fun L C s' m H' I' q hn f => ?_) fun _ s' hq => wpAny_pure (wpAny_pure hq))
  show wpAny _ _ (assign (.Name y py) X.env (.ref L)) _ _ _
  refine wpAny_assign_Name (store_ok2 (v := V.ref L) I' hN hy (.inl hyl) rfl (fun s2 I2 ⟨a, sb, ha⟩ => ?_) (.inr hyl))
  obtain ⟨f0, f1, f2, f3, f4, f5⟩ := f
  have haC : C ≠ a := by
    rcases ha with z | z
    · rw [z]; exact f1
    · exact fun e => f4 y a z e.symm
  refine ⟨m, hn.sameBut sb haC, fun h3 sb3 => ?_⟩
  exact ⟨_, H', I2.turned (t' := s2.toks) (fun b o hb e => (sb3.2 b hb).trans e) f0 f1 f3 f4 f5, q⟩
theorem sw_trueD {kx vx : Expr} {gs : List Comprehension} {scope : Scope} {pos py : Pos} {y : Str} {l : Nat} {env : Env} (hk : env.scope.kind = .function) (hy : env.scope.names.lookup y = some .local) (hl : (py.line == pos.line) = true)
    (ha : (scope.names.any fun (n, k) => n == y && (k == .local || k == .cell)) = false) : swapsWith (.DictComp kx vx gs scope pos) (some (.Name y py)) l env = pure true := by
  have ky : env.kindOf y = some .local := hy
  have hb : env.blockKind = .function := by unfold Env.blockKind; rw [hk]; rfl
  unfold swapsWith
  simp only [hb, ky, ha, Expr.pos, hl]
  rfl
theorem psv_setDc {i : Nat} {y : Str} {py : Pos} {spos : Pos} {kx vx iter : Expr} {ifs : List Expr} {scope : Scope} {own : List (Str × Nat)} {ts : List Nat} {bnd : D → Ga → M Ga} {cond : Ga → M Bool} {mk mv : Ga → M D} (B : Bd X A E k) (hy : X.N[i]? = some y) (hyl : X.env.scope.names.lookup y = some .local)
    (hsw : swapsWith (.DictComp kx vx [⟨tg, iter, ifs, 0⟩] scope pos) (some (.Name y py)) spos.line X.env = pure true) (hi : PIV X A E md1 tg iter mi) (ok : BlkOk X.N X.env.scope scope own)
    (hg : ∀ (s : Shared) (H : Hp) (C : Addr) (cl : List (Str × Addr)) (fp : List Addr), PGV (X.blk s H scope (compEnvC scope cl C X.env) fp) A tg ts bnd) (tb : TameG bnd) (hts : ∀ j, j ∈ ts → j ∈ own.map (·.2))
    (hc : ∀ (s : Shared) (H : Hp) (C : Addr) (cl : List (Str × Addr)) (fp : List Addr), PTsV (X.blk s H scope (compEnvC scope cl C X.env) fp) A never ifs cond)
    (hk : ∀ (s : Shared) (H : Hp) (C : Addr) (cl : List (Str × Addr)) (fp : List Addr), PEV (X.blk s H scope (compEnvC scope cl C X.env) fp) A never md2 kx mk)
    (he : ∀ (s : Shared) (H : Hp) (C : Addr) (cl : List (Str × Addr)) (fp : List Addr), PEV (X.blk s H scope (compEnvC scope cl C X.env) fp) A never .s vx mv) (hs : ∀ x, foldedSetIterable iter X.env x = pure x := by intro _; rfl) :
    PSV X A E md (.Assign [.Name y py] (.DictComp kx vx [⟨tg, iter, ifs, 0⟩] scope pos) spos) (setM i (dcM (own.map (·.2)) mi bnd cond mk mv)) := by
  refine ⟨imp_ps (ps_setDc B.calm B.nd hy hyl hsw hi.pi ok (fun s H C cl fp => (hg s H C cl fp).pg) (fun s H C cl fp => (hc s H C cl fp).pts) (fun s H C cl fp => (hk s H C cl fp).pe) (fun s H C cl fp => (he s H C cl fp).pe) hs) fun Dn σ H ⟨cn, f, Γ, R, h⟩ => ?_⟩
  refine tDc_of hts tb ⟨cn, f, Γ, R, M.wp_mono (M.wp_bind.mp h) (fun d q w H1 k1 g1 r1 => ?_) fun _ x => x⟩
  obtain ⟨f', R', s'⟩ := R.setF k1 g1 (i := i) r1
  exact q f' _ H1 s' R'
end
end Px

set_option Elab.async false
set_option linter.all false
set_option maxRecDepth 100000
set_option autoImplicit false
namespace Px
open PySem PySem.Spec PyProof.Rows L2

/-! ### short words for the printed terms -/
theorem bt_len : bootBuiltins "len" = some (.builtin "len") := by decide +kernel
theorem bt_isinstance : bootBuiltins "isinstance" = some (.builtin "isinstance") := by decide +kernel
theorem bt_sum : bootBuiltins "sum" = some (.builtin "sum") := by decide +kernel
theorem bt_min : bootBuiltins "min" = some (.builtin "min") := by decide +kernel
theorem bt_max : bootBuiltins "max" = some (.builtin "max") := by decide +kernel
theorem bt_all : bootBuiltins "all" = some (.builtin "all") := by decide +kernel
theorem bt_any : bootBuiltins "any" = some (.builtin "any") := by decide +kernel
theorem bt_abs : bootBuiltins "abs" = some (.builtin "abs") := by decide +kernel
theorem bt_repr : bootBuiltins "repr" = some (.builtin "repr") := by decide +kernel
theorem bt_sorted : bootBuiltins "sorted" = some (.builtin "sorted") := by decide +kernel
theorem bt_int : bootBuiltins "int" = some (.type "int") := by decide +kernel
theorem bt_bool : bootBuiltins "bool" = some (.type "bool") := by decide +kernel
theorem bt_str : bootBuiltins "str" = some (.type "str") := by decide +kernel
theorem bt_tuple : bootBuiltins "tuple" = some (.type "tuple") := by decide +kernel
theorem bt_list : bootBuiltins "list" = some (.type "list") := by decide +kernel
theorem bt_dict : bootBuiltins "dict" = some (.type "dict") := by decide +kernel
theorem bt_set : bootBuiltins "set" = some (.type "set") := by decide +kernel
/-- no constant of the module is data -/
def K0 : PySem.W.Frag := []
theorem k0_le {K : PySem.W.Frag} : KLe K0 K := fun _ _ h => nomatch h
section
variable {X : Cx} {A : Am} {E : EN} {k : Nat} {md md1 md2 : Md} {e a b c : Expr} {es : List Expr} {m ma mb mc : Ga → M D} {ml : Ga → M (List D)} {mi : Ga → M (List D)} {pos p p1 p2 p3 : Pos} {x : Str} {tg : Expr}
def cI (i : Int) : Ga → M D := fun _ => .ret (.int i)
def cB (i : Bool) : Ga → M D := fun _ => .ret (.bl i)
def cS (i : Str) : Ga → M D := fun _ => .ret (.str i)
def cN : Ga → M D := fun _ => .ret .non
def cTy (T : String) : Ga → M D := fun _ => .ret (.raw (.ty T))
def kb (m : Ga → M D) : Ga → M D := fun Γ => m Γ >>= keepB
theorem e_int {i : Int} {j} : PEV X A E .f (.Constant (.int i) j pos) (cI i) := pev_int
theorem e_bl {i : Bool} {j} : PEV X A E .f (.Constant (.bool i) j pos) (cB i) := pev_bl
theorem e_str {i : Str} {j} : PEV X A E .f (.Constant (.str i) j pos) (cS i) := pev_str
theorem e_non {j} : PEV X A E .f (.Constant .none j pos) cN := pev_non
/-- a number of the module -/
theorem g_int {i : Int} {t : Tok} (hm : X.mg x = some (.int i t)) (hg : Gl X x := by rfl) (hd : (x == ("__debug__" : Str)) = false := by decide) : PEV X A E .f (.Name x pos) (cI i) := pev_glob (v := .int i) hg hm ⟨t, rfl⟩ (fun _ _ _ => .int i) hd
theorem g_str {i : Str} {t : Tok} (hm : X.mg x = some (.str i t)) (hg : Gl X x := by rfl) (hd : (x == ("__debug__" : Str)) = false := by decide) : PEV X A E .f (.Name x pos) (cS i) := pev_glob (v := .str i) hg hm ⟨t, rfl⟩ (fun _ _ _ => .str i) hd
theorem f_s (h : PEV X A E .s e m) : PEV X A E .f e (kb m) := pev_sf h
theorem f_b (h : PEV X A E .b e m) : PEV X A E .f e (kb (kb m)) := pev_sf (pev_bs h)
theorem s_b (h : PEV X A E .b e m) : PEV X A E .s e (kb m) := pev_bs h
theorem s_f (h : PEV X A E .f e m) : PEV X A E .s e m := pev_fs h
theorem b_s (h : PEV X A E .s e m) : PEV X A E .b e m := pev_sb h
theorem b_f (h : PEV X A E .f e m) : PEV X A E .b e m := pev_fb h
/-- int * int, list * int -/
def mulU (x y : D) : M D := match x with
  | .lst ds => repD (.lst ds) y
  | x => mulD x y
theorem tame_mulU (x y : D) : Tame (mulU x y) := by
  unfold mulU
  split
  · exact tame_rep _ _
  · exact tame_mul _ _
theorem o_mulU : OpR X (binaryOp .Mult) (rD A.K mulU) := by
  intro pins s σ H x y v u Q I rx ry ⟨P, W, d, e, r1, r2, h⟩
  unfold mulU at h
  split at h
  · exact o_rep pins s σ H x y v u Q I rx ry ⟨P, W, _, e, r1, r2, h⟩
  · exact o_mul pins s σ H x y v u Q I rx ry ⟨P, W, d, e, r1, r2, h⟩
def rgM (ml : Ga → M (List D)) : Ga → M (List D) := fun Γ => ml Γ >>= rangeD
theorem i_range1 (hm : X.mg "range" = none) (ha : PAVL X A E .b [a] ml) (hg : Gl X "range" := by rfl) (hs : starEach [a] X.env = [(false, eval a X.env)] := by rfl) : PIV X A E .s tg (.Call (.Name "range" p) [a] [] pos) (rgM ml) := piv_range1 hg hm ha hs
theorem i_range2 (hm : X.mg "range" = none) (ha : PAVL X A E .b [a, b] ml) (hg : Gl X "range" := by rfl) (hs : starEach [a, b] X.env = [(false, eval a X.env), (false, eval b X.env)] := by rfl) (hs2 : starEach [b] X.env = [(false, eval b X.env)] := by rfl) : PIV X A E .s tg (.Call (.Name "range" p) [a, b] [] pos) (rgM ml) := piv_range2 hg hm ha hs hs2
/-- a built-in function, a built-in class called -/
theorem e_bi {id : String} {g : List D → M D} (hm : X.mg x = none) (hv : bootBuiltins x = some (.builtin id)) (hc : CallR X (.builtin id) (cD A.K g)) (tm : ∀ ds, Tame (g ds)) (ha : PAVL X A E .b (e :: es) ml) (hg : Gl X x := by rfl) (hn : x ≠ "__name__" := by decide) (hdb : (x == ("__debug__" : Str)) = false := by decide)
    (he : starEach (e :: es) X.env = (false, eval e X.env) :: starEach es X.env := by rfl) (hpl : (backTo pos (starEach es X.env)).any (·.1) = false := by rfl) : PEV X A E .f (.Call (.Name x p) (e :: es) [] pos) (callV ml g) := pev_bi hc tm hg hm hv ha hn hdb he hpl
theorem e_ty {T : String} {g : List D → M D} (hm : X.mg x = none) (hv : bootBuiltins x = some (.type T)) (hc : CallR X (.type T) (cD A.K g)) (tm : ∀ ds, Tame (g ds)) (ha : PAVL X A E .b (e :: es) ml) (hg : Gl X x := by rfl) (hn : x ≠ "__name__" := by decide) (hdb : (x == ("__debug__" : Str)) = false := by decide)
    (he : starEach (e :: es) X.env = (false, eval e X.env) :: starEach es X.env := by rfl) (hpl : (backTo pos (starEach es X.env)).any (·.1) = false := by rfl) : PEV X A E .f (.Call (.Name x p) (e :: es) [] pos) (callV ml g) := pev_ty hc tm hg hm hv ha hn hdb he hpl
/-- a def of the text called -/
theorem e_call {f : Addr} {fd : FuncData} {ps : List Str} {F : List D → M D} {qual : Str} {st : Stmt} {x' : Str} (B : Bd X A E k) (hF : FnG X.prog X.w X.K X.mg X.base (L2.CX X.prog X.w) k f fd ps (spM A.K X.mg A.gh md F)) (hm : X.mg x = some (.ref f)) (hk : Fun X.K x' qual st f fd)
    (hb : Binds X.K fd ps []) (ha : PAVL X A E .s (e :: es) ml) (hg : Gl X x := by rfl) (hdb : (x == ("__debug__" : Str)) = false := by decide) (he : starEach (e :: es) X.env = (false, eval e X.env) :: starEach es X.env := by rfl) (hpl : (backTo pos (starEach es X.env)).any (·.1) = false := by rfl) :
    PEV X A E md (.Call (.Name x p) (e :: es) [] pos) (callV ml F) := pev_call hF B.hr B.gd hg hm hk.kp hb B.hx ha hdb he hpl
theorem e_callB {f : Addr} {fd : FuncData} {ps : List Str} {F : List D → M D} {qual : Str} {st : Stmt} {x' : Str} (hmd : md = .f ∨ md = .s) (B : Bd X A E k) (hF : FnG X.prog X.w X.K X.mg X.base (L2.CX X.prog X.w) k f fd ps (spM A.K X.mg A.gh md F)) (hm : X.mg x = some (.ref f)) (hk : Fun X.K x' qual st f fd)
    (hb : Binds X.K fd ps []) (ha : PAVL X A E .b (e :: es) ml) (hg : Gl X x := by rfl) (hdb : (x == ("__debug__" : Str)) = false := by decide) (he : starEach (e :: es) X.env = (false, eval e X.env) :: starEach es X.env := by rfl) (hpl : (backTo pos (starEach es X.env)).any (·.1) = false := by rfl) :
    PEV X A E md (.Call (.Name x p) (e :: es) [] pos) (callB md ml F) := pev_callB hF hmd B.hr B.gd hg hm hk.kp hb B.hx ha hdb he hpl
theorem e_call0 {f : Addr} {fd : FuncData} {ps : List Str} {F : List D → M D} {qual : Str} {st : Stmt} {x' : Str} (B : Bd X A E k) (hF : FnG X.prog X.w X.K X.mg X.base (L2.CX X.prog X.w) k f fd ps (spM A.K X.mg A.gh md F)) (hm : X.mg x = some (.ref f)) (hk : Fun X.K x' qual st f fd)
    (hb : Binds X.K fd ps []) (hg : Gl X x := by rfl) (hdb : (x == ("__debug__" : Str)) = false := by decide) : PEV X A E md (.Call (.Name x p) [] [] pos) (callV nilL F) := pev_call0 hF B.hr B.gd hg hm hk.kp hb B.hx hdb
theorem e_cls {T : String} (hm : X.mg x = none) (hv : bootBuiltins x = some (.type T)) (hg : Gl X x := by rfl) (hn : x ≠ "__name__" := by decide) (hd : (x == ("__debug__" : Str)) = false := by decide) : PEV X A E .b (.Name x pos) (cTy T) := pev_cls hg hm hv hn hd
end
end Px

set_option Elab.async false
set_option linter.all false
set_option maxRecDepth 100000
set_option autoImplicit false
namespace Px
open PySem PySem.Spec PyProof.Rows L2

/-! ### a display of a dict with tuple keys -/
section
variable {X : Cx} {A : Am} {E : EN} {k : Nat} {md md1 md2 : Md} {e a b c : Expr} {es : List Expr} {m ma mb mc : Ga → M D} {m1 : Ga → M (Ct × Ga)} {ml : Ga → M (List D)} {mi : Ga → M (List D)} {pos p p1 p2 p3 : Pos} {x : Str} {tg : Expr}
def fzM (i : Nat) (m : Ga → M (Ct × Ga)) : Ga → M (Ct × Ga) := fun Γ => m (fz i Γ)
abbrev MP := List ((Ga → M D) × (Ga → M D))
def evPs : MP → Ga → M (List (D × D))
  | [], _ => .ret []
  | (mk, mv) :: r, Γ => mk Γ >>= fun x => mv Γ >>= fun y => evPs r Γ >>= fun l => .ret ((x, y) :: l)
def trsOf (A : Am) (E : EN) (mps : MP) : List (TE × TE) := mps.map fun p => (tV A.K A E .s p.1, tV A.K A E .s p.2)
structure PPV (X : Cx) (A : Am) (E : EN) (pos : Pos) (keys : List (Option Expr)) (values : List Expr) (mps : MP) : Prop where
  pp : PPs X pos keys values (trsOf A E mps)
  len : mps.length = keys.length
theorem ppv_nil : PPV X A E pos [] [] [] := ⟨pps_nil, rfl⟩
theorem ppv_cons {kx vx : Expr} {ks : List (Option Expr)} {vs : List Expr} {mk mv : Ga → M D} {mps : MP} (h1 : PEV X A E .s kx mk) (h2 : PEV X A E .s vx mv) (h3 : PPV X A E pos ks vs mps) : PPV X A E pos (some kx :: ks) (vx :: vs) ((mk, mv) :: mps) :=
  ⟨pps_cons h1.pe h2.pe h3.pp, by rw [List.length_cons, List.length_cons, h3.len]⟩
inductive RpP (K : PySem.W.Frag) (H : Hp) (P : Addr → Prop) : List (V × V) → List (D × D) → Prop
  | nil : RpP K H P [] []
  | cons {x y : V} {d e : D} {vs : List (V × V)} {ds : List (D × D)} : Rp K H P x d → Rp K H P y e → RpP K H P vs ds → RpP K H P ((x, y) :: vs) ((d, e) :: ds)
theorem RpP.length {K : PySem.W.Frag} {H : Hp} {P : Addr → Prop} : ∀ {vs : List (V × V)} {ds : List (D × D)}, RpP K H P vs ds → vs.length = ds.length
  | _, _, .nil => rfl
  | _, _, .cons _ _ r => congrArg (· + 1) r.length
theorem pairs_run {cn : Cn} {f : Nat → Addr} {Γ : Ga} : ∀ (mps : MP) {σ : L2.St} {H : Hp} {Q : List (V × V) → Hp → Prop}, Rl A.K A cn f σ H Γ →
    (evPs mps Γ).wp (fun ps => ∀ vs H', Kx A.gh.Z H H' → A.gh.G H' → RpP A.K H' (Fz A cn f Γ) vs ps → Q vs H') (xP A E cn) → tPairs (trsOf A E mps) σ H Q
  | [], σ, H, Q, R, h => h [] H .refl R.g .nil
  | (mk, mv) :: r, σ, H, Q, R, h => by
    refine ⟨cn, f, Γ, R, M.wp_mono (M.wp_bind.mp h) (fun d q w H1 k1 g1 r1 => ?_) fun _ x => x⟩
    have R1 := R.kx k1 g1
    refine ⟨cn, f, Γ, R1, M.wp_mono (M.wp_bind.mp q) (fun e q w2 H2 k2 g2 r2 => ?_) fun _ x => x⟩
    have R2 := R1.kx k2 g2
    refine pairs_run r R2 (M.wp_mono (M.wp_bind.mp q) (fun l q vs H3 k3 g3 r3 => ?_) fun _ x => x)
    exact q _ H3 ((k1.trans k2).trans k3) g3 (.cons (R2.rpk k3 (R1.rpk k2 r1)) (R2.rpk k3 r2) r3)
def dputsT (acc l : List (D × D)) : List (D × D) := l.foldl (fun a p => dput true a p.1 p.2) acc
def dispT (mps : MP) : Ga → M D := fun Γ => evPs mps Γ >>= fun l => if ((l.all fun p => (ktuD p.1).isSome) && decide (l.length ≤ 15)) = true then .ret (.dct true (dputsT [] l)) else .stuck
def putsT (acc : List (List Key × V)) (l : List (List Key × V)) : List (List Key × V) := l.foldl (fun a p => putK a p.1 p.2) acc
theorem dputsT_rp {K : PySem.W.Frag} {H : Hp} {P : Addr → Prop} : ∀ {l : List (D × D)} {vs : List (V × V)} {acc : List (List Key × V)} {da : List (D × D)}, RpP K H P vs l → (l.all fun p => (ktuD p.1).isSome) = true → RpT K H P acc da →
    ∃ ks : List (List Key × V), Paired (fun (p : V × V) (q : List Key × V) => (∃ b, p.1 = .ref b ∧ TpX K H b (q.1.map kV)) ∧ p.2 = q.2) vs ks ∧ RpT K H P (putsT acc ks) (dputsT da l)
  | _, _, acc, da, .nil, _, r => ⟨[], .nil, r⟩
  | (d, e) :: l, _, acc, da, .cons (x := x) (y := y) h1 h2 h3, ha, r => by
    rw [List.all_cons, Bool.and_eq_true] at ha
    obtain ⟨kk, ek⟩ := Option.isSome_iff_exists.mp ha.1
    obtain ⟨b, eb, hb⟩ := rb_ktu (W := P) (h1.rb fun _ p => p) ek
    obtain ⟨ks, p, q⟩ := dputsT_rp h3 ha.2 (r.put ek h2)
    exact ⟨(kk, y) :: ks, .cons ⟨⟨b, eb, hb⟩, rfl⟩ p, q⟩
theorem storedAllT {H : Hp} : ∀ {ks : List (List Key × V)} {ps : List (List Key × Addr × Value)} {acc : List (List Key × V)} {xs : List (List Key × Addr × Value)}, KT H ks ps → KT H acc xs → KT H (putsT acc ks) (storedAllH xs ps)
  | _, _, acc, xs, .nil, r => r
  | k :: ks, (kk, ad, u) :: ps, acc, xs, .cons h t, r => by
    obtain ⟨e1, hb, rv⟩ := h
    cases e1
    exact storedAllT (ks := ks) (ps := ps) t (r.put _ hb rv)
theorem putsT_len : ∀ (ks acc : List (List Key × V)), (putsT acc ks).length ≤ acc.length + ks.length
  | [], acc => Nat.le_refl _
  | k :: r, acc => by
    have h1 := putsT_len r (putK acc k.1 k.2)
    have h2 := length_putK acc k.1 k.2
    show (putsT (putK acc k.1 k.2) r).length ≤ _
    rw [List.length_cons]; omega
theorem carries_tup {P : Program} {w : World} {K : PySem.W.Frag} {H : Hp} {h : Heap} (ok : HOk P w H h) (hT : ∀ a, K.lookup a = none) : ∀ {vs : List (V × V)} {ws : List (Value × Value)} {ks : List (List Key × V)},
    Paired (fun (p : V × V) (q : List Key × V) => (∃ b, p.1 = .ref b ∧ TpX K H b (q.1.map kV)) ∧ p.2 = q.2) vs ks → VV vs ws → ∃ ps, CarriesH (tupleKind (mixKind P w)) h ws ps ∧ KT H ks ps
  | _, _, _, .nil, .nil => ⟨[], True.intro, .nil⟩
  | (x, y) :: _, (u, v) :: _, (kk, y') :: _, .cons h1 t1, .cons h2 t2 => by
    obtain ⟨⟨b, eb, hb⟩, ey⟩ := h1
    obtain ⟨r1, r2⟩ := h2
    obtain ⟨ps, c, q⟩ := carries_tup ok hT t1 t2
    have hb' : H b = some (.tup (kk.map kV)) := by
      rcases hb with z | ⟨o, _, _, z, _⟩
      · exact z
      · rw [hT b] at z; cases z
    have eb : x = .ref b := eb
    have ey : y = y' := ey
    subst eb ey
    have eu : u = Value.ref b := r1
    subst eu
    exact ⟨(kk, b, v) :: ps, ⟨rfl, rfl, key_of ok hb', c⟩, .cons ⟨rfl, hb', r2⟩ q⟩
/-- {k: v, ..}, the keys tuples -/
theorem pev_dispT {keys : List (Option Expr)} {values : List Expr} {mps : MP} (hT : NoC A) (B : Bd X A E k) (h : PPV X A E pos keys values mps) (hall : keys.all (·.isSome) = true := by rfl) (hl : keys.length = values.length := by rfl) (h0 : keys ≠ [] := by (intro z; cases z)) (h15 : keys.length ≤ 15 := by decide) :
    PEV X A E .f (.Dict keys values pos) (dispT mps) := by
  refine ⟨⟨fun pins s σ H Q I ⟨cn, f, Γ, R, q⟩ => ?_⟩⟩
  have hn := I.hok.fresh (Nat.le_refl s.heap.objs.size)
  have I1 := I.laid (a := s.heap.objs.size) (o := .dT []) (h' := s.heap.push { cls := .type "dict", data := .dict #[] }) (t' := s.toks) (fun _ _ q => Heap.get?_push_of_some _ q) (Nat.le_refl _) (dt_empty s.heap I.big)
  have sm := same_new (o := .dT []) hn
  have R1 : Rl A.K A (cn.plus [s.heap.objs.size]) f σ (upd H s.heap.objs.size (.dT [])) Γ := R.hide (same_kx sm) (A.gh.same R.g sm) fun a ha => by
    have e : a = s.heap.objs.size := by simpa using ha
    subst e
    exact ⟨hn, _, upd_same, trivial⟩
  have hp := pairTrees_length keys values X.env pos hall hl
  have hz : ¬ A.gh.Z s.heap.objs.size := A.nz0 (R.h0_none hn)
  have t1 := pairs_run mps (Q := fun vs H2 => ∃ ps, Kx A.gh.Z (upd H s.heap.objs.size (.dT [])) H2 ∧ A.gh.G H2 ∧ RpP A.K H2 (Fz A (cn.plus [s.heap.objs.size]) f Γ) vs ps ∧ ((ps.all fun p => (ktuD p.1).isSome) && decide (ps.length ≤ 15)) = true ∧
      ∀ w H', Kx A.gh.Z H H' → A.gh.G H' → Rq .f A.K H H' (Fz A cn f Γ) (nZ A) w (.dct true (dputsT [] ps)) → Q w H') R1 (E := E) (by
    refine M.wp_mono (M.wp_bind.mp q) (fun ps z vs H2 k2 g2 r2 => ?_) fun _ x => x
    split at z
    · rename_i c; exact ⟨ps, k2, g2, r2, c, z⟩
    · exact z.elim)
  rw [arm_eval_Dict, zip_pairTrees keys values X.env pos hall hl, dictDisplay_pairs (pairTrees keys values X.env pos) (fun z => by rw [z] at hp; exact h0 (List.length_eq_zero_iff.mp hp.symm)) (by rw [hp]; omega)]
  refine wpAny_bind (wpAny_standAt (wpAny_bind (wpAny_subDictH (knd := tupleKind (mixKind X.prog X.w)) (Q := fun d s' => wpAny (model X.prog X.w) X.A (pure (Value.ref d)) (EP X pins σ Q) X.xe s') (show X.A.units < cLine from B.u0) (by rw [hp]; exact h15) ?_)))
  refine thn (h.pp.run pins _ σ _ _ I1 t1) fun ws s2 ⟨vs, H2, I2, rel, ps, k2, g2, r2, c, q2⟩ => ?_
  have hd2 : H2 s.heap.objs.size = some (.dT []) := k2 _ _ hz upd_same
  rw [Bool.and_eq_true, decide_eq_true_eq] at c
  obtain ⟨c, c15⟩ := c
  obtain ⟨ks, pk, rt⟩ := dputsT_rp r2 c (acc := []) (da := []) .nil
  obtain ⟨xs, cr, kt⟩ := carries_tup I2.hok hT pk rel
  obtain ⟨z, hd, xs0, r0, dd⟩ := dt_of I2.hok hd2
  cases r0
  refine ⟨xs, cr, dd, fun h' tk dd' hs => wpAny_pure ?_⟩
  have hlen : ks.length ≤ 15 := by
    have e1 : vs.length = ks.length := Paired.length pk
    have e2 := r2.length
    omega
  have hl' : (putsT [] ks).length ≤ sizeLine := by
    have h1 := putsT_len ks []
    rw [List.length_nil] at h1
    rw [sizeLine_eq]; omega
  obtain ⟨qo, es, ep, hq, h2, h3, h4, _, h5⟩ := dd'
  have kt' : KT H2 (putsT [] ks) (storedAllH [] xs) := storedAllT kt .nil
  have I3 : Inv X pins σ (upd H2 s.heap.objs.size (.dT (putsT [] ks))) { s2 with heap := h', toks := tk } := by
    refine d_write I2 (by rw [hd2]; exact True.intro) hs ⟨qo, hq⟩ ⟨hl', hd, _, kt'.keeps fun c ys ec => ?_, qo, es, ep, hq, h2, h3, h4, h5⟩
    rw [upd_ne (ne_of ec hd2 (fun z => nomatch z))]
    exact ec
  have kf : Kx A.gh.Z H (upd H2 s.heap.objs.size (.dT (putsT [] ks))) := fun b o nz e => by
    have ne : b ≠ s.heap.objs.size := fun y => by rw [y, hn] at e; cases e
    rw [upd_ne ne]
    exact k2 b o nz (by rw [upd_ne ne]; exact e)
  refine ⟨.ref s.heap.objs.size, _, I3, rfl, q2 _ _ kf (A.gh.gk H2 _ g2 fun b zz => upd_ne fun y => hz (y ▸ zz)) ⟨s.heap.objs.size, rfl, hn, .inr ⟨rfl, _, upd_same, ?_⟩⟩⟩
  refine rt.mono ⟨fun b u p e => ?_, fun b xs e => ?_⟩ fun b u p _ => ?_
  · have ne : b ≠ s.heap.objs.size := fun y => ((fz_plus _).mp p).2 (by simp [y])
    rw [upd_ne ne]; exact e
  · rw [upd_ne (ne_of e hd2 (fun z => nomatch z))]; exact e
  · obtain ⟨p1, p2⟩ := (fz_plus _).mp p
    exact ⟨p1, fun y => p2 (by simp [y])⟩
/-! repr -/
mutual
theorem toPy_noDict : ∀ d : D, (toPy d).hasDict = false ∨ d.pl = false
  | .non => .inl rfl
  | .bl _ => .inl rfl
  | .int _ => .inl rfl
  | .str _ => .inl rfl
  | .raw _ => .inr rfl
  | .dct _ _ => .inr rfl
  | .tup ds => (toPyL_noDict ds)
  | .lst ds => (toPyL_noDict ds)
theorem toPyL_noDict : ∀ ds : List D, PyData.hasDictAll (toPyL ds) = false ∨ D.plL ds = false
  | [] => .inl rfl
  | d :: r => by
    rcases toPy_noDict d with h | h
    · rcases toPyL_noDict r with h2 | h2
      · left
        show ((toPy d).hasDict || PyData.hasDictAll (toPyL r)) = false
        rw [h, h2]; rfl
      · right
        show (d.pl && D.plL r) = false
        rw [h2, Bool.and_false]
    · right
      show (d.pl && D.plL r) = false
      rw [h, Bool.false_and]
end
def shownD (d : D) : Str := (toPy d).shown
def reprOk (d : D) : Bool := d.pl && ((toPy d).showable && (decide (d.dep ≤ 60) && decide ((toPy d).shown.length ≤ 16777216)))
def reprD : List D → M D
  | [d] => if reprOk d = true then .ret (.str (shownD d)) else .stuck
  | _ => .stuck
theorem tame_repr : ∀ ds, Tame (reprD ds) := fun ds => by unfold reprD; split <;> first | trivial | exact tame_if
theorem c_repr (B : Bd X A E k) : CallR X (.builtin "repr") (cD A.K reprD) := by
  intro pins s σ H vs us Q I r ⟨P, W, ds, h1, h⟩
  unfold reprD at h
  split at h
  · rename_i d
    obtain ⟨c, q⟩ := wp_if h
    unfold reprOk at c
    simp only [Bool.and_eq_true, decide_eq_true_eq] at c
    obtain ⟨hp, hsh, hd, hl⟩ := c
    obtain ⟨v, rfl, rb⟩ := rq1 h1
    obtain ⟨u, rfl, ru⟩ := vals1 r
    obtain ⟨as, rd⟩ := rb.reads B.kle I hp ru
    have dd := toPy_dep d
    have hu := B.u64
    have nd : (toPy d).hasDict = false := by
      rcases toPy_noDict d with z | z
      · exact z
      · rw [hp] at z; cases z
    have fin : ∀ h' t tk, (∀ b o, s.heap.get? b = some o → h'.get? b = some o) → EP X pins σ Q (.str (shownD d) t) { s with heap := h', toks := tk } := fun h' t tk hk => ⟨.str (shownD d), H, I.kept hk, ⟨t, rfl⟩, q _ _ (Same.refl _) (.str _)⟩
    have byRef : ∀ a, u = .ref a → wpAny (model X.prog X.w) X.A (call (.builtin "repr") [u]) (EP X pins σ Q) X.xe s := fun a e => by
      subst e
      exact repr_of_reads' rd hsh (fun z => by rw [nd] at z; cases z) B.gd (by omega) (fun _ _ e => e) (fun h' t tk hk => fin h' t tk hk) (by rw [sizeLine_eq]; exact hl)
    cases d with
    | non =>
      cases rb_non rb
      cases ru
      exact PySem.P.repr_of_none (fin s.heap _ _ fun _ _ e => e)
    | bl b =>
      cases rb_bl rb
      cases ru
      exact PySem.P.repr_of_bool (fin s.heap _ _ fun _ _ e => e)
    | int i =>
      cases rb_int rb
      obtain ⟨t, rfl⟩ := ru
      exact PySem.P.repr_of_int (of_decide_eq_true hsh) (fin s.heap _ _ fun _ _ e => e)
    | str x =>
      cases rb_str rb
      obtain ⟨t, rfl⟩ := ru
      exact PySem.P.repr_of_str (fin s.heap _ _ fun _ _ e => e) (by rw [sizeLine_eq]; exact hl)
    | tup ds =>
      obtain ⟨a, xs, rfl, _⟩ := rb_tup rb
      exact byRef a ru
    | lst ds =>
      obtain ⟨a, xs, rfl, _⟩ := rb
      exact byRef a ru
    | dct t kvs => cases hp
    | raw v => cases hp
  · exact h.elim
end
end Px

set_option Elab.async false
set_option linter.all false
set_option maxRecDepth 100000
set_option autoImplicit false
namespace Px
open PySem PySem.Spec PyProof.Rows L2

/-! ### the script -/
/-- the activation's entry holds the script's numbers at sc -/
def Scr (X : Cx) (A : Am) (sc : Addr) (ns : List Int) : Prop := SqL X.K A.H0 sc (ns.map V.int) ∧ ¬ A.gh.Z sc
section
variable {X : Cx} {A : Am} {E : EN} {k : Nat} {md md1 md2 : Md} {e a b c : Expr} {m ma mb mc : Ga → M D} {pos p p1 p2 p3 : Pos} {x : Str} {sc : Addr} {ns : List Int} {i : Nat}
theorem scr_at {cn : Cn} {f : Nat → Addr} {σ : L2.St} {H : Hp} {Γ : Ga} (S : Scr X A sc ns) (R : Rl A.K A cn f σ H Γ) : SqL X.K H sc (ns.map V.int) := by
  obtain ⟨h | h, z⟩ := S
  · rcases h with h | ⟨ob, h⟩
    · exact .inl (.inl (R.keep _ _ z h).eq)
    · exact .inl (.inr ⟨ob, (R.keep _ _ z h).eq⟩)
  · exact .inr h
def scrS (sc : Addr) (i : Nat) (d : D) : Ga → M D := fun Γ => match Γ[i]? with
  | some (.v (.raw (.ref b))) => if b = sc then .ret d else .stuck
  | _ => .stuck
theorem wp_scr {Γ : Ga} {d : D} {Q : D → Prop} {E' : Exn → Prop} (h : (scrS sc i d Γ).wp Q E') : Γ[i]? = some (.v (.raw (.ref sc))) ∧ Q d := by
  unfold scrS at h
  split at h
  · rename_i b e
    split at h
    · rename_i c; rw [c] at e; exact ⟨e, h⟩
    · exact h.elim
  · exact h.elim
/-- script[:n] -/
theorem pev_scrSlice {n : Int} {j : Nat} (S : Scr X A sc ns) (hN : X.N[i]? = some x := by rfl) (hv : Vis X.env.scope x := by first | exact Or.inl rfl | exact Or.inr (Or.inl rfl) | exact Or.inr (Or.inr rfl)) (hd : (x == ("__debug__" : Str)) = false := by decide) (hcd : (x == ("__classdict__" : Str)) = false := by decide) :
    PEV X A E .f (.Subscript (.Name x p) (.Slice none (some (.Constant (.int n) j p1)) none p2) pos) (scrS sc i (.lst (cutD (ns.map D.int) none (some n)))) := by
  refine ⟨imp_pe (pe_slice sl_list (pe_var hN hv hd hcd) po_none (po_some pe_int)) fun σ H Q ⟨cn, f, Γ, R, h⟩ => ?_⟩
  obtain ⟨e, q⟩ := wp_scr h
  obtain ⟨w, h1, h2⟩ := R.sl i _ e
  cases h2
  refine ⟨_, h1, n, rfl, sc, _, rfl, scr_at S R, fun p hp => q _ _ (same_kx (same_new hp)) (A.gh.same R.g (same_new hp)) ⟨p, rfl, hp, _, upd_same, ?_⟩⟩
  exact new_ne hp ((RpL.ints ns).cut none (some n))
/-- len(script) -/
theorem pev_scrLen (hg : Gl X "len") (hm : X.mg "len" = none) (S : Scr X A sc ns) (hN : X.N[i]? = some x := by rfl) (hv : Vis X.env.scope x := by first | exact Or.inl rfl | exact Or.inr (Or.inl rfl) | exact Or.inr (Or.inr rfl)) (hd : (x == ("__debug__" : Str)) = false := by decide) (hcd : (x == ("__classdict__" : Str)) = false := by decide) :
    PEV X A E .f (.Call (.Name "len" p1) [.Name x p] [] pos) (scrS sc i (.int (ns.length : Nat))) := by
  refine ⟨imp_pe (pe_callB call_len_seq hg hm bt_len (pa_cons (pe_var hN hv hd hcd) pa_nil)) fun σ H Q ⟨cn, f, Γ, R, h⟩ => ?_⟩
  obtain ⟨e, q⟩ := wp_scr h
  obtain ⟨w, h1, h2⟩ := R.sl i _ e
  cases h2
  refine ⟨_, h1, sc, _, rfl, .inl (scr_at S R), ?_⟩
  rw [List.length_map]
  exact q _ H .refl R.g (.int _)
end
end Px

set_option Elab.async false
set_option linter.all false
set_option maxRecDepth 100000
set_option maxHeartbeats 4000000
set_option autoImplicit false
namespace Px
open PySem PySem.Spec PyProof.Rows PySem.W L2

/-! ### the law's end, for promises of the kind FnG -/
theorem law_callG {P : Program} {w : World} {K : PySem.W.Frag} {mg mb : Str → Option Value} {CX : CXT} {k : Nat} {fa a : Addr} {fd : FuncData} {x : Str} {sp : Sp} {s₁ : Shared} {vs : List Value} {ns : List Int}
    (KX : K.In s₁.heap) (hns : s₁.heap.Ns mainGlobals mg) (hb : s₁.heap.Ns builtinsNs mb) (hbb : ∀ x : Str, x ≠ "__name__" → mb x = bootBuiltins x) (hlim : s₁.heap.NoLimit) (hg : s₁.gens = #[])
    (ha : s₁.heap.get? a = some { cls := .type "list", data := .seq vs.toArray }) (hi : IntsAre vs ns) (hl : ns.length ≤ sizeLine) (hr : Room k callerA)
    (F : ∀ base : Heap, K.In base → base.Ns mainGlobals mg → FnG P w K mg base CX k fa fd [x] sp) (hbind : ∀ (s : Shared) (u : Value), BindsTo s fd ⟨[u], []⟩ [(x, u)])
    (hsp : ∀ H : Hp, Only H → SqL K H a (ns.map V.int) → sp [.ref a] H (fun v _ => v = .bl true) fun _ _ _ => False)
    (hCX : ∀ H e s', CX [] H s₁ (fun _ _ _ => False) e s' → False) :
    codeAny (model P w) callerA (.call (.ref fa) ⟨[.ref a], []⟩) (fun r s' => r = .ok (.ret (.bool true)) ∧ OldK s₁.heap s'.heap ∧ s'.os = s₁.os ∧ AllBare s'.gens) s₁ := by
  have rv := vals_ints hi
  have lenV := hi.length
  have core : ∀ H : Hp, Only H → SqL K H a (ns.map V.int) → HOk P w H s₁.heap → (∀ b, H b ≠ none → b = a) → (H a ≠ none → K.lookup a = none) →
      codeAny (model P w) callerA (.call (.ref fa) ⟨[.ref a], []⟩) (fun r s' => r = .ok (.ret (.bool true)) ∧ OldK s₁.heap s'.heap ∧ s'.os = s₁.os ∧ AllBare s'.gens) s₁ := by
    intro H hO hS hok hA hK
    have onlyA : ∀ {b : Addr}, H b ≠ none → b = a := fun {b} => hA b
    have base_of : ∀ {b : Addr} {o : Obj}, s₁.heap.get? b = some o → H b = none → (hidT s₁.heap H).get? b = some o := fun e n => hidT_get e n
    have noA : ∀ {b : Addr} {o : Obj} {es : Array DictEntry} {ep : Nat}, s₁.heap.get? b = some o → o.data = .dict es ep → H b = none := fun {b o es ep} e d => by
      cases q : H b with
      | none => rfl
      | some u =>
        have e' : b = a := onlyA (by rw [q]; simp)
        subst e'
        rw [ha] at e; cases e
        have d' : Data.seq vs.toArray _ = Data.dict es ep := d
        cases d'
    have nsK : ∀ {b : Addr} {m : Str → Option Value}, s₁.heap.Ns b m → (hidT s₁.heap H).Ns b m := fun {b m} ⟨o, es, ep, e, d, r⟩ => ⟨o, es, ep, base_of e (noA e d), d, r⟩
    have hKb : K.In (hidT s₁.heap H) := fun b o e => base_of (KX b o e) (by
      cases q : H b with
      | none => rfl
      | some u =>
        have e' : b = a := onlyA (by rw [q]; simp)
        subst e'
        rw [hK (by rw [q]; simp)] at e; cases e)
    have hM : Mod K mg (hidT s₁.heap H) := ⟨hKb, nsK hns, ⟨mb, nsK hb, hbb⟩, let ⟨mc, h1, h2⟩ := hlim; ⟨mc, nsK h1, h2⟩⟩
    have e0 : Env0 P w K mg (hidT s₁.heap H) callerA [] s₁ H := ⟨rfl, hM, fun b o e => of_hidT e, Nat.le_of_eq (hidT_size _ _), trivial, fun b hb => absurd (show b ∈ ([] : List Addr) from hb) (by simp), hok, .of_eq hg⟩
    refine codeAny_mono ((F _ hKb (nsK hns)).run callerA [] s₁ H ⟨[.ref a], []⟩ [.ref a] [.ref a] _ _ hr rfl e0 (hbind s₁ (.ref a)) (.cons rfl .nil) (hsp H hO hS)) fun r s' h => ?_
    cases r with
    | error e => exact (hCX H e s' h).elim
    | ok fl =>
      cases fl with
      | next => exact False.elim h
      | brk => exact False.elim h
      | cont => exact False.elim h
      | ret u =>
        obtain ⟨v, H', os, bare, un, hok', r', q⟩ := h
        have q' : v = .bl true := q
        subst q'
        obtain rfl : u = Value.bool true := r'
        refine ⟨rfl, OldK.of_keep fun b o e => ?_, os, bare⟩
        cases q : H b with
        | none => exact un.keep b o e q (by intro z; exact absurd (show b ∈ ([] : List Addr) from z) (by simp)) (by simp)
        | some u =>
          rcases hO b with z | ⟨ob, xs, z⟩
          · rw [q] at z; cases z
          · have z2 := un.frzs b ob _ z
            obtain ⟨e1, _⟩ := hok b _ z
            obtain ⟨e2, _⟩ := hok' b _ z2
            rw [e] at e1; cases e1
            exact e2
  cases hk : K.lookup a with
  | some o =>
    have e := KX a o hk
    rw [ha] at e
    cases e
    refine core (fun _ => none) (fun _ => .inl rfl) (.inr ⟨_, vs.toArray, _, hk, rfl, rfl, rfl, by rw [List.size_toArray, lenV]; exact hl, by simpa using rv⟩) (fun b u z => by have z' : (none : Option HO) = some u := z; cases z') (fun b z => absurd rfl z) fun z => absurd rfl z
  | none =>
    refine core (fun b => if b = a then some (.frz { cls := .type "list", data := .seq vs.toArray } (.lst (ns.map V.int))) else none) (fun b => ?_) (.inl (.inr ⟨{ cls := .type "list", data := .seq vs.toArray }, if_pos rfl⟩)) (fun b u z => ?_) (fun b z => ?_) fun _ => hk
    · by_cases hb : b = a
      · exact .inr ⟨_, _, if_pos hb⟩
      · exact .inl (if_neg hb)
    · by_cases hb : b = a
      · have z' := (if_pos hb).symm.trans z
        cases z'
        subst hb
        exact ⟨ha, by rw [List.length_map]; exact hl, vs, _, rv, ha⟩
      · have z' := (if_neg hb).symm.trans z
        cases z'
    · by_cases hb : b = a
      · exact hb
      · exact absurd (if_neg hb) z
theorem walk_ofG {l : PySem.W.OpenLaw} {n k : Nat} {q : Program} {loose : List Str} {XP : (Str → Option Value) → Heap → Prop} {YP : World → Heap → Prop} {d : DefRec} {K : Params → PySem.W.Frag} {CX : World → CXT} {sp : World → Sp} {x : Str}
    (hn : l.most = some n) (hn2 : n ≤ sizeLine) (hdf : d.params.defaults = []) (hr : Room k callerA)
    (hY : ∀ (w : World) (h : Heap), YP w h → (K w.params).In h)
    (F : ∀ (w : World) (mg : Str → Option Value) (fa : Addr) (h : Heap), (K w.params).In h → h.Ns mainGlobals mg → mg d.name = some (.ref fa) →
      ∃ fd : FuncData, (∀ (s : Shared) (u : Value), BindsTo s fd ⟨[u], []⟩ [(x, u)]) ∧
        ∀ base : Heap, (K w.params).In base → base.Ns mainGlobals mg → FnG l.prog w (K w.params) mg base (CX w) k fa fd [x] (sp w))
    (hsp : ∀ (w : World) (H : Hp) (a : Addr) (ns : List Int), ns.length ≤ n → Only H → SqL (K w.params) H a (ns.map V.int) → sp w [.ref a] H (fun v _ => v = .bl true) fun _ _ _ => False)
    (hCX : ∀ (w : World) (H : Hp) (s : Shared) (e : Value) (s' : Shared), CX w [] H s (fun _ _ _ => False) e s' → False) :
    PySem.W.WalkO q loose XP YP l.row.toRowW d [] (fun f vs => PySem.call f vs) := by
  refine Att.attach_call hn hdf fun w s₀ s₁ mg mb fa o pm cd doc a vs ns G Y ho hd hcd hmg hobj hints hlen hg => ?_
  have KX := hY w _ Y
  obtain ⟨fd, hb, hF⟩ := F w mg fa _ KX G.T.g hmg
  exact law_callG KX G.T.g G.T.b G.T.builtins G.T.nolimit hg hobj hints (Nat.le_trans hlen hn2) hr hF hb (fun H hO hS => hsp w H a ns hlen hO hS) fun H e s' => hCX w H s₁ e s'
theorem ex_pss {ι : Type} {X : Cx} {sts : List Stmt} {t : ι → TS} (h : ∀ i, PSs X sts (t i)) : PSs X sts (fun D σ H => ∃ i, t i D σ H) := ⟨fun pins s σ H D I ⟨i, q⟩ => (h i).run pins s σ H D I q⟩
def ghNone : Gh := ⟨fun _ => False, fun _ => True, fun _ _ _ _ => trivial, fun _ _ _ z => z.elim⟩
theorem cx_none {P : Program} {w : World} {H : Hp} {s : Shared} {e : Value} {s' : Shared} (h : L2.CX P w [] H s (fun _ _ _ => False) e s') : False := by
  obtain ⟨_, _, _, _, _, _, _, _, _, _, _, _, z⟩ := h
  exact z
end Px

set_option Elab.async false
set_option linter.all false
set_option maxRecDepth 100000
set_option autoImplicit false
namespace Px
open PySem PySem.Spec PyProof.Rows L2

/-! ### the plain functions are worked out -/
section
variable {α β : Type} {Γ : Ga} {m m1 m2 : Ga → M (Ct × Ga)} {ma mb mc : Ga → M D} {ml : Ga → M (List D)} {mS : Ga → M (List Sl)} {mi : Ga → M (List D)} {t u : Ga → M Bool} {g g' : D → D → M D} {h : D → M D} {F : List D → M D} {i n : Nat} {d : D} {bnd : D → Ga → M Ga} {bs : List D → Ga → M Ga} {Q : α → Prop} {E' : Exn → Prop} {k : Bool} {x : Exn} {ds : List D}
@[simp] theorem wp_ret {a : α} : (M.ret a).wp Q E' ↔ Q a := Iff.rfl
@[simp] theorem wp_exc : (M.exc x : M α).wp Q E' ↔ E' x := Iff.rfl
@[simp] theorem wp_stuck : (M.stuck : M α).wp Q E' ↔ False := Iff.rfl
@[simp] theorem wp_draw {n : Nat} {k : Nat → M α} : (M.draw n k).wp Q E' ↔ ∀ r, r < n → (k r).wp Q E' := Iff.rfl
@[simp] theorem ret_b {a : α} {f : α → M β} : (M.ret a >>= f) = f a := rfl
@[simp] theorem exc_b {f : α → M β} : ((M.exc x : M α) >>= f) = M.exc x := rfl
@[simp] theorem stuck_b {f : α → M β} : ((M.stuck : M α) >>= f) = M.stuck := rfl
@[simp] theorem draw_b {n : Nat} {k : Nat → M α} {f : α → M β} : (M.draw n k >>= f) = M.draw n fun r => k r >>= f := rfl
@[simp] theorem noexc_ret {a : α} : (M.ret a).noexc = M.ret a := rfl
@[simp] theorem getS_ : getS i Γ = match Γ[i]? with | some (.v d) => .ret d | _ => .stuck := rfl
@[simp] theorem getB_ : getB i Γ = match Γ[i]? with | some (.v d) => .ret d | some (.own d) => .ret d | _ => .stuck := rfl
@[simp] theorem getO_ : getO i Γ = match Γ[i]? with | some (.own d) => .ret d | _ => .stuck := rfl
@[simp] theorem cI_ {j : Int} : cI j Γ = .ret (.int j) := rfl
@[simp] theorem cB_ : cB k Γ = .ret (.bl k) := rfl
@[simp] theorem cS_ {s : Str} : cS s Γ = .ret (.str s) := rfl
@[simp] theorem cN_ : cN Γ = .ret .non := rfl
@[simp] theorem cTy_ {T : String} : cTy T Γ = .ret (.raw (.ty T)) := rfl
@[simp] theorem kb_ : kb ma Γ = ma Γ >>= keepB := rfl
@[simp] theorem bin_ : bin ma mb g Γ = ma Γ >>= fun x => mb Γ >>= fun y => g x y := rfl
@[simp] theorem una_ : una ma h Γ = ma Γ >>= h := rfl
@[simp] theorem tst_ : tst ma Γ = ma Γ >>= toB := rfl
@[simp] theorem toB_ : toB (.bl k) = .ret k := rfl
@[simp] theorem andT_ : andT t u Γ = t Γ >>= fun k => if k = true then u Γ else .ret false := rfl
@[simp] theorem orT_ : orT t u Γ = t Γ >>= fun k => if k = true then .ret true else u Γ := rfl
@[simp] theorem notT_ : notT t Γ = t Γ >>= fun k => .ret (!k) := rfl
@[simp] theorem andV_ : andV ma mb Γ = ma Γ >>= toB >>= fun k => if k = true then mb Γ else .ret (.bl false) := rfl
@[simp] theorem orV_ : orV ma mb Γ = ma Γ >>= toB >>= fun k => if k = true then .ret (.bl true) else mb Γ := rfl
@[simp] theorem notV_ : notV ma Γ = ma Γ >>= toB >>= fun k => .ret (.bl (!k)) := rfl
@[simp] theorem ifV_ : ifV t ma mb Γ = t Γ >>= fun k => if k = true then ma Γ else mb Γ := rfl
@[simp] theorem chn_ : chn ma mb mc g g' Γ = ma Γ >>= fun x => mb Γ >>= fun y => g x y >>= toB >>= fun k => if k = true then mc Γ >>= fun z => g' y z else .ret (.bl false) := rfl
@[simp] theorem nilL_ : nilL Γ = .ret [] := rfl
@[simp] theorem consL_ : consL ma ml Γ = ma Γ >>= fun d => ml Γ >>= fun ds => .ret (d :: ds) := rfl
@[simp] theorem nilS_ : nilS Γ = .ret [] := rfl
@[simp] theorem consS_ : consS ma mS Γ = ma Γ >>= fun d => mS Γ >>= fun ss => .ret (.v d :: ss) := rfl
@[simp] theorem consF_ : consF ma mS Γ = ma Γ >>= fun d => mS Γ >>= fun ss => .ret (slF d :: ss) := rfl
@[simp] theorem tupV_ : tupV ml Γ = ml Γ >>= fun ds => .ret (.tup ds) := rfl
@[simp] theorem lstV_ : lstV ml Γ = ml Γ >>= fun ds => .ret (.lst ds) := rfl
@[simp] theorem callV_ : callV ml F Γ = ml Γ >>= F := rfl
@[simp] theorem callB_ {md : Md} : callB md ml F Γ = ml Γ >>= fun ds => if noDct ds = true then F ds >>= keepC md else .stuck := rfl
@[simp] theorem nextM_ : nextM Γ = .ret (.nx, Γ) := rfl
@[simp] theorem breakM_ : breakM Γ = .ret (.bk, Γ) := rfl
@[simp] theorem contM_ : contM Γ = .ret (.ct, Γ) := rfl
@[simp] theorem seqM_ : seqM m1 m2 Γ = m1 Γ >>= fun r => andThen r m2 := rfl
@[simp] theorem then_nx {k : Ga → M (Ct × Ga)} : andThen (.nx, Γ) k = k Γ := rfl
@[simp] theorem then_rt {k : Ga → M (Ct × Ga)} : andThen (.rt d, Γ) k = .ret (.rt d, Γ) := rfl
@[simp] theorem then_bk {k : Ga → M (Ct × Ga)} : andThen (.bk, Γ) k = .ret (.bk, Γ) := rfl
@[simp] theorem then_ct {k : Ga → M (Ct × Ga)} : andThen (.ct, Γ) k = .ret (.ct, Γ) := rfl
@[simp] theorem ifM_ : ifM t m1 m2 Γ = t Γ >>= fun k => if k = true then m1 Γ else m2 Γ := rfl
@[simp] theorem retM_ : retM ma Γ = ma Γ >>= fun d => .ret (.rt d, Γ) := rfl
@[simp] theorem exprM_ : exprM ma Γ = ma Γ >>= fun _ => .ret (.nx, Γ) := rfl
@[simp] theorem raiseM_ : raiseM x Γ = .exc x := rfl
@[simp] theorem setM_ : setM i ma Γ = ma Γ >>= fun d => .ret (.nx, Γ.set i (slF d)) := rfl
@[simp] theorem setSM_ : setSM i ma Γ = ma Γ >>= fun d => .ret (.nx, Γ.set i (.v d)) := rfl
@[simp] theorem asgM_ : asgM ma bnd Γ = ma Γ >>= fun d => bnd d Γ >>= fun Γ' => .ret (.nx, Γ') := rfl
@[simp] theorem parM_ {is : List Nat} : parM is mS Γ = mS Γ >>= fun ss => .ret (.nx, setAll is ss Γ) := rfl
@[simp] theorem setAll_c {j : Nat} {is : List Nat} {s : α} {ss l : List α} : setAll (j :: is) (s :: ss) l = setAll is ss (l.set j s) := rfl
@[simp] theorem setAll_n {l : List α} : setAll [] [] l = l := rfl
@[simp] theorem fzM_ : fzM i m Γ = m (fz i Γ) := rfl
@[simp] theorem bndN_ : bndN i d Γ = .ret (Γ.set i (.v d)) := rfl
@[simp] theorem bndNil_ : bndNil [] Γ = .ret Γ := rfl
@[simp] theorem bndCons_ : bndCons bnd bs (d :: ds) Γ = bnd d Γ >>= bs ds := rfl
@[simp] theorem bndT_ : bndT n bs (.tup ds) Γ = if ds.length = n then bs ds Γ else .stuck := rfl
@[simp] theorem slF_lst : slF (.lst ds) = .own (.lst ds) := rfl
@[simp] theorem slF_dct {b : Bool} {kvs : List (D × D)} : slF (.dct b kvs) = .own (.dct b kvs) := rfl
@[simp] theorem slF_int {j : Int} : slF (.int j) = .v (.int j) := rfl
@[simp] theorem slF_bl : slF (.bl k) = .v (.bl k) := rfl
@[simp] theorem slF_str {s : Str} : slF (.str s) = .v (.str s) := rfl
@[simp] theorem slF_non : slF .non = .v .non := rfl
@[simp] theorem slF_tup : slF (.tup ds) = .v (.tup ds) := rfl
@[simp] theorem yesT_ : yesT Γ = .ret true := rfl
@[simp] theorem anyM_ : anyM ma Γ = ma Γ >>= itemsK := rfl
@[simp] theorem itM_ : itM ma Γ = ma Γ >>= itemsD := rfl
@[simp] theorem enM_ : enM ma Γ = ma Γ >>= itemsD >>= fun ds => .ret (enumL ds) := rfl
@[simp] theorem zpM_ : zpM ma mb Γ = ma Γ >>= fun d => mb Γ >>= fun e => itemsD d >>= fun ds => itemsD e >>= fun es => .ret (zipL ds es) := rfl
@[simp] theorem rgM_ : rgM ml Γ = ml Γ >>= rangeD := rfl
@[simp] theorem itemsK_lst : itemsK (.lst ds) = .ret ds := rfl
@[simp] theorem itemsK_tup : itemsK (.tup ds) = .ret ds := rfl
@[simp] theorem itemsK_dct {b : Bool} {kvs : List (D × D)} : itemsK (.dct b kvs) = .ret (kvs.map (·.1)) := rfl
@[simp] theorem itemsD_lst : itemsD (.lst ds) = .ret ds := rfl
@[simp] theorem itemsD_tup : itemsD (.tup ds) = .ret ds := rfl
@[simp] theorem forS_ : forS mi bnd m Γ = mi Γ >>= fun ds => forM (fun d Γ => bnd d Γ >>= m) ds Γ := rfl
@[simp] theorem lcM_ {vs : List Nat} : lcM vs mi bnd t ma Γ = if ownFree vs Γ = true then mi Γ >>= fun ds => lcGo (lcOne bnd t ma (wipeG Γ vs)) ds >>= fun es => .ret (.lst es) else .stuck := rfl
@[simp] theorem lcOne_ : lcOne bnd t ma Γ d = (bnd d Γ >>= fun Γ2 => t Γ2 >>= fun k => if k = true then (ma Γ2 >>= fun e => .ret [e]) else .ret []).noexc := rfl
@[simp] theorem dcM_ {vs : List Nat} : dcM vs mi bnd t ma mb Γ = if ownFree vs Γ = true then mi Γ >>= fun ds => dcGo (dcOne bnd t ma mb (wipeG Γ vs)) ds [] >>= fun es => .ret (.dct false es) else .stuck := rfl
@[simp] theorem dcOne_ : dcOne bnd t ma mb Γ d = (bnd d Γ >>= fun Γ2 => t Γ2 >>= fun k => if k = true then (ma Γ2 >>= fun y => mb Γ2 >>= fun z => if (keyD y).isSome = true then .ret [(y, z)] else .stuck) else .ret []).noexc := rfl
@[simp] theorem get2V_ : get2V ma mb mc Γ = ma Γ >>= fun c => mb Γ >>= fun k => mc Γ >>= fun x => dget2 c k x := rfl
@[simp] theorem asDct_ : asDct ma Γ = ma Γ >>= fun d => match d with | .dct t kvs => .ret (.dct t kvs) | _ => .stuck := rfl
@[simp] theorem dct0_ : dct0 k Γ = .ret (.dct k []) := rfl
@[simp] theorem slV_ {m1 m2 : Ga → M (Option Int)} : slV ma m1 m2 Γ = ma Γ >>= fun d => m1 Γ >>= fun l => m2 Γ >>= fun h => sliceD l h d := rfl
@[simp] theorem noO_ : noO Γ = .ret none := rfl
@[simp] theorem smO_ : smO ma Γ = ma Γ >>= toI := rfl
@[simp] theorem toI_ {j : Int} : toI (.int j) = .ret (some j) := rfl
@[simp] theorem keepB_int {j : Int} : keepB (.int j) = .ret (.int j) := rfl
@[simp] theorem keepB_bl : keepB (.bl k) = .ret (.bl k) := rfl
@[simp] theorem keepB_str {s : Str} : keepB (.str s) = .ret (.str s) := rfl
@[simp] theorem keepB_non : keepB .non = .ret .non := rfl
@[simp] theorem keepB_tup : keepB (.tup ds) = .ret (.tup ds) := rfl
@[simp] theorem add_int {i j : Int} : addD (.int i) (.int j) = .ret (.int (i + j)) := rfl
@[simp] theorem sub_int' {i j : Int} : subD (.int i) (.int j) = .ret (.int (i - j)) := rfl
@[simp] theorem neg_int' {i : Int} : negD (.int i) = .ret (.int (-i)) := rfl
@[simp] theorem lt_int' {i j : Int} : ltD (.int i) (.int j) = .ret (.bl (decide (i < j))) := rfl
@[simp] theorem le_int' {i j : Int} : leD (.int i) (.int j) = .ret (.bl (decide (i ≤ j))) := rfl
@[simp] theorem gt_int' {i j : Int} : gtD (.int i) (.int j) = .ret (.bl (decide (j < i))) := rfl
@[simp] theorem ge_int' {i j : Int} : geD (.int i) (.int j) = .ret (.bl (decide (j ≤ i))) := rfl
@[simp] theorem intD_int {i : Int} : intD [.int i] = .ret (.int i) := rfl
@[simp] theorem intD_bl : intD [.bl k] = .ret (.int (if k = true then 1 else 0)) := rfl
@[simp] theorem absD_int {i : Int} : absD [.int i] = .ret (.int (if i < 0 then -i else i)) := rfl
@[simp] theorem tupleD_lst : tupleD [.lst ds] = .ret (.tup ds) := rfl
@[simp] theorem tupleD_tup : tupleD [.tup ds] = .ret (.tup ds) := rfl
@[simp] theorem listD_lst : listD [.lst ds] = .ret (.lst ds) := rfl
@[simp] theorem listD_tup : listD [.tup ds] = .ret (.lst ds) := rfl
@[simp] theorem len_lst : len2D [.lst ds] = .ret (.int (ds.length : Nat)) := rfl
@[simp] theorem len_tup : len2D [.tup ds] = .ret (.int (ds.length : Nat)) := rfl
@[simp] theorem len_dct {b : Bool} {kvs : List (D × D)} : len2D [.dct b kvs] = .ret (.int (kvs.length : Nat)) := rfl
@[simp] theorem rev_lst : revD (.lst ds) = .ret (.lst ds.reverse) := rfl
@[simp] theorem rev_tup : revD (.tup ds) = .ret (.tup ds.reverse) := rfl
@[simp] theorem slice_lst {l h : Option Int} : sliceD l h (.lst ds) = .ret (.lst (cutD ds l h)) := rfl
@[simp] theorem slice_tup {l h : Option Int} : sliceD l h (.tup ds) = .ret (.tup (cutD ds l h)) := rfl
@[simp] theorem get_lst {j : Int} : getD' (.lst ds) (.int j) = atD ds j := rfl
@[simp] theorem get_tup {j : Int} : getD' (.tup ds) (.int j) = atD ds j := rfl
@[simp] theorem get_dct {b : Bool} {kvs : List (D × D)} {y : D} : getD' (.dct b kvs) y = if isKeyD b y = true then (match dval b kvs y with | some d => .ret d | none => .stuck) else .stuck := rfl
@[simp] theorem fnEnd_rt : fnEnd (.rt d, Γ) = .ret d := rfl
@[simp] theorem fnEnd_nx : fnEnd (.nx, Γ) = .ret .non := rfl
theorem mul_l {i j : Int} (h : smallI i = true) : mulU (.int i) (.int j) = .ret (.int (i * j)) := by
  show (if (smallI i || smallI j) = true then M.ret (D.int (i * j)) else .stuck) = _
  rw [h]; rfl
theorem mul_r {i j : Int} (h : smallI j = true) : mulU (.int i) (.int j) = .ret (.int (i * j)) := by
  show (if (smallI i || smallI j) = true then M.ret (D.int (i * j)) else .stuck) = _
  rw [h, Bool.or_true]; rfl
theorem small_of {i : Int} (h : -(2 ^ 64) < i ∧ i < 2 ^ 64) : smallI i = true := by
  unfold smallI
  rw [decide_eq_true h.1, decide_eq_true h.2]; rfl
theorem mod_p {i j : Int} (h : 0 < j) : modD (.int i) (.int j) = .ret (.int (i % j)) := if_pos h
theorem fdiv_p {i j : Int} (h : 0 < j ∧ j < 1073741824) : fdivD (.int i) (.int j) = .ret (.int (i / j)) := if_pos h
theorem pow_p {i j : Int} (h : 0 ≤ j ∧ j ≤ 64 ∧ 0 ≤ i ∧ i ≤ 16) : powD (.int i) (.int j) = .ret (.int (i ^ j.toNat)) := if_pos h
theorem at_nat {ds : List D} {j : Nat} {d : D} (h : ds[j]? = some d) : atD ds (j : Int) = .ret d := by
  unfold atD
  rw [atI_nat h]
/-! lists -/
theorem lcGo_ret {one : D → M (List D)} {f : D → List D} : ∀ {ds : List D}, (∀ d ∈ ds, one d = .ret (f d)) → lcGo one ds = .ret (ds.flatMap f)
  | [], _ => rfl
  | d :: r, h => by
    show (one d >>= fun l => lcGo one r >>= fun es => M.ret (l ++ es)) = _
    rw [h d List.mem_cons_self, lcGo_ret fun e he => h e (List.mem_cons_of_mem _ he)]
    rfl
theorem lcGo_map {γ : Type} {enc : γ → D} {one : D → M (List D)} {f : γ → List D} : ∀ {xs : List γ}, (∀ x ∈ xs, one (enc x) = .ret (f x)) → lcGo one (xs.map enc) = .ret (xs.flatMap f)
  | [], _ => rfl
  | d :: r, h => by
    show (one (enc d) >>= fun l => lcGo one (r.map enc) >>= fun es => M.ret (l ++ es)) = _
    rw [h d List.mem_cons_self, lcGo_map fun e he => h e (List.mem_cons_of_mem _ he)]
    rfl
theorem flat_map1 {γ : Type} {xs : List γ} {f : γ → D} : (xs.flatMap fun x => [f x]) = xs.map f := by
  induction xs with
  | nil => rfl
  | cons x r ih => rw [List.flatMap_cons, ih]; rfl
/-- a loop with an invariant of the slots: the items are enc x -/
theorem forM_inv {γ : Type} {enc : γ → D} {body : D → Ga → M (Ct × Ga)} {I : List γ → Ga → Prop} {Q : Ct × Ga → Prop} {E' : Exn → Prop} : ∀ {xs : List γ} {Γ : Ga}, I xs Γ →
    (∀ x r Γ, I (x :: r) Γ → (body (enc x) Γ).wp (fun z => match z.1 with | .nx => I r z.2 | .ct => I r z.2 | .bk => Q (.nx, z.2) | .rt d => Q (.rt d, z.2)) E') → (∀ Γ, I [] Γ → Q (.nx, Γ)) → (forM body (xs.map enc) Γ).wp Q E'
  | [], Γ, h, _, he => he Γ h
  | x :: r, Γ, h, hb, he => by
    show (body (enc x) Γ >>= fun z => match z.1 with
      | .nx => forM body (r.map enc) z.2
      | .ct => forM body (r.map enc) z.2
      | .bk => .ret (.nx, z.2)
      | .rt d => .ret (.rt d, z.2)).wp Q E'
    refine M.wp_bind.mpr (M.wp_mono (hb x r Γ h) (fun z q => ?_) fun _ x => x)
    obtain ⟨c, Γ2⟩ := z
    cases c with
    | nx => exact forM_inv q hb he
    | ct => exact forM_inv q hb he
    | bk => exact q
    | rt d => exact q
/-- a loop that always goes on: a fold over the slots -/
theorem forM_fold {γ : Type} {enc : γ → D} {body : D → Ga → M (Ct × Ga)} {f : Ga → γ → Ga} {P : Ga → Prop} : ∀ {xs : List γ} {Γ : Ga}, P Γ → (∀ x ∈ xs, ∀ Γ, P Γ → body (enc x) Γ = .ret (.nx, f Γ x) ∧ P (f Γ x)) → forM body (xs.map enc) Γ = .ret (.nx, xs.foldl f Γ) ∧ P (xs.foldl f Γ)
  | [], Γ, p, _ => ⟨rfl, p⟩
  | x :: r, Γ, p, h => by
    obtain ⟨h1, h2⟩ := h x List.mem_cons_self Γ p
    have ih := forM_fold (xs := r) h2 fun y hy => h y (List.mem_cons_of_mem _ hy)
    refine ⟨?_, ih.2⟩
    show (body (enc x) Γ >>= fun z => match z.1 with
      | .nx => forM body (r.map enc) z.2
      | .ct => forM body (r.map enc) z.2
      | .bk => .ret (.nx, z.2)
      | .rt d => .ret (.rt d, z.2)) = _
    rw [h1]
    exact ih.1
theorem cut_map {γ : Type} {enc : γ → D} {xs : List γ} {l h : Option Int} : cutD (xs.map enc) l h = ((xs.drop (HT.sIx xs.length 0 l)).take (HT.sIx xs.length xs.length h - HT.sIx xs.length 0 l)).map enc := by
  unfold cutD
  rw [List.length_map, ← List.map_drop, ← List.map_take]
end
end Px

set_option Elab.async false
set_option linter.all false
set_option maxRecDepth 100000
set_option autoImplicit false
namespace Px
open PySem PySem.Spec PyProof.Rows L2

/-! ### equality, order of encoded data -/
theorem eqB_int {i j : Int} : eqB (.int i) (.int j) = decide (i = j) := by
  show PyData.eqv (.int i) (.int j) = _
  unfold PyData.eqv
  by_cases h : i = j <;> simp [h]
theorem eqB_bl {i j : Bool} : eqB (.bl i) (.bl j) = decide (i = j) := by
  show PyData.eqv (.bool i) (.bool j) = _
  unfold PyData.eqv
  cases i <;> cases j <;> rfl
theorem eqB_str {i j : Str} : eqB (.str i) (.str j) = (i == j) := by
  show PyData.eqv (.str i) (.str j) = _
  unfold PyData.eqv; rfl
def eqBL : List D → List D → Bool
  | [], [] => true
  | x :: xs, y :: ys => eqB x y && eqBL xs ys
  | _, _ => false
theorem eqvAll_toPy : ∀ xs ys : List D, PyData.eqvAll (toPyL xs) (toPyL ys) = eqBL xs ys
  | [], [] => by show PyData.eqvAll [] [] = true; unfold PyData.eqvAll; rfl
  | [], y :: ys => by show PyData.eqvAll [] (toPy y :: toPyL ys) = false; unfold PyData.eqvAll; rfl
  | x :: xs, [] => by show PyData.eqvAll (toPy x :: toPyL xs) [] = false; unfold PyData.eqvAll; rfl
  | x :: xs, y :: ys => by
    show PyData.eqvAll (toPy x :: toPyL xs) (toPy y :: toPyL ys) = (eqB x y && eqBL xs ys)
    unfold PyData.eqvAll
    rw [eqvAll_toPy xs ys]; rfl
theorem eqB_tup {xs ys : List D} : eqB (.tup xs) (.tup ys) = eqBL xs ys := by
  show PyData.eqv (.tuple (toPyL xs)) (.tuple (toPyL ys)) = _
  unfold PyData.eqv
  exact eqvAll_toPy xs ys
theorem eqB_lst {xs ys : List D} : eqB (.lst xs) (.lst ys) = eqBL xs ys := by
  show PyData.eqv (.list (toPyL xs)) (.list (toPyL ys)) = _
  unfold PyData.eqv
  exact eqvAll_toPy xs ys
theorem eqBL_nil : eqBL [] [] = true := rfl
theorem eqBL_cons {x y : D} {xs ys : List D} : eqBL (x :: xs) (y :: ys) = (eqB x y && eqBL xs ys) := rfl
mutual
theorem eqB_refl : ∀ d : D, d.pl = true → eqB d d = true
  | .non, _ => by show PyData.eqv .none .none = true; unfold PyData.eqv; rfl
  | .bl b, _ => by rw [eqB_bl]; simp
  | .int i, _ => by rw [eqB_int]; simp
  | .str x, _ => by rw [eqB_str]; simp
  | .tup ds, h => by rw [eqB_tup]; exact eqBL_refl ds h
  | .lst ds, h => by rw [eqB_lst]; exact eqBL_refl ds h
  | .dct _ _, h => nomatch h
  | .raw _, h => nomatch h
theorem eqBL_refl : ∀ ds : List D, D.plL ds = true → eqBL ds ds = true
  | [], _ => rfl
  | d :: r, h => by
    have h : (d.pl && D.plL r) = true := h
    rw [Bool.and_eq_true] at h
    rw [eqBL_cons, eqB_refl d h.1, eqBL_refl r h.2]; rfl
end
@[simp] theorem equ_int {i j : Int} : equD (.int i) (.int j) = .ret (.bl (decide (i = j))) := by
  show (if okD (.int i) (.int j) = true then M.ret (D.bl (eqB (.int i) (.int j))) else .stuck) = _
  rw [if_pos (show okD (.int i) (.int j) = true from rfl), eqB_int]
@[simp] theorem neu_int {i j : Int} : neuD (.int i) (.int j) = .ret (.bl (!decide (i = j))) := by
  show (if okD (.int i) (.int j) = true then M.ret (D.bl (!eqB (.int i) (.int j))) else .stuck) = _
  rw [if_pos (show okD (.int i) (.int j) = true from rfl), eqB_int]
theorem okD_of {d : D} (h : d.pl = true) (hd : d.dep ≤ 60) : okD d d = true := by
  unfold okD
  rw [h, Nat.min_self, decide_eq_true hd]; rfl
/-- what is the same is equal -/
theorem neu_same {d : D} (h : d.pl = true) (hd : d.dep ≤ 60) : neuD d d = .ret (.bl false) := by
  have : neuD d d = neD d d := by cases d <;> first | rfl | cases h
  rw [this]
  show (if okD d d = true then M.ret (D.bl (!eqB d d)) else .stuck) = _
  rw [if_pos (okD_of h hd), eqB_refl d h]; rfl
theorem equ_same {d : D} (h : d.pl = true) (hd : d.dep ≤ 60) : equD d d = .ret (.bl true) := by
  have : equD d d = eqD d d := by cases d <;> first | rfl | cases h
  rw [this]
  show (if okD d d = true then M.ret (D.bl (eqB d d)) else .stuck) = _
  rw [if_pos (okD_of h hd), eqB_refl d h]
/-! pairs of numbers -/
abbrev II := Int × Int
def pD (c : II) : D := .tup [.int c.1, .int c.2]
@[simp] theorem pD_pl {c : II} : (pD c).pl = true := rfl
@[simp] theorem pD_dep {c : II} : (pD c).dep = 1 := rfl
@[simp] theorem pD_key {c : II} : ktuD (pD c) = some [.inl c.1, .inl c.2] := rfl
theorem pD_same {c d : II} : sameK true (pD c) (pD d) = decide (c = d) := by
  show decide (some [(Sum.inl c.1 : Key), .inl c.2] = some [.inl d.1, .inl d.2]) = _
  by_cases h : c = d
  · subst h; simp
  · have : ¬ (some [(Sum.inl c.1 : Key), .inl c.2] = some [.inl d.1, .inl d.2]) := fun z => h (by
      simp only [Option.some.injEq, List.cons.injEq, Sum.inl.injEq, and_true] at z
      exact Prod.ext z.1 z.2)
    rw [decide_eq_false this, decide_eq_false h]
theorem eqB_pD {c d : II} : eqB (pD c) (pD d) = decide (c = d) := by
  unfold pD
  rw [eqB_tup, eqBL_cons, eqBL_cons, eqB_int, eqB_int, eqBL_nil, Bool.and_true]
  by_cases h : c = d
  · subst h; simp
  · rw [decide_eq_false h]
    by_cases h1 : c.1 = d.1
    · have h2 : ¬ c.2 = d.2 := fun z => h (Prod.ext h1 z)
      rw [decide_eq_false h2, Bool.and_false]
    · rw [decide_eq_false h1, Bool.false_and]
/-! dicts from pairs to numbers -/
abbrev Tab := List (II × Int)
def tabD (A : Tab) : List (D × D) := A.map fun p => (pD p.1, .int p.2)
def tget (A : Tab) (c : II) : Option Int := (A.find? fun p => decide (p.1 = c)).map (·.2)
def tput (A : Tab) (c : II) (v : Int) : Tab := if (A.any fun p => decide (p.1 = c)) = true then A.map (fun p => if p.1 = c then (p.1, v) else p) else A ++ [(c, v)]
theorem dval_tab {c : II} : ∀ {A : Tab}, dval true (tabD A) (pD c) = (tget A c).map D.int
  | [] => rfl
  | p :: r => by
    unfold dval tget tabD
    rw [List.map_cons, List.find?_cons, List.find?_cons]
    show (match sameK true (pD p.1) (pD c) with | true => _ | false => _ : Option (D × D)).map (·.2) = _
    rw [pD_same]
    by_cases h : p.1 = c
    · rw [decide_eq_true h]; rfl
    · rw [decide_eq_false h]
      exact dval_tab (A := r)
theorem dput_tab {c : II} {v : Int} {A : Tab} : dput true (tabD A) (pD c) (.int v) = tabD (tput A c v) := by
  unfold dput tput
  have h1 : ((tabD A).any fun p => sameK true p.1 (pD c)) = A.any fun p => decide (p.1 = c) := by
    unfold tabD
    rw [List.any_map]
    congr 1
    funext p
    exact pD_same
  rw [h1]
  by_cases h : (A.any fun p => decide (p.1 = c)) = true
  · rw [if_pos h, if_pos h]
    unfold tabD
    rw [List.map_map, List.map_map]
    refine List.map_congr_left fun p _ => ?_
    show (if sameK true (pD p.1) (pD c) = true then (pD p.1, D.int v) else (pD p.1, .int p.2)) = (pD (if p.1 = c then (p.1, v) else p).1, D.int (if p.1 = c then (p.1, v) else p).2)
    rw [pD_same]
    by_cases e : p.1 = c
    · rw [if_pos (decide_eq_true e), if_pos e]
    · rw [if_neg (by simp [e]), if_neg e]
  · rw [if_neg h, if_neg h]
    unfold tabD
    rw [List.map_append]; rfl
theorem tab_len {A : Tab} : (tabD A).length = A.length := List.length_map ..
theorem tput_len {A : Tab} {c : II} {v : Int} : (tput A c v).length ≤ A.length + 1 := by
  unfold tput
  split
  · rw [List.length_map]; omega
  · rw [List.length_append]; simp
theorem plV_tab : ∀ A : Tab, plV (tabD A) = true
  | [] => rfl
  | p :: r => by
    show ((D.int p.2).pl && decide ((D.int p.2).dep ≤ 50) && plV (tabD r)) = true
    rw [plV_tab r]; rfl
/-- the keys differ -/
def Uq (A : Tab) : Prop := (A.map (·.1)).Nodup
theorem any_key {A : Tab} {c : II} : (A.any fun p => decide (p.1 = c)) = true ↔ c ∈ A.map (·.1) := by
  rw [List.any_eq_true, List.mem_map]
  exact ⟨fun ⟨p, h, e⟩ => ⟨p, h, of_decide_eq_true e⟩, fun ⟨p, h, e⟩ => ⟨p, h, decide_eq_true e⟩⟩
theorem tput_keys {A : Tab} {c : II} {v : Int} : (tput A c v).map (·.1) = if c ∈ A.map (·.1) then A.map (·.1) else A.map (·.1) ++ [c] := by
  unfold tput
  by_cases h : (A.any fun p => decide (p.1 = c)) = true
  · rw [if_pos h, if_pos (any_key.mp h), List.map_map]
    refine List.map_congr_left fun p _ => ?_
    show (if p.1 = c then (p.1, v) else p).1 = p.1
    split <;> rfl
  · rw [if_neg h, if_neg fun z => h (any_key.mpr z), List.map_append]; rfl
theorem Uq.put {A : Tab} {c : II} {v : Int} (h : Uq A) : Uq (tput A c v) := by
  unfold Uq
  rw [tput_keys]
  by_cases m : c ∈ A.map (·.1)
  · rw [if_pos m]; exact h
  · rw [if_neg m]
    rw [List.nodup_append]
    exact ⟨h, by simp, fun a ha b hb z => by
      rw [List.mem_singleton] at hb
      rw [z, hb] at ha
      exact m ha⟩
theorem tget_mem {A : Tab} (h : Uq A) {c : II} {v : Int} : tget A c = some v ↔ (c, v) ∈ A := by
  induction A with
  | nil => unfold tget; simp
  | cons p r ih =>
    have h' : (p.1 :: r.map (·.1)).Nodup := h
    rw [List.nodup_cons] at h'
    unfold tget at ih ⊢
    rw [List.find?_cons]
    by_cases e : p.1 = c
    · rw [decide_eq_true e]
      simp only [Option.map_some, Option.some.injEq, List.mem_cons]
      constructor
      · intro z; exact .inl (Prod.ext e.symm z.symm)
      · rintro (z | z)
        · rw [← z]
        · exact absurd (List.mem_map.mpr ⟨(c, v), z, rfl⟩) (e ▸ h'.1)
    · rw [decide_eq_false e]
      rw [ih h'.2, List.mem_cons]
      exact ⟨.inr, fun z => z.elim (fun w => absurd (congrArg Prod.fst w).symm e) id⟩
theorem tget_none {A : Tab} {c : II} : tget A c = none ↔ c ∉ A.map (·.1) := by
  unfold tget
  rw [Option.map_eq_none_iff, List.find?_eq_none, List.mem_map]
  exact ⟨fun h ⟨p, hp, e⟩ => h p hp (decide_eq_true e), fun h p hp e => h ⟨p, hp, of_decide_eq_true e⟩⟩
theorem subDct_tab {B : Tab} : ∀ {A : Tab}, subDct true (tabD B) (tabD A) = A.all fun p => decide (tget B p.1 = some p.2)
  | [] => rfl
  | p :: r => by
    show ((match dval true (tabD B) (pD p.1) with | some y => eqB (.int p.2) y | none => false) && subDct true (tabD B) (tabD r)) = (decide (tget B p.1 = some p.2) && r.all _)
    rw [subDct_tab (A := r), dval_tab]
    congr 1
    cases e : tget B p.1 with
    | none => simp
    | some v =>
      show eqB (.int p.2) (.int v) = _
      rw [eqB_int]
      by_cases h : p.2 = v
      · rw [h]; simp
      · rw [decide_eq_false h, decide_eq_false]
        intro z
        exact h (Option.some.inj z).symm
theorem sub_back {α : Type} [DecidableEq α] : ∀ {A B : List α}, A.Nodup → (∀ p ∈ A, p ∈ B) → B.length ≤ A.length → ∀ p ∈ B, p ∈ A
  | [], B, _, _, hl, p, hp => by
    have : B = [] := List.length_eq_zero_iff.mp (by simpa using hl)
    rw [this] at hp; exact hp
  | a :: A, B, hn, h, hl, p, hp => by
    rw [List.nodup_cons] at hn
    have ha := h a List.mem_cons_self
    have hb : ∀ q ∈ A, q ∈ B.erase a := fun q hq => (List.mem_erase_of_ne (fun z : q = a => hn.1 (by rw [← z]; exact hq))).mpr (h q (List.mem_cons_of_mem _ hq))
    have hlen : (B.erase a).length ≤ A.length := by
      rw [List.length_erase_of_mem ha]
      have : (a :: A).length = A.length + 1 := rfl
      omega
    by_cases e : p = a
    · rw [e]; exact List.mem_cons_self
    · exact List.mem_cons_of_mem _ (sub_back hn.2 hb hlen p ((List.mem_erase_of_ne e).mpr hp))
theorem nodup_of {α β : Type} (f : α → β) : ∀ {A : List α}, (A.map f).Nodup → A.Nodup
  | [], _ => List.nodup_nil
  | a :: A, h => by
    rw [List.map_cons, List.nodup_cons] at h
    rw [List.nodup_cons]
    exact ⟨fun z => h.1 (List.mem_map.mpr ⟨a, z, rfl⟩), nodup_of f h.2⟩
theorem subset_back {A B : Tab} (hA : Uq A) (hl : A.length = B.length) (h : ∀ p ∈ A, p ∈ B) : ∀ p ∈ B, p ∈ A := sub_back (nodup_of (fun p : II × Int => p.1) hA) h (Nat.le_of_eq hl.symm)
/-- two tables are compared alike from both sides -/
theorem eqDct_comm {A B : Tab} (hA : Uq A) (hB : Uq B) : eqDctB true (tabD A) (tabD B) = eqDctB true (tabD B) (tabD A) := by
  unfold eqDctB
  rw [subDct_tab, subDct_tab, tab_len, tab_len]
  rw [Bool.eq_iff_iff]
  simp only [Bool.and_eq_true, beq_iff_eq, List.all_eq_true, decide_eq_true_eq]
  have go : ∀ {A B : Tab}, Uq A → Uq B → A.length = B.length → (∀ p ∈ A, tget B p.1 = some p.2) → ∀ p ∈ B, tget A p.1 = some p.2 := fun {A B} hA hB hl h p hp =>
    (tget_mem hA).mpr (subset_back hA hl (fun q hq => (tget_mem hB).mp (h q hq)) p hp)
  exact ⟨fun ⟨h1, h2⟩ => ⟨h1.symm, go hA hB h1 h2⟩, fun ⟨h1, h2⟩ => ⟨h1.symm, go hB hA h1 h2⟩⟩
theorem eqDct_refl {A : Tab} (h : Uq A) : eqDctB true (tabD A) (tabD A) = true := by
  unfold eqDctB
  rw [subDct_tab, Bool.and_eq_true]
  exact ⟨by simp, List.all_eq_true.mpr fun p hp => decide_eq_true ((tget_mem h).mpr hp)⟩
theorem equ_tab {A B : Tab} : equD (.dct true (tabD A)) (.dct true (tabD B)) = .ret (.bl (eqDctB true (tabD A) (tabD B))) := by
  show (if (true == true && (plV (tabD A) && plV (tabD B))) = true then M.ret _ else .stuck) = _
  rw [plV_tab, plV_tab]; rfl
theorem neu_tab {A B : Tab} : neuD (.dct true (tabD A)) (.dct true (tabD B)) = .ret (.bl (!eqDctB true (tabD A) (tabD B))) := by
  show (if (true == true && (plV (tabD A) && plV (tabD B))) = true then M.ret _ else .stuck) = _
  rw [plV_tab, plV_tab]; rfl
@[simp] theorem lcGo_nil {one : D → M (List D)} : lcGo one [] = .ret [] := rfl
@[simp] theorem lcGo_cons {one : D → M (List D)} {d : D} {r : List D} : lcGo one (d :: r) = one d >>= fun l => lcGo one r >>= fun es => .ret (l ++ es) := rfl
theorem all_bls {bs : List Bool} : allD [.lst (bs.map .bl)] = .ret (.bl (bs.all id)) := by
  show onBls (bs.map .bl) _ = _
  unfold onBls
  rw [blsOf_map]
theorem any_bls {bs : List Bool} : anyD [.lst (bs.map .bl)] = .ret (.bl (bs.any id)) := by
  show onBls (bs.map .bl) _ = _
  unfold onBls
  rw [blsOf_map]
theorem sum_ints {ns : List Int} : sumD [.lst (ns.map .int)] = .ret (.int ns.sum) := by
  show onInts (ns.map .int) _ = _
  unfold onInts
  rw [intsOf_map]
theorem all_true {ds : List D} (h : ∀ d ∈ ds, d = .bl true) : allD [.lst ds] = .ret (.bl true) := by
  have e : ds = (ds.map fun _ => true).map D.bl := by
    rw [List.map_map]
    conv => lhs; rw [← List.map_id ds]
    exact List.map_congr_left fun d hd => h d hd
  rw [e, all_bls]
  congr 2
  rw [List.all_map]
  exact List.all_eq_true.mpr fun _ _ => rfl
theorem own_free {vs : List Nat} {Γ : Ga} (h : ownFree vs Γ = true) {α : Type} {a b : M α} : (if ownFree vs Γ = true then a else b) = a := if_pos h
@[simp] theorem isOwn_v {d : D} : (Sl.v d).isOwn = false := rfl
@[simp] theorem isOwn_un : Sl.un.isOwn = false := rfl
@[simp] theorem isOwn_own {d : D} : (Sl.own d).isOwn = true := rfl
@[simp] theorem wipe_nil {Γ : Ga} : wipeG Γ [] = Γ := rfl
@[simp] theorem wipe_cons {Γ : Ga} {v : Nat} {vs : List Nat} : wipeG Γ (v :: vs) = (wipeG Γ vs).set v .un := rfl
@[simp] theorem atD0 {d : D} {r : List D} : atD (d :: r) 0 = .ret d := at_nat (j := 0) rfl
@[simp] theorem atD1 {d e : D} {r : List D} : atD (d :: e :: r) 1 = .ret e := at_nat (j := 1) rfl
@[simp] theorem atD2 {d e f : D} {r : List D} : atD (d :: e :: f :: r) 2 = .ret f := at_nat (j := 2) rfl
@[simp] theorem atD3 {d e f g : D} {r : List D} : atD (d :: e :: f :: g :: r) 3 = .ret g := at_nat (j := 3) rfl
/-- a loop that always goes on: what it does to the slots, R: with what is still to come -/
theorem forM_rel {γ σ : Type} {enc : γ → D} {body : D → Ga → M (Ct × Ga)} {R : List γ → σ → Ga → Prop} {g : σ → γ → σ} (h : ∀ x r a Γ, R (x :: r) a Γ → ∃ Γ', body (enc x) Γ = .ret (.nx, Γ') ∧ R r (g a x) Γ') :
    ∀ {xs : List γ} {a : σ} {Γ : Ga}, R xs a Γ → ∃ Γ', forM body (xs.map enc) Γ = .ret (.nx, Γ') ∧ R [] (xs.foldl g a) Γ'
  | [], a, Γ, q => ⟨Γ, rfl, q⟩
  | x :: r, a, Γ, q => by
    obtain ⟨Γ1, e1, q1⟩ := h x r a Γ q
    obtain ⟨Γ2, e2, q2⟩ := forM_rel h q1
    refine ⟨Γ2, ?_, q2⟩
    show (body (enc x) Γ >>= fun z => match z.1 with
      | .nx => forM body (r.map enc) z.2
      | .ct => forM body (r.map enc) z.2
      | .bk => .ret (.nx, z.2)
      | .rt d => .ret (.rt d, z.2)) = _
    rw [e1]
    exact e2
@[simp] theorem sputM_ {tt : Bool} {i : Nat} {mk mv : Ga → M D} {Γ : Ga} : sputM tt i mk mv Γ = match Γ[i]? with
  | some (.own _) => mv Γ >>= fun v => mk Γ >>= fun k => sputG tt i k v Γ
  | _ => .stuck := rfl
def tsum (A : Tab) : Int := (A.map (·.2)).sum
theorem map_keep {c : II} {v : Int} : ∀ {A : Tab}, c ∉ A.map (·.1) → A.map (fun p => if p.1 = c then (p.1, v) else p) = A
  | [], _ => rfl
  | a :: r, h => by
    rw [List.map_cons, List.mem_cons, not_or] at h
    rw [List.map_cons, map_keep h.2, if_neg (fun e => h.1 e.symm)]
theorem tput_cons_ne {a : II × Int} {r : Tab} {c : II} {v : Int} (h : a.1 ≠ c) : tput (a :: r) c v = a :: tput r c v := by
  unfold tput
  rw [List.any_cons, decide_eq_false h, Bool.false_or]
  by_cases k : (r.any fun p => decide (p.1 = c)) = true
  · rw [if_pos k, if_pos k, List.map_cons, if_neg h]
  · rw [if_neg k, if_neg k]; rfl
theorem tput_cons_eq {a : II × Int} {r : Tab} {c : II} {v : Int} (h : a.1 = c) (hn : c ∉ r.map (·.1)) : tput (a :: r) c v = (c, v) :: r := by
  unfold tput
  rw [List.any_cons, decide_eq_true h, Bool.true_or, if_pos rfl, List.map_cons, if_pos h, map_keep hn, h]
theorem tput_sum {c : II} {m : Int} : ∀ {A : Tab}, Uq A → tsum (tput A c ((tget A c).getD 0 + m)) = tsum A + m
  | [], _ => by
    show (0 + m) + 0 = 0 + m
    omega
  | a :: r, h => by
    have hh : a.1 ∉ r.map (·.1) ∧ Uq r := by
      have := h
      unfold Uq at this
      rw [List.map_cons, List.nodup_cons] at this
      exact this
    by_cases e : a.1 = c
    · rw [tput_cons_eq e (e ▸ hh.1)]
      have g : tget (a :: r) c = some a.2 := by
        unfold tget
        rw [List.find?_cons, decide_eq_true e]; rfl
      rw [g]
      show (a.2 + m) + tsum r = (a.2 + tsum r) + m
      omega
    · have g : tget (a :: r) c = tget r c := by
        unfold tget
        rw [List.find?_cons, decide_eq_false e]
      rw [tput_cons_ne e, g]
      show a.2 + tsum (tput r c _) = (a.2 + tsum r) + m
      rw [tput_sum hh.2]
      omega
theorem vals_go {A : Tab} (hU : Uq A) {one : D → M (List D)} {F : II → Int → D} (h : ∀ c v, (c, v) ∈ A → tget A c = some v → one (pD c) = .ret [F c v]) : lcGo one ((tabD A).map (·.1)) = .ret (A.map fun p => F p.1 p.2) := by
  have e : (tabD A).map (·.1) = A.map (fun p => pD p.1) := by
    unfold tabD; rw [List.map_map]; rfl
  have k : ∀ (B : Tab), (∀ p ∈ B, p ∈ A) → lcGo one (B.map fun p => pD p.1) = .ret (B.map fun p => F p.1 p.2) := by
    intro B
    induction B with
    | nil => exact fun _ => rfl
    | cons p r ih =>
      intro hB
      have hp := hB p (List.mem_cons_self ..)
      rw [List.map_cons, lcGo_cons, h p.1 p.2 hp ((tget_mem hU).mpr hp), ret_b, ih fun q hq => hB q (List.mem_cons_of_mem _ hq)]
      rfl
  rw [e]
  exact k A fun _ x => x
theorem tabget {A : Tab} {c : II} {v : Int} (h : tget A c = some v) : getD' (.dct true (tabD A)) (pD c) = .ret (.int v) := by
  show (if isKeyD true (pD c) = true then (match dval true (tabD A) (pD c) with
    | some d => M.ret d
    | none => .stuck) else .stuck) = _
  rw [if_pos (show isKeyD true (pD c) = true from rfl), dval_tab, h]; rfl
/-! ### the least of pairs of a number and a cell -/
abbrev IP := Int × II
def ipD (x : IP) : D := .tup [.int x.1, pD x.2]
def kLt (x y : IP) : Bool := PySem.W.dataLt (toPy (ipD x)) (toPy (ipD y))
theorem kLt_eq {i j : Int} {c d : II} : kLt (i, c) (j, d) = (decide (i < j) || (!decide (j < i) && PyProof.Rows.lexLt PyProof.Rows.itemOrd (Sum.inl 1 :: (PySem.W.keyToks (toPy (pD c)) ++ [Sum.inl 0])) (Sum.inl 1 :: (PySem.W.keyToks (toPy (pD d)) ++ [Sum.inl 0])))) := by
  show PyProof.Rows.lexLt PyProof.Rows.itemOrd (Sum.inl 1 :: Sum.inl i :: (Sum.inl 1 :: (PySem.W.keyToks (toPy (pD c)) ++ [Sum.inl 0]))) (Sum.inl 1 :: Sum.inl j :: (Sum.inl 1 :: (PySem.W.keyToks (toPy (pD d)) ++ [Sum.inl 0]))) = _
  rw [lex_self, lex_cons]
  rfl
def kMin (x : IP) (xs : List IP) : IP := xs.foldl (fun a y => if kLt y a = true then y else a) x
theorem min_k {x : IP} {xs : List IP} : minL (ipD x) (xs.map ipD) = ipD (kMin x xs) := by
  induction xs generalizing x with
  | nil => rfl
  | cons y r ih =>
    show minL (if PySem.W.dataLt (toPy (ipD y)) (toPy (ipD x)) = true then ipD y else ipD x) (r.map ipD) = ipD (kMin (if kLt y x = true then y else x) r)
    by_cases h : kLt y x = true
    · rw [if_pos h, if_pos (show PySem.W.dataLt (toPy (ipD y)) (toPy (ipD x)) = true from h)]; exact ih
    · rw [if_neg h, if_neg (show ¬ PySem.W.dataLt (toPy (ipD y)) (toPy (ipD x)) = true from h)]; exact ih
theorem k_plL : ∀ (xs : List IP), D.plL (xs.map ipD) = true
  | [] => rfl
  | x :: r => by
    show ((ipD x).pl && D.plL (r.map ipD)) = true
    rw [k_plL r]; rfl
theorem k_depL : ∀ (xs : List IP), D.depL (xs.map ipD) ≤ 60
  | [] => by show 0 ≤ 60; omega
  | x :: r => by
    show max (ipD x).dep (D.depL (r.map ipD)) ≤ 60
    have := k_depL r
    have e : (ipD x).dep = 2 := rfl
    omega
theorem minD_k {x : IP} {xs : List IP} : minD [.lst ((x :: xs).map ipD)] = .ret (ipD (kMin x xs)) := by
  show (if (D.plL ((x :: xs).map ipD) && alikeD ((x :: xs).map ipD) && decide (D.depL ((x :: xs).map ipD) ≤ 60)) = true then keepB (minL (ipD x) (xs.map ipD)) else .stuck) = _
  have e : alikeD ((x :: xs).map ipD) = true := by
    unfold alikeD
    rw [Bool.and_eq_true, List.all_eq_true, List.all_eq_true]
    refine ⟨fun a ha => List.all_eq_true.mpr fun b hb => ?_, fun a ha => ?_⟩
    · obtain ⟨_, _, rfl⟩ := List.mem_map.mp ha
      obtain ⟨_, _, rfl⟩ := List.mem_map.mp hb
      rfl
    · obtain ⟨_, _, rfl⟩ := List.mem_map.mp ha
      rfl
  rw [k_plL, e, decide_eq_true (k_depL _), min_k]
  rfl
theorem kMin_shift {t : Int} {x : IP} {xs : List IP} : kMin (x.1 + t, x.2) (xs.map fun y => (y.1 + t, y.2)) = ((kMin x xs).1 + t, (kMin x xs).2) := by
  induction xs generalizing x with
  | nil => rfl
  | cons y r ih =>
    have e : kLt (y.1 + t, y.2) (x.1 + t, x.2) = kLt y x := by
      have e1 := kLt_eq (i := y.1) (j := x.1) (c := y.2) (d := x.2)
      rw [kLt_eq]
      refine Eq.trans ?_ e1.symm
      rw [show decide (y.1 + t < x.1 + t) = decide (y.1 < x.1) from decide_eq_decide.mpr (by omega), show decide (x.1 + t < y.1 + t) = decide (x.1 < y.1) from decide_eq_decide.mpr (by omega)]
    show kMin (if kLt (y.1 + t, y.2) (x.1 + t, x.2) = true then (y.1 + t, y.2) else (x.1 + t, x.2)) (r.map fun y => (y.1 + t, y.2)) = ((kMin (if kLt y x = true then y else x) r).1 + t, (kMin (if kLt y x = true then y else x) r).2)
    rw [e]
    by_cases h : kLt y x = true
    · rw [if_pos h, if_pos h]; exact ih
    · rw [if_neg h, if_neg h]; exact ih
theorem has_tab {A : Tab} {c : II} : hasNotD (pD c) (.dct true (tabD A)) = .ret (.bl (!(tget A c).isSome)) := by
  show bnotM (if isKeyD true (pD c) = true then M.ret (.bl (dval true (tabD A) (pD c)).isSome) else .stuck) = _
  rw [if_pos (show isKeyD true (pD c) = true from rfl), dval_tab]
  cases tget A c <;> rfl
end Px

set_option Elab.async false
set_option linter.all false
set_option maxRecDepth 100000
set_option autoImplicit false
namespace Px
open PySem PySem.Spec PyProof.Rows L2
section
variable {i : Nat} {ml : Ga → M (List D)} {g : List D → List D → Option (D × List D)} {kk : D → Ga → M (Ct × Ga)} {Γ : Ga} {ds : List D} {d e : D} {bnd : D → Ga → M Ga}
@[simp] theorem mthM_ : mthM i ml g kk Γ = match Γ[i]? with
  | some (.own (.lst ds)) => ml Γ >>= fun es => match g ds es with
    | some (d, ds') => kk d (Γ.set i (.own (.lst ds')))
    | none => .stuck
  | _ => .stuck := by
  unfold mthM ownL
  generalize Γ[i]? = o
  cases o with
  | none => rfl
  | some s =>
    cases s with
    | un => rfl
    | v d => rfl
    | own d => cases d <;> rfl
@[simp] theorem appG_ : appG ds [d] = if ds.length < 16777216 then some (.non, ds ++ [d]) else none := rfl
@[simp] theorem extG_l {es : List D} : extG ds [.lst es] = if ds.length + es.length ≤ 16777216 then some (.non, ds ++ es) else none := rfl
@[simp] theorem dropK_ : dropK' d Γ = .ret (.nx, Γ) := rfl
@[simp] theorem bndK_ : bndK bnd d Γ = bnd d Γ >>= fun Γ' => .ret (.nx, Γ') := rfl
theorem range_nat {n : Int} (h0 : 0 ≤ n) (h : n ≤ 1000000) : rangeD [.int n] = .ret ((List.range n.toNat).map fun (y : Nat) => D.int (y : Int)) := by
  show (if n ≤ 16777216 ∧ -(2 ^ 62) ≤ n then M.ret (rangeL 0 1 n.toNat) else .stuck) = _
  rw [if_pos (by omega)]; simp [rangeL]
end
theorem depL_le {ds : List D} {n : Nat} (h : ∀ d ∈ ds, d.dep ≤ n) : D.depL ds ≤ n := by
  induction ds with
  | nil => exact Nat.zero_le _
  | cons d r ih => exact Nat.max_le.mpr ⟨h d (List.mem_cons_self ..), ih fun e he => h e (List.mem_cons_of_mem _ he)⟩
theorem plL_of {ds : List D} (h : ∀ d ∈ ds, d.pl = true) : D.plL ds = true := by
  rw [plL_all]
  exact List.all_eq_true.mpr h
theorem rpr_bl {b : Bool} : (reprD [.bl b] >>= fun x => reprD [.bl b] >>= fun y => equD x y) = .ret (.bl true) := by
  cases b <;> rfl
/-! ### step by step -/
/-- the same, closed: it is not unfolded by itself -/
structure Wq {α : Type} (m : M α) (Q : α → Prop) (E : Exn → Prop) : Prop where
  go : m.wp Q E
section
variable {α : Type} {Γ Γ' : Ga} {m1 m2 : Ga → M (Ct × Ga)} {ma mb : Ga → M D} {t : Ga → M Bool} {bnd : D → Ga → M Ga} {mS : Ga → M (List Sl)} {mi : Ga → M (List D)} {i np n : Nat} {d : D} {ds : List D} {is : List Nat} {ss : List Sl} {body : Ga → M (Ct × Ga)} {Q : Ct × Ga → Prop} {Q1 : D → Prop} {E' : Exn → Prop}
theorem wq_chk (h : t Γ = .ret false) (k : Wq (m2 Γ) Q E') : Wq (seqM (ifM t m1 nextM) m2 Γ) Q E' := by
  rw [seqM_, ifM_, h]; exact k
theorem wq_chkw (h : (t Γ).wp (fun b => b = false) fun _ => False) (k : Wq (m2 Γ) Q E') : Wq (seqM (ifM t m1 nextM) m2 Γ) Q E' := by
  rw [seqM_, ifM_]
  exact ⟨M.wp_bind.mpr (M.wp_bind.mpr (M.wp_mono h (fun b e => by subst e; exact k.go) fun _ z => z.elim))⟩
theorem wq_setS (h : ma Γ = .ret d) (k : Wq (m2 (Γ.set i (.v d))) Q E') : Wq (seqM (setSM i ma) m2 Γ) Q E' := by
  rw [seqM_, setSM_, h]; exact k
theorem wq_setSw (h : (ma Γ).wp (fun d => Wq (m2 (Γ.set i (.v d))) Q E') E') : Wq (seqM (setSM i ma) m2 Γ) Q E' := by
  rw [seqM_, setSM_]
  exact ⟨M.wp_bind.mpr (M.wp_bind.mpr (M.wp_mono h (fun _ q => q.go) fun _ z => z))⟩
theorem wq_set (h : ma Γ = .ret d) (k : Wq (m2 (Γ.set i (slF d))) Q E') : Wq (seqM (setM i ma) m2 Γ) Q E' := by
  rw [seqM_, setM_, h]; exact k
theorem wq_setw (h : (ma Γ).wp (fun d => Wq (m2 (Γ.set i (slF d))) Q E') E') : Wq (seqM (setM i ma) m2 Γ) Q E' := by
  rw [seqM_, setM_]
  exact ⟨M.wp_bind.mpr (M.wp_bind.mpr (M.wp_mono h (fun _ q => q.go) fun _ z => z))⟩
theorem wq_asg (h : ma Γ = .ret d) (h2 : bnd d Γ = .ret Γ') (k : Wq (m2 Γ') Q E') : Wq (seqM (asgM ma bnd) m2 Γ) Q E' := by
  rw [seqM_, asgM_, h, ret_b, h2]; exact k
theorem wq_asgw (h : (ma Γ).wp (fun d => (bnd d Γ).wp (fun Γ' => Wq (m2 Γ') Q E') E') E') : Wq (seqM (asgM ma bnd) m2 Γ) Q E' := by
  rw [seqM_, asgM_]
  exact ⟨M.wp_bind.mpr (M.wp_bind.mpr (M.wp_mono h (fun _ q => M.wp_bind.mpr (M.wp_mono q (fun _ q => q.go) fun _ z => z)) fun _ z => z))⟩
theorem wq_par (h : mS Γ = .ret ss) (k : Wq (m2 (setAll is ss Γ)) Q E') : Wq (seqM (parM is mS) m2 Γ) Q E' := by
  rw [seqM_, parM_, h]; exact k
theorem wq_parw (h : (mS Γ).wp (fun ss => Wq (m2 (setAll is ss Γ)) Q E') E') : Wq (seqM (parM is mS) m2 Γ) Q E' := by
  rw [seqM_, parM_]
  exact ⟨M.wp_bind.mpr (M.wp_bind.mpr (M.wp_mono h (fun _ q => q.go) fun _ z => z))⟩
theorem wq_ret (h : ma Γ = .ret d) (k : Q (.rt d, Γ)) : Wq (retM ma Γ) Q E' := by
  rw [retM_, h]; exact ⟨k⟩
theorem wq_retw (h : (ma Γ).wp (fun d => Q (.rt d, Γ)) E') : Wq (retM ma Γ) Q E' := by
  rw [retM_]
  exact ⟨M.wp_bind.mpr (M.wp_mono h (fun _ q => q) fun _ z => z)⟩
theorem wq_seq (h : m1 Γ = .ret (.nx, Γ')) (k : Wq (m2 Γ') Q E') : Wq (seqM m1 m2 Γ) Q E' := by
  rw [seqM_, h]; exact k
theorem wq_seqw (h : Wq (m1 Γ) (fun r => (andThen r m2).wp Q E') E') : Wq (seqM m1 m2 Γ) Q E' := by
  rw [seqM_]
  exact ⟨M.wp_bind.mpr (M.wp_mono h.go (fun _ q => q) fun _ z => z)⟩
/-- m1 ends: next, with the slots as R says -/
theorem wq_seqR {R : Ga → Prop} (h : Wq (m1 Γ) (fun r => r.1 = .nx ∧ R r.2) E') (k : ∀ Γ', R Γ' → Wq (m2 Γ') Q E') : Wq (seqM m1 m2 Γ) Q E' := by
  refine wq_seqw ⟨M.wp_mono h.go (fun r q => ?_) fun _ z => z⟩
  obtain ⟨c, Γ'⟩ := r
  obtain ⟨e, q⟩ := q
  have e : c = .nx := e
  subst e
  exact (k Γ' q).go
theorem wq_setSP {P : D → Prop} (h : (ma Γ).wp P E') (k : ∀ d, P d → Wq (m2 (Γ.set i (.v d))) Q E') : Wq (seqM (setSM i ma) m2 Γ) Q E' := wq_setSw (M.wp_mono h k fun _ z => z)
theorem wq_setP {P : D → Prop} (h : (ma Γ).wp P E') (k : ∀ d, P d → Wq (m2 (Γ.set i (slF d))) Q E') : Wq (seqM (setM i ma) m2 Γ) Q E' := wq_setw (M.wp_mono h k fun _ z => z)
theorem wq_fn (h : ds.length = np) (k : Wq (body (ds.map Sl.v ++ List.replicate (n - np) Sl.un)) (fun r => (fnEnd r).wp Q1 E') E') : (fnM np n body ds).wp Q1 E' := by
  unfold fnM
  rw [if_pos h]
  exact M.wp_bind.mpr k.go
theorem wq_if_t (h : t Γ = .ret true) (k : Wq (m1 Γ) Q E') : Wq (ifM t m1 m2 Γ) Q E' := by
  rw [ifM_, h]; exact k
theorem wq_if_f (h : t Γ = .ret false) (k : Wq (m2 Γ) Q E') : Wq (ifM t m1 m2 Γ) Q E' := by
  rw [ifM_, h]; exact k
theorem wq_ifw_f (h : (t Γ).wp (fun b => b = false) fun _ => False) (k : Wq (m2 Γ) Q E') : Wq (ifM t m1 m2 Γ) Q E' := by
  rw [ifM_]
  exact ⟨M.wp_bind.mpr (M.wp_mono h (fun b e => by subst e; exact k.go) fun _ z => z.elim)⟩
theorem wq_next (k : Q (.nx, Γ)) : Wq (nextM Γ) Q E' := ⟨k⟩
/-- a loop with an invariant of the slots -/
theorem wq_for {γ : Type} {enc : γ → D} {xs : List γ} {I : List γ → Ga → Prop} (hi : mi Γ = .ret (xs.map enc)) (h0 : I xs Γ)
    (hb : ∀ x r Γ, I (x :: r) Γ → (bnd (enc x) Γ).wp (fun Γ => Wq (m1 Γ) (fun z => match z.1 with | .nx => I r z.2 | .ct => I r z.2 | .bk => Q (.nx, z.2) | .rt d => Q (.rt d, z.2)) E') E') (he : ∀ Γ, I [] Γ → Q (.nx, Γ)) : Wq (forS mi bnd m1 Γ) Q E' := by
  rw [forS_, hi]
  refine ⟨forM_inv h0 (fun x r Γ q => ?_) he⟩
  exact M.wp_bind.mpr (M.wp_mono (hb x r Γ q) (fun _ q => q.go) fun _ z => z)
theorem wp_eq {m : M α} {a : α} (h : m = .ret a) {Q : α → Prop} (q : Q a) : m.wp Q E' := by rw [h]; exact q
theorem wp_call {m : M D} (h : m.wp (fun d => d = .bl true) (fun _ => False)) {f : D → M α} {Q : α → Prop} (k : (f (.bl true)).wp Q E') : (m >>= f).wp Q E' := M.wp_bind.mpr (M.wp_mono h (fun d e => by subst e; exact k) fun _ z => z.elim)
end
end Px

set_option Elab.async false
set_option linter.all false
set_option maxRecDepth 100000
set_option maxHeartbeats 4000000
set_option autoImplicit false
namespace Px
open PySem PySem.Spec PyProof.Rows L2
/-! ### the law's hand -/
def BagOk (a g : Addr) (H : Hp) : Prop := ∃ (ns : List Int) (seed len cnt : Int), H a = some (.lst [.ref g, .int seed, .int len, .int cnt]) ∧ H g = some (.lst (ns.map V.int)) ∧ a ≠ g ∧ (∀ n ∈ ns, 0 ≤ n) ∧ 0 ≤ seed ∧ seed < 2147483629 ∧ 0 ≤ cnt
def ghBag (a g : Addr) : Gh where
  Z := fun b => b = a ∨ b = g
  G := BagOk a g
  gk := fun H H' ⟨ns, seed, len, cnt, h1, h2, h3⟩ hz => ⟨ns, seed, len, cnt, by rw [hz a (.inl rfl)]; exact h1, by rw [hz g (.inr rfl)]; exact h2, h3⟩
  gz := fun H b ⟨ns, seed, len, cnt, h1, h2, h3⟩ hz => by
    rcases hz with rfl | rfl
    · exact ⟨_, h1⟩
    · exact ⟨_, h2⟩
def m__law_pick (hd : V) : List D → M D := fun ds => match ds with
  | [.raw v, .int m] => if v = hd ∧ 0 < m ∧ m < 1073741824 then .draw m.toNat fun r => .ret (.int (r : Nat)) else .stuck
  | _ => .stuck
def Vl (t : TE) (σ : L2.St) (H : Hp) (v : V) : Prop := ∀ Q : VK, Q v H → t σ H Q
section
variable {σ : L2.St} {H : Hp} {v : V} {i j : Int} {ta tb : TE} {K : PySem.W.Frag} {p : Addr} {xs : List V}
theorem vl_var {n : Nat} (h : σ[n]? = some (some v)) : Vl (tVar n) σ H v := fun Q q => ⟨v, h, q⟩
theorem vl_c : Vl (tC v) σ H v := fun Q q => q
theorem vl_op {g : Int → Int → V} (ha : Vl ta σ H (.int i)) (hb : Vl tb σ H (.int j)) : Vl (tOp (rI0 g) ta tb) σ H (g i j) := fun Q q => ha _ (hb _ ⟨i, j, rfl, rfl, q⟩)
theorem vl_eq (ha : Vl ta σ H (.int i)) (hb : Vl tb σ H (.int j)) : Vl (tOp rEq ta tb) σ H (.bl (decide (i = j))) := fun Q q => ha _ (hb _ ⟨rfl, by rw [dec_int]; exact q⟩)
theorem vl_gt (ha : Vl ta σ H (.int i)) (hb : Vl tb σ H (.int j)) : Vl (tOp (rI0 fun i j => .bl (decide (j < i))) ta tb) σ H (.bl (decide (j < i))) := vl_op ha hb
theorem vl_lt (ha : Vl ta σ H (.int i)) (hb : Vl tb σ H (.int j)) : Vl (tOp (rI0 fun i j => .bl (decide (i < j))) ta tb) σ H (.bl (decide (i < j))) := vl_op ha hb
theorem vl_add (ha : Vl ta σ H (.int i)) (hb : Vl tb σ H (.int j)) : Vl (tOp (rI0 fun i j => .int (i + j)) ta tb) σ H (.int (i + j)) := vl_op ha hb
theorem vl_opI {C : Int → Int → Prop} {g : Int → Int → V} (ha : Vl ta σ H (.int i)) (hb : Vl tb σ H (.int j)) (c : C i j) : Vl (tOp (rI C g) ta tb) σ H (g i j) := fun Q q => ha _ (hb _ ⟨i, j, rfl, rfl, c, q⟩)
theorem vl_mul (ha : Vl ta σ H (.int i)) (hb : Vl tb σ H (.int j)) (c : CMul i j) : Vl (tOp (rI CMul fun i j => .int (i * j)) ta tb) σ H (.int (i * j)) := vl_opI ha hb c
theorem vl_fdiv (ha : Vl ta σ H (.int i)) (hb : Vl tb σ H (.int j)) (c : 0 < j ∧ j < 1073741824) : Vl (tOp (rI CDiv fun i j => .int (i / j)) ta tb) σ H (.int (i / j)) := vl_opI ha hb c
theorem vl_mod (ha : Vl ta σ H (.int i)) (hb : Vl tb σ H (.int j)) (c : 0 < j) : Vl (tOp (rI (fun _ j => 0 < j) fun i j => .int (i % j)) ta tb) σ H (.int (i % j)) := vl_opI ha hb c
theorem vl_ix (ha : Vl ta σ H (.ref p)) (hx : H p = some (.lst xs)) (hb : Vl tb σ H (.int i)) (h : L2.atI xs i = some v) : Vl (tOp (rIxL K) ta tb) σ H v := fun Q q => ha _ (hb _ ⟨p, xs, i, v, rfl, rfl, .of hx, h, q⟩)
theorem vl_int (ha : Vl ta σ H (.int i)) : Vl (tCB (fun xs H Q => (∃ i, xs = [V.int i] ∧ Q (.int i) H) ∨ ∃ k, xs = [V.bl k] ∧ Q (.int (if k = true then 1 else 0)) H) (tCons ta tNil)) σ H (.int i) := fun Q q => ha _ (.inl ⟨i, rfl, q⟩)
theorem vl_len (ha : Vl ta σ H (.ref p)) (hx : H p = some (.lst xs)) : Vl (tCB (fun vs H Q => ∃ p ys, vs = [V.ref p] ∧ (SqL K H p ys ∨ SqT K H p ys) ∧ Q (.int ys.length) H) (tCons ta tNil)) σ H (.int xs.length) := fun Q q => ha _ ⟨p, xs, rfl, .inl (.of hx), q⟩
theorem vl_test {t : TE} {b : Bool} (h : Vl t σ H (.bl b)) {Q : Bool → Hp → Prop} (q : Q b H) : tTest t σ H Q := h _ ⟨b, rfl, q⟩
theorem vl_asg {i : Nat} {Dn : Ends} {t : TS} (ha : Vl ta σ H v) (h : t Dn (σ.set i (some v)) H) : tSeq (tAsg ta (gName i)) t Dn σ H := ha _ h
theorem vl_put {n : Nat} {Dn : Ends} {t : TS} {to ti : TE} (ha : Vl ta σ H v) (ho : Vl to σ H (.ref p)) (hx : H p = some (.lst xs)) (hi : Vl ti σ H (.int i)) (hn : ixN xs.length i = some n) (h : t Dn σ (upd H p (.lst (xs.set n v)))) :
    tSeq (tAsg ta (gSub to ti rSetL)) t Dn σ H := ha _ (ho _ (hi _ ⟨p, xs, i, n, rfl, rfl, hx, hn, h⟩))
end

/-! ### the text -/
def topS (i : Nat) : Stmt := PySem.Challenge.pw_cordfire_k50_whole_ash_that_falls.main.body.getD i (.Pass ⟨0, 0, 0, 0⟩)
abbrev s_is_integer : Stmt := topS 1
theorem sc_is_integer : FnScope ["thing"] ["thing"] (defScope s_is_integer) := ⟨rfl, rfl, rfl, by decide +kernel, rfl, by decide +kernel, by decide +kernel⟩
abbrev s_is_within : Stmt := topS 2
theorem sc_is_within : FnScope ["thing", "least", "most"] ["thing", "least", "most"] (defScope s_is_within) := ⟨rfl, rfl, rfl, by decide +kernel, rfl, by decide +kernel, by decide +kernel⟩
abbrev s_is_tuple_of : Stmt := topS 3
theorem sc_is_tuple_of : FnScope ["thing", "size"] ["thing", "size"] (defScope s_is_tuple_of) := ⟨rfl, rfl, rfl, by decide +kernel, rfl, by decide +kernel, by decide +kernel⟩
abbrev s_check_field : Stmt := topS 18
theorem sc_check_field : FnScope ["field", "one"] ["field"] (defScope s_check_field) := ⟨rfl, rfl, rfl, by decide +kernel, rfl, by decide +kernel, by decide +kernel⟩
abbrev s_is_cell_of : Stmt := topS 19
theorem sc_is_cell_of : FnScope ["field", "thing"] ["field", "thing"] (defScope s_is_cell_of) := ⟨rfl, rfl, rfl, by decide +kernel, rfl, by decide +kernel, by decide +kernel⟩
abbrev s_is_puff : Stmt := topS 20
theorem sc_is_puff : FnScope ["field", "thing"] ["field", "thing"] (defScope s_is_puff) := ⟨rfl, rfl, rfl, by decide +kernel, rfl, by decide +kernel, by decide +kernel⟩
abbrev s_check_only_puffs : Stmt := topS 21
theorem sc_check_only_puffs : FnScope ["field", "puffs", "one"] ["field", "puffs"] (defScope s_check_only_puffs) := ⟨rfl, rfl, rfl, by decide +kernel, rfl, by decide +kernel, by decide +kernel⟩
abbrev s_check_puffs : Stmt := topS 22
theorem sc_check_puffs : FnScope ["field", "puffs"] ["field", "puffs"] (defScope s_check_puffs) := ⟨rfl, rfl, rfl, by decide +kernel, rfl, by decide +kernel, by decide +kernel⟩
abbrev s_check_wind : Stmt := topS 23
theorem sc_check_wind : FnScope ["wind", "one"] ["wind"] (defScope s_check_wind) := ⟨rfl, rfl, rfl, by decide +kernel, rfl, by decide +kernel, by decide +kernel⟩
abbrev s_check_ash : Stmt := topS 24
theorem sc_check_ash : FnScope ["field", "puffs", "wind"] ["field", "puffs", "wind"] (defScope s_check_ash) := ⟨rfl, rfl, rfl, by decide +kernel, rfl, by decide +kernel, by decide +kernel⟩
abbrev s_down_at : Stmt := topS 25
theorem sc_down_at : FnScope ["puff", "wind", "x", "y", "many", "high"] ["puff", "wind"] (defScope s_down_at) := ⟨rfl, rfl, rfl, by decide +kernel, rfl, by decide +kernel, by decide +kernel⟩
abbrev s_raw_fallen : Stmt := topS 26
theorem sc_raw_fallen : FnScope ["field", "puffs", "wind", "found", "puff", "cell"] ["field", "puffs", "wind"] (defScope s_raw_fallen) := ⟨rfl, rfl, rfl, by decide +kernel, rfl, by decide +kernel, by decide +kernel⟩
abbrev s_fallen : Stmt := topS 27
theorem sc_fallen : FnScope ["field", "puffs", "wind"] ["field", "puffs", "wind"] (defScope s_fallen) := ⟨rfl, rfl, rfl, by decide +kernel, rfl, by decide +kernel, by decide +kernel⟩
abbrev s_ash_on : Stmt := topS 28
theorem sc_ash_on : FnScope ["field", "puffs", "wind", "told", "cell"] ["field", "puffs", "wind"] (defScope s_ash_on) := ⟨rfl, rfl, rfl, by decide +kernel, rfl, by decide +kernel, by decide +kernel⟩
abbrev s_lost : Stmt := topS 29
theorem sc_lost : FnScope ["field", "puffs", "wind", "puff"] ["field", "puffs", "wind"] (defScope s_lost) := ⟨rfl, rfl, rfl, by decide +kernel, rfl, by decide +kernel, by decide +kernel⟩
abbrev s_worst_cell : Stmt := topS 30
theorem sc_worst_cell : FnScope ["field", "puffs", "wind", "told", "cell"] ["field", "puffs", "wind"] (defScope s_worst_cell) := ⟨rfl, rfl, rfl, by decide +kernel, rfl, by decide +kernel, by decide +kernel⟩
abbrev s_clean_rows : Stmt := topS 31
theorem sc_clean_rows : FnScope ["field", "puffs", "wind", "rows", "cell", "y"] ["field", "puffs", "wind"] (defScope s_clean_rows) := ⟨rfl, rfl, rfl, by decide +kernel, rfl, by decide +kernel, by decide +kernel⟩
abbrev s_all_winds : Stmt := topS 32
theorem sc_all_winds : FnScope ["found", "x", "y"] [] (defScope s_all_winds) := ⟨rfl, rfl, rfl, by decide +kernel, rfl, by decide +kernel, by decide +kernel⟩
abbrev s_winds_for : Stmt := topS 33
theorem sc_winds_for : FnScope ["field", "puffs", "cell", "wind"] ["field", "puffs", "cell"] (defScope s_winds_for) := ⟨rfl, rfl, rfl, by decide +kernel, rfl, by decide +kernel, by decide +kernel⟩
abbrev s_best_wind : Stmt := topS 34
theorem sc_best_wind : FnScope ["field", "puffs", "wind"] ["field", "puffs"] (defScope s_best_wind) := ⟨rfl, rfl, rfl, by decide +kernel, rfl, by decide +kernel, by decide +kernel⟩
abbrev s_cells_in_turn : Stmt := topS 35
theorem sc_cells_in_turn : FnScope ["field", "found", "y", "row", "x"] ["field"] (defScope s_cells_in_turn) := ⟨rfl, rfl, rfl, by decide +kernel, rfl, by decide +kernel, by decide +kernel⟩
abbrev s_swept : Stmt := topS 36
theorem sc_swept : FnScope ["field", "puffs", "wind", "steps", "told", "cell"] ["field", "puffs", "wind", "steps"] (defScope s_swept) := ⟨rfl, rfl, rfl, by decide +kernel, rfl, by decide +kernel, by decide +kernel⟩
abbrev s_same_fall : Stmt := topS 37
theorem sc_same_fall : FnScope ["field", "one", "other", "wind"] ["field", "one", "other", "wind"] (defScope s_same_fall) := ⟨rfl, rfl, rfl, by decide +kernel, rfl, by decide +kernel, by decide +kernel⟩
abbrev s__law_bag : Stmt := topS 39
theorem sc__law_bag : FnScope ["script", "great", "cell", "seed"] ["script"] (defScope s__law_bag) := ⟨rfl, rfl, rfl, by decide +kernel, rfl, by decide +kernel, by decide +kernel⟩
abbrev s__law_pick : Stmt := topS 40
theorem sc__law_pick : FnScope ["bag", "many", "number"] ["bag", "many"] (defScope s__law_pick) := ⟨rfl, rfl, rfl, by decide +kernel, rfl, by decide +kernel, by decide +kernel⟩
abbrev s__law_some : Stmt := topS 41
theorem sc__law_some : FnScope ["bag", "things"] ["bag", "things"] (defScope s__law_some) := ⟨rfl, rfl, rfl, by decide +kernel, rfl, by decide +kernel, by decide +kernel⟩
abbrev s__law_fallen : Stmt := topS 42
theorem sc__law_fallen : FnScope ["field", "puffs", "wind", "found", "gone", "x", "y", "many", "high", "cell"] ["field", "puffs", "wind"] (defScope s__law_fallen) := ⟨rfl, rfl, rfl, by decide +kernel, rfl, by decide +kernel, by decide +kernel⟩
abbrev s__law_winds : Stmt := topS 43
theorem sc__law_winds : FnScope ["found", "x", "y"] [] (defScope s__law_winds) := ⟨rfl, rfl, rfl, by decide +kernel, rfl, by decide +kernel, by decide +kernel⟩
abbrev s__law_path : Stmt := topS 44
theorem sc__law_path : FnScope ["field", "found", "y", "row", "x"] ["field"] (defScope s__law_path) := ⟨rfl, rfl, rfl, by decide +kernel, rfl, by decide +kernel, by decide +kernel⟩
abbrev s__law_puffs : Stmt := topS 45
theorem sc__law_puffs : FnScope ["bag", "field", "found", "turn", "spot"] ["bag", "field"] (defScope s__law_puffs) := ⟨rfl, rfl, rfl, by decide +kernel, rfl, by decide +kernel, by decide +kernel⟩
abbrev s__law_is_right : Stmt := topS 46
theorem sc__law_is_right : FnScope ["bag", "field", "puffs", "wind", "cells", "gone", "puff", "cell", "worst", "foul", "y", "clean", "one", "some", "steps", "other"] ["bag", "field", "puffs", "wind"] (defScope s__law_is_right) := ⟨rfl, rfl, rfl, by decide +kernel, rfl, by decide +kernel, by decide +kernel⟩
abbrev s_law : Stmt := topS 47
theorem sc_law : FnScope ["script", "bag", "plain_puffs", "lap", "field"] ["script"] (defScope s_law) := ⟨rfl, rfl, rfl, by decide +kernel, rfl, by decide +kernel, by decide +kernel⟩
/-! ### the plain functions -/
def b_is_integer : Ga → M (Ct × Ga) :=
  (retM (andV (callV (consL (getS 0) (consL (cTy "int") nilL)) isaD) (notV (callV (consL (getS 0) (consL (cTy "bool") nilL)) isaD))))
def m_is_integer : List D → M D := fnM 1 1 b_is_integer
def b_is_tuple_of : Ga → M (Ct × Ga) :=
  (retM (andV (callV (consL (getS 0) (consL (cTy "tuple") nilL)) isaD) (bin (callV (consL (getS 0) nilL) len2D) (getS 1) equD)))
def m_is_tuple_of : List D → M D := fnM 2 2 b_is_tuple_of
def b_down_at : Ga → M (Ct × Ga) :=
  (seqM (asgM (getS 0) (bndT 4 (bndCons (bndN 2) (bndCons (bndN 3) (bndCons (bndN 4) (bndCons (bndN 5) bndNil))))))
    (retM (tupV (consL (bin (getS 2) (bin (getS 5) (bin (getS 1) (cI 0) getD') mulU) addD) (consL (bin (getS 3) (bin (getS 5) (bin (getS 1) (cI 1) getD') mulU) addD) nilL)))))
def m_down_at : List D → M D := fnM 2 6 b_down_at
def b_all_winds : Ga → M (Ct × Ga) :=
  (seqM (setM 0 (lstV nilL))
    (seqM (forS (rgM (consL (una (cI 3) negD) (consL (bin (cI 3) (cI 1) addD) nilL))) (bndN 1) (mthM 0 (consL (lcM [2] (rgM (consL (una (cI 3) negD) (consL (bin (cI 3) (cI 1) addD) nilL))) (bndN 2) yesT (tupV (consL (getS 1) (consL (getS 2) nilL)))) nilL) extG dropK'))
    (retM (getO 0))))
def m_all_winds : List D → M D := fnM 0 3 b_all_winds
def b_cells_in_turn : Ga → M (Ct × Ga) :=
  (seqM (setM 1 (lstV nilL))
    (seqM (forS (rgM (consL (bin (getS 0) (cI 1) getD') nilL)) (bndN 2) (seqM (setM 3 (lcM [4] (rgM (consL (bin (getS 0) (cI 0) getD') nilL)) (bndN 4) yesT (tupV (consL (getS 4) (consL (getS 2) nilL)))))
    (mthM 1 (consL (ifV (tst (bin (getS 2) (bin (cI 2) (bin (getS 2) (cI 2) fdivD) mulU) equD)) (getB 3) (una (getB 3) revD)) nilL) extG dropK')))
    (retM (getO 1))))
def m_cells_in_turn : List D → M D := fnM 1 5 b_cells_in_turn
def b__law_bag (sc : Addr) (ns : List Int) : Ga → M (Ct × Ga) :=
  (seqM (setM 1 (lcM [2] (anyM (scrS sc 0 (.lst (cutD (ns.map D.int) none (some 63))))) (bndN 2) (tst (bin (callV (consL (callV (consL (getS 2) nilL) intD) nilL) absD) (bin (cI 10) (cI 18) powD) geD)) (callV (consL (callV (consL (getS 2) nilL) intD) nilL) absD)))
    (seqM (setSM 3 (cI 2250))
    (seqM (forS (anyM (scrS sc 0 (.lst (cutD (ns.map D.int) none (some 63))))) (bndN 2) (setSM 3 (bin (callV (consL (bin (bin (bin (bin (getS 3) (cI 69621) mulU) (bin (callV (consL (callV (consL (getS 2) nilL) intD) nilL) absD) (cI 2) mulU) addD) (callV (consL (bin (callV (consL (getS 2) nilL) intD) (cI 0) ltD) nilL) intD) addD) (cI 17) addD) nilL) intD) (cI 2147483629) modD)))
    (fzM 1 (retM (lstV (consL (getS 1) (consL (getS 3) (consL (scrS sc 0 (.int (ns.length : Nat))) (consL (cI 0) nilL))))))))))
def b__law_fallen : Ga → M (Ct × Ga) :=
  (seqM (parM [3, 4] (consF (dct0 true) (consS (cI 0) nilS)))
    (seqM (forS (anyM (getS 1)) (bndT 4 (bndCons (bndN 5) (bndCons (bndN 6) (bndCons (bndN 7) (bndCons (bndN 8) bndNil))))) (seqM (setSM 9 (tupV (consL (bin (getS 5) (bin (getS 8) (bin (getS 2) (cI 0) getD') mulU) addD) (consL (bin (getS 6) (bin (getS 8) (bin (getS 2) (cI 1) getD') mulU) addD) nilL))))
    (ifM (andT (tst (chn (cI 0) (bin (getS 9) (cI 0) getD') (bin (getS 0) (cI 0) getD') leD ltD)) (tst (chn (cI 0) (bin (getS 9) (cI 1) getD') (bin (getS 0) (cI 1) getD') leD ltD))) (sputM true 3 (getS 9) (bin (get2V (asDct (getB 3)) (getS 9) (cI 0)) (getS 7) addD)) (setSM 4 (bin (getS 4) (getS 7) addD)))))
    (fzM 3 (retM (tupV (consL (getS 3) (consL (getS 4) nilL)))))))
def m__law_fallen : List D → M D := fnM 3 10 b__law_fallen
def b__law_winds : Ga → M (Ct × Ga) :=
  (seqM (setM 0 (lstV nilL))
    (seqM (forS (rgM (consL (una (cI 3) negD) (consL (cI 4) nilL))) (bndN 1) (mthM 0 (consL (lcM [2] (rgM (consL (una (cI 3) negD) (consL (cI 4) nilL))) (bndN 2) yesT (tupV (consL (getS 1) (consL (getS 2) nilL)))) nilL) extG dropK'))
    (retM (getO 0))))
def m__law_winds : List D → M D := fnM 0 3 b__law_winds
def b__law_path : Ga → M (Ct × Ga) :=
  (seqM (setSM 1 (lstV nilL))
    (seqM (forS (rgM (consL (bin (getS 0) (cI 1) getD') nilL)) (bndN 2) (seqM (setM 3 (lcM [4] (rgM (consL (bin (getS 0) (cI 0) getD') nilL)) (bndN 4) yesT (tupV (consL (getS 4) (consL (getS 2) nilL)))))
    (fzM 3 (setSM 1 (bin (getS 1) (ifV (tst (bin (bin (callV (consL (getS 2) nilL) intD) (cI 2) modD) (cI 0) equD)) (getS 3) (una (getB 3) revD)) addD)))))
    (retM (getS 1))))
def m__law_path : List D → M D := fnM 1 5 b__law_path
def b_is_within : Ga → M (Ct × Ga) :=
  (retM (andV (callV (consL (getS 0) nilL) m_is_integer) (chn (getS 1) (getS 0) (getS 2) leD leD)))
def m_is_within : List D → M D := fnM 3 3 b_is_within
def b__law_some (hd : V) : Ga → M (Ct × Ga) :=
  (retM (bin (getS 1) (callV (consL (getS 0) (consL (callV (consL (getS 1) nilL) len2D) nilL)) (m__law_pick hd)) getD'))
def m__law_some (hd : V) : List D → M D := fnM 2 2 (b__law_some hd)
def b__law_puffs (hd : V) : Ga → M (Ct × Ga) :=
  (seqM (setM 2 (lstV nilL))
    (seqM (forS (rgM (consL (callV (consL (getS 0) (consL (cI 7) nilL)) (m__law_pick hd)) nilL)) (bndN 3) (seqM (setSM 4 (tupV (consL (callV (consL (getS 0) (consL (bin (getS 1) (cI 0) getD') nilL)) (m__law_pick hd)) (consL (callV (consL (getS 0) (consL (bin (getS 1) (cI 1) getD') nilL)) (m__law_pick hd)) nilL))))
    (mthM 2 (consL (bin (getS 4) (tupV (consL (bin (cI 1) (callV (consL (getS 0) (consL (cI 20) nilL)) (m__law_pick hd)) addD) (consL (callV (consL (getS 0) (consL (cI 5) nilL)) (m__law_pick hd)) nilL))) addD) nilL) appG dropK')))
    (retM (callV (consL (getB 2) nilL) tupleD))))
def m__law_puffs (hd : V) : List D → M D := fnM 2 5 (b__law_puffs hd)
def b_check_field : Ga → M (Ct × Ga) :=
  (ifM (orT (notT (tst (callV (consL (getS 0) (consL (cI 2) nilL)) m_is_tuple_of))) (notT (tst (callV (consL (lcM [1] (anyM (getS 0)) (bndN 1) yesT (callV (consL (getS 1) (consL (cI 1) (consL (cI 12) nilL))) m_is_within)) nilL) allD)))) (raiseM ("NoField", none)) nextM)
def m_check_field : List D → M D := fnM 1 2 b_check_field
def b_is_cell_of : Ga → M (Ct × Ga) :=
  (seqM (ifM (orT (notT (tst (callV (consL (getS 1) (consL (cI 2) nilL)) m_is_tuple_of))) (notT (tst (callV (consL (bin (getS 1) (cI 0) getD') (consL (cI 0) (consL (bin (bin (getS 0) (cI 0) getD') (cI 1) subD) nilL))) m_is_within)))) (retM (cB false)) nextM)
    (retM (callV (consL (bin (getS 1) (cI 1) getD') (consL (cI 0) (consL (bin (bin (getS 0) (cI 1) getD') (cI 1) subD) nilL))) m_is_within)))
def m_is_cell_of : List D → M D := fnM 2 2 b_is_cell_of
def b_check_wind : Ga → M (Ct × Ga) :=
  (ifM (orT (notT (tst (callV (consL (getS 0) (consL (cI 2) nilL)) m_is_tuple_of))) (notT (tst (callV (consL (lcM [1] (anyM (getS 0)) (bndN 1) yesT (callV (consL (getS 1) (consL (una (cI 3) negD) (consL (cI 3) nilL))) m_is_within)) nilL) allD)))) (raiseM ("NoWind", none)) nextM)
def m_check_wind : List D → M D := fnM 1 2 b_check_wind
def b_is_puff : Ga → M (Ct × Ga) :=
  (seqM (ifM (orT (notT (tst (callV (consL (getS 1) (consL (cI 4) nilL)) m_is_tuple_of))) (notT (tst (callV (consL (getS 0) (consL (slV (getS 1) noO (smO (cI 2))) nilL)) m_is_cell_of)))) (retM (cB false)) nextM)
    (retM (andV (callV (consL (bin (getS 1) (cI 2) getD') (consL (cI 1) (consL (cI 100) nilL))) m_is_within) (callV (consL (bin (getS 1) (cI 3) getD') (consL (cI 0) (consL (cI 10) nilL))) m_is_within))))
def m_is_puff : List D → M D := fnM 2 2 b_is_puff
def b_raw_fallen : Ga → M (Ct × Ga) :=
  (seqM (setM 3 (dct0 true))
    (seqM (forS (anyM (getS 1)) (bndN 4) (seqM (setSM 5 (callV (consL (getS 4) (consL (getS 2) nilL)) m_down_at))
    (ifM (tst (callV (consL (getS 0) (consL (getS 5) nilL)) m_is_cell_of)) (sputM true 3 (getS 5) (bin (get2V (asDct (getB 3)) (getS 5) (cI 0)) (bin (getS 4) (cI 2) getD') addD)) nextM)))
    (retM (getO 3))))
def m_raw_fallen : List D → M D := fnM 3 6 b_raw_fallen
def b_check_only_puffs : Ga → M (Ct × Ga) :=
  (ifM (orT (notT (tst (callV (consL (getS 1) (consL (cTy "tuple") nilL)) isaD))) (orT (tst (bin (callV (consL (getS 1) nilL) len2D) (cI 10) gtD)) (notT (tst (callV (consL (lcM [2] (anyM (getS 1)) (bndN 2) yesT (callV (consL (getS 0) (consL (getS 2) nilL)) m_is_puff)) nilL) allD))))) (raiseM ("NoPuffs", none)) nextM)
def m_check_only_puffs : List D → M D := fnM 2 3 b_check_only_puffs
def b_ash_on : Ga → M (Ct × Ga) :=
  (seqM (setSM 3 (callV (consL (getS 0) (consL (getS 1) (consL (getS 2) nilL))) m_raw_fallen))
    (retM (callV (consL (lcM [4] (anyM (getS 3)) (bndN 4) yesT (bin (getS 3) (getS 4) getD')) nilL) sumD)))
def m_ash_on : List D → M D := fnM 3 5 b_ash_on
def b_check_puffs : Ga → M (Ct × Ga) :=
  (seqM (exprM (callV (consL (getS 0) nilL) m_check_field))
    (exprM (callV (consL (getS 0) (consL (getS 1) nilL)) m_check_only_puffs)))
def m_check_puffs : List D → M D := fnM 2 2 b_check_puffs
def b_check_ash : Ga → M (Ct × Ga) :=
  (seqM (exprM (callV (consL (getS 0) (consL (getS 1) nilL)) m_check_puffs))
    (exprM (callV (consL (getS 2) nilL) m_check_wind)))
def m_check_ash : List D → M D := fnM 3 3 b_check_ash
def b_winds_for : Ga → M (Ct × Ga) :=
  (seqM (exprM (callV (consL (getS 0) (consL (getS 1) nilL)) m_check_puffs))
    (seqM (ifM (notT (tst (callV (consL (getS 0) (consL (getS 2) nilL)) m_is_cell_of))) (raiseM ("NoCell", none)) nextM)
    (retM (callV (consL (lcM [3] (anyM (callV nilL m_all_winds)) (bndN 3) (tst (bin (getS 2) (callV (consL (getS 0) (consL (getS 1) (consL (getS 3) nilL))) m_raw_fallen) hasNotD)) (getS 3)) nilL) tupleD))))
def m_winds_for : List D → M D := fnM 3 4 b_winds_for
def b_best_wind : Ga → M (Ct × Ga) :=
  (seqM (exprM (callV (consL (getS 0) (consL (getS 1) nilL)) m_check_puffs))
    (retM (kb (bin (callV (consL (lcM [2] (anyM (callV nilL m_all_winds)) (bndN 2) yesT (tupV (consL (callV (consL (getS 0) (consL (getS 1) (consL (getS 2) nilL))) m_ash_on) (consL (getS 2) nilL)))) nilL) minD) (cI 1) getD'))))
def m_best_wind : List D → M D := fnM 2 3 b_best_wind
def b_same_fall : Ga → M (Ct × Ga) :=
  (seqM (exprM (callV (consL (getS 0) (consL (getS 1) nilL)) m_check_puffs))
    (seqM (exprM (callV (consL (getS 0) (consL (getS 2) nilL)) m_check_only_puffs))
    (seqM (exprM (callV (consL (getS 3) nilL) m_check_wind))
    (retM (bin (callV (consL (getS 0) (consL (getS 1) (consL (getS 3) nilL))) m_raw_fallen) (callV (consL (getS 0) (consL (getS 2) (consL (getS 3) nilL))) m_raw_fallen) equD)))))
def m_same_fall : List D → M D := fnM 4 4 b_same_fall
def b_fallen : Ga → M (Ct × Ga) :=
  (seqM (exprM (callV (consL (getS 0) (consL (getS 1) (consL (getS 2) nilL))) m_check_ash))
    (retM (callV (consL (getS 0) (consL (getS 1) (consL (getS 2) nilL))) m_raw_fallen)))
def m_fallen : List D → M D := fnM 3 3 b_fallen
def b_lost : Ga → M (Ct × Ga) :=
  (seqM (exprM (callV (consL (getS 0) (consL (getS 1) (consL (getS 2) nilL))) m_check_ash))
    (retM (bin (callV (consL (lcM [3] (anyM (getS 1)) (bndN 3) yesT (bin (getS 3) (cI 2) getD')) nilL) sumD) (callV (consL (getS 0) (consL (getS 1) (consL (getS 2) nilL))) m_ash_on) subD)))
def m_lost : List D → M D := fnM 3 4 b_lost
def b_worst_cell : Ga → M (Ct × Ga) :=
  (seqM (exprM (callV (consL (getS 0) (consL (getS 1) (consL (getS 2) nilL))) m_check_ash))
    (seqM (setSM 3 (callV (consL (getS 0) (consL (getS 1) (consL (getS 2) nilL))) m_raw_fallen))
    (retM (ifV (tst (bin (callV (consL (getS 3) nilL) len2D) (cI 0) gtD)) (kb (bin (callV (consL (lcM [4] (anyM (getS 3)) (bndN 4) yesT (tupV (consL (una (bin (getS 3) (getS 4) getD') negD) (consL (getS 4) nilL)))) nilL) minD) (cI 1) getD')) cN))))
def m_worst_cell : List D → M D := fnM 3 5 b_worst_cell
def b_clean_rows : Ga → M (Ct × Ga) :=
  (seqM (exprM (callV (consL (getS 0) (consL (getS 1) (consL (getS 2) nilL))) m_check_ash))
    (seqM (setM 3 (dcM [4] (anyM (callV (consL (getS 0) (consL (getS 1) (consL (getS 2) nilL))) m_raw_fallen)) (bndN 4) yesT (bin (getS 4) (cI 1) getD') (cB true)))
    (retM (callV (consL (lcM [5] (rgM (consL (bin (getS 0) (cI 1) getD') nilL)) (bndN 5) (tst (bin (getS 5) (getB 3) hasNotD)) (getS 5)) nilL) tupleD))))
def m_clean_rows : List D → M D := fnM 3 6 b_clean_rows
def b_swept : Ga → M (Ct × Ga) :=
  (seqM (exprM (callV (consL (getS 0) (consL (getS 1) (consL (getS 2) nilL))) m_check_ash))
    (seqM (ifM (notT (tst (callV (consL (getS 3) (consL (cI 0) (consL (cI 144) nilL))) m_is_within))) (raiseM ("NoSteps", none)) nextM)
    (seqM (setSM 4 (callV (consL (getS 0) (consL (getS 1) (consL (getS 2) nilL))) m_raw_fallen))
    (retM (callV (consL (lcM [5] (anyM (slV (callV (consL (getS 0) nilL) m_cells_in_turn) noO (smO (getS 3)))) (bndN 5) yesT (get2V (asDct (getS 4)) (getS 5) (cI 0))) nilL) sumD)))))
def m_swept : List D → M D := fnM 4 6 b_swept
def b__law_is_right (hd : V) : Ga → M (Ct × Ga) :=
  (seqM (asgM (callV (consL (getS 1) (consL (getS 2) (consL (getS 3) nilL))) m__law_fallen) (bndT 2 (bndCons (bndN 4) (bndCons (bndN 5) bndNil))))
    (seqM (ifM (orT (tst (bin (callV (consL (getS 1) (consL (getS 2) (consL (getS 3) nilL))) m_fallen) (getS 4) neuD)) (tst (bin (callV (consL (getS 1) (consL (getS 2) (consL (getS 3) nilL))) m_lost) (getS 5) neuD))) (retM (cB false)) nextM)
    (seqM (ifM (tst (bin (bin (callV (consL (lcM [7] (anyM (getS 4)) (bndN 7) yesT (bin (getS 4) (getS 7) getD')) nilL) sumD) (getS 5) addD) (callV (consL (lcM [6] (anyM (getS 2)) (bndN 6) yesT (bin (getS 6) (cI 2) getD')) nilL) sumD) neuD)) (retM (cB false)) nextM)
    (seqM (setSM 8 (ifV (tst (bin (getS 4) (dct0 true) neuD)) (bin (callV (consL (lcM [7] (anyM (getS 4)) (bndN 7) yesT (tupV (consL (bin (cI 0) (bin (getS 4) (getS 7) getD') subD) (consL (getS 7) nilL)))) nilL) minD) (cI 1) getD') cN))
    (seqM (ifM (tst (bin (callV (consL (getS 1) (consL (getS 2) (consL (getS 3) nilL))) m_worst_cell) (getS 8) neuD)) (retM (cB false)) nextM)
    (seqM (setM 9 (lcM [7] (anyM (getS 4)) (bndN 7) yesT (bin (getS 7) (cI 1) getD')))
    (seqM (ifM (tst (bin (callV (consL (getS 1) (consL (getS 2) (consL (getS 3) nilL))) m_clean_rows) (callV (consL (lcM [10] (rgM (consL (bin (getS 1) (cI 1) getD') nilL)) (bndN 10) (tst (bin (getS 10) (getB 9) hasNotD)) (getS 10)) nilL) tupleD) neuD)) (retM (cB false)) nextM)
    (seqM (setSM 7 (tupV (consL (callV (consL (getS 0) (consL (bin (getS 1) (cI 0) getD') nilL)) (m__law_pick hd)) (consL (callV (consL (getS 0) (consL (bin (getS 1) (cI 1) getD') nilL)) (m__law_pick hd)) nilL))))
    (seqM (setM 11 (lcM [12] (anyM (callV nilL m__law_winds)) (bndN 12) (tst (bin (getS 7) (bin (callV (consL (getS 1) (consL (getS 2) (consL (getS 12) nilL))) m__law_fallen) (cI 0) getD') hasNotD)) (getS 12)))
    (seqM (ifM (tst (bin (callV (consL (getS 1) (consL (getS 2) (consL (getS 7) nilL))) m_winds_for) (callV (consL (getB 11) nilL) tupleD) neuD)) (retM (cB false)) nextM)
    (seqM (setM 13 (lcM [12] (anyM (callV nilL m__law_winds)) (bndN 12) yesT (tupV (consL (bin (cI 0) (bin (callV (consL (getS 1) (consL (getS 2) (consL (getS 12) nilL))) m__law_fallen) (cI 1) getD') subD) (consL (getS 12) nilL)))))
    (seqM (ifM (tst (bin (callV (consL (getS 1) (consL (getS 2) nilL)) m_best_wind) (bin (callV (consL (getB 13) nilL) minD) (cI 1) getD') neuD)) (retM (cB false)) nextM)
    (seqM (setSM 14 (callV (consL (getS 0) (consL (cI 60) nilL)) (m__law_pick hd)))
    (seqM (ifM (tst (bin (callV (consL (getS 1) (consL (getS 2) (consL (getS 3) (consL (getS 14) nilL)))) m_swept) (callV (consL (lcM [12] (anyM (slV (callV (consL (getS 1) nilL) m__law_path) noO (smO (getS 14)))) (bndN 12) yesT (get2V (asDct (getS 4)) (getS 12) (cI 0))) nilL) sumD) neuD)) (retM (cB false)) nextM)
    (seqM (setSM 15 (callV (consL (getS 0) (consL (lstV (consL (una (getS 2) revD) (consL (callV (consL (getS 0) (consL (getS 1) nilL)) (m__law_puffs hd)) (consL (getS 2) nilL)))) nilL)) (m__law_some hd)))
    (retM (bin (callV (consL (callV (consL (getS 1) (consL (getS 2) (consL (getS 15) (consL (getS 3) nilL)))) m_same_fall) nilL) reprD) (callV (consL (bin (bin (callV (consL (getS 1) (consL (getS 15) (consL (getS 3) nilL))) m__law_fallen) (cI 0) getD') (getS 4) equD) nilL) reprD) equD)))))))))))))))))
def m__law_is_right (hd : V) : List D → M D := fnM 4 16 (b__law_is_right hd)
def b_law (hd : V) : Ga → M (Ct × Ga) :=
  (seqM (setSM 2 (tupV (consL (tupV (consL (cI 1) (consL (cI 0) (consL (cI 5) (consL (cI 2) nilL))))) (consL (tupV (consL (cI 0) (consL (cI 1) (consL (cI 3) (consL (cI 0) nilL))))) nilL))))
    (seqM (ifM (orT (tst (bin (callV (consL (tupV (consL (cI 4) (consL (cI 2) nilL))) (consL (getS 2) (consL (tupV (consL (cI 1) (consL (cI 0) nilL))) nilL))) m_fallen) (dispT [((tupV (consL (cI 3) (consL (cI 0) nilL))), (cI 5)), ((tupV (consL (cI 0) (consL (cI 1) nilL))), (cI 3))]) neuD)) (tst (bin (callV (consL (tupV (consL (cI 4) (consL (cI 2) nilL))) (consL (getS 2) (consL (tupV (consL (cI 2) (consL (cI 0) nilL))) nilL))) m_lost) (cI 5) neuD))) (retM (cB false)) nextM)
    (seqM (ifM (orT (tst (bin (callV (consL (tupV (consL (cI 4) (consL (cI 2) nilL))) (consL (getS 2) (consL (tupV (consL (cI 1) (consL (cI 0) nilL))) (consL (cI 4) nilL)))) m_swept) (cI 5) neuD)) (tst (bin (callV (consL (tupV (consL (cI 4) (consL (cI 2) nilL))) (consL (getS 2) (consL (tupV (consL (cI 1) (consL (cI 0) nilL))) nilL))) m_worst_cell) (tupV (consL (cI 3) (consL (cI 0) nilL))) neuD))) (retM (cB false)) nextM)
    (seqM (forS (rgM (consL (cI 5) nilL)) (bndN 3) (seqM (setSM 4 (tupV (consL (bin (cI 1) (callV (consL (getS 1) (consL (cI 7) nilL)) (m__law_pick hd)) addD) (consL (bin (cI 1) (callV (consL (getS 1) (consL (cI 7) nilL)) (m__law_pick hd)) addD) nilL))))
    (ifM (notT (tst (callV (consL (getS 1) (consL (getS 4) (consL (callV (consL (getS 1) (consL (getS 4) nilL)) (m__law_puffs hd)) (consL (callV (consL (getS 1) (consL (callV nilL m__law_winds) nilL)) (m__law_some hd)) nilL)))) (m__law_is_right hd)))) (retM (cB false)) nextM)))
    (retM (cB true))))))
/-! ### what the top has written -/
structure TX (P : Program) (w : World) (K : PySem.W.Frag) (mg : Str → Option Value) where
  a_is_integer : Addr
  d_is_integer : FuncData
  F_is_integer : Fun K "is_integer" "is_integer" s_is_integer a_is_integer d_is_integer
  B_is_integer : Binds K d_is_integer ["thing"] []
  g_is_integer : mg "is_integer" = some (.ref a_is_integer)
  a_is_within : Addr
  d_is_within : FuncData
  F_is_within : Fun K "is_within" "is_within" s_is_within a_is_within d_is_within
  B_is_within : Binds K d_is_within ["thing", "least", "most"] []
  g_is_within : mg "is_within" = some (.ref a_is_within)
  a_is_tuple_of : Addr
  d_is_tuple_of : FuncData
  F_is_tuple_of : Fun K "is_tuple_of" "is_tuple_of" s_is_tuple_of a_is_tuple_of d_is_tuple_of
  B_is_tuple_of : Binds K d_is_tuple_of ["thing", "size"] []
  g_is_tuple_of : mg "is_tuple_of" = some (.ref a_is_tuple_of)
  a_check_field : Addr
  d_check_field : FuncData
  F_check_field : Fun K "check_field" "check_field" s_check_field a_check_field d_check_field
  B_check_field : Binds K d_check_field ["field"] []
  g_check_field : mg "check_field" = some (.ref a_check_field)
  a_is_cell_of : Addr
  d_is_cell_of : FuncData
  F_is_cell_of : Fun K "is_cell_of" "is_cell_of" s_is_cell_of a_is_cell_of d_is_cell_of
  B_is_cell_of : Binds K d_is_cell_of ["field", "thing"] []
  g_is_cell_of : mg "is_cell_of" = some (.ref a_is_cell_of)
  a_is_puff : Addr
  d_is_puff : FuncData
  F_is_puff : Fun K "is_puff" "is_puff" s_is_puff a_is_puff d_is_puff
  B_is_puff : Binds K d_is_puff ["field", "thing"] []
  g_is_puff : mg "is_puff" = some (.ref a_is_puff)
  a_check_only_puffs : Addr
  d_check_only_puffs : FuncData
  F_check_only_puffs : Fun K "check_only_puffs" "check_only_puffs" s_check_only_puffs a_check_only_puffs d_check_only_puffs
  B_check_only_puffs : Binds K d_check_only_puffs ["field", "puffs"] []
  g_check_only_puffs : mg "check_only_puffs" = some (.ref a_check_only_puffs)
  a_check_puffs : Addr
  d_check_puffs : FuncData
  F_check_puffs : Fun K "check_puffs" "check_puffs" s_check_puffs a_check_puffs d_check_puffs
  B_check_puffs : Binds K d_check_puffs ["field", "puffs"] []
  g_check_puffs : mg "check_puffs" = some (.ref a_check_puffs)
  a_check_wind : Addr
  d_check_wind : FuncData
  F_check_wind : Fun K "check_wind" "check_wind" s_check_wind a_check_wind d_check_wind
  B_check_wind : Binds K d_check_wind ["wind"] []
  g_check_wind : mg "check_wind" = some (.ref a_check_wind)
  a_check_ash : Addr
  d_check_ash : FuncData
  F_check_ash : Fun K "check_ash" "check_ash" s_check_ash a_check_ash d_check_ash
  B_check_ash : Binds K d_check_ash ["field", "puffs", "wind"] []
  g_check_ash : mg "check_ash" = some (.ref a_check_ash)
  a_down_at : Addr
  d_down_at : FuncData
  F_down_at : Fun K "down_at" "down_at" s_down_at a_down_at d_down_at
  B_down_at : Binds K d_down_at ["puff", "wind"] []
  g_down_at : mg "down_at" = some (.ref a_down_at)
  a_raw_fallen : Addr
  d_raw_fallen : FuncData
  F_raw_fallen : Fun K "raw_fallen" "raw_fallen" s_raw_fallen a_raw_fallen d_raw_fallen
  B_raw_fallen : Binds K d_raw_fallen ["field", "puffs", "wind"] []
  g_raw_fallen : mg "raw_fallen" = some (.ref a_raw_fallen)
  a_fallen : Addr
  d_fallen : FuncData
  F_fallen : Fun K "fallen" "fallen" s_fallen a_fallen d_fallen
  B_fallen : Binds K d_fallen ["field", "puffs", "wind"] []
  g_fallen : mg "fallen" = some (.ref a_fallen)
  a_ash_on : Addr
  d_ash_on : FuncData
  F_ash_on : Fun K "ash_on" "ash_on" s_ash_on a_ash_on d_ash_on
  B_ash_on : Binds K d_ash_on ["field", "puffs", "wind"] []
  g_ash_on : mg "ash_on" = some (.ref a_ash_on)
  a_lost : Addr
  d_lost : FuncData
  F_lost : Fun K "lost" "lost" s_lost a_lost d_lost
  B_lost : Binds K d_lost ["field", "puffs", "wind"] []
  g_lost : mg "lost" = some (.ref a_lost)
  a_worst_cell : Addr
  d_worst_cell : FuncData
  F_worst_cell : Fun K "worst_cell" "worst_cell" s_worst_cell a_worst_cell d_worst_cell
  B_worst_cell : Binds K d_worst_cell ["field", "puffs", "wind"] []
  g_worst_cell : mg "worst_cell" = some (.ref a_worst_cell)
  a_clean_rows : Addr
  d_clean_rows : FuncData
  F_clean_rows : Fun K "clean_rows" "clean_rows" s_clean_rows a_clean_rows d_clean_rows
  B_clean_rows : Binds K d_clean_rows ["field", "puffs", "wind"] []
  g_clean_rows : mg "clean_rows" = some (.ref a_clean_rows)
  a_all_winds : Addr
  d_all_winds : FuncData
  F_all_winds : Fun K "all_winds" "all_winds" s_all_winds a_all_winds d_all_winds
  B_all_winds : Binds K d_all_winds [] []
  g_all_winds : mg "all_winds" = some (.ref a_all_winds)
  a_winds_for : Addr
  d_winds_for : FuncData
  F_winds_for : Fun K "winds_for" "winds_for" s_winds_for a_winds_for d_winds_for
  B_winds_for : Binds K d_winds_for ["field", "puffs", "cell"] []
  g_winds_for : mg "winds_for" = some (.ref a_winds_for)
  a_best_wind : Addr
  d_best_wind : FuncData
  F_best_wind : Fun K "best_wind" "best_wind" s_best_wind a_best_wind d_best_wind
  B_best_wind : Binds K d_best_wind ["field", "puffs"] []
  g_best_wind : mg "best_wind" = some (.ref a_best_wind)
  a_cells_in_turn : Addr
  d_cells_in_turn : FuncData
  F_cells_in_turn : Fun K "cells_in_turn" "cells_in_turn" s_cells_in_turn a_cells_in_turn d_cells_in_turn
  B_cells_in_turn : Binds K d_cells_in_turn ["field"] []
  g_cells_in_turn : mg "cells_in_turn" = some (.ref a_cells_in_turn)
  a_swept : Addr
  d_swept : FuncData
  F_swept : Fun K "swept" "swept" s_swept a_swept d_swept
  B_swept : Binds K d_swept ["field", "puffs", "wind", "steps"] []
  g_swept : mg "swept" = some (.ref a_swept)
  a_same_fall : Addr
  d_same_fall : FuncData
  F_same_fall : Fun K "same_fall" "same_fall" s_same_fall a_same_fall d_same_fall
  B_same_fall : Binds K d_same_fall ["field", "one", "other", "wind"] []
  g_same_fall : mg "same_fall" = some (.ref a_same_fall)
  a__law_bag : Addr
  d__law_bag : FuncData
  F__law_bag : Fun K "_law_bag" "_law_bag" s__law_bag a__law_bag d__law_bag
  B__law_bag : Binds K d__law_bag ["script"] []
  g__law_bag : mg "_law_bag" = some (.ref a__law_bag)
  a__law_pick : Addr
  d__law_pick : FuncData
  F__law_pick : Fun K "_law_pick" "_law_pick" s__law_pick a__law_pick d__law_pick
  B__law_pick : Binds K d__law_pick ["bag", "many"] []
  g__law_pick : mg "_law_pick" = some (.ref a__law_pick)
  a__law_some : Addr
  d__law_some : FuncData
  F__law_some : Fun K "_law_some" "_law_some" s__law_some a__law_some d__law_some
  B__law_some : Binds K d__law_some ["bag", "things"] []
  g__law_some : mg "_law_some" = some (.ref a__law_some)
  a__law_fallen : Addr
  d__law_fallen : FuncData
  F__law_fallen : Fun K "_law_fallen" "_law_fallen" s__law_fallen a__law_fallen d__law_fallen
  B__law_fallen : Binds K d__law_fallen ["field", "puffs", "wind"] []
  g__law_fallen : mg "_law_fallen" = some (.ref a__law_fallen)
  a__law_winds : Addr
  d__law_winds : FuncData
  F__law_winds : Fun K "_law_winds" "_law_winds" s__law_winds a__law_winds d__law_winds
  B__law_winds : Binds K d__law_winds [] []
  g__law_winds : mg "_law_winds" = some (.ref a__law_winds)
  a__law_path : Addr
  d__law_path : FuncData
  F__law_path : Fun K "_law_path" "_law_path" s__law_path a__law_path d__law_path
  B__law_path : Binds K d__law_path ["field"] []
  g__law_path : mg "_law_path" = some (.ref a__law_path)
  a__law_puffs : Addr
  d__law_puffs : FuncData
  F__law_puffs : Fun K "_law_puffs" "_law_puffs" s__law_puffs a__law_puffs d__law_puffs
  B__law_puffs : Binds K d__law_puffs ["bag", "field"] []
  g__law_puffs : mg "_law_puffs" = some (.ref a__law_puffs)
  a__law_is_right : Addr
  d__law_is_right : FuncData
  F__law_is_right : Fun K "_law_is_right" "_law_is_right" s__law_is_right a__law_is_right d__law_is_right
  B__law_is_right : Binds K d__law_is_right ["bag", "field", "puffs", "wind"] []
  g__law_is_right : mg "_law_is_right" = some (.ref a__law_is_right)
  a_law : Addr
  d_law : FuncData
  F_law : Fun K "law" "law" s_law a_law d_law
  B_law : Binds K d_law ["script"] []
  g_law : mg "law" = some (.ref a_law)
  n_abs : mg "abs" = none
  n_all : mg "all" = none
  n_bool : mg "bool" = none
  n_int : mg "int" = none
  n_isinstance : mg "isinstance" = none
  n_len : mg "len" = none
  n_min : mg "min" = none
  n_range : mg "range" = none
  n_repr : mg "repr" = none
  n_sum : mg "sum" = none
  n_tuple : mg "tuple" = none
  t_MOST_ASH : Tok
  c_MOST_ASH : mg "MOST_ASH" = some (.int 100 t_MOST_ASH)
  t_MOST_HIGH : Tok
  c_MOST_HIGH : mg "MOST_HIGH" = some (.int 10 t_MOST_HIGH)
  t_MOST_PUFFS : Tok
  c_MOST_PUFFS : mg "MOST_PUFFS" = some (.int 10 t_MOST_PUFFS)
  t_MOST_SIDE : Tok
  c_MOST_SIDE : mg "MOST_SIDE" = some (.int 12 t_MOST_SIDE)
  t_MOST_SWEPT : Tok
  c_MOST_SWEPT : mg "MOST_SWEPT" = some (.int 144 t_MOST_SWEPT)
  t_MOST_WIND : Tok
  c_MOST_WIND : mg "MOST_WIND" = some (.int 3 t_MOST_WIND)
  y_NoCell : Addr
  x_NoCell : ExCls K mg "NoCell" y_NoCell
  y_NoField : Addr
  x_NoField : ExCls K mg "NoField" y_NoField
  y_NoPuffs : Addr
  x_NoPuffs : ExCls K mg "NoPuffs" y_NoPuffs
  y_NoSteps : Addr
  x_NoSteps : ExCls K mg "NoSteps" y_NoSteps
  y_NoWind : Addr
  x_NoWind : ExCls K mg "NoWind" y_NoWind
section
variable {P : Program} {w : World} {K : PySem.W.Frag} {mg : Str → Option Value}

theorem ok__law_pick (T : TX P w K mg) (base : Heap) (a g : Addr) (k : Nat) : FnG P w K mg base (L2.CX P w) (k + 1) T.a__law_pick T.d__law_pick ["bag", "many"] (spM K0 mg (ghBag a g) .f (m__law_pick (.ref a))) := by
  refine okXG T.F__law_pick sc__law_pick (fun vs H Q E h => ?_) fun cdv A outer s H vs Q E hr gd hsp => ?_
  · obtain ⟨P0, ds, _, _, _, r, h⟩ := h
    unfold m__law_pick at h
    split at h
    · exact r.length
    · exact h.elim
  obtain ⟨P0, ds, zp, mu, gG, r, h⟩ := hsp
  unfold m__law_pick at h
  split at h
  case h_2 => exact h.elim
  rename_i v m
  split at h
  case isFalse => exact h.elim
  rename_i c
  obtain ⟨rfl, m0, m1⟩ := c
  obtain ⟨w1, rfl, rb⟩ : ∃ w1, vs = [.ref a, .int m] ∧ True := by
    cases r with
    | cons r1 r2 =>
      cases r2 with
      | cons r3 r4 =>
        cases r4
        cases r1
        cases r3
        exact ⟨0, rfl, trivial⟩
  have fin : ∀ (i : Int) (H' : Hp), 0 ≤ i → i < m → Kx (ghBag a g).Z H H' → BagOk a g H' → Q (.int i) H' := fun i H' h0 h1 kx gG' => by
    have := h i.toNat (by omega) (.int i) H' kx gG' (by
      show Rp K0 H' P0 (.int i) (.int (i.toNat : Int))
      rw [Int.toNat_of_nonneg h0]
      exact .int i)
    exact this
  obtain ⟨ns, seed, len, cnt, ha, hg, hne, hns, s0, s1, c0⟩ := gG
  let bag := fun (n : Int) => (n : Int)
  refine ⟨_, pss_cons (ps_if (pt_cmpR op_eq (pe_ix ix_list (pv 0) pe_int (fun _ _ => rfl)) pe_int (nomark _)) (pss_one (ps_ret pe_int)) pss_nil)
    (pss_cons (ps_if (pt_cmpR op_gt (pe_callB call_len_seq (by rfl) T.n_len bt_len (pa_cons (pe_ix ix_list (pv 0) pe_int (fun _ _ => rfl)) pa_nil)) pe_int (nomark _))
      (pss_cons (ps_set (i := 2) sc__law_pick.nd rfl (.inl rfl) (pe_ix ix_list (pe_ix ix_list (pv 0) pe_int (fun _ _ => rfl)) pe_int (fun _ _ => rfl)))
        (pss_cons (ps_asg (pe_op op_fdiv (pv 2) (pv 1)) (pg_sub (pe_ix ix_list (pv 0) pe_int (fun _ _ => rfl)) pe_int set_list))
          (pss_cons (ps_if (pt_cmpR op_lt (pv 2) (pv 1) (nomark _)) (pss_one (ps_expr (pe_bm PySem.F.plainAttrs_list PySem.F.slot_list_pop PySem.F.type_list_pop mt_popAt (pe_ix ix_list (pv 0) pe_int (fun _ _ => rfl)) (pa_cons pe_int pa_nil)))) pss_nil)
            (pss_one (ps_ret (pe_op op_mod (pe_callTy call_int1 (by rfl) T.n_int bt_int (pa_cons (pv 2) pa_nil)) (pv 1))))))) pss_nil)
    (pss_cons (ps_asg (pe_op op_add (pe_ix ix_list (pv 0) pe_int (fun _ _ => rfl)) pe_int) (pg_sub (pv 0) pe_int set_list))
    (pss_cons (ps_set (i := 2) sc__law_pick.nd rfl (.inl rfl) (pe_op op_mod (pe_callTy call_int1 (by rfl) T.n_int bt_int (pa_cons (pe_op op_add (pe_op op_mul (pe_op op_add (pe_ix ix_list (pv 0) pe_int (fun _ _ => rfl)) (pe_op op_mul pe_int (pe_ix ix_list (pv 0) pe_int (fun _ _ => rfl)))) pe_int) pe_int) pa_nil)) pe_int))
    (pss_cons (ps_set (i := 2) sc__law_pick.nd rfl (.inl rfl) (pe_op op_mod (pe_callTy call_int1 (by rfl) T.n_int bt_int (pa_cons (pe_op op_add (pe_op op_mul (pv 2) (pe_op op_add (pe_op op_fdiv (pv 2) pe_int) pe_int)) (pe_ix ix_list (pv 0) pe_int (fun _ _ => rfl))) pa_nil)) pe_int))
    (pss_cons (ps_asg (pe_op op_mod (pe_callTy call_int1 (by rfl) T.n_int bt_int (pa_cons (pe_op op_add (pe_ix ix_list (pv 0) pe_int (fun _ _ => rfl)) (pv 2)) pa_nil)) pe_int) (pg_sub (pv 0) pe_int set_list))
    (pss_one (ps_ret (pe_op op_mod (pe_callTy call_int1 (by rfl) T.n_int bt_int (pa_cons (pe_op op_fdiv (pv 2) pe_int) pa_nil)) (pv 1))))))))), ?_⟩
  have ok0 : BagOk a g H := ⟨ns, seed, len, cnt, ha, hg, hne, hns, s0, s1, c0⟩
  -- bag[2] == 0
  refine vl_test (vl_eq (vl_ix (vl_var rfl) ha vl_c rfl) vl_c) ?_
  by_cases hl : len = 0
  · rw [if_pos (decide_eq_true hl)]
    exact fin 0 H (Int.le_refl _) m0 .refl ok0
  rw [if_neg (fun z => hl (of_decide_eq_true z))]
  show tSeq _ _ _ _ _
  -- len(bag[0]) > 0
  refine vl_test (vl_gt (vl_len (vl_ix (vl_var rfl) ha vl_c rfl) hg) vl_c) ?_
  by_cases hn : (0 : Int) < ((ns.map V.int).length : Nat)
  · rw [if_pos (decide_eq_true hn)]
    cases ns with
    | nil => exact absurd hn (by decide)
    | cons n r =>
      have n0 : 0 ≤ n := hns n List.mem_cons_self
      refine vl_asg (v := .int n) (vl_ix (vl_ix (vl_var rfl) ha vl_c rfl) hg vl_c (atI_nat (j := 0) rfl)) ?_
      refine vl_put (v := .int (n / m)) (n := 0) (vl_fdiv (vl_var rfl) (vl_var rfl) ⟨m0, m1⟩) (vl_ix (vl_var rfl) ha vl_c rfl) hg vl_c (by unfold ixN; simp) ?_
      have ha' : upd H g (.lst (((n :: r).map V.int).set 0 (.int (n / m)))) a = some (.lst [.ref g, .int seed, .int len, .int cnt]) := by rw [upd_ne hne]; exact ha
      have q0 : 0 ≤ n / m := Int.ediv_nonneg n0 (by omega)
      have kx1 : Kx (ghBag a g).Z H (upd H g (.lst (((n :: r).map V.int).set 0 (.int (n / m))))) := fun b o nz e => by
        rw [upd_ne fun z => nz (.inr z)]; exact e
      refine vl_test (vl_lt (vl_var rfl) (vl_var rfl)) ?_
      by_cases hlt : n < m
      · rw [if_pos (decide_eq_true hlt)]
        have hg' : upd H g (.lst (((n :: r).map V.int).set 0 (.int (n / m)))) g = some (.lst (((n / m) :: r).map V.int)) := upd_same
        refine vl_ix (v := .ref g) (K := K) (vl_var rfl) ha' vl_c rfl _ ⟨.inl ⟨rfl, _, SqL.of hg'⟩, ⟨g, _, 0, 0, .int (n / m), rfl, rfl, hg', by decide, by decide, by unfold seqIndex?; simp, rfl, ?_⟩⟩
        rw [upd_upd]
        refine vl_mod (vl_int (vl_var rfl)) (vl_var rfl) m0 _ ?_
        refine fin (n % m) _ (Int.emod_nonneg _ (by omega)) (Int.emod_lt_of_pos _ m0) (fun b o nz e => by
          rw [upd_ne fun z => nz (.inr z)]; exact e) ⟨r, seed, len, cnt, by rw [upd_ne hne]; exact ha, upd_same, hne, fun x hx => hns x (List.mem_cons_of_mem _ hx), s0, s1, c0⟩
      · rw [if_neg (fun z => hlt (of_decide_eq_true z))]
        refine vl_mod (vl_int (vl_var rfl)) (vl_var rfl) m0 _ ?_
        exact fin (n % m) _ (Int.emod_nonneg _ (by omega)) (Int.emod_lt_of_pos _ m0) kx1 ⟨(n / m) :: r, seed, len, cnt, ha', upd_same, hne, fun x hx => by
          rcases List.mem_cons.mp hx with e | hx
          · rw [e]; exact q0
          · exact hns x (List.mem_cons_of_mem _ hx), s0, s1, c0⟩
  rw [if_neg (fun z => hn (of_decide_eq_true z))]
  show tSeq _ _ _ _ _
  have mod_b : ∀ (x q : Int), 0 < q → 0 ≤ x % q ∧ x % q < q := fun x q hq => ⟨Int.emod_nonneg _ (by omega), Int.emod_lt_of_pos _ hq⟩
  refine vl_put (v := .int (cnt + 1)) (n := 3) (vl_add (vl_ix (vl_var rfl) ha vl_c rfl) vl_c) (vl_var rfl) ha vl_c rfl ?_
  have ha1 : upd H a (.lst ([V.ref g, .int seed, .int len, .int cnt].set 3 (.int (cnt + 1)))) a = some (.lst [.ref g, .int seed, .int len, .int (cnt + 1)]) := upd_same
  refine vl_asg (vl_mod (vl_int (vl_add (vl_mul (vl_add (vl_ix (vl_var rfl) ha1 vl_c rfl) (vl_mul vl_c (vl_ix (vl_var rfl) ha1 vl_c rfl) (.inl (by decide)))) vl_c (.inr (by decide))) vl_c)) vl_c (by decide)) ?_
  generalize hN : ((seed + 7919 * (cnt + 1)) * 48271 + 11) % 2147483647 = N
  have bN : 0 ≤ N ∧ N < 2147483647 := hN ▸ mod_b _ _ (by decide)
  refine vl_asg (vl_mod (vl_int (vl_add (vl_mul (vl_var rfl) (vl_add (vl_fdiv (vl_var rfl) vl_c (by decide)) vl_c) (.inl (by omega))) (vl_ix (vl_var rfl) ha1 vl_c rfl))) vl_c (by decide)) ?_
  generalize hM : (N * (N / 1009 + 69621) + (cnt + 1)) % 2147483399 = N2
  have bM : 0 ≤ N2 ∧ N2 < 2147483399 := hM ▸ mod_b _ _ (by decide)
  refine vl_put (n := 1) (vl_mod (vl_int (vl_add (vl_ix (vl_var rfl) ha1 vl_c rfl) (vl_var rfl))) vl_c (by decide)) (vl_var rfl) ha1 vl_c rfl ?_
  refine vl_mod (vl_int (vl_fdiv (vl_var rfl) vl_c (by decide))) (vl_var rfl) m0 _ ?_
  have b3 := mod_b (seed + N2) 2147483629 (by decide)
  refine fin _ _ (Int.emod_nonneg _ (by omega)) (Int.emod_lt_of_pos _ m0) (fun b o nz e => ?_) ⟨ns, (seed + N2) % 2147483629, len, cnt + 1, ?_, ?_, hne, hns, b3.1, b3.2, by omega⟩
  · rw [upd_ne fun z => nz (.inl z), upd_ne fun z => nz (.inl z)]; exact e
  · exact upd_same
  · rw [upd_ne (Ne.symm hne), upd_ne (Ne.symm hne)]; exact hg

theorem ok_is_integer (T : TX P w K mg) (base : Heap) (a g : Addr) (k : Nat) : FnG P w K mg base (L2.CX P w) (k + 1) T.a_is_integer T.d_is_integer ["thing"] (spM K0 mg (ghBag a g) .f m_is_integer) :=
  fn_ok (.inl rfl) T.F_is_integer sc_is_integer k0_le fun cdv A' outer s H E P0 g0 zp p0 B =>
    (psv_one (psv_ret (.inl rfl) (pev_and (e_bi T.n_isinstance bt_isinstance (c_isa B) tame_isa (pav_cons (b_s (vS 0)) (pav_cons (e_cls T.n_int bt_int) pav_nil))) (pev_one (pev_not (e_bi T.n_isinstance bt_isinstance (c_isa B) tame_isa (pav_cons (b_s (vS 0)) (pav_cons (e_cls T.n_bool bt_bool) pav_nil))))))))
theorem ok_is_tuple_of (T : TX P w K mg) (base : Heap) (a g : Addr) (k : Nat) : FnG P w K mg base (L2.CX P w) (k + 1) T.a_is_tuple_of T.d_is_tuple_of ["thing", "size"] (spM K0 mg (ghBag a g) .f m_is_tuple_of) :=
  fn_ok (.inl rfl) T.F_is_tuple_of sc_is_tuple_of k0_le fun cdv A' outer s H E P0 g0 zp p0 B =>
    (psv_one (psv_ret (.inl rfl) (pev_and (e_bi T.n_isinstance bt_isinstance (c_isa B) tame_isa (pav_cons (b_s (vS 0)) (pav_cons (e_cls T.n_tuple bt_tuple) pav_nil))) (pev_one (pev_cmp (o_equ B) tame_equ (e_bi T.n_len bt_len (c_len2 B) tame_len2 (pav_cons (b_s (vS 0)) pav_nil)) (vS 1) (nomark _))))))
theorem ok_down_at (T : TX P w K mg) (base : Heap) (a g : Addr) (k : Nat) : FnG P w K mg base (L2.CX P w) (k + 1) T.a_down_at T.d_down_at ["puff", "wind"] (spM K0 mg (ghBag a g) .f m_down_at) :=
  fn_ok (.inl rfl) T.F_down_at sc_down_at k0_le fun cdv A' outer s H E P0 g0 zp p0 B =>
    (psv_cons (psv_asg (vS 0) (pgv_tup B.kle B.calm (pgv_cons (gN 2 B) (pgv_cons (gN 3 B) (pgv_cons (gN 4 B) (pgv_cons (gN 5 B) pgv_nil))))) (tame_t (tame_cons tame_n (tame_cons tame_n (tame_cons tame_n (tame_cons tame_n tame_nil))))))
    (psv_one (psv_ret (.inl rfl) (pev_tup (pav_cons (s_f (pev_op (o_add B) tame_add (vS 2) (pev_op o_mulU tame_mulU (vS 5) (pev_get B (b_s (vS 1)) e_int)))) (pav_cons (s_f (pev_op (o_add B) tame_add (vS 3) (pev_op o_mulU tame_mulU (vS 5) (pev_get B (b_s (vS 1)) e_int)))) pav_nil))))))
theorem ok_all_winds (T : TX P w K mg) (base : Heap) (a g : Addr) (k : Nat) : FnG P w K mg base (L2.CX P w) (k + 1) T.a_all_winds T.d_all_winds [] (spM K0 mg (ghBag a g) .f m_all_winds) :=
  fn_ok (.inl rfl) T.F_all_winds sc_all_winds k0_le fun cdv A' outer s H E P0 g0 zp p0 B =>
    (psv_cons (psv_set (i := 0) B.nd (by rfl) (by first | exact Or.inl rfl | exact Or.inr rfl) (pev_lst pav_nil))
    (psv_cons (psv_for passes_body B.calm (i_range2 T.n_range (pav_cons (b_f (pev_un o_neg tame_neg (g_int T.c_MOST_WIND))) (pav_cons (b_f (pev_op (o_add B) tame_add (g_int T.c_MOST_WIND) e_int)) pav_nil))) (gN 1 B) tame_n (psv_one (psv_mexp (i := 0) mth_extend PySem.F.slot_list_extend PySem.F.type_list_extend mt_extend (pav_cons (b_f (pev_lc B (i_range2 T.n_range (pav_cons (b_f (pev_un o_neg tame_neg (g_int T.c_MOST_WIND))) (pav_cons (b_f (pev_op (o_add B) tame_add (g_int T.c_MOST_WIND) e_int)) pav_nil))) (own := [(("y" : Str), 2)]) (blkOk_by (by rfl)) (fun _ _ _ _ _ => (gN 2 B.blk)) tame_n (by decide) (fun _ _ _ _ _ => ptsv_nil) (fun _ _ _ _ _ => (s_f (pev_tup (pav_cons (vS 1) (pav_cons (vS 2) pav_nil))))))) pav_nil))))
    (psv_one (psv_retO (i := 0) (by rfl) (by first | exact Or.inl rfl | exact Or.inr (Or.inl rfl) | exact Or.inr (Or.inr rfl))))))
theorem ok_cells_in_turn (T : TX P w K mg) (base : Heap) (a g : Addr) (k : Nat) : FnG P w K mg base (L2.CX P w) (k + 1) T.a_cells_in_turn T.d_cells_in_turn ["field"] (spM K0 mg (ghBag a g) .f m_cells_in_turn) :=
  fn_ok (.inl rfl) T.F_cells_in_turn sc_cells_in_turn k0_le fun cdv A' outer s H E P0 g0 zp p0 B =>
    (psv_cons (psv_set (i := 1) B.nd (by rfl) (by first | exact Or.inl rfl | exact Or.inr rfl) (pev_lst pav_nil))
    (psv_cons (psv_for passes_body B.calm (i_range1 T.n_range (pav_cons (b_s (pev_get B (b_s (vS 0)) e_int)) pav_nil)) (gN 2 B) tame_n (psv_cons (psv_setLc (i := 3) B (by rfl) (by rfl) (sw_true rfl rfl rfl (by rfl)) (i_range1 T.n_range (pav_cons (b_s (pev_get B (b_s (vS 0)) e_int)) pav_nil)) (own := [(("x" : Str), 4)]) (blkOk_by (by rfl)) (fun _ _ _ _ _ => (gN 4 B.blk)) tame_n (by decide) (fun _ _ _ _ _ => ptsv_nil) (fun _ _ _ _ _ => (s_f (pev_tup (pav_cons (vS 4) (pav_cons (vS 2) pav_nil))))))
    (psv_one (psv_mexp (i := 1) mth_extend PySem.F.slot_list_extend PySem.F.type_list_extend mt_extend (pav_cons (pev_if (ptv_cmp (o_equ B) tame_equ (vS 2) (pev_op o_mulU tame_mulU e_int (pev_op o_fdiv tame_fdiv (vS 2) e_int)) (nomark _)) (vB 3) (b_f (pev_rev B (vB 3)))) pav_nil)))))
    (psv_one (psv_retO (i := 1) (by rfl) (by first | exact Or.inl rfl | exact Or.inr (Or.inl rfl) | exact Or.inr (Or.inr rfl))))))
theorem walk__law_bag (T : TX P w K mg) (base : Heap) (gh : Gh) (k : Nat) (cdv : Value) (A' : Around) (outer : List Env) (s : Shared) (H : Hp) (E : XK) (H1 : Hp) (P0 : Addr → Prop) (g0 : gh.G H1) (zp : ∀ b, gh.Z b → ¬ P0 b) (p0 : ∀ b, ¬ P0 b → ¬ gh.Z b → ∃ o, H1 b = some o ∧ Mut (some o)) (sc : Addr) (ns : List Int)
    (S : Scr (cxOf (L2.CX P w) P w K mg base ["script", "great", "cell", "seed"] "_law_bag" (defScope s__law_bag) T.a__law_bag cdv A' outer s H E) ⟨gh, K0, H1, P0, g0, zp, p0⟩ sc ns) (B : Bd (cxOf (L2.CX P w) P w K mg base ["script", "great", "cell", "seed"] "_law_bag" (defScope s__law_bag) T.a__law_bag cdv A' outer s H E) ⟨gh, K0, H1, P0, g0, zp, p0⟩ (enOf mg E) k) :
    PSVs (cxOf (L2.CX P w) P w K mg base ["script", "great", "cell", "seed"] "_law_bag" (defScope s__law_bag) T.a__law_bag cdv A' outer s H E) ⟨gh, K0, H1, P0, g0, zp, p0⟩ (enOf mg E) .f (defBody s__law_bag) (b__law_bag sc ns) :=
    (psv_cons (psv_setLc (i := 1) B (by rfl) (by rfl) (sw_true rfl rfl rfl (by rfl)) (piv_any B (s_f (pev_scrSlice (i := 0) S))) (own := [(("cell" : Str), 2)]) (blkOk_by (by rfl)) (fun _ _ _ _ _ => (gN 2 B.blk)) tame_n (by decide) (fun _ _ _ _ _ => (ptsv_one (ptv_cmp o_ge tame_ge (e_bi T.n_abs bt_abs (c_abs) tame_abs (pav_cons (b_f (e_ty T.n_int bt_int (c_int) tame_int (pav_cons (b_s (vS 2)) pav_nil))) pav_nil)) (pev_op o_pow tame_pow e_int e_int) (nomark _)))) (fun _ _ _ _ _ => (s_f (e_bi T.n_abs bt_abs (c_abs) tame_abs (pav_cons (b_f (e_ty T.n_int bt_int (c_int) tame_int (pav_cons (b_s (vS 2)) pav_nil))) pav_nil)))))
    (psv_cons (psv_setS (i := 3) B.nd (by rfl) (by first | exact Or.inl rfl | exact Or.inr rfl) (s_f e_int))
    (psv_cons (psv_for passes_body B.calm (piv_any B (s_f (pev_scrSlice (i := 0) S))) (gN 2 B) tame_n (psv_one (psv_setS (i := 3) B.nd (by rfl) (by first | exact Or.inl rfl | exact Or.inr rfl) (s_f (pev_op o_mod tame_mod (e_ty T.n_int bt_int (c_int) tame_int (pav_cons (b_f (pev_op (o_add B) tame_add (pev_op (o_add B) tame_add (pev_op (o_add B) tame_add (pev_op o_mulU tame_mulU (vS 3) e_int) (pev_op o_mulU tame_mulU (e_bi T.n_abs bt_abs (c_abs) tame_abs (pav_cons (b_f (e_ty T.n_int bt_int (c_int) tame_int (pav_cons (b_s (vS 2)) pav_nil))) pav_nil)) e_int)) (e_ty T.n_int bt_int (c_int) tame_int (pav_cons (b_f (pev_cmp (o_lt B) tame_lt (e_ty T.n_int bt_int (c_int) tame_int (pav_cons (b_s (vS 2)) pav_nil)) e_int (nomark _))) pav_nil))) e_int)) pav_nil)) e_int)))))
    (psv_one (psv_fz 1 (psv_ret (.inl rfl) (pev_lst (pav_cons (vS 1) (pav_cons (vS 3) (pav_cons (s_f (pev_scrLen (i := 0) (by rfl) T.n_len S)) (pav_cons (s_f e_int) pav_nil)))))))))))
theorem ok__law_fallen (T : TX P w K mg) (base : Heap) (a g : Addr) (k : Nat) : FnG P w K mg base (L2.CX P w) (k + 1) T.a__law_fallen T.d__law_fallen ["field", "puffs", "wind"] (spM K0 mg (ghBag a g) .f m__law_fallen) :=
  fn_ok (.inl rfl) T.F__law_fallen sc__law_fallen k0_le fun cdv A' outer s H E P0 g0 zp p0 B =>
    (psv_cons (psv_par2 (i := 3) (j := 4) B.calm B.nd (by rfl) (by rfl) (by decide) (by rfl) (by rfl) (pmv_f (pev_dict0 true) (pmv_s (s_f e_int) pmv_nil)) (by rfl))
    (psv_cons (psv_for passes_body B.calm (piv_any B (vS 1)) (pgv_tup B.kle B.calm (pgv_cons (gN 5 B) (pgv_cons (gN 6 B) (pgv_cons (gN 7 B) (pgv_cons (gN 8 B) pgv_nil))))) (tame_t (tame_cons tame_n (tame_cons tame_n (tame_cons tame_n (tame_cons tame_n tame_nil))))) (psv_cons (psv_setS (i := 9) B.nd (by rfl) (by first | exact Or.inl rfl | exact Or.inr rfl) (s_f (pev_tup (pav_cons (s_f (pev_op (o_add B) tame_add (vS 5) (pev_op o_mulU tame_mulU (vS 8) (pev_get B (b_s (vS 2)) e_int)))) (pav_cons (s_f (pev_op (o_add B) tame_add (vS 6) (pev_op o_mulU tame_mulU (vS 8) (pev_get B (b_s (vS 2)) e_int)))) pav_nil)))))
    (psv_one (psv_if (PWV.pt (pwv_and (ptv_chain o_le (o_lt B) tame_le tame_lt e_int (pev_get B (b_s (vS 9)) e_int) (pev_get B (b_s (vS 0)) e_int)) (pwv_and1 (ptv_chain o_le (o_lt B) tame_le tame_lt e_int (pev_get B (b_s (vS 9)) e_int) (pev_get B (b_s (vS 0)) e_int))))) (psv_one (psv_sput (i := 3) true (fun _ => fun _ => rfl) B (vS 9) (s_f (pev_op (o_add B) tame_add (pev_get2 B (vB 3) (vS 9) (s_f e_int) m2_of) (vS 7))))) (psv_one (psv_setS (i := 4) B.nd (by rfl) (by first | exact Or.inl rfl | exact Or.inr rfl) (s_f (pev_op (o_add B) tame_add (vS 4) (vS 7)))))))))
    (psv_one (psv_fz 3 (psv_ret (.inl rfl) (pev_tup (pav_cons (vS 3) (pav_cons (vS 4) pav_nil))))))))
theorem ok__law_winds (T : TX P w K mg) (base : Heap) (a g : Addr) (k : Nat) : FnG P w K mg base (L2.CX P w) (k + 1) T.a__law_winds T.d__law_winds [] (spM K0 mg (ghBag a g) .f m__law_winds) :=
  fn_ok (.inl rfl) T.F__law_winds sc__law_winds k0_le fun cdv A' outer s H E P0 g0 zp p0 B =>
    (psv_cons (psv_set (i := 0) B.nd (by rfl) (by first | exact Or.inl rfl | exact Or.inr rfl) (pev_lst pav_nil))
    (psv_cons (psv_for passes_body B.calm (i_range2 T.n_range (pav_cons (b_f (pev_un o_neg tame_neg e_int)) (pav_cons (b_f e_int) pav_nil))) (gN 1 B) tame_n (psv_one (psv_mexp (i := 0) mth_extend PySem.F.slot_list_extend PySem.F.type_list_extend mt_extend (pav_cons (b_f (pev_lc B (i_range2 T.n_range (pav_cons (b_f (pev_un o_neg tame_neg e_int)) (pav_cons (b_f e_int) pav_nil))) (own := [(("y" : Str), 2)]) (blkOk_by (by rfl)) (fun _ _ _ _ _ => (gN 2 B.blk)) tame_n (by decide) (fun _ _ _ _ _ => ptsv_nil) (fun _ _ _ _ _ => (s_f (pev_tup (pav_cons (vS 1) (pav_cons (vS 2) pav_nil))))))) pav_nil))))
    (psv_one (psv_retO (i := 0) (by rfl) (by first | exact Or.inl rfl | exact Or.inr (Or.inl rfl) | exact Or.inr (Or.inr rfl))))))
theorem ok__law_path (T : TX P w K mg) (base : Heap) (a g : Addr) (k : Nat) : FnG P w K mg base (L2.CX P w) (k + 1) T.a__law_path T.d__law_path ["field"] (spM K0 mg (ghBag a g) .s m__law_path) :=
  fn_ok (.inr rfl) T.F__law_path sc__law_path k0_le fun cdv A' outer s H E P0 g0 zp p0 B =>
    (psv_cons (psv_setS (i := 1) B.nd (by rfl) (by first | exact Or.inl rfl | exact Or.inr rfl) (s_f (pev_lst pav_nil)))
    (psv_cons (psv_for passes_body B.calm (i_range1 T.n_range (pav_cons (b_s (pev_get B (b_s (vS 0)) e_int)) pav_nil)) (gN 2 B) tame_n (psv_cons (psv_setLc (i := 3) B (by rfl) (by rfl) (sw_true rfl rfl rfl (by rfl)) (i_range1 T.n_range (pav_cons (b_s (pev_get B (b_s (vS 0)) e_int)) pav_nil)) (own := [(("x" : Str), 4)]) (blkOk_by (by rfl)) (fun _ _ _ _ _ => (gN 4 B.blk)) tame_n (by decide) (fun _ _ _ _ _ => ptsv_nil) (fun _ _ _ _ _ => (s_f (pev_tup (pav_cons (vS 4) (pav_cons (vS 2) pav_nil))))))
    (psv_one (psv_fz 3 (psv_setS (i := 1) B.nd (by rfl) (by first | exact Or.inl rfl | exact Or.inr rfl) (s_f (pev_op (o_add B) tame_add (vS 1) (pev_if (ptv_cmp (o_equ B) tame_equ (pev_op o_mod tame_mod (e_ty T.n_int bt_int (c_int) tame_int (pav_cons (b_s (vS 2)) pav_nil)) e_int) e_int (nomark _)) (vS 3) (s_f (pev_rev B (vB 3)))))))))))
    (psv_one (psv_ret (.inr rfl) (vS 1)))))
theorem ok_is_within (T : TX P w K mg) (base : Heap) (a g : Addr) (k : Nat) : FnG P w K mg base (L2.CX P w) (k + 2) T.a_is_within T.d_is_within ["thing", "least", "most"] (spM K0 mg (ghBag a g) .f m_is_within) :=
  fn_ok (.inl rfl) T.F_is_within sc_is_within k0_le fun cdv A' outer s H E P0 g0 zp p0 B =>
    (psv_one (psv_ret (.inl rfl) (pev_and (e_call B (ok_is_integer T base a g k) T.g_is_integer T.F_is_integer T.B_is_integer (pav_cons (vS 0) pav_nil)) (pev_one (pev_chain o_le o_le tame_le tame_le (vS 1) (vS 0) (vS 2))))))
theorem ok__law_some (T : TX P w K mg) (base : Heap) (a g : Addr) (k : Nat) : FnG P w K mg base (L2.CX P w) (k + 2) T.a__law_some T.d__law_some ["bag", "things"] (spM K0 mg (ghBag a g) .s (m__law_some (.ref a))) :=
  fn_ok (.inr rfl) T.F__law_some sc__law_some k0_le fun cdv A' outer s H E P0 g0 zp p0 B =>
    (psv_one (psv_ret (.inr rfl) (pev_get B (b_s (vS 1)) (e_call B (ok__law_pick T base a g k) T.g__law_pick T.F__law_pick T.B__law_pick (pav_cons (vS 0) (pav_cons (s_f (e_bi T.n_len bt_len (c_len2 B) tame_len2 (pav_cons (b_s (vS 1)) pav_nil))) pav_nil))))))
theorem ok__law_puffs (T : TX P w K mg) (base : Heap) (a g : Addr) (k : Nat) : FnG P w K mg base (L2.CX P w) (k + 2) T.a__law_puffs T.d__law_puffs ["bag", "field"] (spM K0 mg (ghBag a g) .f (m__law_puffs (.ref a))) :=
  fn_ok (.inl rfl) T.F__law_puffs sc__law_puffs k0_le fun cdv A' outer s H E P0 g0 zp p0 B =>
    (psv_cons (psv_set (i := 2) B.nd (by rfl) (by first | exact Or.inl rfl | exact Or.inr rfl) (pev_lst pav_nil))
    (psv_cons (psv_for passes_body B.calm (i_range1 T.n_range (pav_cons (b_f (e_call B (ok__law_pick T base a g k) T.g__law_pick T.F__law_pick T.B__law_pick (pav_cons (vS 0) (pav_cons (s_f e_int) pav_nil)))) pav_nil)) (gN 3 B) tame_n (psv_cons (psv_setS (i := 4) B.nd (by rfl) (by first | exact Or.inl rfl | exact Or.inr rfl) (s_f (pev_tup (pav_cons (s_f (e_call B (ok__law_pick T base a g k) T.g__law_pick T.F__law_pick T.B__law_pick (pav_cons (vS 0) (pav_cons (pev_get B (b_s (vS 1)) e_int) pav_nil)))) (pav_cons (s_f (e_call B (ok__law_pick T base a g k) T.g__law_pick T.F__law_pick T.B__law_pick (pav_cons (vS 0) (pav_cons (pev_get B (b_s (vS 1)) e_int) pav_nil)))) pav_nil)))))
    (psv_one (psv_mexp (i := 2) mth_append PySem.F.slot_list_append PySem.F.type_list_append mt_append (pav_cons (s_f (pev_op (o_add B) tame_add (vS 4) (pev_tup (pav_cons (s_f (pev_op (o_add B) tame_add e_int (e_call B (ok__law_pick T base a g k) T.g__law_pick T.F__law_pick T.B__law_pick (pav_cons (vS 0) (pav_cons (s_f e_int) pav_nil))))) (pav_cons (s_f (e_call B (ok__law_pick T base a g k) T.g__law_pick T.F__law_pick T.B__law_pick (pav_cons (vS 0) (pav_cons (s_f e_int) pav_nil)))) pav_nil))))) pav_nil)))))
    (psv_one (psv_ret (.inl rfl) (e_ty T.n_tuple bt_tuple (c_tuple B) tame_tuple (pav_cons (vB 2) pav_nil))))))
theorem ok_check_field (T : TX P w K mg) (base : Heap) (a g : Addr) (k : Nat) : FnG P w K mg base (L2.CX P w) (k + 3) T.a_check_field T.d_check_field ["field"] (spM K0 mg (ghBag a g) .f m_check_field) :=
  fn_ok (.inl rfl) T.F_check_field sc_check_field k0_le fun cdv A' outer s H E P0 g0 zp p0 B =>
    (psv_one (psv_if (PWV.pt (pwv_or (ptv_not (ptv_val (e_call B (ok_is_tuple_of T base a g (k + 1)) T.g_is_tuple_of T.F_is_tuple_of T.B_is_tuple_of (pav_cons (vS 0) (pav_cons (s_f e_int) pav_nil))))) (pwv_or1 (ptv_not (ptv_val (e_bi T.n_all bt_all (c_all B) tame_all (pav_cons (b_f (pev_lc B (piv_any B (vS 0)) (own := [(("one" : Str), 1)]) (blkOk_by (by rfl)) (fun _ _ _ _ _ => (gN 1 B.blk)) tame_n (by decide) (fun _ _ _ _ _ => ptsv_nil) (fun _ _ _ _ _ => (s_f (e_call B.blk (ok_is_within T base a g k) T.g_is_within T.F_is_within T.B_is_within (pav_cons (vS 1) (pav_cons (s_f e_int) (pav_cons (s_f (g_int T.c_MOST_SIDE)) pav_nil)))))))) pav_nil))))))) (psv_one (psv_raise0 T.x_NoField)) psv_nil))
theorem ok_is_cell_of (T : TX P w K mg) (base : Heap) (a g : Addr) (k : Nat) : FnG P w K mg base (L2.CX P w) (k + 3) T.a_is_cell_of T.d_is_cell_of ["field", "thing"] (spM K0 mg (ghBag a g) .f m_is_cell_of) :=
  fn_ok (.inl rfl) T.F_is_cell_of sc_is_cell_of k0_le fun cdv A' outer s H E P0 g0 zp p0 B =>
    (psv_cons (psv_if (PWV.pt (pwv_or (ptv_not (ptv_val (e_call B (ok_is_tuple_of T base a g (k + 1)) T.g_is_tuple_of T.F_is_tuple_of T.B_is_tuple_of (pav_cons (vS 1) (pav_cons (s_f e_int) pav_nil))))) (pwv_or1 (ptv_not (ptv_val (e_call B (ok_is_within T base a g k) T.g_is_within T.F_is_within T.B_is_within (pav_cons (pev_get B (b_s (vS 1)) e_int) (pav_cons (s_f e_int) (pav_cons (s_f (pev_op o_sub tame_sub (pev_get B (b_s (vS 0)) e_int) e_int)) pav_nil))))))))) (psv_one (psv_ret (.inl rfl) e_bl)) psv_nil)
    (psv_one (psv_ret (.inl rfl) (e_call B (ok_is_within T base a g k) T.g_is_within T.F_is_within T.B_is_within (pav_cons (pev_get B (b_s (vS 1)) e_int) (pav_cons (s_f e_int) (pav_cons (s_f (pev_op o_sub tame_sub (pev_get B (b_s (vS 0)) e_int) e_int)) pav_nil)))))))
theorem ok_check_wind (T : TX P w K mg) (base : Heap) (a g : Addr) (k : Nat) : FnG P w K mg base (L2.CX P w) (k + 3) T.a_check_wind T.d_check_wind ["wind"] (spM K0 mg (ghBag a g) .f m_check_wind) :=
  fn_ok (.inl rfl) T.F_check_wind sc_check_wind k0_le fun cdv A' outer s H E P0 g0 zp p0 B =>
    (psv_one (psv_if (PWV.pt (pwv_or (ptv_not (ptv_val (e_call B (ok_is_tuple_of T base a g (k + 1)) T.g_is_tuple_of T.F_is_tuple_of T.B_is_tuple_of (pav_cons (vS 0) (pav_cons (s_f e_int) pav_nil))))) (pwv_or1 (ptv_not (ptv_val (e_bi T.n_all bt_all (c_all B) tame_all (pav_cons (b_f (pev_lc B (piv_any B (vS 0)) (own := [(("one" : Str), 1)]) (blkOk_by (by rfl)) (fun _ _ _ _ _ => (gN 1 B.blk)) tame_n (by decide) (fun _ _ _ _ _ => ptsv_nil) (fun _ _ _ _ _ => (s_f (e_call B.blk (ok_is_within T base a g k) T.g_is_within T.F_is_within T.B_is_within (pav_cons (vS 1) (pav_cons (s_f (pev_un o_neg tame_neg (g_int T.c_MOST_WIND))) (pav_cons (s_f (g_int T.c_MOST_WIND)) pav_nil)))))))) pav_nil))))))) (psv_one (psv_raise0 T.x_NoWind)) psv_nil))
theorem ok_is_puff (T : TX P w K mg) (base : Heap) (a g : Addr) (k : Nat) : FnG P w K mg base (L2.CX P w) (k + 4) T.a_is_puff T.d_is_puff ["field", "thing"] (spM K0 mg (ghBag a g) .f m_is_puff) :=
  fn_ok (.inl rfl) T.F_is_puff sc_is_puff k0_le fun cdv A' outer s H E P0 g0 zp p0 B =>
    (psv_cons (psv_if (PWV.pt (pwv_or (ptv_not (ptv_val (e_call B (ok_is_tuple_of T base a g (k + 2)) T.g_is_tuple_of T.F_is_tuple_of T.B_is_tuple_of (pav_cons (vS 1) (pav_cons (s_f e_int) pav_nil))))) (pwv_or1 (ptv_not (ptv_val (e_call B (ok_is_cell_of T base a g k) T.g_is_cell_of T.F_is_cell_of T.B_is_cell_of (pav_cons (vS 0) (pav_cons (s_f (pev_slice B (b_s (vS 1)) pov_none (pov_some e_int))) pav_nil)))))))) (psv_one (psv_ret (.inl rfl) e_bl)) psv_nil)
    (psv_one (psv_ret (.inl rfl) (pev_and (e_call B (ok_is_within T base a g (k + 1)) T.g_is_within T.F_is_within T.B_is_within (pav_cons (pev_get B (b_s (vS 1)) e_int) (pav_cons (s_f e_int) (pav_cons (s_f (g_int T.c_MOST_ASH)) pav_nil)))) (pev_one (e_call B (ok_is_within T base a g (k + 1)) T.g_is_within T.F_is_within T.B_is_within (pav_cons (pev_get B (b_s (vS 1)) e_int) (pav_cons (s_f e_int) (pav_cons (s_f (g_int T.c_MOST_HIGH)) pav_nil)))))))))
theorem ok_raw_fallen (T : TX P w K mg) (base : Heap) (a g : Addr) (k : Nat) : FnG P w K mg base (L2.CX P w) (k + 4) T.a_raw_fallen T.d_raw_fallen ["field", "puffs", "wind"] (spM K0 mg (ghBag a g) .f m_raw_fallen) :=
  fn_ok (.inl rfl) T.F_raw_fallen sc_raw_fallen k0_le fun cdv A' outer s H E P0 g0 zp p0 B =>
    (psv_cons (psv_set (i := 3) B.nd (by rfl) (by first | exact Or.inl rfl | exact Or.inr rfl) (pev_dict0 true))
    (psv_cons (psv_for passes_body B.calm (piv_any B (vS 1)) (gN 4 B) tame_n (psv_cons (psv_setS (i := 5) B.nd (by rfl) (by first | exact Or.inl rfl | exact Or.inr rfl) (s_f (e_call B (ok_down_at T base a g (k + 2)) T.g_down_at T.F_down_at T.B_down_at (pav_cons (vS 4) (pav_cons (vS 2) pav_nil)))))
    (psv_one (psv_if (ptv_val (e_call B (ok_is_cell_of T base a g k) T.g_is_cell_of T.F_is_cell_of T.B_is_cell_of (pav_cons (vS 0) (pav_cons (vS 5) pav_nil)))) (psv_one (psv_sput (i := 3) true (fun _ => fun _ => rfl) B (vS 5) (s_f (pev_op (o_add B) tame_add (pev_get2 B (vB 3) (vS 5) (s_f e_int) m2_of) (pev_get B (b_s (vS 4)) e_int))))) psv_nil))))
    (psv_one (psv_retO (i := 3) (by rfl) (by first | exact Or.inl rfl | exact Or.inr (Or.inl rfl) | exact Or.inr (Or.inr rfl))))))
theorem ok_check_only_puffs (T : TX P w K mg) (base : Heap) (a g : Addr) (k : Nat) : FnG P w K mg base (L2.CX P w) (k + 5) T.a_check_only_puffs T.d_check_only_puffs ["field", "puffs"] (spM K0 mg (ghBag a g) .f m_check_only_puffs) :=
  fn_ok (.inl rfl) T.F_check_only_puffs sc_check_only_puffs k0_le fun cdv A' outer s H E P0 g0 zp p0 B =>
    (psv_one (psv_if (PWV.pt (pwv_or (ptv_not (ptv_val (e_bi T.n_isinstance bt_isinstance (c_isa B) tame_isa (pav_cons (b_s (vS 1)) (pav_cons (e_cls T.n_tuple bt_tuple) pav_nil))))) (pwv_or (ptv_cmp o_gt tame_gt (e_bi T.n_len bt_len (c_len2 B) tame_len2 (pav_cons (b_s (vS 1)) pav_nil)) (g_int T.c_MOST_PUFFS) (nomark _)) (pwv_or1 (ptv_not (ptv_val (e_bi T.n_all bt_all (c_all B) tame_all (pav_cons (b_f (pev_lc B (piv_any B (vS 1)) (own := [(("one" : Str), 2)]) (blkOk_by (by rfl)) (fun _ _ _ _ _ => (gN 2 B.blk)) tame_n (by decide) (fun _ _ _ _ _ => ptsv_nil) (fun _ _ _ _ _ => (s_f (e_call B.blk (ok_is_puff T base a g k) T.g_is_puff T.F_is_puff T.B_is_puff (pav_cons (vS 0) (pav_cons (vS 2) pav_nil))))))) pav_nil)))))))) (psv_one (psv_raise0 T.x_NoPuffs)) psv_nil))
theorem ok_ash_on (T : TX P w K mg) (base : Heap) (a g : Addr) (k : Nat) : FnG P w K mg base (L2.CX P w) (k + 5) T.a_ash_on T.d_ash_on ["field", "puffs", "wind"] (spM K0 mg (ghBag a g) .f m_ash_on) :=
  fn_ok (.inl rfl) T.F_ash_on sc_ash_on k0_le fun cdv A' outer s H E P0 g0 zp p0 B =>
    (psv_cons (psv_setS (i := 3) B.nd (by rfl) (by first | exact Or.inl rfl | exact Or.inr rfl) (s_f (e_call B (ok_raw_fallen T base a g k) T.g_raw_fallen T.F_raw_fallen T.B_raw_fallen (pav_cons (vS 0) (pav_cons (vS 1) (pav_cons (vS 2) pav_nil))))))
    (psv_one (psv_ret (.inl rfl) (e_bi T.n_sum bt_sum (c_sum B) tame_sum (pav_cons (b_f (pev_lc B (piv_any B (vS 3)) (own := [(("cell" : Str), 4)]) (blkOk_by (by rfl)) (fun _ _ _ _ _ => (gN 4 B.blk)) tame_n (by decide) (fun _ _ _ _ _ => ptsv_nil) (fun _ _ _ _ _ => (pev_get B.blk (b_s (vS 3)) (vS 4))))) pav_nil)))))
theorem ok_check_puffs (T : TX P w K mg) (base : Heap) (a g : Addr) (k : Nat) : FnG P w K mg base (L2.CX P w) (k + 6) T.a_check_puffs T.d_check_puffs ["field", "puffs"] (spM K0 mg (ghBag a g) .f m_check_puffs) :=
  fn_ok (.inl rfl) T.F_check_puffs sc_check_puffs k0_le fun cdv A' outer s H E P0 g0 zp p0 B =>
    (psv_cons (psv_expr (e_call B (ok_check_field T base a g (k + 2)) T.g_check_field T.F_check_field T.B_check_field (pav_cons (vS 0) pav_nil)))
    (psv_one (psv_expr (e_call B (ok_check_only_puffs T base a g k) T.g_check_only_puffs T.F_check_only_puffs T.B_check_only_puffs (pav_cons (vS 0) (pav_cons (vS 1) pav_nil))))))
theorem ok_check_ash (T : TX P w K mg) (base : Heap) (a g : Addr) (k : Nat) : FnG P w K mg base (L2.CX P w) (k + 7) T.a_check_ash T.d_check_ash ["field", "puffs", "wind"] (spM K0 mg (ghBag a g) .f m_check_ash) :=
  fn_ok (.inl rfl) T.F_check_ash sc_check_ash k0_le fun cdv A' outer s H E P0 g0 zp p0 B =>
    (psv_cons (psv_expr (e_call B (ok_check_puffs T base a g k) T.g_check_puffs T.F_check_puffs T.B_check_puffs (pav_cons (vS 0) (pav_cons (vS 1) pav_nil))))
    (psv_one (psv_expr (e_call B (ok_check_wind T base a g (k + 3)) T.g_check_wind T.F_check_wind T.B_check_wind (pav_cons (vS 2) pav_nil)))))
theorem ok_winds_for (T : TX P w K mg) (base : Heap) (a g : Addr) (k : Nat) : FnG P w K mg base (L2.CX P w) (k + 7) T.a_winds_for T.d_winds_for ["field", "puffs", "cell"] (spM K0 mg (ghBag a g) .f m_winds_for) :=
  fn_ok (.inl rfl) T.F_winds_for sc_winds_for k0_le fun cdv A' outer s H E P0 g0 zp p0 B =>
    (psv_cons (psv_expr (e_call B (ok_check_puffs T base a g k) T.g_check_puffs T.F_check_puffs T.B_check_puffs (pav_cons (vS 0) (pav_cons (vS 1) pav_nil))))
    (psv_cons (psv_if (ptv_not (ptv_val (e_call B (ok_is_cell_of T base a g (k + 3)) T.g_is_cell_of T.F_is_cell_of T.B_is_cell_of (pav_cons (vS 0) (pav_cons (vS 2) pav_nil))))) (psv_one (psv_raise0 T.x_NoCell)) psv_nil)
    (psv_one (psv_ret (.inl rfl) (e_ty T.n_tuple bt_tuple (c_tuple B) tame_tuple (pav_cons (b_f (pev_lc B (piv_any B (s_f (e_call0 B (ok_all_winds T base a g (k + 5)) T.g_all_winds T.F_all_winds T.B_all_winds))) (own := [(("wind" : Str), 3)]) (blkOk_by (by rfl)) (fun _ _ _ _ _ => (gN 3 B.blk)) tame_n (by decide) (fun _ _ _ _ _ => (ptsv_one (ptv_cmp (o_hasNot B.blk) tame_hasNot (vS 2) (e_call B.blk (ok_raw_fallen T base a g (k + 2)) T.g_raw_fallen T.F_raw_fallen T.B_raw_fallen (pav_cons (vS 0) (pav_cons (vS 1) (pav_cons (vS 3) pav_nil)))) (by with_unfolding_all rfl)))) (fun _ _ _ _ _ => (vS 3)))) pav_nil))))))
theorem ok_best_wind (T : TX P w K mg) (base : Heap) (a g : Addr) (k : Nat) : FnG P w K mg base (L2.CX P w) (k + 7) T.a_best_wind T.d_best_wind ["field", "puffs"] (spM K0 mg (ghBag a g) .f m_best_wind) :=
  fn_ok (.inl rfl) T.F_best_wind sc_best_wind k0_le fun cdv A' outer s H E P0 g0 zp p0 B =>
    (psv_cons (psv_expr (e_call B (ok_check_puffs T base a g k) T.g_check_puffs T.F_check_puffs T.B_check_puffs (pav_cons (vS 0) (pav_cons (vS 1) pav_nil))))
    (psv_one (psv_ret (.inl rfl) (f_s (pev_get B (b_f (e_bi T.n_min bt_min (c_min B) tame_min (pav_cons (b_f (pev_lc B (piv_any B (s_f (e_call0 B (ok_all_winds T base a g (k + 5)) T.g_all_winds T.F_all_winds T.B_all_winds))) (own := [(("wind" : Str), 2)]) (blkOk_by (by rfl)) (fun _ _ _ _ _ => (gN 2 B.blk)) tame_n (by decide) (fun _ _ _ _ _ => ptsv_nil) (fun _ _ _ _ _ => (s_f (pev_tup (pav_cons (s_f (e_call B.blk (ok_ash_on T base a g (k + 1)) T.g_ash_on T.F_ash_on T.B_ash_on (pav_cons (vS 0) (pav_cons (vS 1) (pav_cons (vS 2) pav_nil))))) (pav_cons (vS 2) pav_nil))))))) pav_nil))) e_int)))))
theorem ok_same_fall (T : TX P w K mg) (base : Heap) (a g : Addr) (k : Nat) : FnG P w K mg base (L2.CX P w) (k + 7) T.a_same_fall T.d_same_fall ["field", "one", "other", "wind"] (spM K0 mg (ghBag a g) .f m_same_fall) :=
  fn_ok (.inl rfl) T.F_same_fall sc_same_fall k0_le fun cdv A' outer s H E P0 g0 zp p0 B =>
    (psv_cons (psv_expr (e_call B (ok_check_puffs T base a g k) T.g_check_puffs T.F_check_puffs T.B_check_puffs (pav_cons (vS 0) (pav_cons (vS 1) pav_nil))))
    (psv_cons (psv_expr (e_call B (ok_check_only_puffs T base a g (k + 1)) T.g_check_only_puffs T.F_check_only_puffs T.B_check_only_puffs (pav_cons (vS 0) (pav_cons (vS 2) pav_nil))))
    (psv_cons (psv_expr (e_call B (ok_check_wind T base a g (k + 3)) T.g_check_wind T.F_check_wind T.B_check_wind (pav_cons (vS 3) pav_nil)))
    (psv_one (psv_ret (.inl rfl) (pev_cmp (o_equ B) tame_equ (e_call B (ok_raw_fallen T base a g (k + 2)) T.g_raw_fallen T.F_raw_fallen T.B_raw_fallen (pav_cons (vS 0) (pav_cons (vS 1) (pav_cons (vS 3) pav_nil)))) (e_call B (ok_raw_fallen T base a g (k + 2)) T.g_raw_fallen T.F_raw_fallen T.B_raw_fallen (pav_cons (vS 0) (pav_cons (vS 2) (pav_cons (vS 3) pav_nil)))) (nomark _)))))))
theorem ok_fallen (T : TX P w K mg) (base : Heap) (a g : Addr) (k : Nat) : FnG P w K mg base (L2.CX P w) (k + 8) T.a_fallen T.d_fallen ["field", "puffs", "wind"] (spM K0 mg (ghBag a g) .f m_fallen) :=
  fn_ok (.inl rfl) T.F_fallen sc_fallen k0_le fun cdv A' outer s H E P0 g0 zp p0 B =>
    (psv_cons (psv_expr (e_call B (ok_check_ash T base a g k) T.g_check_ash T.F_check_ash T.B_check_ash (pav_cons (vS 0) (pav_cons (vS 1) (pav_cons (vS 2) pav_nil)))))
    (psv_one (psv_ret (.inl rfl) (e_call B (ok_raw_fallen T base a g (k + 3)) T.g_raw_fallen T.F_raw_fallen T.B_raw_fallen (pav_cons (vS 0) (pav_cons (vS 1) (pav_cons (vS 2) pav_nil)))))))
theorem ok_lost (T : TX P w K mg) (base : Heap) (a g : Addr) (k : Nat) : FnG P w K mg base (L2.CX P w) (k + 8) T.a_lost T.d_lost ["field", "puffs", "wind"] (spM K0 mg (ghBag a g) .f m_lost) :=
  fn_ok (.inl rfl) T.F_lost sc_lost k0_le fun cdv A' outer s H E P0 g0 zp p0 B =>
    (psv_cons (psv_expr (e_call B (ok_check_ash T base a g k) T.g_check_ash T.F_check_ash T.B_check_ash (pav_cons (vS 0) (pav_cons (vS 1) (pav_cons (vS 2) pav_nil)))))
    (psv_one (psv_ret (.inl rfl) (pev_op o_sub tame_sub (e_bi T.n_sum bt_sum (c_sum B) tame_sum (pav_cons (b_f (pev_lc B (piv_any B (vS 1)) (own := [(("puff" : Str), 3)]) (blkOk_by (by rfl)) (fun _ _ _ _ _ => (gN 3 B.blk)) tame_n (by decide) (fun _ _ _ _ _ => ptsv_nil) (fun _ _ _ _ _ => (pev_get B.blk (b_s (vS 3)) e_int)))) pav_nil)) (e_call B (ok_ash_on T base a g (k + 2)) T.g_ash_on T.F_ash_on T.B_ash_on (pav_cons (vS 0) (pav_cons (vS 1) (pav_cons (vS 2) pav_nil))))))))
theorem ok_worst_cell (T : TX P w K mg) (base : Heap) (a g : Addr) (k : Nat) : FnG P w K mg base (L2.CX P w) (k + 8) T.a_worst_cell T.d_worst_cell ["field", "puffs", "wind"] (spM K0 mg (ghBag a g) .f m_worst_cell) :=
  fn_ok (.inl rfl) T.F_worst_cell sc_worst_cell k0_le fun cdv A' outer s H E P0 g0 zp p0 B =>
    (psv_cons (psv_expr (e_call B (ok_check_ash T base a g k) T.g_check_ash T.F_check_ash T.B_check_ash (pav_cons (vS 0) (pav_cons (vS 1) (pav_cons (vS 2) pav_nil)))))
    (psv_cons (psv_setS (i := 3) B.nd (by rfl) (by first | exact Or.inl rfl | exact Or.inr rfl) (s_f (e_call B (ok_raw_fallen T base a g (k + 3)) T.g_raw_fallen T.F_raw_fallen T.B_raw_fallen (pav_cons (vS 0) (pav_cons (vS 1) (pav_cons (vS 2) pav_nil))))))
    (psv_one (psv_ret (.inl rfl) (pev_if (ptv_cmp o_gt tame_gt (e_bi T.n_len bt_len (c_len2 B) tame_len2 (pav_cons (b_s (vS 3)) pav_nil)) e_int (nomark _)) (f_s (pev_get B (b_f (e_bi T.n_min bt_min (c_min B) tame_min (pav_cons (b_f (pev_lc B (piv_any B (vS 3)) (own := [(("cell" : Str), 4)]) (blkOk_by (by rfl)) (fun _ _ _ _ _ => (gN 4 B.blk)) tame_n (by decide) (fun _ _ _ _ _ => ptsv_nil) (fun _ _ _ _ _ => (s_f (pev_tup (pav_cons (s_f (pev_un o_neg tame_neg (pev_get B.blk (b_s (vS 3)) (vS 4)))) (pav_cons (vS 4) pav_nil))))))) pav_nil))) e_int)) e_non)))))
theorem ok_clean_rows (T : TX P w K mg) (base : Heap) (a g : Addr) (k : Nat) : FnG P w K mg base (L2.CX P w) (k + 8) T.a_clean_rows T.d_clean_rows ["field", "puffs", "wind"] (spM K0 mg (ghBag a g) .f m_clean_rows) :=
  fn_ok (.inl rfl) T.F_clean_rows sc_clean_rows k0_le fun cdv A' outer s H E P0 g0 zp p0 B =>
    (psv_cons (psv_expr (e_call B (ok_check_ash T base a g k) T.g_check_ash T.F_check_ash T.B_check_ash (pav_cons (vS 0) (pav_cons (vS 1) (pav_cons (vS 2) pav_nil)))))
    (psv_cons (psv_set (i := 3) B.nd (by rfl) (by first | exact Or.inl rfl | exact Or.inr rfl) (pev_dc B (piv_any B (s_f (e_call B (ok_raw_fallen T base a g (k + 3)) T.g_raw_fallen T.F_raw_fallen T.B_raw_fallen (pav_cons (vS 0) (pav_cons (vS 1) (pav_cons (vS 2) pav_nil)))))) (own := [(("cell" : Str), 4)]) (blkOk_by (by rfl)) (fun _ _ _ _ _ => (gN 4 B.blk)) tame_n (by decide) (fun _ _ _ _ _ => ptsv_nil) (fun _ _ _ _ _ => (pev_get B.blk (b_s (vS 4)) e_int)) (fun _ _ _ _ _ => (s_f e_bl))))
    (psv_one (psv_ret (.inl rfl) (e_ty T.n_tuple bt_tuple (c_tuple B) tame_tuple (pav_cons (b_f (pev_lc B (i_range1 T.n_range (pav_cons (b_s (pev_get B (b_s (vS 0)) e_int)) pav_nil)) (own := [(("y" : Str), 5)]) (blkOk_by (by rfl)) (fun _ _ _ _ _ => (gN 5 B.blk)) tame_n (by decide) (fun _ _ _ _ _ => (ptsv_one (ptv_cmp (o_hasNot B.blk) tame_hasNot (vS 5) (vB 3) (by with_unfolding_all rfl)))) (fun _ _ _ _ _ => (vS 5)))) pav_nil))))))
theorem ok_swept (T : TX P w K mg) (base : Heap) (a g : Addr) (k : Nat) : FnG P w K mg base (L2.CX P w) (k + 8) T.a_swept T.d_swept ["field", "puffs", "wind", "steps"] (spM K0 mg (ghBag a g) .f m_swept) :=
  fn_ok (.inl rfl) T.F_swept sc_swept k0_le fun cdv A' outer s H E P0 g0 zp p0 B =>
    (psv_cons (psv_expr (e_call B (ok_check_ash T base a g k) T.g_check_ash T.F_check_ash T.B_check_ash (pav_cons (vS 0) (pav_cons (vS 1) (pav_cons (vS 2) pav_nil)))))
    (psv_cons (psv_if (ptv_not (ptv_val (e_call B (ok_is_within T base a g (k + 5)) T.g_is_within T.F_is_within T.B_is_within (pav_cons (vS 3) (pav_cons (s_f e_int) (pav_cons (s_f (g_int T.c_MOST_SWEPT)) pav_nil)))))) (psv_one (psv_raise0 T.x_NoSteps)) psv_nil)
    (psv_cons (psv_setS (i := 4) B.nd (by rfl) (by first | exact Or.inl rfl | exact Or.inr rfl) (s_f (e_call B (ok_raw_fallen T base a g (k + 3)) T.g_raw_fallen T.F_raw_fallen T.B_raw_fallen (pav_cons (vS 0) (pav_cons (vS 1) (pav_cons (vS 2) pav_nil))))))
    (psv_one (psv_ret (.inl rfl) (e_bi T.n_sum bt_sum (c_sum B) tame_sum (pav_cons (b_f (pev_lc B (piv_any B (s_f (pev_slice B (b_f (e_call B (ok_cells_in_turn T base a g (k + 6)) T.g_cells_in_turn T.F_cells_in_turn T.B_cells_in_turn (pav_cons (vS 0) pav_nil))) pov_none (pov_some (vS 3))))) (own := [(("cell" : Str), 5)]) (blkOk_by (by rfl)) (fun _ _ _ _ _ => (gN 5 B.blk)) tame_n (by decide) (fun _ _ _ _ _ => ptsv_nil) (fun _ _ _ _ _ => (pev_get2 B.blk (b_s (vS 4)) (vS 5) (s_f e_int) m2_of)))) pav_nil)))))))
theorem ok__law_is_right (T : TX P w K mg) (base : Heap) (a g : Addr) (k : Nat) : FnG P w K mg base (L2.CX P w) (k + 9) T.a__law_is_right T.d__law_is_right ["bag", "field", "puffs", "wind"] (spM K0 mg (ghBag a g) .f (m__law_is_right (.ref a))) :=
  fn_ok (.inl rfl) T.F__law_is_right sc__law_is_right k0_le fun cdv A' outer s H E P0 g0 zp p0 B =>
    (psv_cons (psv_asg (s_f (e_call B (ok__law_fallen T base a g (k + 7)) T.g__law_fallen T.F__law_fallen T.B__law_fallen (pav_cons (vS 1) (pav_cons (vS 2) (pav_cons (vS 3) pav_nil))))) (pgv_tup B.kle B.calm (pgv_cons (gN 4 B) (pgv_cons (gN 5 B) pgv_nil))) (tame_t (tame_cons tame_n (tame_cons tame_n tame_nil))))
    (psv_cons (psv_if (PWV.pt (pwv_or (ptv_cmp (o_neu B) tame_neu (e_call B (ok_fallen T base a g k) T.g_fallen T.F_fallen T.B_fallen (pav_cons (vS 1) (pav_cons (vS 2) (pav_cons (vS 3) pav_nil)))) (vS 4) (nomark _)) (pwv_or1 (ptv_cmp (o_neu B) tame_neu (e_call B (ok_lost T base a g k) T.g_lost T.F_lost T.B_lost (pav_cons (vS 1) (pav_cons (vS 2) (pav_cons (vS 3) pav_nil)))) (vS 5) (nomark _))))) (psv_one (psv_ret (.inl rfl) e_bl)) psv_nil)
    (psv_cons (psv_if (ptv_cmp (o_neu B) tame_neu (pev_op (o_add B) tame_add (e_bi T.n_sum bt_sum (c_sum B) tame_sum (pav_cons (b_f (pev_lc B (piv_any B (vS 4)) (own := [(("cell" : Str), 7)]) (blkOk_by (by rfl)) (fun _ _ _ _ _ => (gN 7 B.blk)) tame_n (by decide) (fun _ _ _ _ _ => ptsv_nil) (fun _ _ _ _ _ => (pev_get B.blk (b_s (vS 4)) (vS 7))))) pav_nil)) (vS 5)) (e_bi T.n_sum bt_sum (c_sum B) tame_sum (pav_cons (b_f (pev_lc B (piv_any B (vS 2)) (own := [(("puff" : Str), 6)]) (blkOk_by (by rfl)) (fun _ _ _ _ _ => (gN 6 B.blk)) tame_n (by decide) (fun _ _ _ _ _ => ptsv_nil) (fun _ _ _ _ _ => (pev_get B.blk (b_s (vS 6)) e_int)))) pav_nil)) (nomark _)) (psv_one (psv_ret (.inl rfl) e_bl)) psv_nil)
    (psv_cons (psv_setS (i := 8) B.nd (by rfl) (by first | exact Or.inl rfl | exact Or.inr rfl) (pev_if (ptv_cmp (o_neu B) tame_neu (vS 4) (pev_dict0 true) (nomark _)) (pev_get B (b_f (e_bi T.n_min bt_min (c_min B) tame_min (pav_cons (b_f (pev_lc B (piv_any B (vS 4)) (own := [(("cell" : Str), 7)]) (blkOk_by (by rfl)) (fun _ _ _ _ _ => (gN 7 B.blk)) tame_n (by decide) (fun _ _ _ _ _ => ptsv_nil) (fun _ _ _ _ _ => (s_f (pev_tup (pav_cons (s_f (pev_op o_sub tame_sub e_int (pev_get B.blk (b_s (vS 4)) (vS 7)))) (pav_cons (vS 7) pav_nil))))))) pav_nil))) e_int) (s_f e_non)))
    (psv_cons (psv_if (ptv_cmp (o_neu B) tame_neu (e_call B (ok_worst_cell T base a g k) T.g_worst_cell T.F_worst_cell T.B_worst_cell (pav_cons (vS 1) (pav_cons (vS 2) (pav_cons (vS 3) pav_nil)))) (vS 8) (nomark _)) (psv_one (psv_ret (.inl rfl) e_bl)) psv_nil)
    (psv_cons (psv_set (i := 9) B.nd (by rfl) (by first | exact Or.inl rfl | exact Or.inr rfl) (pev_lc B (piv_any B (vS 4)) (own := [(("cell" : Str), 7)]) (blkOk_by (by rfl)) (fun _ _ _ _ _ => (gN 7 B.blk)) tame_n (by decide) (fun _ _ _ _ _ => ptsv_nil) (fun _ _ _ _ _ => (pev_get B.blk (b_s (vS 7)) e_int))))
    (psv_cons (psv_if (ptv_cmp (o_neu B) tame_neu (e_call B (ok_clean_rows T base a g k) T.g_clean_rows T.F_clean_rows T.B_clean_rows (pav_cons (vS 1) (pav_cons (vS 2) (pav_cons (vS 3) pav_nil)))) (e_ty T.n_tuple bt_tuple (c_tuple B) tame_tuple (pav_cons (b_f (pev_lc B (i_range1 T.n_range (pav_cons (b_s (pev_get B (b_s (vS 1)) e_int)) pav_nil)) (own := [(("y" : Str), 10)]) (blkOk_by (by rfl)) (fun _ _ _ _ _ => (gN 10 B.blk)) tame_n (by decide) (fun _ _ _ _ _ => (ptsv_one (ptv_cmp (o_hasNot B.blk) tame_hasNot (vS 10) (vB 9) (by with_unfolding_all rfl)))) (fun _ _ _ _ _ => (vS 10)))) pav_nil)) (nomark _)) (psv_one (psv_ret (.inl rfl) e_bl)) psv_nil)
    (psv_cons (psv_setS (i := 7) B.nd (by rfl) (by first | exact Or.inl rfl | exact Or.inr rfl) (s_f (pev_tup (pav_cons (s_f (e_call B (ok__law_pick T base a g (k + 7)) T.g__law_pick T.F__law_pick T.B__law_pick (pav_cons (vS 0) (pav_cons (pev_get B (b_s (vS 1)) e_int) pav_nil)))) (pav_cons (s_f (e_call B (ok__law_pick T base a g (k + 7)) T.g__law_pick T.F__law_pick T.B__law_pick (pav_cons (vS 0) (pav_cons (pev_get B (b_s (vS 1)) e_int) pav_nil)))) pav_nil)))))
    (psv_cons (psv_setLc (i := 11) B (by rfl) (by rfl) (sw_true rfl rfl rfl (by rfl)) (piv_any B (s_f (e_call0 B (ok__law_winds T base a g (k + 7)) T.g__law_winds T.F__law_winds T.B__law_winds))) (own := [(("one" : Str), 12)]) (blkOk_by (by rfl)) (fun _ _ _ _ _ => (gN 12 B.blk)) tame_n (by decide) (fun _ _ _ _ _ => (ptsv_one (ptv_cmp (o_hasNot B.blk) tame_hasNot (vS 7) (pev_get B.blk (b_f (e_call B.blk (ok__law_fallen T base a g (k + 7)) T.g__law_fallen T.F__law_fallen T.B__law_fallen (pav_cons (vS 1) (pav_cons (vS 2) (pav_cons (vS 12) pav_nil))))) e_int) (by with_unfolding_all rfl)))) (fun _ _ _ _ _ => (vS 12)))
    (psv_cons (psv_if (ptv_cmp (o_neu B) tame_neu (e_call B (ok_winds_for T base a g (k + 1)) T.g_winds_for T.F_winds_for T.B_winds_for (pav_cons (vS 1) (pav_cons (vS 2) (pav_cons (vS 7) pav_nil)))) (e_ty T.n_tuple bt_tuple (c_tuple B) tame_tuple (pav_cons (vB 11) pav_nil)) (nomark _)) (psv_one (psv_ret (.inl rfl) e_bl)) psv_nil)
    (psv_cons (psv_setLc (i := 13) B (by rfl) (by rfl) (sw_true rfl rfl rfl (by rfl)) (piv_any B (s_f (e_call0 B (ok__law_winds T base a g (k + 7)) T.g__law_winds T.F__law_winds T.B__law_winds))) (own := [(("one" : Str), 12)]) (blkOk_by (by rfl)) (fun _ _ _ _ _ => (gN 12 B.blk)) tame_n (by decide) (fun _ _ _ _ _ => ptsv_nil) (fun _ _ _ _ _ => (s_f (pev_tup (pav_cons (s_f (pev_op o_sub tame_sub e_int (pev_get B.blk (b_f (e_call B.blk (ok__law_fallen T base a g (k + 7)) T.g__law_fallen T.F__law_fallen T.B__law_fallen (pav_cons (vS 1) (pav_cons (vS 2) (pav_cons (vS 12) pav_nil))))) e_int))) (pav_cons (vS 12) pav_nil))))))
    (psv_cons (psv_if (ptv_cmp (o_neu B) tame_neu (e_call B (ok_best_wind T base a g (k + 1)) T.g_best_wind T.F_best_wind T.B_best_wind (pav_cons (vS 1) (pav_cons (vS 2) pav_nil))) (pev_get B (b_f (e_bi T.n_min bt_min (c_min B) tame_min (pav_cons (vB 13) pav_nil))) e_int) (nomark _)) (psv_one (psv_ret (.inl rfl) e_bl)) psv_nil)
    (psv_cons (psv_setS (i := 14) B.nd (by rfl) (by first | exact Or.inl rfl | exact Or.inr rfl) (s_f (e_call B (ok__law_pick T base a g (k + 7)) T.g__law_pick T.F__law_pick T.B__law_pick (pav_cons (vS 0) (pav_cons (s_f e_int) pav_nil)))))
    (psv_cons (psv_if (ptv_cmp (o_neu B) tame_neu (e_call B (ok_swept T base a g k) T.g_swept T.F_swept T.B_swept (pav_cons (vS 1) (pav_cons (vS 2) (pav_cons (vS 3) (pav_cons (vS 14) pav_nil))))) (e_bi T.n_sum bt_sum (c_sum B) tame_sum (pav_cons (b_f (pev_lc B (piv_any B (s_f (pev_slice B (b_s (e_call B (ok__law_path T base a g (k + 7)) T.g__law_path T.F__law_path T.B__law_path (pav_cons (vS 1) pav_nil))) pov_none (pov_some (vS 14))))) (own := [(("one" : Str), 12)]) (blkOk_by (by rfl)) (fun _ _ _ _ _ => (gN 12 B.blk)) tame_n (by decide) (fun _ _ _ _ _ => ptsv_nil) (fun _ _ _ _ _ => (pev_get2 B.blk (b_s (vS 4)) (vS 12) (s_f e_int) m2_of)))) pav_nil)) (nomark _)) (psv_one (psv_ret (.inl rfl) e_bl)) psv_nil)
    (psv_cons (psv_setS (i := 15) B.nd (by rfl) (by first | exact Or.inl rfl | exact Or.inr rfl) (e_call B (ok__law_some T base a g (k + 6)) T.g__law_some T.F__law_some T.B__law_some (pav_cons (vS 0) (pav_cons (s_f (pev_lst (pav_cons (s_f (pev_rev B (b_s (vS 2)))) (pav_cons (s_f (e_call B (ok__law_puffs T base a g (k + 6)) T.g__law_puffs T.F__law_puffs T.B__law_puffs (pav_cons (vS 0) (pav_cons (vS 1) pav_nil)))) (pav_cons (vS 2) pav_nil))))) pav_nil))))
    (psv_one (psv_ret (.inl rfl) (pev_cmp (o_equ B) tame_equ (e_bi T.n_repr bt_repr (c_repr B) tame_repr (pav_cons (b_f (e_call B (ok_same_fall T base a g (k + 1)) T.g_same_fall T.F_same_fall T.B_same_fall (pav_cons (vS 1) (pav_cons (vS 2) (pav_cons (vS 15) (pav_cons (vS 3) pav_nil)))))) pav_nil)) (e_bi T.n_repr bt_repr (c_repr B) tame_repr (pav_cons (b_f (pev_cmp (o_equ B) tame_equ (pev_get B (b_f (e_call B (ok__law_fallen T base a g (k + 7)) T.g__law_fallen T.F__law_fallen T.B__law_fallen (pav_cons (vS 1) (pav_cons (vS 15) (pav_cons (vS 3) pav_nil))))) e_int) (vS 4) (nomark _))) pav_nil)) (nomark _)))))))))))))))))))
theorem rest_law (T : TX P w K mg) (base : Heap) (a g : Addr) (k : Nat) (cdv : Value) (A' : Around) (outer : List Env) (s : Shared) (H : Hp) (E : XK) (H1 : Hp) (P0 : Addr → Prop) (g0 : (ghBag a g).G H1) (zp : ∀ b, (ghBag a g).Z b → ¬ P0 b) (p0 : ∀ b, ¬ P0 b → ¬ (ghBag a g).Z b → ∃ o, H1 b = some o ∧ Mut (some o))
    (B : Bd (cxOf (L2.CX P w) P w K mg base ["script", "bag", "plain_puffs", "lap", "field"] "law" (defScope s_law) T.a_law cdv A' outer s H E) ⟨ghBag a g, K0, H1, P0, g0, zp, p0⟩ (enOf mg E) (k + 9)) :
    PSVs (cxOf (L2.CX P w) P w K mg base ["script", "bag", "plain_puffs", "lap", "field"] "law" (defScope s_law) T.a_law cdv A' outer s H E) ⟨ghBag a g, K0, H1, P0, g0, zp, p0⟩ (enOf mg E) .f ((defBody s_law).drop 1) (b_law (.ref a)) :=
    (psv_cons (psv_setS (i := 2) B.nd (by rfl) (by first | exact Or.inl rfl | exact Or.inr rfl) (s_f (pev_tup (pav_cons (s_f (pev_tup (pav_cons (s_f e_int) (pav_cons (s_f e_int) (pav_cons (s_f e_int) (pav_cons (s_f e_int) pav_nil)))))) (pav_cons (s_f (pev_tup (pav_cons (s_f e_int) (pav_cons (s_f e_int) (pav_cons (s_f e_int) (pav_cons (s_f e_int) pav_nil)))))) pav_nil)))))
    (psv_cons (psv_if (PWV.pt (pwv_or (ptv_cmp (o_neu B) tame_neu (e_call B (ok_fallen T base a g (k + 1)) T.g_fallen T.F_fallen T.B_fallen (pav_cons (s_f (pev_tup (pav_cons (s_f e_int) (pav_cons (s_f e_int) pav_nil)))) (pav_cons (vS 2) (pav_cons (s_f (pev_tup (pav_cons (s_f e_int) (pav_cons (s_f e_int) pav_nil)))) pav_nil)))) (pev_dispT (fun _ => rfl) B (ppv_cons (s_f (pev_tup (pav_cons (s_f e_int) (pav_cons (s_f e_int) pav_nil)))) (s_f e_int) (ppv_cons (s_f (pev_tup (pav_cons (s_f e_int) (pav_cons (s_f e_int) pav_nil)))) (s_f e_int) ppv_nil))) (nomark _)) (pwv_or1 (ptv_cmp (o_neu B) tame_neu (e_call B (ok_lost T base a g (k + 1)) T.g_lost T.F_lost T.B_lost (pav_cons (s_f (pev_tup (pav_cons (s_f e_int) (pav_cons (s_f e_int) pav_nil)))) (pav_cons (vS 2) (pav_cons (s_f (pev_tup (pav_cons (s_f e_int) (pav_cons (s_f e_int) pav_nil)))) pav_nil)))) e_int (nomark _))))) (psv_one (psv_ret (.inl rfl) e_bl)) psv_nil)
    (psv_cons (psv_if (PWV.pt (pwv_or (ptv_cmp (o_neu B) tame_neu (e_call B (ok_swept T base a g (k + 1)) T.g_swept T.F_swept T.B_swept (pav_cons (s_f (pev_tup (pav_cons (s_f e_int) (pav_cons (s_f e_int) pav_nil)))) (pav_cons (vS 2) (pav_cons (s_f (pev_tup (pav_cons (s_f e_int) (pav_cons (s_f e_int) pav_nil)))) (pav_cons (s_f e_int) pav_nil))))) e_int (nomark _)) (pwv_or1 (ptv_cmp (o_neu B) tame_neu (e_call B (ok_worst_cell T base a g (k + 1)) T.g_worst_cell T.F_worst_cell T.B_worst_cell (pav_cons (s_f (pev_tup (pav_cons (s_f e_int) (pav_cons (s_f e_int) pav_nil)))) (pav_cons (vS 2) (pav_cons (s_f (pev_tup (pav_cons (s_f e_int) (pav_cons (s_f e_int) pav_nil)))) pav_nil)))) (pev_tup (pav_cons (s_f e_int) (pav_cons (s_f e_int) pav_nil))) (nomark _))))) (psv_one (psv_ret (.inl rfl) e_bl)) psv_nil)
    (psv_cons (psv_for passes_body B.calm (i_range1 T.n_range (pav_cons (b_f e_int) pav_nil)) (gN 3 B) tame_n (psv_cons (psv_setS (i := 4) B.nd (by rfl) (by first | exact Or.inl rfl | exact Or.inr rfl) (s_f (pev_tup (pav_cons (s_f (pev_op (o_add B) tame_add e_int (e_call B (ok__law_pick T base a g (k + 8)) T.g__law_pick T.F__law_pick T.B__law_pick (pav_cons (vS 1) (pav_cons (s_f e_int) pav_nil))))) (pav_cons (s_f (pev_op (o_add B) tame_add e_int (e_call B (ok__law_pick T base a g (k + 8)) T.g__law_pick T.F__law_pick T.B__law_pick (pav_cons (vS 1) (pav_cons (s_f e_int) pav_nil))))) pav_nil)))))
    (psv_one (psv_if (ptv_not (ptv_val (e_call B (ok__law_is_right T base a g k) T.g__law_is_right T.F__law_is_right T.B__law_is_right (pav_cons (vS 1) (pav_cons (vS 4) (pav_cons (s_f (e_call B (ok__law_puffs T base a g (k + 7)) T.g__law_puffs T.F__law_puffs T.B__law_puffs (pav_cons (vS 1) (pav_cons (vS 4) pav_nil)))) (pav_cons (e_call B (ok__law_some T base a g (k + 7)) T.g__law_some T.F__law_some T.B__law_some (pav_cons (vS 1) (pav_cons (s_f (e_call0 B (ok__law_winds T base a g (k + 8)) T.g__law_winds T.F__law_winds T.B__law_winds)) pav_nil))) pav_nil))))))) (psv_one (psv_ret (.inl rfl) e_bl)) psv_nil))))
    (psv_one (psv_ret (.inl rfl) e_bl))))))

theorem bag_math (sc : Addr) (ns : List Int) : (b__law_bag sc ns [.v (.raw (.ref sc)), .un, .un, .un]).wp (fun r => ∃ (gs : List Int) (seed len : Int), r.1 = .rt (.lst [.lst (gs.map D.int), .int seed, .int len, .int 0]) ∧ (∀ n ∈ gs, 0 ≤ n) ∧ 0 ≤ seed ∧ seed < 2147483629) (fun _ => False) := by
  have hs : ∀ (d : D) (r : Ga), scrS sc 0 d (.v (.raw (.ref sc)) :: r) = .ret d := fun d r => if_pos rfl
  have hp : ∀ i : Int, mulU (.int i) (.int 69621) = .ret (.int (i * 69621)) := fun i => mul_r (by decide)
  have hp2 : ∀ i : Int, mulU (.int i) (.int 2) = .ret (.int (i * 2)) := fun i => mul_r (by decide)
  have hpow : powD (.int 10) (.int 18) = .ret (.int (10 ^ 18)) := pow_p (by decide)
  have hm : ∀ i : Int, modD (.int i) (.int 2147483629) = .ret (.int (i % 2147483629)) := fun i => mod_p (by decide)
  unfold b__law_bag
  generalize hms : (ns.drop (HT.sIx ns.length 0 none)).take (HT.sIx ns.length ns.length (some 63) - HT.sIx ns.length 0 none) = ms
  rw [cut_map, hms]
  let f : Int → List Int := fun i => if decide (10 ^ 18 ≤ if i < 0 then -i else i) = true then [if i < 0 then -i else i] else []
  have e1 : lcGo (lcOne (bndN 2) (tst (bin (callV (consL (callV (consL (getS 2) nilL) intD) nilL) absD) (bin (cI 10) (cI 18) powD) geD)) (callV (consL (callV (consL (getS 2) nilL) intD) nilL) absD) (wipeG [.v (.raw (.ref sc)), .un, .un, .un] [2])) (ms.map D.int) = .ret ((ms.flatMap f).map D.int) := by
    rw [lcGo_map (f := fun i => (f i).map D.int)]
    · rw [List.map_flatMap]
    · intro x _
      simp [wipeG, hpow]
      show _ = M.ret (List.map D.int (if decide (10 ^ 18 ≤ if x < 0 then -x else x) = true then [if x < 0 then -x else x] else []))
      generalize (if x < 0 then -x else x) = y
      by_cases c : (1000000000000000000 : Int) ≤ y
      · rw [if_pos c, if_pos (decide_eq_true (show (10 ^ 18 : Int) ≤ y from c))]; rfl
      · rw [if_neg c, if_neg (fun z => c (show (10 ^ 18 : Int) ≤ y from of_decide_eq_true z))]; rfl
  have hgs : ∀ n ∈ ms.flatMap f, 0 ≤ n := fun n hn => by
    obtain ⟨x, _, hx⟩ := List.mem_flatMap.mp hn
    have hx : n ∈ if decide (10 ^ 18 ≤ if x < 0 then -x else x) = true then [if x < 0 then -x else x] else [] := hx
    have hy : 0 ≤ if x < 0 then -x else x := by split <;> omega
    generalize (if x < 0 then -x else x) = y at hx hy
    by_cases c : decide ((10 : Int) ^ 18 ≤ y) = true
    · rw [if_pos c, List.mem_singleton] at hx
      rw [hx]; exact hy
    · rw [if_neg c] at hx; cases hx
  simp only [seqM_, setM_, lcM_, hs, anyM_, ret_b, itemsK_lst, setSM_, cI_, then_nx]
  rw [if_pos (show ownFree [2] [.v (.raw (.ref sc)), .un, .un, .un] = true from rfl), e1]
  simp only [ret_b, then_nx, slF_lst, List.set_cons_succ, List.set_cons_zero, seqM_, setSM_, cI_, forS_, hs, anyM_, itemsK_lst]
  refine M.wp_bind.mpr (forM_inv (I := fun _ Γ => ∃ seed c, Γ = [.v (.raw (.ref sc)), .own (.lst ((ms.flatMap f).map D.int)), c, .v (.int seed)] ∧ 0 ≤ seed ∧ seed < 2147483629) ⟨2250, .un, rfl, by decide, by decide⟩ ?_ ?_)
  · rintro x r Γ ⟨seed, c, rfl, h0, h1⟩
    simp [hp, hp2, hm]
    exact ⟨Int.emod_nonneg _ (by decide), Int.emod_lt_of_pos _ (by decide)⟩
  · rintro Γ ⟨seed, c, rfl, h0, h1⟩
    simp [fz, hs]
    exact ⟨ms.flatMap f, seed, ⟨rfl, rfl⟩, hgs, h0, h1⟩
def spBag (K : PySem.W.Frag) : Sp := fun vs H Q _ => ∃ (sc : Addr) (ns : List Int), vs = [.ref sc] ∧ SqL K H sc (ns.map V.int) ∧ ∀ a g H', Kx (fun _ => False) H H' → BagOk a g H' → Q (.ref a) H'
theorem ok__law_bag (T : TX P w K mg) (base : Heap) (k : Nat) : FnG P w K mg base (L2.CX P w) (k + 1) T.a__law_bag T.d__law_bag ["script"] (spBag K) := by
  refine okXG T.F__law_bag sc__law_bag (fun vs H Q E h => ?_) fun cdv A outer s H vs Q E hr gd hsp => ?_
  · obtain ⟨sc, ns, rfl, _⟩ := h
    rfl
  obtain ⟨sc, ns, rfl, hS, q⟩ := hsp
  have tk : Takes (cxOf (L2.CX P w) P w K mg base ["script", "great", "cell", "seed"] "_law_bag" (defScope s__law_bag) T.a__law_bag cdv A outer s H E) (fun cls d _ H => E cls d H) := takes_of rfl rfl rfl rfl
  have B : Bd (cxOf (L2.CX P w) P w K mg base ["script", "great", "cell", "seed"] "_law_bag" (defScope s__law_bag) T.a__law_bag cdv A outer s H E) ⟨ghNone, K0, H, fun _ => True, trivial, fun _ z => z.elim, fun _ n => absurd trivial n⟩ (enOf mg E) k :=
    ⟨rfl, sc__law_bag.nd, hr, gd, passes_call tk fun cls d σ H' ⟨x, h1, h2⟩ => h2 cls d h1, k0_le⟩
  refine ⟨_, (walk__law_bag T base ghNone k cdv A outer s H E H (fun _ => True) trivial (fun _ z => z.elim) (fun _ n => absurd trivial n) sc ns ⟨hS, fun z => z⟩ B).ps, ⟨⟨[], [], rfl⟩, fun _ => 0, [.v (.raw (.ref sc)), .un, .un, .un], ?_, ?_⟩⟩
  · refine ⟨rfl, trivial, fun a o z e => .inl e, fun a ob hm => absurd hm (by simp), fun a hm => absurd hm (by simp), fun i d e => ?_, fun i d e => ?_, fun i j d e h1 _ => ?_⟩
    · match i with
      | 0 => cases e; exact ⟨_, rfl, .raw _⟩
      | 1 => cases e
      | 2 => cases e
      | 3 => cases e
      | i + 4 => simp at e
    · match i with
      | 0 => cases e
      | 1 => cases e
      | 2 => cases e
      | 3 => cases e
      | i + 4 => simp at e
    · match i with
      | 0 => cases h1
      | 1 => cases h1
      | 2 => cases h1
      | 3 => cases h1
      | i + 4 => simp at h1
  · refine M.wp_mono (bag_math sc ns) (fun r z => ?_) fun _ z => z.elim
    obtain ⟨gs, seed, len, e, hgs, h0, h1⟩ := z
    obtain ⟨c, Γ'⟩ := r
    have e : c = .rt (.lst [.lst (gs.map D.int), .int seed, .int len, .int 0]) := e
    subst e
    intro w' H' kx gG' rq
    obtain ⟨a, rfl, hn, xs, hx, rl⟩ := rq
    cases rl with
    | cons r1 rl =>
      cases rl with
      | cons r2 rl =>
        cases rl with
        | cons r3 rl =>
          cases rl with
          | cons r4 rl =>
            cases rl
            cases r2
            cases r3
            cases r4
            cases r1 with
            | @lst g ys _ pg hy ry =>
              rw [rpl_ints ry] at hy
              exact q a g H' (fun b o z e => (kx b o z e).eq) ⟨gs, seed, len, 0, hx, hy, fun z => pg.2 z.symm, hgs, h0, h1, Int.le_refl _⟩
/-- what is asked of the law's own body behind its first statement -/
def LawOk : Prop := ∀ a : Addr, (b_law (.ref a) (.un :: .v (.raw (.ref a)) :: List.replicate 3 .un)).wp (fun r => r.1 = .rt (.bl true)) (fun _ => False)
def spLaw (K : PySem.W.Frag) : Sp := fun vs H Q _ => ∃ (sc : Addr) (ns : List Int), vs = [.ref sc] ∧ SqL K H sc (ns.map V.int) ∧ ∀ H', Q (.bl true) H'
theorem ok_law (T : TX P w K mg) (L : LawOk) (base : Heap) (k : Nat) : FnG P w K mg base (L2.CX P w) (k + 10) T.a_law T.d_law ["script"] (spLaw K) := by
  refine okXG T.F_law sc_law (fun vs H Q E h => ?_) fun cdv A outer s H vs Q E hr gd hsp => ?_
  · obtain ⟨sc, ns, rfl, _⟩ := h
    rfl
  obtain ⟨sc, ns, rfl, hS, q⟩ := hsp
  have tk : Takes (cxOf (L2.CX P w) P w K mg base ["script", "bag", "plain_puffs", "lap", "field"] "law" (defScope s_law) T.a_law cdv A outer s H E) (fun cls d _ H => E cls d H) := takes_of rfl rfl rfl rfl
  have hx : Passes (L2.CX P w) (cxOf (L2.CX P w) P w K mg base ["script", "bag", "plain_puffs", "lap", "field"] "law" (defScope s_law) T.a_law cdv A outer s H E) (EK mg (enOf mg E)) := passes_call tk fun cls d σ H' ⟨x, h1, h2⟩ => h2 cls d h1
  let ι := { p : (Addr × Addr) × Hp // BagOk p.1.1 p.1.2 p.2 }
  have rest : ∀ i : ι, PSs (cxOf (L2.CX P w) P w K mg base ["script", "bag", "plain_puffs", "lap", "field"] "law" (defScope s_law) T.a_law cdv A outer s H E) ((defBody s_law).drop 1) (tS K0 ⟨ghBag i.1.1.1 i.1.1.2, K0, i.1.2, fun b => ¬ (b = i.1.1.1 ∨ b = i.1.1.2), i.2, fun _ z n => n z, fun b n z => absurd (Classical.not_not.mp n) z⟩ (enOf mg E) .f (b_law (.ref i.1.1.1))) := fun i =>
    (rest_law T base i.1.1.1 i.1.1.2 k cdv A outer s H E i.1.2 (fun b => ¬ (b = i.1.1.1 ∨ b = i.1.1.2)) i.2 (fun _ z n => n z) (fun b n z => absurd (Classical.not_not.mp n) z) ⟨rfl, sc_law.nd, hr, gd, hx, k0_le⟩).ps
  refine ⟨_, pss_cons (ps_set (i := 1) sc_law.nd rfl (by first | exact Or.inl rfl | exact Or.inr rfl) (pe_callG (ok__law_bag T base (k + 8)) hr gd (by rfl) T.g__law_bag T.F__law_bag.kp T.B__law_bag .nil hx (pa_cons (pv 0) pa_nil))) (ex_pss rest), ?_⟩
  refine ⟨_, rfl, sc, ns, rfl, hS, fun a g H' kx bo => ?_⟩
  refine ⟨⟨⟨⟨a, g⟩, H'⟩, bo⟩, ⟨[], [], rfl⟩, fun _ => 0, .un :: .v (.raw (.ref a)) :: List.replicate 3 .un, ?_, ?_⟩
  · refine ⟨rfl, bo, fun a o z e => .inl e, fun a ob hm => absurd hm (by simp), fun a hm => absurd hm (by simp), fun i d e => ?_, fun i d e => ?_, fun i j d e h1 _ => ?_⟩
    · match i with
      | 0 => cases e
      | 1 => cases e; exact ⟨_, rfl, .raw _⟩
      | i + 2 =>
        have e : (List.replicate 3 Sl.un)[i]? = some (.v d) := e
        rw [List.getElem?_replicate] at e
        split at e <;> cases e
    · match i with
      | 0 => cases e
      | 1 => cases e
      | i + 2 =>
        have e : (List.replicate 3 Sl.un)[i]? = some (.own d) := e
        rw [List.getElem?_replicate] at e
        split at e <;> cases e
    · match i with
      | 0 => cases h1
      | 1 => cases h1
      | i + 2 =>
        have h1 : (List.replicate 3 Sl.un)[i]? = some (.own d) := h1
        rw [List.getElem?_replicate] at h1
        split at h1 <;> cases h1
  · refine M.wp_mono (L a) (fun r z => ?_) fun _ z => z.elim
    obtain ⟨c, Γ'⟩ := r
    have z : c = .rt (.bl true) := z
    subst z
    intro w' H2 _ _ rq
    cases (show Rp K0 H2 _ w' (.bl true) from rq)
    exact q H2

end

end Px

set_option Elab.async false
set_option linter.all false
set_option maxRecDepth 100000
set_option maxHeartbeats 4000000
set_option autoImplicit false
namespace Px
open PySem PySem.Spec PyProof.Rows L2
theorem q_is_integer {n : Int} : m_is_integer [.int n] = .ret (.bl true) := rfl
theorem q_is_tuple_of {ds : List D} {n : Int} (h : D.plL ds = true) : m_is_tuple_of [.tup ds, .int n] = .ret (.bl (decide ((ds.length : Int) = n))) := by
  have e : isaD [.tup ds, .raw (.ty "tuple")] = .ret (.bl true) := by
    show isaP "tuple" (.tup ds) = _
    unfold isaP
    rw [if_pos (show (D.tup ds).pl = true from h)]
    rfl
  simp [m_is_tuple_of, fnM, b_is_tuple_of, e]
theorem q_is_within {n a b : Int} : m_is_within [.int n, .int a, .int b] = .ret (.bl (decide (a ≤ n) && decide (n ≤ b))) := by
  simp [m_is_within, fnM, b_is_within, q_is_integer]
  by_cases h : a ≤ n <;> simp [h]
theorem q_t2 {w h : Int} : m_is_tuple_of [.tup [.int w, .int h], .int 2] = .ret (.bl true) := by rw [q_is_tuple_of rfl]; rfl
theorem q_t4 {a b c d : Int} : m_is_tuple_of [.tup [.int a, .int b, .int c, .int d], .int 4] = .ret (.bl true) := by rw [q_is_tuple_of rfl]; rfl
theorem q_check_field {w h : Int} (h1 : 1 ≤ w ∧ w ≤ 12) (h2 : 1 ≤ h ∧ h ≤ 12) : m_check_field [pD (w, h)] = .ret .non := by
  have e : allD [.lst [.bl true, .bl true]] = .ret (.bl true) := rfl
  simp [m_check_field, fnM, b_check_field, pD, q_t2, q_is_within, ownFree, h1, h2, e]
theorem q_check_wind {w h : Int} (h1 : -3 ≤ w ∧ w ≤ 3) (h2 : -3 ≤ h ∧ h ≤ 3) : m_check_wind [pD (w, h)] = .ret .non := by
  have e : allD [.lst [.bl true, .bl true]] = .ret (.bl true) := rfl
  simp [m_check_wind, fnM, b_check_wind, pD, q_t2, q_is_within, ownFree, h1, h2, e]
/-- a cell of the field -/
def inF (f c : II) : Bool := (decide (0 ≤ c.1) && decide (c.1 ≤ f.1 - 1)) && (decide (0 ≤ c.2) && decide (c.2 ≤ f.2 - 1))
theorem q_is_cell {f c : II} : m_is_cell_of [pD f, pD c] = .ret (.bl (inF f c)) := by
  simp [m_is_cell_of, fnM, b_is_cell_of, pD, q_t2, q_is_within]
  by_cases a : c.1 < 0 ∨ f.1 - 1 < c.1
  · have e : inF f c = false := by
      unfold inF
      rcases a with a | a
      · rw [decide_eq_false (show ¬ 0 ≤ c.1 by omega)]; simp
      · rw [decide_eq_false (show ¬ c.1 ≤ f.1 - 1 by omega)]; simp
    simp [a, e]
  · have e : inF f c = (decide (0 ≤ c.2) && decide (c.2 ≤ f.2 - 1)) := by
      unfold inF
      rw [decide_eq_true (show 0 ≤ c.1 by omega), decide_eq_true (show c.1 ≤ f.1 - 1 by omega)]; rfl
    simp [a, e, q_is_within]
structure Puff where
  x : Int
  y : Int
  m : Int
  h : Int
def fD (p : Puff) : D := .tup [.int p.x, .int p.y, .int p.m, .int p.h]
def okP (f : II) (p : Puff) : Prop := inF f (p.x, p.y) = true ∧ 1 ≤ p.m ∧ p.m ≤ 100 ∧ 0 ≤ p.h ∧ p.h ≤ 10
def psD (ps : List Puff) : D := .tup (ps.map fD)
theorem q_is_puff {f : II} {p : Puff} (h : okP f p) : m_is_puff [pD f, fD p] = .ret (.bl true) := by
  obtain ⟨h0, h1, h2, h3, h4⟩ := h
  have e : cutD [.int p.x, .int p.y, .int p.m, .int p.h] none (some 2) = [.int p.x, .int p.y] := rfl
  have e2 := q_is_cell (f := f) (c := (p.x, p.y))
  rw [h0] at e2
  unfold pD at e2
  simp [m_is_puff, fnM, b_is_puff, pD, fD, q_t4, q_is_within, e, e2, h1, h2, h3, h4]
theorem q_check_only {f : II} {ps : List Puff} (hl : ps.length ≤ 10) (h : ∀ p ∈ ps, okP f p) : m_check_only_puffs [pD f, psD ps] = .ret .non := by
  have e : isaD [.tup (ps.map fD), .raw (.ty "tuple")] = .ret (.bl true) := by
    show isaP "tuple" (.tup (ps.map fD)) = _
    unfold isaP
    have hp : (D.tup (ps.map fD)).pl = true := by
      show D.plL (ps.map fD) = true
      rw [plL_all, List.all_map]
      exact List.all_eq_true.mpr fun _ _ => rfl
    rw [if_pos hp]; rfl
  have e2 : lcGo (lcOne (bndN 2) yesT (callV (consL (getS 0) (consL (getS 2) nilL)) m_is_puff) [.v (pD f), .v (.tup (ps.map fD)), .un]) (ps.map fD) = .ret (ps.map fun _ => D.bl true) := by
    rw [lcGo_map (f := fun _ => [D.bl true]), flat_map1]
    intro p hp
    simp [q_is_puff (h p hp)]
  have e3 : allD [.lst (ps.map fun _ => D.bl true)] = .ret (.bl true) := all_true fun d hd => by
    obtain ⟨_, _, rfl⟩ := List.mem_map.mp hd; rfl
  have e4 : ¬ (10 < (ps.length : Int)) := by omega
  simp [m_check_only_puffs, fnM, b_check_only_puffs, psD, e, ownFree, e4, e2, e3]
/-- what is valid -/
structure Ok (f : II) (ps : List Puff) : Prop where
  f1 : 1 ≤ f.1 ∧ f.1 ≤ 12
  f2 : 1 ≤ f.2 ∧ f.2 ≤ 12
  n : ps.length ≤ 10
  p : ∀ p ∈ ps, okP f p
def okW (w : II) : Prop := (-3 ≤ w.1 ∧ w.1 ≤ 3) ∧ (-3 ≤ w.2 ∧ w.2 ≤ 3)
theorem q_check_puffs {f : II} {ps : List Puff} (h : Ok f ps) : m_check_puffs [pD f, psD ps] = .ret .non := by
  simp [m_check_puffs, fnM, b_check_puffs, show m_check_field [pD f] = .ret .non from q_check_field h.f1 h.f2, q_check_only h.n h.p]
theorem q_check_ash {f w : II} {ps : List Puff} (h : Ok f ps) (hw : okW w) : m_check_ash [pD f, psD ps, pD w] = .ret .non := by
  simp [m_check_ash, fnM, b_check_ash, q_check_puffs h, show m_check_wind [pD w] = .ret .non from q_check_wind hw.1 hw.2]
/-! ### what falls -/
def downC (p : Puff) (w : II) : II := (p.x + p.h * w.1, p.y + p.h * w.2)
theorem q_down {f w : II} {p : Puff} (h : okP f p) : m_down_at [fD p, pD w] = .ret (pD (downC p w)) := by
  have hs : smallI p.h = true := small_of (by have := h.2.2.2; omega)
  simp [m_down_at, fnM, b_down_at, fD, pD, downC, mul_l hs]
def stepF (f w : II) (A : Tab) (p : Puff) : Tab := if inF f (downC p w) = true then tput A (downC p w) ((tget A (downC p w)).getD 0 + p.m) else A
def fallT (f w : II) (ps : List Puff) : Tab := ps.foldl (stepF f w) []
theorem fall_len {f w : II} : ∀ (ps : List Puff) (A : Tab), (ps.foldl (stepF f w) A).length ≤ A.length + ps.length
  | [], A => Nat.le_refl _
  | p :: r, A => by
    have h1 := fall_len (f := f) (w := w) r (stepF f w A p)
    have h2 : (stepF f w A p).length ≤ A.length + 1 := by
      unfold stepF
      split
      · exact tput_len
      · omega
    show ((r.foldl (stepF f w) (stepF f w A p))).length ≤ _
    rw [List.length_cons]; omega
theorem fall_uq {f w : II} : ∀ (ps : List Puff) (A : Tab), Uq A → Uq (ps.foldl (stepF f w) A)
  | [], A, h => h
  | p :: r, A, h => fall_uq r _ (by
      unfold stepF
      split
      · exact h.put
      · exact h)
theorem dget_tab {A : Tab} {c : II} : dget2 (.dct true (tabD A)) (pD c) (.int 0) = .ret (.int ((tget A c).getD 0)) := by
  show (if isKeyD true (pD c) = true then M.ret ((dval true (tabD A) (pD c)).getD (.int 0)) else .stuck) = _
  rw [if_pos (show isKeyD true (pD c) = true from rfl), dval_tab]
  cases tget A c <;> rfl
theorem sput_tab {i : Nat} {A : Tab} {c : II} {v : Int} {Γ : Ga} (h : Γ[i]? = some (.own (.dct true (tabD A)))) (hl : A.length < 16777216) : sputG true i (pD c) (.int v) Γ = .ret (.nx, Γ.set i (.own (.dct true (tabD (tput A c v))))) := by
  unfold sputG
  rw [h]
  show (if (isKeyD true (pD c) && (decide ((tabD A).length < 16777216) && (true || !true))) = true then M.ret (Ct.nx, Γ.set i (.own (.dct true (dput true (tabD A) (pD c) (.int v))))) else .stuck) = _
  rw [tab_len, decide_eq_true hl, dput_tab]; rfl
theorem fD_m {p : Puff} : getD' (fD p) (.int 2) = .ret (.int p.m) := rfl
theorem q_raw {f w : II} {ps : List Puff} (h : Ok f ps) : m_raw_fallen [pD f, psD ps, pD w] = .ret (.dct true (tabD (fallT f w ps))) := by
  simp only [m_raw_fallen, fnM, b_raw_fallen, seqM_, setM_, dct0_, ret_b, slF_dct, then_nx, forS_, anyM_, getS_]
  simp only [List.length_cons, List.length_nil, List.map_cons, List.map_nil, Nat.reduceAdd, Nat.reduceSub, if_true, List.replicate, List.cons_append, List.nil_append, List.set_cons_succ, List.set_cons_zero, List.getElem?_cons_succ, List.getElem?_cons_zero, psD, ret_b, itemsK_tup]
  obtain ⟨Γ', e, q⟩ := forM_rel (enc := fD) (g := stepF f w) (R := fun r A Γ => (∃ d1 d2, Γ = [.v (pD f), .v (.tup (ps.map fD)), .v (pD w), .own (.dct true (tabD A)), d1, d2]) ∧ A.length + r.length ≤ 10 ∧ ∀ p ∈ r, okP f p) (body := fun d Γ => bndN 4 d Γ >>= seqM (setSM 5 (callV (consL (getS 4) (consL (getS 2) nilL)) m_down_at)) (ifM (tst (callV (consL (getS 0) (consL (getS 5) nilL)) m_is_cell_of)) (sputM true 3 (getS 5) (bin (get2V (asDct (getB 3)) (getS 5) (cI 0)) (bin (getS 4) (cI 2) getD') addD)) nextM)) (fun p r A Γ hR => by
    obtain ⟨⟨d1, d2, rfl⟩, hl, hp⟩ := hR
    have hq := hp p (List.mem_cons_self ..)
    simp [q_down hq]
    have hl' : List.length (stepF f w A p) + r.length ≤ 10 := by
      have h2 : (stepF f w A p).length ≤ A.length + 1 := by
        unfold stepF
        split
        · exact tput_len
        · omega
      rw [List.length_cons] at hl; omega
    have hp' : ∀ q ∈ r, okP f q := fun q hq => hp q (List.mem_cons_of_mem _ hq)
    rw [q_is_cell]
    by_cases hc : inF f (downC p w) = true
    · have hst : stepF f w A p = tput A (downC p w) ((tget A (downC p w)).getD 0 + p.m) := by unfold stepF; rw [if_pos hc]
      have h4 := fun v => sput_tab (i := 3) (A := A) (c := downC p w) (v := v) (Γ := [Sl.v (pD f), Sl.v (D.tup (List.map fD ps)), Sl.v (pD w), Sl.own (D.dct true (tabD A)), Sl.v (fD p), Sl.v (pD (downC p w))]) rfl (by rw [List.length_cons] at hl; omega)
      refine ⟨_, ?_, ⟨.v (fD p), .v (pD (downC p w)), rfl⟩, hl', hp'⟩
      rw [hst, hc]
      simp [dget_tab, fD_m, h4]
    · refine ⟨_, ?_, ⟨.v (fD p), .v (pD (downC p w)), rfl⟩, hl', hp'⟩
      have hst : stepF f w A p = A := by unfold stepF; rw [if_neg hc]
      rw [hst]
      simp [hc]) (xs := ps) (a := []) (Γ := [.v (pD f), .v (.tup (ps.map fD)), .v (pD w), .own (.dct true []), .un, .un]) ⟨⟨_, _, rfl⟩, by simpa using h.n, h.p⟩
  obtain ⟨⟨d1, d2, rfl⟩, -, -⟩ := q
  rw [e]
  rfl
def goneF (f w : II) (n : Int) (p : Puff) : Int := if inF f (downC p w) = true then n else n + p.m
def goneT (f w : II) (ps : List Puff) : Int := ps.foldl (goneF f w) 0
def pairF (f w : II) (z : Tab × Int) (p : Puff) : Tab × Int := (stepF f w z.1 p, goneF f w z.2 p)
theorem pair_fold {f w : II} : ∀ (ps : List Puff) (z : Tab × Int), ps.foldl (pairF f w) z = (ps.foldl (stepF f w) z.1, ps.foldl (goneF f w) z.2)
  | [], z => rfl
  | p :: r, z => pair_fold r (pairF f w z p)
theorem inF_lt {f c : II} : inF f c = (decide (0 ≤ c.1) && decide (c.1 < f.1) && (decide (0 ≤ c.2) && decide (c.2 < f.2))) := by
  have e (a b : Int) : decide (a ≤ b - 1) = decide (a < b) := decide_eq_decide.mpr (by omega)
  unfold inF
  rw [e, e]
theorem q_lfall {f w : II} {ps : List Puff} (h : Ok f ps) : m__law_fallen [pD f, psD ps, pD w] = .ret (.tup [.dct true (tabD (fallT f w ps)), .int (goneT f w ps)]) := by
  simp only [m__law_fallen, fnM, b__law_fallen, seqM_, parM_, consF_, consS_, nilS_, cI_, dct0_, ret_b, slF_dct, then_nx, forS_, anyM_, getS_, setAll_c, setAll_n]
  simp only [List.length_cons, List.length_nil, List.map_cons, List.map_nil, Nat.reduceAdd, Nat.reduceSub, if_true, List.replicate, List.cons_append, List.nil_append, List.set_cons_succ, List.set_cons_zero, List.getElem?_cons_succ, List.getElem?_cons_zero, psD, ret_b, itemsK_tup]
  obtain ⟨Γ', e, q⟩ := forM_rel (enc := fD) (g := pairF f w) (R := fun r z Γ => (∃ d1 d2 d3 d4 d5, Γ = [.v (pD f), .v (.tup (ps.map fD)), .v (pD w), .own (.dct true (tabD z.1)), .v (.int z.2), d1, d2, d3, d4, d5]) ∧ z.1.length + r.length ≤ 10 ∧ ∀ p ∈ r, okP f p) (body := fun d Γ => bndT 4 (bndCons (bndN 5) (bndCons (bndN 6) (bndCons (bndN 7) (bndCons (bndN 8) bndNil)))) d Γ >>= seqM (setSM 9 (tupV (consL (bin (getS 5) (bin (getS 8) (bin (getS 2) (cI 0) getD') mulU) addD) (consL (bin (getS 6) (bin (getS 8) (bin (getS 2) (cI 1) getD') mulU) addD) nilL))))
    (ifM (andT (tst (chn (cI 0) (bin (getS 9) (cI 0) getD') (bin (getS 0) (cI 0) getD') leD ltD)) (tst (chn (cI 0) (bin (getS 9) (cI 1) getD') (bin (getS 0) (cI 1) getD') leD ltD))) (sputM true 3 (getS 9) (bin (get2V (asDct (getB 3)) (getS 9) (cI 0)) (getS 7) addD)) (setSM 4 (bin (getS 4) (getS 7) addD)))) (fun p r z Γ hR => by
    obtain ⟨A, n⟩ := z
    obtain ⟨⟨d1, d2, d3, d4, d5, rfl⟩, hl, hp⟩ := hR
    have hq := hp p (List.mem_cons_self ..)
    have hs : smallI p.h = true := small_of (by have := hq.2.2.2; omega)
    have hl' : List.length (stepF f w A p) + r.length ≤ 10 := by
      have h2 : (stepF f w A p).length ≤ A.length + 1 := by
        unfold stepF
        split
        · exact tput_len
        · omega
      rw [List.length_cons] at hl
      show _ ≤ 10
      have : A.length + (r.length + 1) ≤ 10 := hl
      omega
    have hp' : ∀ q ∈ r, okP f q := fun q hq => hp q (List.mem_cons_of_mem _ hq)
    have hA : A.length < 16777216 := by
      have : A.length + (r.length + 1) ≤ 10 := hl
      omega
    have hb : (if 0 ≤ (downC p w).1 ∧ (downC p w).1 < f.1 then True else True) := by split <;> trivial
    by_cases hc : inF f (downC p w) = true
    · have hst : stepF f w A p = tput A (downC p w) ((tget A (downC p w)).getD 0 + p.m) := by unfold stepF; rw [if_pos hc]
      have hg : goneF f w n p = n := by unfold goneF; rw [if_pos hc]
      have h4 := fun v => sput_tab (i := 3) (A := A) (c := downC p w) (v := v) (Γ := [Sl.v (pD f), Sl.v (D.tup (List.map fD ps)), Sl.v (pD w), Sl.own (D.dct true (tabD A)), .v (.int n), .v (.int p.x), .v (.int p.y), .v (.int p.m), .v (.int p.h), Sl.v (pD (downC p w))]) rfl hA
      refine ⟨_, ?_, ⟨.v (.int p.x), .v (.int p.y), .v (.int p.m), .v (.int p.h), .v (pD (downC p w)), rfl⟩, hl', hp'⟩
      have hc2 := hc
      rw [inF_lt] at hc2
      simp only [Bool.and_eq_true, decide_eq_true_eq] at hc2
      obtain ⟨⟨c1, c2⟩, c3, c4⟩ := hc2
      have hd := dget_tab (A := A) (c := downC p w)
      simp only [pairF, hst, hg]
      unfold downC at c1 c2 c3 c4 h4 hd
      simp [fD, pD, downC, mul_l hs, c1, c2, c3, c4]
      unfold pD at h4 hd
      simp [hd, h4, downC]
    · refine ⟨_, ?_, ⟨.v (.int p.x), .v (.int p.y), .v (.int p.m), .v (.int p.h), .v (pD (downC p w)), rfl⟩, hl', hp'⟩
      have hst : stepF f w A p = A := by unfold stepF; rw [if_neg hc]
      have hg : goneF f w n p = n + p.m := by unfold goneF; rw [if_neg hc]
      rw [inF_lt] at hc
      simp only [pairF, hst, hg]
      simp only [Bool.and_eq_true, decide_eq_true_eq] at hc
      unfold downC at hc
      simp [fD, pD, downC, mul_l hs]
      by_cases c1 : 0 ≤ p.x + p.h * w.1 <;> by_cases c2 : p.x + p.h * w.1 < f.1 <;> by_cases c3 : 0 ≤ p.y + p.h * w.2 <;> by_cases c4 : p.y + p.h * w.2 < f.2 <;> simp [c1, c2, c3, c4]
      exact (hc ⟨⟨c1, c2⟩, c3, c4⟩).elim) (xs := ps) (a := ([], 0)) (Γ := [.v (pD f), .v (.tup (ps.map fD)), .v (pD w), .own (.dct true []), .v (.int 0), .un, .un, .un, .un, .un]) ⟨⟨_, _, _, _, _, rfl⟩, by simpa using h.n, h.p⟩
  rw [pair_fold] at q
  obtain ⟨⟨d1, d2, d3, d4, d5, rfl⟩, -, -⟩ := q
  rw [e]
  rfl
theorem fall_Uq {f w : II} {ps : List Puff} : Uq (fallT f w ps) := fall_uq ps [] List.nodup_nil
theorem vals_lc {A : Tab} {i j : Nat} {Γ : Ga} (hU : Uq A) (hj : Γ[j]? = some (.v (.dct true (tabD A)))) (hi : i < Γ.length) (hn : i ≠ j) : lcGo (lcOne (bndN i) yesT (bin (getS j) (getS i) getD') Γ) (List.map (fun x => x.fst) (tabD A)) = .ret (A.map fun p => .int p.2) := by
  refine vals_go hU (F := fun _ v => .int v) fun c v _ h' => ?_
  simp [hi, hn, hj, tabget h']
theorem sum_vals {A : Tab} : sumD [.lst (A.map fun p => .int p.2)] = .ret (.int (tsum A)) := by
  have : (A.map fun p => D.int p.2) = (A.map (·.2)).map D.int := by rw [List.map_map]; rfl
  rw [this, sum_ints]; rfl
@[simp] theorem itemsK_ps {ps : List Puff} : itemsK (psD ps) = .ret (ps.map fD) := rfl
theorem q_ash {f w : II} {ps : List Puff} (h : Ok f ps) : m_ash_on [pD f, psD ps, pD w] = .ret (.int (tsum (fallT f w ps))) := by
  simp [m_ash_on, fnM, b_ash_on, q_raw h, ownFree]
  rw [vals_lc fall_Uq rfl (by simp) (by decide)]
  simp [sum_vals]
theorem gone_sum {f w : II} : ∀ (ps : List Puff) (A : Tab) (n : Int), Uq A → tsum (ps.foldl (stepF f w) A) + ps.foldl (goneF f w) n = tsum A + n + (ps.map (·.m)).sum
  | [], A, n, _ => by
    show tsum A + n = tsum A + n + 0
    omega
  | p :: r, A, n, hA => by
    have hs : Uq (stepF f w A p) := by
      unfold stepF
      split
      · exact hA.put
      · exact hA
    have e := gone_sum (f := f) (w := w) r (stepF f w A p) (goneF f w n p) hs
    show tsum (r.foldl (stepF f w) (stepF f w A p)) + r.foldl (goneF f w) (goneF f w n p) = tsum A + n + (p.m + (r.map (·.m)).sum)
    rw [e]
    unfold stepF goneF
    by_cases hc : inF f (downC p w) = true
    · rw [if_pos hc, if_pos hc, tput_sum hA]; omega
    · rw [if_neg hc, if_neg hc]; omega
theorem ms_lc {ps : List Puff} {i : Nat} {Γ : Ga} (hi : i < Γ.length) : lcGo (lcOne (bndN i) yesT (bin (getS i) (cI 2) getD') Γ) (ps.map fD) = .ret (ps.map fun p => .int p.m) := by
  rw [lcGo_map (f := fun p => [.int p.m]), flat_map1]
  intro p _
  simp [hi, fD_m]
theorem sum_ms {ps : List Puff} : sumD [.lst (ps.map fun p => .int p.m)] = .ret (.int (ps.map (·.m)).sum) := by
  have : (ps.map fun p => D.int p.m) = (ps.map (·.m)).map D.int := by rw [List.map_map]; rfl
  rw [this, sum_ints]
theorem q_lost {f w : II} {ps : List Puff} (h : Ok f ps) (hw : okW w) : m_lost [pD f, psD ps, pD w] = .ret (.int (goneT f w ps)) := by
  have e := gone_sum (f := f) (w := w) ps [] 0 List.nodup_nil
  simp [m_lost, fnM, b_lost, q_check_ash h hw, q_ash h, ownFree]
  rw [ms_lc (by simp)]
  simp [sum_ms]
  have e2 : tsum ([] : Tab) = 0 := rfl
  unfold fallT goneT
  omega
theorem q_fallen {f w : II} {ps : List Puff} (h : Ok f ps) (hw : okW w) : m_fallen [pD f, psD ps, pD w] = .ret (.dct true (tabD (fallT f w ps))) := by
  simp [m_fallen, fnM, b_fallen, q_check_ash h hw, q_raw h]
def winds : List II := (List.range 7).flatMap fun (i : Nat) => (List.range 7).map fun (j : Nat) => ((i : Int) - 3, (j : Int) - 3)
theorem q_winds : m_all_winds [] = .ret (.lst (winds.map pD)) := by
  rfl
theorem q_lwinds : m__law_winds [] = .ret (.lst (winds.map pD)) := by
  rfl
def cleanD (f c : II) (ps : List Puff) : List D := winds.flatMap fun w => if tget (fallT f w ps) c = none then [pD w] else []
theorem q_wfor {f c : II} {ps : List Puff} (h : Ok f ps) (hc : inF f c = true) : m_winds_for [pD f, psD ps, pD c] = .ret (.tup (cleanD f c ps)) := by
  simp [m_winds_for, fnM, b_winds_for, q_check_puffs h, q_is_cell, hc, q_winds, ownFree]
  rw [lcGo_map (f := fun w => if tget (fallT f w ps) c = none then [pD w] else [])]
  · simp; rfl
  · intro w _
    simp [q_raw h, has_tab]
    cases tget (fallT f w ps) c <;> rfl
def worstT (A : Tab) : List IP := A.map fun p => (-p.2, p.1)
theorem worst_lc {A : Tab} {i j : Nat} {Γ : Ga} (hU : Uq A) (hj : Γ[j]? = some (.v (.dct true (tabD A)))) (hi : i < Γ.length) (hn : i ≠ j) : lcGo (lcOne (bndN i) yesT (tupV (consL (una (bin (getS j) (getS i) getD') negD) (consL (getS i) nilL))) Γ) (List.map (fun x => x.fst) (tabD A)) = .ret ((worstT A).map ipD) := by
  have e : (worstT A).map ipD = A.map fun p => D.tup [.int (-p.2), pD p.1] := by unfold worstT; rw [List.map_map]; rfl
  rw [e]
  refine vals_go hU (F := fun c v => .tup [.int (-v), pD c]) fun c v _ h' => ?_
  simp [hi, hn, hj, tabget h']
theorem worst_lc' {A : Tab} {i j : Nat} {Γ : Ga} (hU : Uq A) (hj : Γ[j]? = some (.v (.dct true (tabD A)))) (hi : i < Γ.length) (hn : i ≠ j) : lcGo (lcOne (bndN i) yesT (tupV (consL (bin (cI 0) (bin (getS j) (getS i) getD') subD) (consL (getS i) nilL))) Γ) (List.map (fun x => x.fst) (tabD A)) = .ret ((worstT A).map ipD) := by
  have e : (worstT A).map ipD = A.map fun p => D.tup [.int (-p.2), pD p.1] := by unfold worstT; rw [List.map_map]; rfl
  rw [e]
  refine vals_go hU (F := fun c v => .tup [.int (-v), pD c]) fun c v _ h' => ?_
  simp [hi, hn, hj, tabget h']
def worstD (A : Tab) : D := match worstT A with
  | [] => .non
  | x :: r => pD (kMin x r).2
theorem q_worst {f w : II} {ps : List Puff} (h : Ok f ps) (hw : okW w) : m_worst_cell [pD f, psD ps, pD w] = .ret (worstD (fallT f w ps)) := by
  simp [m_worst_cell, fnM, b_worst_cell, q_check_ash h hw, q_raw h, ownFree]
  rw [worst_lc fall_Uq rfl (by simp) (by decide)]
  generalize fallT f w ps = A
  cases A with
  | nil => rfl
  | cons a r =>
    have e : worstT (a :: r) = (-a.2, a.1) :: worstT r := rfl
    have e2 : (0 < (tabD (a :: r)).length) := by rw [tab_len]; simp
    rw [if_pos e2, e]
    simp only [ret_b]
    rw [minD_k]
    simp only [ret_b]
    simp [ipD]
    unfold worstD
    rw [e]
    rfl
def bestT (f : II) (ps : List Puff) : List IP := winds.map fun w => (tsum (fallT f w ps), w)
def hdP : List IP → IP
  | [] => (0, 0, 0)
  | x :: r => kMin x r
theorem minD_hd {xs : List IP} (h : xs ≠ []) : minD [.lst (xs.map ipD)] = .ret (ipD (hdP xs)) := by
  cases xs with
  | nil => exact absurd rfl h
  | cons x r => exact minD_k
theorem hd_shift {xs : List IP} {t : Int} : (hdP (xs.map fun y => (y.1 + t, y.2))).2 = (hdP xs).2 := by
  cases xs with
  | nil => rfl
  | cons x r =>
    show (kMin (x.1 + t, x.2) (r.map fun y => (y.1 + t, y.2))).2 = _
    rw [kMin_shift]; rfl
theorem q_best {f : II} {ps : List Puff} (h : Ok f ps) : m_best_wind [pD f, psD ps] = .ret (pD (hdP (bestT f ps)).2) := by
  simp [m_best_wind, fnM, b_best_wind, q_check_puffs h, q_winds, ownFree]
  rw [lcGo_map (f := fun w => [ipD (tsum (fallT f w ps), w)]) (fun w _ => by simp [q_ash h, ipD]), flat_map1]
  have e : (winds.map fun w => ipD (tsum (fallT f w ps), w)) = (bestT f ps).map ipD := by unfold bestT; rw [List.map_map]; rfl
  rw [e]
  simp only [ret_b]
  rw [minD_hd (by unfold bestT; exact fun h => by cases h)]
  simp [ipD]
  rfl
/-- the path over the field -/
def pathOf (w h : Nat) : List II := (List.range h).flatMap fun (y : Nat) => if y % 2 = 0 then (List.range w).map fun (x : Nat) => ((x : Int), (y : Int)) else ((List.range w).map fun (x : Nat) => ((x : Int), (y : Int))).reverse
theorem lt7 {n : Nat} (h : n < 7) : n = 0 ∨ n = 1 ∨ n = 2 ∨ n = 3 ∨ n = 4 ∨ n = 5 ∨ n = 6 := by omega
theorem q_cells {i j : Nat} (hi : i < 7) (hj : j < 7) : m_cells_in_turn [pD (1 + (i : Int), 1 + (j : Int))] = .ret (.lst ((pathOf (1 + i) (1 + j)).map pD)) := by
  rcases lt7 hi with rfl | rfl | rfl | rfl | rfl | rfl | rfl <;> rcases lt7 hj with rfl | rfl | rfl | rfl | rfl | rfl | rfl <;> rfl
theorem q_path {i j : Nat} (hi : i < 7) (hj : j < 7) : m__law_path [pD (1 + (i : Int), 1 + (j : Int))] = .ret (.lst ((pathOf (1 + i) (1 + j)).map pD)) := by
  rcases lt7 hi with rfl | rfl | rfl | rfl | rfl | rfl | rfl <;> rcases lt7 hj with rfl | rfl | rfl | rfl | rfl | rfl | rfl <;> rfl
def sweptT (A : Tab) (cs : List II) : Int := (cs.map fun c => (tget A c).getD 0).sum
def seg (cs : List II) (n : Int) : List II := (cs.drop (HT.sIx cs.length 0 none)).take (HT.sIx cs.length cs.length (some n) - HT.sIx cs.length 0 none)
theorem cut_seg {cs : List II} {n : Int} : cutD (cs.map pD) none (some n) = (seg cs n).map pD := cut_map
theorem swept_lc {A : Tab} {i j : Nat} {Γ : Ga} {cs : List II} (hj : Γ[j]? = some (.v (.dct true (tabD A)))) (hi : i < Γ.length) (hn : i ≠ j) : lcGo (lcOne (bndN i) yesT (get2V (asDct (getS j)) (getS i) (cI 0)) Γ) (cs.map pD) = .ret (cs.map fun c => .int ((tget A c).getD 0)) := by
  rw [lcGo_map (f := fun c => [.int ((tget A c).getD 0)]), flat_map1]
  intro c _
  simp [hi, hn, hj, dget_tab]
theorem sum_swept {A : Tab} {cs : List II} : sumD [.lst (cs.map fun c => .int ((tget A c).getD 0))] = .ret (.int (sweptT A cs)) := by
  have : (cs.map fun c => D.int ((tget A c).getD 0)) = (cs.map fun c => (tget A c).getD 0).map D.int := by rw [List.map_map]; rfl
  rw [this, sum_ints]; rfl
theorem q_swept {i j : Nat} (hi : i < 7) (hj : j < 7) {w : II} {ps : List Puff} (h : Ok (1 + (i : Int), 1 + (j : Int)) ps) (hw : okW w) {n : Int} (h0 : 0 ≤ n) (h1 : n ≤ 144) : m_swept [pD (1 + (i : Int), 1 + (j : Int)), psD ps, pD w, .int n] = .ret (.int (sweptT (fallT (1 + (i : Int), 1 + (j : Int)) w ps) (seg (pathOf (1 + i) (1 + j)) n))) := by
  simp [m_swept, fnM, b_swept, q_check_ash h hw, q_raw h, ownFree, q_is_within, h0, h1, q_cells hi hj, cut_seg]
  rw [swept_lc rfl (by simp) (by decide)]
  simp [sum_swept]
theorem q_same {f w : II} {ps qs : List Puff} (h : Ok f ps) (h2 : Ok f qs) (hw : okW w) : m_same_fall [pD f, psD ps, psD qs, pD w] = .ret (.bl (eqDctB true (tabD (fallT f w ps)) (tabD (fallT f w qs)))) := by
  simp [m_same_fall, fnM, b_same_fall, q_check_puffs h, q_check_only h2.n h2.p, show m_check_wind [pD w] = .ret .non from q_check_wind hw.1 hw.2, q_raw h, q_raw h2, equ_tab]
/-- the rows that hold nothing -/
def rowsC (n : Int) (A : Tab) : List D := (List.range n.toNat).flatMap fun (y : Nat) => if (A.any fun p => decide (p.1.2 = (y : Int))) = true then [] else [D.int (y : Int)]
theorem rows_rg {n : Int} (h : 1 ≤ n ∧ n ≤ 12) : rangeD [.int n] = .ret ((List.range n.toNat).map fun (y : Nat) => D.int (y : Int)) := by
  show (if n ≤ 16777216 ∧ -(2 ^ 62) ≤ n then M.ret (rangeL 0 1 n.toNat) else .stuck) = _
  rw [if_pos (by omega)]; simp [rangeL]
theorem foul_lc {A : Tab} {i : Nat} {Γ : Ga} (hi : i < Γ.length) : lcGo (lcOne (bndN i) yesT (bin (getS i) (cI 1) getD') Γ) (List.map (fun x => x.fst) (tabD A)) = .ret (A.map fun p => .int p.1.2) := by
  have e : (tabD A).map (fun x => x.fst) = A.map (fun p => pD p.1) := by
    unfold tabD; rw [List.map_map]; rfl
  rw [e, lcGo_map (f := fun p => [.int p.1.2]), flat_map1]
  intro p _
  simp [hi, pD]
theorem foul_in {A : Tab} {y : Int} : hasNotD (.int y) (.lst (A.map fun p => .int p.1.2)) = .ret (.bl (!(A.any fun p => decide (p.1.2 = y)))) := by
  show bnotM (if (D.plL (A.map fun p => D.int p.1.2) && (D.int y).pl && decide (min (D.depL (A.map fun p => D.int p.1.2)) (D.int y).dep ≤ 60)) = true then M.ret (.bl ((A.map fun p => D.int p.1.2).any fun z => eqB z (.int y))) else .stuck) = _
  have e1 : D.plL (A.map fun p => D.int p.1.2) = true := by
    rw [plL_all, List.all_map]
    exact List.all_eq_true.mpr fun _ _ => rfl
  have e2 : decide (min (D.depL (A.map fun p => D.int p.1.2)) (D.int y).dep ≤ 60) = true := decide_eq_true (Nat.le_trans (Nat.min_le_right _ _) (by show 0 ≤ 60; omega))
  rw [e1, e2, if_pos (show (true && (D.int y).pl && true) = true from rfl), List.any_map]
  have e3 : ((fun z => eqB z (.int y)) ∘ fun p : II × Int => D.int p.1.2) = fun p => decide (p.1.2 = y) := funext fun p => eqB_int
  rw [e3]
  rfl
theorem dval_some {t : Bool} {kvs : List (D × D)} {k : D} : (dval t kvs k).isSome = kvs.any fun p => sameK t p.1 k := by
  unfold dval
  rw [Option.isSome_map]
  induction kvs with
  | nil => rfl
  | cons p r ih =>
    rw [List.find?_cons, List.any_cons]
    cases sameK t p.1 k
    · rw [Bool.false_or]; exact ih
    · rfl
theorem sameK_trans {t : Bool} {a b c : D} (h : sameK t a b = true) : sameK t a c = sameK t b c := by
  cases t
  · show decide (keyD a = keyD c) = decide (keyD b = keyD c)
    rw [of_decide_eq_true (show decide (keyD a = keyD b) = true from h)]
  · show decide (ktuD a = ktuD c) = decide (ktuD b = ktuD c)
    rw [of_decide_eq_true (show decide (ktuD a = ktuD b) = true from h)]
theorem dput_some {t : Bool} {kvs : List (D × D)} {k v k2 : D} : (dval t (dput t kvs k v) k2).isSome = (sameK t k k2 || (dval t kvs k2).isSome) := by
  rw [dval_some, dval_some]
  unfold dput
  by_cases h : (kvs.any fun p => sameK t p.1 k) = true
  · rw [if_pos h, List.any_map]
    have e : ((fun p : D × D => sameK t p.1 k2) ∘ fun p => if sameK t p.1 k = true then (p.1, v) else p) = fun p => sameK t p.1 k2 := by
      funext p
      show sameK t (if sameK t p.1 k = true then (p.1, v) else p).1 k2 = _
      split <;> rfl
    rw [e]
    by_cases g : sameK t k k2 = true
    · rw [g, Bool.true_or, List.any_eq_true]
      obtain ⟨p, hp, hk⟩ := List.any_eq_true.mp h
      exact ⟨p, hp, (sameK_trans hk).trans g⟩
    · rw [Bool.not_eq_true] at g
      rw [g, Bool.false_or]
  · rw [if_neg h, List.any_append, Bool.or_comm]
    simp
theorem dcGo_keys {one : D → M (List (D × D))} {A : Tab} {g : II → Int} (h : ∀ c : II, one (pD c) = .ret [(.int (g c), .bl true)]) : ∀ (acc : List (D × D)), ∃ kvs, dcGo one (A.map fun p => pD p.1) acc = .ret kvs ∧ ∀ y, (dval false kvs (.int y)).isSome = ((A.any fun p => decide (g p.1 = y)) || (dval false acc (.int y)).isSome) := by
  induction A with
  | nil => exact fun acc => ⟨acc, rfl, fun y => by simp⟩
  | cons p r ih =>
    intro acc
    obtain ⟨kvs, e, q⟩ := ih (dputs acc [(.int (g p.1), .bl true)])
    refine ⟨kvs, ?_, fun y => ?_⟩
    · show (one (pD p.1) >>= fun l => dcGo one (r.map fun p => pD p.1) (dputs acc l)) = _
      rw [h, ret_b]; exact e
    · rw [q y, List.any_cons]
      show ((r.any fun p => decide (g p.1 = y)) || (dval false (dput false acc (.int (g p.1)) (.bl true)) (.int y)).isSome) = _
      rw [dput_some]
      have e3 : sameK false (.int (g p.1)) (.int y) = decide (g p.1 = y) := by
        show decide (some (Sum.inl (g p.1) : Key) = some (.inl y)) = _
        exact decide_eq_decide.mpr ⟨fun z => by injection z with z; injection z, fun z => by rw [z]⟩
      rw [e3]
      cases (r.any fun p => decide (g p.1 = y)) <;> cases decide (g p.1 = y) <;> rfl
theorem q_clean {f w : II} {ps : List Puff} (h : Ok f ps) (hw : okW w) : m_clean_rows [pD f, psD ps, pD w] = .ret (.tup (rowsC f.2 (fallT f w ps))) := by
  obtain ⟨kvs, e, q⟩ := dcGo_keys (A := fallT f w ps) (g := fun c => c.2) (one := dcOne (bndN 4) yesT (bin (getS 4) (cI 1) getD') (cB true) [Sl.v (pD f), Sl.v (psD ps), Sl.v (pD w), Sl.un, Sl.un, Sl.un]) (fun c => by simp [pD, keyD]) []
  have e0 : (tabD (fallT f w ps)).map (fun x => x.fst) = (fallT f w ps).map (fun p => pD p.1) := by
    unfold tabD; rw [List.map_map]; rfl
  simp [m_clean_rows, fnM, b_clean_rows, q_check_ash h hw, q_raw h, ownFree]
  rw [e0, e]
  have e1 : getD' (pD f) (.int 1) = .ret (.int f.2) := by simp [pD]
  simp [e1, ownFree, rows_rg h.f2]
  have e2 (y : Int) : hasNotD (.int y) (.dct false kvs) = .ret (.bl (!((fallT f w ps).any fun p => decide (p.1.2 = y)))) := by
    show M.ret (D.bl (!(dval false kvs (.int y)).isSome)) = _
    rw [q y]
    show M.ret (D.bl (!((List.any (fallT f w ps) fun p => decide (p.1.2 = y)) || false))) = _
    rw [Bool.or_false]
  rw [lcGo_map (enc := fun y : Nat => D.int (y : Int)) (f := fun y : Nat => if ((fallT f w ps).any fun p => decide (p.1.2 = (y : Int))) = true then [] else [D.int (y : Int)])]
  · simp only [ret_b]
    rfl
  · intro y _
    simp only [lcOne_, bndN_, ret_b, tst_, bin_, getS_, getB_]
    simp [e2]
    cases (fallT f w ps).any fun p => decide (p.1.2 = (y : Int)) <;> rfl
end Px

set_option Elab.async false
set_option linter.all false
set_option maxRecDepth 100000
set_option maxHeartbeats 4000000
set_option autoImplicit false
namespace Px
open PySem PySem.Spec PyProof.Rows L2
section
variable {v : V}
theorem q_pick {m : Int} (h : 0 < m) (h2 : m < 1073741824) : m__law_pick v [.raw v, .int m] = .draw m.toNat fun r => .ret (.int (r : Nat)) := if_pos ⟨rfl, h, h2⟩
theorem q_puffs {f : II} (h1 : 1 ≤ f.1 ∧ f.1 ≤ 12) (h2 : 1 ≤ f.2 ∧ f.2 ≤ 12) {Q : D → Prop} {E' : Exn → Prop} (h : ∀ ps : List Puff, ps.length ≤ 6 → (∀ p ∈ ps, okP f p) → Q (psD ps)) : (m__law_puffs v [.raw v, pD f]).wp Q E' := by
  have e0 : getD' (pD f) (.int 0) = .ret (.int f.1) := by simp [pD]
  have e1 : getD' (pD f) (.int 1) = .ret (.int f.2) := by simp [pD]
  simp [m__law_puffs, fnM, b__law_puffs, q_pick]
  intro r hr
  rw [range_nat (by omega) (by omega)]
  simp only [ret_b]
  simp only [M.wp_bind]
  refine forM_inv (enc := fun y : Nat => D.int (y : Int)) (I := fun r Γ => ∃ ps d1 d2, Γ = [.v (.raw v), .v (pD f), .own (.lst (ps.map fD)), d1, d2] ∧ ps.length + r.length ≤ 6 ∧ ∀ p ∈ ps, okP f p) ⟨[], .un, .un, rfl, by simp; omega, by simp⟩ ?_ ?_
  · rintro x r Γ ⟨ps, d1, d2, rfl, hl, hp⟩
    have p1 : 0 < f.1 ∧ f.1 < 1073741824 := by omega
    have p2 : 0 < f.2 ∧ f.2 < 1073741824 := by omega
    have hl2 : ps.length < 16777216 := by simp at hl; omega
    simp [M.wp_bind, e0, e1, q_pick, p1, p2, hl2]
    intro x1 hx1 x2 hx2 x3 hx3 x4 hx4
    refine (show (M.ret (fD ⟨x1, x2, 1 + x3, x4⟩)).wp _ _ from ⟨ps ++ [⟨x1, x2, 1 + x3, x4⟩], by simp, by simp at hl ⊢; omega, fun p hm => ?_⟩)
    rcases List.mem_append.mp hm with hm | hm
    · exact hp p hm
    · rw [List.mem_singleton] at hm
      subst hm
      refine ⟨?_, by show (1 : Int) ≤ 1 + x3; omega, by show (1 : Int) + x3 ≤ 100; omega, by show (0 : Int) ≤ x4; omega, by show (x4 : Int) ≤ 10; omega⟩
      unfold inF
      simp only [Bool.and_eq_true, decide_eq_true_eq]
      omega
  · rintro Γ ⟨ps, d1, d2, rfl, hl, hp⟩
    simp
    exact h ps (by simpa using hl) hp
theorem q_some {ds : List D} (h0 : ds ≠ []) (h1 : ds.length < 1000000) {Q : D → Prop} {E' : Exn → Prop} (h : ∀ d ∈ ds, Q d) : (m__law_some v [.raw v, .lst ds]).wp Q E' := by
  have p1 : 0 < ds.length := List.length_pos_iff.mpr h0
  have p2 : (ds.length : Int) < 1073741824 := by omega
  simp [m__law_some, fnM, b__law_some, q_pick, p1, p2, M.wp_bind]
  intro r hr
  rw [at_nat (List.getElem?_eq_getElem hr)]
  exact h _ (List.getElem_mem hr)
theorem gone_all {f w : II} {ps : List Puff} : tsum (fallT f w ps) + goneT f w ps = (ps.map (·.m)).sum := by
  have e := gone_sum (f := f) (w := w) ps [] 0 List.nodup_nil
  have e2 : tsum ([] : Tab) = 0 := rfl
  unfold fallT goneT
  omega
theorem inF_cell {i j : Nat} {x y : Nat} (hx : (x : Int) < 1 + (i : Int)) (hy : (y : Int) < 1 + (j : Int)) : inF (1 + (i : Int), 1 + (j : Int)) ((x : Int), (y : Int)) = true := by
  unfold inF
  simp only [Bool.and_eq_true, decide_eq_true_eq]
  omega
theorem worstD_pl (A : Tab) : (worstD A).pl = true := by unfold worstD; split <;> rfl
theorem worstD_dep (A : Tab) : (worstD A).dep ≤ 60 := by
  unfold worstD
  split
  · decide
  · show 1 ≤ 60
    decide
theorem rowsC_mem {n : Int} {A : Tab} {d : D} (hd : d ∈ rowsC n A) : ∃ y : Int, d = .int y := by
  obtain ⟨y, _, hy⟩ := List.mem_flatMap.mp hd
  split at hy
  · cases hy
  · rw [List.mem_singleton] at hy; exact ⟨_, hy⟩
theorem rowsC_pl (n : Int) (A : Tab) : (D.tup (rowsC n A)).pl = true := plL_of fun d hd => by
  obtain ⟨y, rfl⟩ := rowsC_mem hd; rfl
theorem rowsC_dep (n : Int) (A : Tab) : (D.tup (rowsC n A)).dep ≤ 60 := Nat.le_trans (Nat.succ_le_succ (depL_le (n := 0) fun d hd => by
  obtain ⟨y, rfl⟩ := rowsC_mem hd; exact Nat.le_refl _)) (by decide)
theorem cleanD_mem {f c : II} {ps : List Puff} {d : D} (hd : d ∈ cleanD f c ps) : ∃ w : II, d = pD w := by
  obtain ⟨y, _, hy⟩ := List.mem_flatMap.mp hd
  split at hy
  · rw [List.mem_singleton] at hy; exact ⟨_, hy⟩
  · cases hy
theorem cleanD_pl (f c : II) (ps : List Puff) : (D.tup (cleanD f c ps)).pl = true := plL_of fun d hd => by
  obtain ⟨y, rfl⟩ := cleanD_mem hd; rfl
theorem cleanD_dep (f c : II) (ps : List Puff) : (D.tup (cleanD f c ps)).dep ≤ 60 := Nat.le_trans (Nat.succ_le_succ (depL_le (n := 1) fun d hd => by
  obtain ⟨y, rfl⟩ := cleanD_mem hd; exact Nat.le_refl _)) (by decide)
theorem q_right {i j : Nat} (hi : i < 7) (hj : j < 7) {w : II} {ps : List Puff} (h : Ok (1 + (i : Int), 1 + (j : Int)) ps) (h6 : ps.length ≤ 6) (hw : okW w) : (m__law_is_right v [.raw v, pD (1 + (i : Int), 1 + (j : Int)), psD ps, pD w]).wp (fun d => d = .bl true) (fun _ => False) := by
  have e0 : getD' (pD (1 + (i : Int), 1 + (j : Int))) (.int 0) = .ret (.int (1 + (i : Int))) := by simp [pD]
  have e1 : getD' (pD (1 + (i : Int), 1 + (j : Int))) (.int 1) = .ret (.int (1 + (j : Int))) := by simp [pD]
  refine wq_fn rfl ?_
  show Wq (b__law_is_right v [.v (.raw v), .v (pD (1 + (i : Int), 1 + (j : Int))), .v (psD ps), .v (pD w), .un, .un, .un, .un, .un, .un, .un, .un, .un, .un, .un, .un]) _ _
  unfold b__law_is_right
  refine wq_asg (d := .tup [.dct true (tabD (fallT (1 + (i : Int), 1 + (j : Int)) w ps)), .int (goneT (1 + (i : Int), 1 + (j : Int)) w ps)]) (by simp [q_lfall h]) rfl ?_
  simp only [List.set_cons_succ, List.set_cons_zero]
  refine wq_chk (by simp [q_fallen h hw, q_lost h hw, neu_tab, eqDct_refl fall_Uq]) ?_
  refine wq_chk ?_ ?_
  · simp [ownFree]
    rw [vals_lc fall_Uq rfl (by simp) (by decide)]
    simp only [ret_b]
    rw [ms_lc (by simp)]
    simp [sum_vals, sum_ms, gone_all]
  refine wq_setS (d := worstD (fallT (1 + (i : Int), 1 + (j : Int)) w ps)) ?_ ?_
  · generalize hA : fallT (1 + (i : Int), 1 + (j : Int)) w ps = A
    have hU : Uq A := hA ▸ fall_Uq
    cases A with
    | nil => rfl
    | cons a r =>
      have en : neuD (.dct true (tabD (a :: r))) (.dct true []) = .ret (.bl true) := by
        have := neu_tab (A := a :: r) (B := [])
        rw [show tabD [] = [] from rfl] at this
        rw [this]; rfl
      simp [en, ownFree]
      rw [worst_lc' hU rfl (by simp) (by decide)]
      have e : worstT (a :: r) = (-a.2, a.1) :: worstT r := rfl
      rw [e]
      simp only [ret_b]
      rw [minD_k]
      simp only [ret_b]
      rfl
  simp only [List.set_cons_succ, List.set_cons_zero]
  refine wq_chk ?_ ?_
  · simp [q_worst h hw]
    rw [neu_same (worstD_pl _) (worstD_dep _)]
    rfl
  refine wq_set (d := .lst ((fallT (1 + (i : Int), 1 + (j : Int)) w ps).map fun p => .int p.1.2)) ?_ ?_
  · simp [ownFree]
    rw [foul_lc (by simp), ret_b]
  simp only [slF_lst, List.set_cons_succ, List.set_cons_zero]
  refine wq_chk ?_ ?_
  · simp [ownFree, q_clean h hw, e1, range_nat (n := 1 + (j : Int)) (by omega) (by omega)]
    rw [lcGo_map (enc := fun y : Nat => D.int (y : Int)) (f := fun y : Nat => if ((fallT (1 + (i : Int), 1 + (j : Int)) w ps).any fun p => decide (p.1.2 = (y : Int))) = true then [] else [D.int (y : Int)])]
    · simp only [ret_b]
      show (neuD (.tup (rowsC _ _)) (.tup (rowsC _ _)) >>= toB) = _
      rw [neu_same (rowsC_pl _ _) (rowsC_dep _ _)]
      rfl
    · intro y _
      simp only [lcOne_, bndN_, ret_b, tst_, bin_, getS_, getB_]
      simp [foul_in]
      cases (fallT (1 + (i : Int), 1 + (j : Int)) w ps).any fun p => decide (p.1.2 = (y : Int)) <;> rfl
  refine wq_setSP (P := fun d => ∃ c : II, inF (1 + (i : Int), 1 + (j : Int)) c = true ∧ d = pD c) ?_ ?_
  · have p1 : (0 : Int) < 1 + (i : Int) := by omega
    have p2 : (0 : Int) < 1 + (j : Int) := by omega
    have p3 : (1 : Int) + (i : Int) < 1073741824 := by omega
    have p4 : (1 : Int) + (j : Int) < 1073741824 := by omega
    simp only [tupV_, consL_, nilL_, callV_, bin_, getS_, cI_, ret_b, List.getElem?_cons_succ, List.getElem?_cons_zero, e0, e1, q_pick p1 p3, q_pick p2 p4, draw_b, wp_draw, wp_ret]
    exact fun x hx y hy => ⟨(x, y), inF_cell (by omega) (by omega), rfl⟩
  rintro _ ⟨c, hc, rfl⟩
  simp only [List.set_cons_succ, List.set_cons_zero]
  refine wq_set (d := .lst (cleanD (1 + (i : Int), 1 + (j : Int)) c ps)) ?_ ?_
  · simp [ownFree, q_lwinds]
    rw [lcGo_map (f := fun w => if tget (fallT (1 + (i : Int), 1 + (j : Int)) w ps) c = none then [pD w] else [])]
    · rfl
    · intro w _
      simp [q_lfall h, has_tab]
      cases tget (fallT (1 + (i : Int), 1 + (j : Int)) w ps) c <;> rfl
  simp only [slF_lst, List.set_cons_succ, List.set_cons_zero]
  refine wq_chk ?_ ?_
  · simp [q_wfor h hc]
    rw [neu_same (cleanD_pl _ _ _) (cleanD_dep _ _ _)]
    rfl
  refine wq_set (d := .lst ((winds.map fun w => ((-goneT (1 + (i : Int), 1 + (j : Int)) w ps, w) : IP)).map ipD)) ?_ ?_
  · simp [ownFree, q_lwinds]
    rw [lcGo_map (f := fun w => [ipD (-goneT (1 + (i : Int), 1 + (j : Int)) w ps, w)]) (fun w _ => by simp [q_lfall h, ipD]), flat_map1]
    rfl
  simp only [slF_lst, List.set_cons_succ, List.set_cons_zero]
  refine wq_chk ?_ ?_
  · have eb : bestT (1 + (i : Int), 1 + (j : Int)) ps = (winds.map fun w => ((-goneT (1 + (i : Int), 1 + (j : Int)) w ps, w) : IP)).map fun y => (y.1 + (ps.map (·.m)).sum, y.2) := by
      unfold bestT
      rw [List.map_map]
      refine List.map_congr_left fun w _ => ?_
      show (_, _) = (_, _)
      rw [← gone_all (f := (1 + (i : Int), 1 + (j : Int))) (w := w)]
      refine Prod.ext ?_ rfl
      show tsum _ = - goneT _ _ _ + (tsum _ + goneT _ _ _)
      omega
    simp only [tst_, bin_, callV_, consL_, nilL_, getS_, getB_, List.getElem?_cons_succ, List.getElem?_cons_zero, ret_b, q_best h, cI_, eb, hd_shift]
    rw [minD_hd (by unfold winds; exact fun h => by cases h)]
    simp only [ret_b]
    have eg (x : IP) : getD' (ipD x) (.int 1) = .ret (pD x.2) := by simp [ipD]
    rw [eg, ret_b, neu_same pD_pl (by rw [pD_dep]; decide)]
    rfl
  refine wq_setSP (P := fun d => ∃ n : Nat, n < 60 ∧ d = .int n) ?_ ?_
  · simp [q_pick]
    exact fun r hr => ⟨r, hr, rfl⟩
  rintro _ ⟨n, hn, rfl⟩
  simp only [List.set_cons_succ, List.set_cons_zero]
  refine wq_chk ?_ ?_
  · simp [q_swept hi hj h hw (n := n) (by omega) (by omega), q_path hi hj, cut_seg, ownFree]
    rw [swept_lc rfl (by simp) (by decide)]
    simp [sum_swept]
  refine wq_setSP (P := fun d => ∃ qs, Ok (1 + (i : Int), 1 + (j : Int)) qs ∧ d = psD qs) ?_ ?_
  · simp only [callV_, consL_, nilL_, getS_, List.getElem?_cons_succ, List.getElem?_cons_zero, ret_b, lstV_, una_, M.wp_bind]
    have er : revD (psD ps) = .ret (psD ps.reverse) := by unfold psD; rw [rev_tup, List.map_reverse]
    rw [er]
    refine q_puffs ⟨by omega, by omega⟩ ⟨by omega, by omega⟩ fun qs h6' hq => ?_
    refine q_some (by simp) (by simp) fun d hd => ?_
    have okq : ∀ (qs : List Puff), qs.length ≤ 6 → (∀ p ∈ qs, okP (1 + (i : Int), 1 + (j : Int)) p) → Ok (1 + (i : Int), 1 + (j : Int)) qs := fun qs h1 h2 => ⟨⟨by show (1 : Int) ≤ 1 + i; omega, by show 1 + (i : Int) ≤ 12; omega⟩, ⟨by show (1 : Int) ≤ 1 + j; omega, by show 1 + (j : Int) ≤ 12; omega⟩, by omega, h2⟩
    simp only [List.mem_cons, List.not_mem_nil, or_false] at hd
    rcases hd with rfl | rfl | rfl
    · exact ⟨_, okq _ (by simpa using h6) fun p hp => h.p p (List.mem_reverse.mp hp), rfl⟩
    · exact ⟨_, okq _ h6' hq, rfl⟩
    · exact ⟨_, h, rfl⟩
  rintro _ ⟨qs, h2, rfl⟩
  simp only [List.set_cons_succ, List.set_cons_zero]
  refine wq_ret (d := .bl true) ?_ ?_
  · simp [q_same h h2 hw, q_lfall h2, equ_tab, eqDct_comm (fall_Uq (ps := qs)) (fall_Uq (ps := ps))]
    exact rpr_bl
  · exact rfl
end
end Px

set_option Elab.async false
set_option linter.all false
set_option maxRecDepth 100000
set_option maxHeartbeats 4000000
set_option autoImplicit false
namespace Px
open PySem PySem.Spec PyProof.Rows L2
theorem all_mk {l : PySem.W.OpenLaw} {w : World} {K : PySem.W.Frag} {h : Heap} {mg : Str → Option Value} {fa : Addr} (X : K.In h) (G : h.Ns mainGlobals mg) (hfa : mg "law" = some (.ref fa)) (L : LawOk)
    {oc0 kV0 dc0 pm0 cd0 ct0 : Value} {od0 an0 : Option Addr} {sl0 : Array (Option Value)} {f0 : Addr} {oc1 kV1 dc1 pm1 cd1 ct1 : Value} {od1 an1 : Option Addr} {sl1 : Array (Option Value)} {f1 : Addr} {oc2 kV2 dc2 pm2 cd2 ct2 : Value} {od2 an2 : Option Addr} {sl2 : Array (Option Value)} {f2 : Addr} {oc3 kV3 dc3 pm3 cd3 ct3 : Value} {od3 an3 : Option Addr} {sl3 : Array (Option Value)} {f3 : Addr} {oc4 kV4 dc4 pm4 cd4 ct4 : Value} {od4 an4 : Option Addr} {sl4 : Array (Option Value)} {f4 : Addr} {oc5 kV5 dc5 pm5 cd5 ct5 : Value} {od5 an5 : Option Addr} {sl5 : Array (Option Value)} {f5 : Addr} {oc6 kV6 dc6 pm6 cd6 ct6 : Value} {od6 an6 : Option Addr} {sl6 : Array (Option Value)} {f6 : Addr} {oc7 kV7 dc7 pm7 cd7 ct7 : Value} {od7 an7 : Option Addr} {sl7 : Array (Option Value)} {f7 : Addr} {oc8 kV8 dc8 pm8 cd8 ct8 : Value} {od8 an8 : Option Addr} {sl8 : Array (Option Value)} {f8 : Addr} {oc9 kV9 dc9 pm9 cd9 ct9 : Value} {od9 an9 : Option Addr} {sl9 : Array (Option Value)} {f9 : Addr} {oc10 kV10 dc10 pm10 cd10 ct10 : Value} {od10 an10 : Option Addr} {sl10 : Array (Option Value)} {f10 : Addr} {oc11 kV11 dc11 pm11 cd11 ct11 : Value} {od11 an11 : Option Addr} {sl11 : Array (Option Value)} {f11 : Addr} {oc12 kV12 dc12 pm12 cd12 ct12 : Value} {od12 an12 : Option Addr} {sl12 : Array (Option Value)} {f12 : Addr} {oc13 kV13 dc13 pm13 cd13 ct13 : Value} {od13 an13 : Option Addr} {sl13 : Array (Option Value)} {f13 : Addr} {oc14 kV14 dc14 pm14 cd14 ct14 : Value} {od14 an14 : Option Addr} {sl14 : Array (Option Value)} {f14 : Addr} {oc15 kV15 dc15 pm15 cd15 ct15 : Value} {od15 an15 : Option Addr} {sl15 : Array (Option Value)} {f15 : Addr} {oc16 kV16 dc16 pm16 cd16 ct16 : Value} {od16 an16 : Option Addr} {sl16 : Array (Option Value)} {f16 : Addr} {oc17 kV17 dc17 pm17 cd17 ct17 : Value} {od17 an17 : Option Addr} {sl17 : Array (Option Value)} {f17 : Addr} {oc18 kV18 dc18 pm18 cd18 ct18 : Value} {od18 an18 : Option Addr} {sl18 : Array (Option Value)} {f18 : Addr} {oc19 kV19 dc19 pm19 cd19 ct19 : Value} {od19 an19 : Option Addr} {sl19 : Array (Option Value)} {f19 : Addr} {oc20 kV20 dc20 pm20 cd20 ct20 : Value} {od20 an20 : Option Addr} {sl20 : Array (Option Value)} {f20 : Addr} {oc21 kV21 dc21 pm21 cd21 ct21 : Value} {od21 an21 : Option Addr} {sl21 : Array (Option Value)} {f21 : Addr} {oc22 kV22 dc22 pm22 cd22 ct22 : Value} {od22 an22 : Option Addr} {sl22 : Array (Option Value)} {f22 : Addr} {oc23 kV23 dc23 pm23 cd23 ct23 : Value} {od23 an23 : Option Addr} {sl23 : Array (Option Value)} {f23 : Addr} {oc24 kV24 dc24 pm24 cd24 ct24 : Value} {od24 an24 : Option Addr} {sl24 : Array (Option Value)} {f24 : Addr} {oc25 kV25 dc25 pm25 cd25 ct25 : Value} {od25 an25 : Option Addr} {sl25 : Array (Option Value)} {f25 : Addr} {oc26 kV26 dc26 pm26 cd26 ct26 : Value} {od26 an26 : Option Addr} {sl26 : Array (Option Value)} {f26 : Addr} {oc27 kV27 dc27 pm27 cd27 ct27 : Value} {od27 an27 : Option Addr} {sl27 : Array (Option Value)} {f27 : Addr} {oc28 kV28 dc28 pm28 cd28 ct28 : Value} {od28 an28 : Option Addr} {sl28 : Array (Option Value)} {f28 : Addr} {oc29 kV29 dc29 pm29 cd29 ct29 : Value} {od29 an29 : Option Addr} {sl29 : Array (Option Value)} {f29 : Addr} {oc30 kV30 dc30 pm30 cd30 ct30 : Value} {od30 an30 : Option Addr} {sl30 : Array (Option Value)} {f30 : Addr} {oc31 kV31 dc31 pm31 cd31 ct31 : Value} {od31 an31 : Option Addr} {sl31 : Array (Option Value)} {f31 : Addr} {t_MOST_ASH : Tok} {t_MOST_HIGH : Tok} {t_MOST_PUFFS : Tok} {t_MOST_SIDE : Tok} {t_MOST_SWEPT : Tok} {t_MOST_WIND : Tok} {y_NoCell : Addr} {y_NoField : Addr} {y_NoPuffs : Addr} {y_NoSteps : Addr} {y_NoWind : Addr}
    (a0 : PySem.W.nsIn K mainGlobals "is_integer" = some (some (.ref f0))) (l0 : K.lookup f0 = some ⟨oc0, od0, .func (PySem.W.fnOf "is_integer" "is_integer" (defArgs s_is_integer) (defBody s_is_integer) (defScope s_is_integer) .none kV0 dc0 pm0 an0 cd0 ct0), sl0⟩) (c0 : PySem.W.codeIn K cd0 "is_integer" = true) (k0 : PySem.W.keepIn K (.ref f0) = true)
    (a1 : PySem.W.nsIn K mainGlobals "is_within" = some (some (.ref f1))) (l1 : K.lookup f1 = some ⟨oc1, od1, .func (PySem.W.fnOf "is_within" "is_within" (defArgs s_is_within) (defBody s_is_within) (defScope s_is_within) .none kV1 dc1 pm1 an1 cd1 ct1), sl1⟩) (c1 : PySem.W.codeIn K cd1 "is_within" = true) (k1 : PySem.W.keepIn K (.ref f1) = true)
    (a2 : PySem.W.nsIn K mainGlobals "is_tuple_of" = some (some (.ref f2))) (l2 : K.lookup f2 = some ⟨oc2, od2, .func (PySem.W.fnOf "is_tuple_of" "is_tuple_of" (defArgs s_is_tuple_of) (defBody s_is_tuple_of) (defScope s_is_tuple_of) .none kV2 dc2 pm2 an2 cd2 ct2), sl2⟩) (c2 : PySem.W.codeIn K cd2 "is_tuple_of" = true) (k2 : PySem.W.keepIn K (.ref f2) = true)
    (a3 : PySem.W.nsIn K mainGlobals "check_field" = some (some (.ref f3))) (l3 : K.lookup f3 = some ⟨oc3, od3, .func (PySem.W.fnOf "check_field" "check_field" (defArgs s_check_field) (defBody s_check_field) (defScope s_check_field) .none kV3 dc3 pm3 an3 cd3 ct3), sl3⟩) (c3 : PySem.W.codeIn K cd3 "check_field" = true) (k3 : PySem.W.keepIn K (.ref f3) = true)
    (a4 : PySem.W.nsIn K mainGlobals "is_cell_of" = some (some (.ref f4))) (l4 : K.lookup f4 = some ⟨oc4, od4, .func (PySem.W.fnOf "is_cell_of" "is_cell_of" (defArgs s_is_cell_of) (defBody s_is_cell_of) (defScope s_is_cell_of) .none kV4 dc4 pm4 an4 cd4 ct4), sl4⟩) (c4 : PySem.W.codeIn K cd4 "is_cell_of" = true) (k4 : PySem.W.keepIn K (.ref f4) = true)
    (a5 : PySem.W.nsIn K mainGlobals "is_puff" = some (some (.ref f5))) (l5 : K.lookup f5 = some ⟨oc5, od5, .func (PySem.W.fnOf "is_puff" "is_puff" (defArgs s_is_puff) (defBody s_is_puff) (defScope s_is_puff) .none kV5 dc5 pm5 an5 cd5 ct5), sl5⟩) (c5 : PySem.W.codeIn K cd5 "is_puff" = true) (k5 : PySem.W.keepIn K (.ref f5) = true)
    (a6 : PySem.W.nsIn K mainGlobals "check_only_puffs" = some (some (.ref f6))) (l6 : K.lookup f6 = some ⟨oc6, od6, .func (PySem.W.fnOf "check_only_puffs" "check_only_puffs" (defArgs s_check_only_puffs) (defBody s_check_only_puffs) (defScope s_check_only_puffs) .none kV6 dc6 pm6 an6 cd6 ct6), sl6⟩) (c6 : PySem.W.codeIn K cd6 "check_only_puffs" = true) (k6 : PySem.W.keepIn K (.ref f6) = true)
    (a7 : PySem.W.nsIn K mainGlobals "check_puffs" = some (some (.ref f7))) (l7 : K.lookup f7 = some ⟨oc7, od7, .func (PySem.W.fnOf "check_puffs" "check_puffs" (defArgs s_check_puffs) (defBody s_check_puffs) (defScope s_check_puffs) .none kV7 dc7 pm7 an7 cd7 ct7), sl7⟩) (c7 : PySem.W.codeIn K cd7 "check_puffs" = true) (k7 : PySem.W.keepIn K (.ref f7) = true)
    (a8 : PySem.W.nsIn K mainGlobals "check_wind" = some (some (.ref f8))) (l8 : K.lookup f8 = some ⟨oc8, od8, .func (PySem.W.fnOf "check_wind" "check_wind" (defArgs s_check_wind) (defBody s_check_wind) (defScope s_check_wind) .none kV8 dc8 pm8 an8 cd8 ct8), sl8⟩) (c8 : PySem.W.codeIn K cd8 "check_wind" = true) (k8 : PySem.W.keepIn K (.ref f8) = true)
    (a9 : PySem.W.nsIn K mainGlobals "check_ash" = some (some (.ref f9))) (l9 : K.lookup f9 = some ⟨oc9, od9, .func (PySem.W.fnOf "check_ash" "check_ash" (defArgs s_check_ash) (defBody s_check_ash) (defScope s_check_ash) .none kV9 dc9 pm9 an9 cd9 ct9), sl9⟩) (c9 : PySem.W.codeIn K cd9 "check_ash" = true) (k9 : PySem.W.keepIn K (.ref f9) = true)
    (a10 : PySem.W.nsIn K mainGlobals "down_at" = some (some (.ref f10))) (l10 : K.lookup f10 = some ⟨oc10, od10, .func (PySem.W.fnOf "down_at" "down_at" (defArgs s_down_at) (defBody s_down_at) (defScope s_down_at) .none kV10 dc10 pm10 an10 cd10 ct10), sl10⟩) (c10 : PySem.W.codeIn K cd10 "down_at" = true) (k10 : PySem.W.keepIn K (.ref f10) = true)
    (a11 : PySem.W.nsIn K mainGlobals "raw_fallen" = some (some (.ref f11))) (l11 : K.lookup f11 = some ⟨oc11, od11, .func (PySem.W.fnOf "raw_fallen" "raw_fallen" (defArgs s_raw_fallen) (defBody s_raw_fallen) (defScope s_raw_fallen) .none kV11 dc11 pm11 an11 cd11 ct11), sl11⟩) (c11 : PySem.W.codeIn K cd11 "raw_fallen" = true) (k11 : PySem.W.keepIn K (.ref f11) = true)
    (a12 : PySem.W.nsIn K mainGlobals "fallen" = some (some (.ref f12))) (l12 : K.lookup f12 = some ⟨oc12, od12, .func (PySem.W.fnOf "fallen" "fallen" (defArgs s_fallen) (defBody s_fallen) (defScope s_fallen) .none kV12 dc12 pm12 an12 cd12 ct12), sl12⟩) (c12 : PySem.W.codeIn K cd12 "fallen" = true) (k12 : PySem.W.keepIn K (.ref f12) = true)
    (a13 : PySem.W.nsIn K mainGlobals "ash_on" = some (some (.ref f13))) (l13 : K.lookup f13 = some ⟨oc13, od13, .func (PySem.W.fnOf "ash_on" "ash_on" (defArgs s_ash_on) (defBody s_ash_on) (defScope s_ash_on) .none kV13 dc13 pm13 an13 cd13 ct13), sl13⟩) (c13 : PySem.W.codeIn K cd13 "ash_on" = true) (k13 : PySem.W.keepIn K (.ref f13) = true)
    (a14 : PySem.W.nsIn K mainGlobals "lost" = some (some (.ref f14))) (l14 : K.lookup f14 = some ⟨oc14, od14, .func (PySem.W.fnOf "lost" "lost" (defArgs s_lost) (defBody s_lost) (defScope s_lost) .none kV14 dc14 pm14 an14 cd14 ct14), sl14⟩) (c14 : PySem.W.codeIn K cd14 "lost" = true) (k14 : PySem.W.keepIn K (.ref f14) = true)
    (a15 : PySem.W.nsIn K mainGlobals "worst_cell" = some (some (.ref f15))) (l15 : K.lookup f15 = some ⟨oc15, od15, .func (PySem.W.fnOf "worst_cell" "worst_cell" (defArgs s_worst_cell) (defBody s_worst_cell) (defScope s_worst_cell) .none kV15 dc15 pm15 an15 cd15 ct15), sl15⟩) (c15 : PySem.W.codeIn K cd15 "worst_cell" = true) (k15 : PySem.W.keepIn K (.ref f15) = true)
    (a16 : PySem.W.nsIn K mainGlobals "clean_rows" = some (some (.ref f16))) (l16 : K.lookup f16 = some ⟨oc16, od16, .func (PySem.W.fnOf "clean_rows" "clean_rows" (defArgs s_clean_rows) (defBody s_clean_rows) (defScope s_clean_rows) .none kV16 dc16 pm16 an16 cd16 ct16), sl16⟩) (c16 : PySem.W.codeIn K cd16 "clean_rows" = true) (k16 : PySem.W.keepIn K (.ref f16) = true)
    (a17 : PySem.W.nsIn K mainGlobals "all_winds" = some (some (.ref f17))) (l17 : K.lookup f17 = some ⟨oc17, od17, .func (PySem.W.fnOf "all_winds" "all_winds" (defArgs s_all_winds) (defBody s_all_winds) (defScope s_all_winds) .none kV17 dc17 pm17 an17 cd17 ct17), sl17⟩) (c17 : PySem.W.codeIn K cd17 "all_winds" = true) (k17 : PySem.W.keepIn K (.ref f17) = true)
    (a18 : PySem.W.nsIn K mainGlobals "winds_for" = some (some (.ref f18))) (l18 : K.lookup f18 = some ⟨oc18, od18, .func (PySem.W.fnOf "winds_for" "winds_for" (defArgs s_winds_for) (defBody s_winds_for) (defScope s_winds_for) .none kV18 dc18 pm18 an18 cd18 ct18), sl18⟩) (c18 : PySem.W.codeIn K cd18 "winds_for" = true) (k18 : PySem.W.keepIn K (.ref f18) = true)
    (a19 : PySem.W.nsIn K mainGlobals "best_wind" = some (some (.ref f19))) (l19 : K.lookup f19 = some ⟨oc19, od19, .func (PySem.W.fnOf "best_wind" "best_wind" (defArgs s_best_wind) (defBody s_best_wind) (defScope s_best_wind) .none kV19 dc19 pm19 an19 cd19 ct19), sl19⟩) (c19 : PySem.W.codeIn K cd19 "best_wind" = true) (k19 : PySem.W.keepIn K (.ref f19) = true)
    (a20 : PySem.W.nsIn K mainGlobals "cells_in_turn" = some (some (.ref f20))) (l20 : K.lookup f20 = some ⟨oc20, od20, .func (PySem.W.fnOf "cells_in_turn" "cells_in_turn" (defArgs s_cells_in_turn) (defBody s_cells_in_turn) (defScope s_cells_in_turn) .none kV20 dc20 pm20 an20 cd20 ct20), sl20⟩) (c20 : PySem.W.codeIn K cd20 "cells_in_turn" = true) (k20 : PySem.W.keepIn K (.ref f20) = true)
    (a21 : PySem.W.nsIn K mainGlobals "swept" = some (some (.ref f21))) (l21 : K.lookup f21 = some ⟨oc21, od21, .func (PySem.W.fnOf "swept" "swept" (defArgs s_swept) (defBody s_swept) (defScope s_swept) .none kV21 dc21 pm21 an21 cd21 ct21), sl21⟩) (c21 : PySem.W.codeIn K cd21 "swept" = true) (k21 : PySem.W.keepIn K (.ref f21) = true)
    (a22 : PySem.W.nsIn K mainGlobals "same_fall" = some (some (.ref f22))) (l22 : K.lookup f22 = some ⟨oc22, od22, .func (PySem.W.fnOf "same_fall" "same_fall" (defArgs s_same_fall) (defBody s_same_fall) (defScope s_same_fall) .none kV22 dc22 pm22 an22 cd22 ct22), sl22⟩) (c22 : PySem.W.codeIn K cd22 "same_fall" = true) (k22 : PySem.W.keepIn K (.ref f22) = true)
    (a23 : PySem.W.nsIn K mainGlobals "_law_bag" = some (some (.ref f23))) (l23 : K.lookup f23 = some ⟨oc23, od23, .func (PySem.W.fnOf "_law_bag" "_law_bag" (defArgs s__law_bag) (defBody s__law_bag) (defScope s__law_bag) .none kV23 dc23 pm23 an23 cd23 ct23), sl23⟩) (c23 : PySem.W.codeIn K cd23 "_law_bag" = true) (k23 : PySem.W.keepIn K (.ref f23) = true)
    (a24 : PySem.W.nsIn K mainGlobals "_law_pick" = some (some (.ref f24))) (l24 : K.lookup f24 = some ⟨oc24, od24, .func (PySem.W.fnOf "_law_pick" "_law_pick" (defArgs s__law_pick) (defBody s__law_pick) (defScope s__law_pick) .none kV24 dc24 pm24 an24 cd24 ct24), sl24⟩) (c24 : PySem.W.codeIn K cd24 "_law_pick" = true) (k24 : PySem.W.keepIn K (.ref f24) = true)
    (a25 : PySem.W.nsIn K mainGlobals "_law_some" = some (some (.ref f25))) (l25 : K.lookup f25 = some ⟨oc25, od25, .func (PySem.W.fnOf "_law_some" "_law_some" (defArgs s__law_some) (defBody s__law_some) (defScope s__law_some) .none kV25 dc25 pm25 an25 cd25 ct25), sl25⟩) (c25 : PySem.W.codeIn K cd25 "_law_some" = true) (k25 : PySem.W.keepIn K (.ref f25) = true)
    (a26 : PySem.W.nsIn K mainGlobals "_law_fallen" = some (some (.ref f26))) (l26 : K.lookup f26 = some ⟨oc26, od26, .func (PySem.W.fnOf "_law_fallen" "_law_fallen" (defArgs s__law_fallen) (defBody s__law_fallen) (defScope s__law_fallen) .none kV26 dc26 pm26 an26 cd26 ct26), sl26⟩) (c26 : PySem.W.codeIn K cd26 "_law_fallen" = true) (k26 : PySem.W.keepIn K (.ref f26) = true)
    (a27 : PySem.W.nsIn K mainGlobals "_law_winds" = some (some (.ref f27))) (l27 : K.lookup f27 = some ⟨oc27, od27, .func (PySem.W.fnOf "_law_winds" "_law_winds" (defArgs s__law_winds) (defBody s__law_winds) (defScope s__law_winds) .none kV27 dc27 pm27 an27 cd27 ct27), sl27⟩) (c27 : PySem.W.codeIn K cd27 "_law_winds" = true) (k27 : PySem.W.keepIn K (.ref f27) = true)
    (a28 : PySem.W.nsIn K mainGlobals "_law_path" = some (some (.ref f28))) (l28 : K.lookup f28 = some ⟨oc28, od28, .func (PySem.W.fnOf "_law_path" "_law_path" (defArgs s__law_path) (defBody s__law_path) (defScope s__law_path) .none kV28 dc28 pm28 an28 cd28 ct28), sl28⟩) (c28 : PySem.W.codeIn K cd28 "_law_path" = true) (k28 : PySem.W.keepIn K (.ref f28) = true)
    (a29 : PySem.W.nsIn K mainGlobals "_law_puffs" = some (some (.ref f29))) (l29 : K.lookup f29 = some ⟨oc29, od29, .func (PySem.W.fnOf "_law_puffs" "_law_puffs" (defArgs s__law_puffs) (defBody s__law_puffs) (defScope s__law_puffs) .none kV29 dc29 pm29 an29 cd29 ct29), sl29⟩) (c29 : PySem.W.codeIn K cd29 "_law_puffs" = true) (k29 : PySem.W.keepIn K (.ref f29) = true)
    (a30 : PySem.W.nsIn K mainGlobals "_law_is_right" = some (some (.ref f30))) (l30 : K.lookup f30 = some ⟨oc30, od30, .func (PySem.W.fnOf "_law_is_right" "_law_is_right" (defArgs s__law_is_right) (defBody s__law_is_right) (defScope s__law_is_right) .none kV30 dc30 pm30 an30 cd30 ct30), sl30⟩) (c30 : PySem.W.codeIn K cd30 "_law_is_right" = true) (k30 : PySem.W.keepIn K (.ref f30) = true)
    (a31 : PySem.W.nsIn K mainGlobals "law" = some (some (.ref f31))) (l31 : K.lookup f31 = some ⟨oc31, od31, .func (PySem.W.fnOf "law" "law" (defArgs s_law) (defBody s_law) (defScope s_law) .none kV31 dc31 pm31 an31 cd31 ct31), sl31⟩) (c31 : PySem.W.codeIn K cd31 "law" = true) (k31 : PySem.W.keepIn K (.ref f31) = true)
    (z_abs : PySem.W.nsIn K mainGlobals "abs" = some none)
    (z_all : PySem.W.nsIn K mainGlobals "all" = some none)
    (z_bool : PySem.W.nsIn K mainGlobals "bool" = some none)
    (z_int : PySem.W.nsIn K mainGlobals "int" = some none)
    (z_isinstance : PySem.W.nsIn K mainGlobals "isinstance" = some none)
    (z_len : PySem.W.nsIn K mainGlobals "len" = some none)
    (z_min : PySem.W.nsIn K mainGlobals "min" = some none)
    (z_range : PySem.W.nsIn K mainGlobals "range" = some none)
    (z_repr : PySem.W.nsIn K mainGlobals "repr" = some none)
    (z_sum : PySem.W.nsIn K mainGlobals "sum" = some none)
    (z_tuple : PySem.W.nsIn K mainGlobals "tuple" = some none)
    (n_MOST_ASH : PySem.W.nsIn K mainGlobals "MOST_ASH" = some (some (.int 100 t_MOST_ASH)))
    (n_MOST_HIGH : PySem.W.nsIn K mainGlobals "MOST_HIGH" = some (some (.int 10 t_MOST_HIGH)))
    (n_MOST_PUFFS : PySem.W.nsIn K mainGlobals "MOST_PUFFS" = some (some (.int 10 t_MOST_PUFFS)))
    (n_MOST_SIDE : PySem.W.nsIn K mainGlobals "MOST_SIDE" = some (some (.int 12 t_MOST_SIDE)))
    (n_MOST_SWEPT : PySem.W.nsIn K mainGlobals "MOST_SWEPT" = some (some (.int 144 t_MOST_SWEPT)))
    (n_MOST_WIND : PySem.W.nsIn K mainGlobals "MOST_WIND" = some (some (.int 3 t_MOST_WIND)))
    (xg_NoCell : PySem.W.nsIn K mainGlobals "NoCell" = some (some (.ref y_NoCell))) (xe_NoCell : PySem.W.excIn K y_NoCell [.type "ValueError", .type "Exception", .type "BaseException", .type "object"] "ValueError.__new__" = true) (xk_NoCell : PySem.W.keepIn K (.ref y_NoCell) = true) (xb_NoCell : PySem.W.subIn K (.ref y_NoCell) (.type "BaseException") = some true) (xt_NoCell : PySem.W.typeIn K (.ref y_NoCell) = some (.type "type"))
    (xg_NoField : PySem.W.nsIn K mainGlobals "NoField" = some (some (.ref y_NoField))) (xe_NoField : PySem.W.excIn K y_NoField [.type "ValueError", .type "Exception", .type "BaseException", .type "object"] "ValueError.__new__" = true) (xk_NoField : PySem.W.keepIn K (.ref y_NoField) = true) (xb_NoField : PySem.W.subIn K (.ref y_NoField) (.type "BaseException") = some true) (xt_NoField : PySem.W.typeIn K (.ref y_NoField) = some (.type "type"))
    (xg_NoPuffs : PySem.W.nsIn K mainGlobals "NoPuffs" = some (some (.ref y_NoPuffs))) (xe_NoPuffs : PySem.W.excIn K y_NoPuffs [.type "ValueError", .type "Exception", .type "BaseException", .type "object"] "ValueError.__new__" = true) (xk_NoPuffs : PySem.W.keepIn K (.ref y_NoPuffs) = true) (xb_NoPuffs : PySem.W.subIn K (.ref y_NoPuffs) (.type "BaseException") = some true) (xt_NoPuffs : PySem.W.typeIn K (.ref y_NoPuffs) = some (.type "type"))
    (xg_NoSteps : PySem.W.nsIn K mainGlobals "NoSteps" = some (some (.ref y_NoSteps))) (xe_NoSteps : PySem.W.excIn K y_NoSteps [.type "ValueError", .type "Exception", .type "BaseException", .type "object"] "ValueError.__new__" = true) (xk_NoSteps : PySem.W.keepIn K (.ref y_NoSteps) = true) (xb_NoSteps : PySem.W.subIn K (.ref y_NoSteps) (.type "BaseException") = some true) (xt_NoSteps : PySem.W.typeIn K (.ref y_NoSteps) = some (.type "type"))
    (xg_NoWind : PySem.W.nsIn K mainGlobals "NoWind" = some (some (.ref y_NoWind))) (xe_NoWind : PySem.W.excIn K y_NoWind [.type "ValueError", .type "Exception", .type "BaseException", .type "object"] "ValueError.__new__" = true) (xk_NoWind : PySem.W.keepIn K (.ref y_NoWind) = true) (xb_NoWind : PySem.W.subIn K (.ref y_NoWind) (.type "BaseException") = some true) (xt_NoWind : PySem.W.typeIn K (.ref y_NoWind) = some (.type "type")) :
    ∃ fd : FuncData, (∀ (s : Shared) (v : Value), BindsTo s fd ⟨[v], []⟩ [("script", v)]) ∧ ∀ base : Heap, K.In base → base.Ns mainGlobals mg → FnG l.prog w K mg base (L2.CX l.prog w) 11 fa fd ["script"] (spLaw K) := by
  have e := hfa.symm.trans (PySem.W.mg_of X G a31)
  cases e
  let T : TX l.prog w K mg := {
    a_is_integer := f0, d_is_integer := _, F_is_integer := fun_mk (st := s_is_integer) l0 c0 k0, B_is_integer := (fun_mk (st := s_is_integer) l0 c0 k0).binds (ps := ["thing"]) fun _ _ _ _ _ _ us hl => (match us, hl with | [_], _ => rfl), g_is_integer := PySem.W.mg_of X G a0,
    a_is_within := f1, d_is_within := _, F_is_within := fun_mk (st := s_is_within) l1 c1 k1, B_is_within := (fun_mk (st := s_is_within) l1 c1 k1).binds (ps := ["thing", "least", "most"]) fun _ _ _ _ _ _ us hl => (match us, hl with | [_, _, _], _ => rfl), g_is_within := PySem.W.mg_of X G a1,
    a_is_tuple_of := f2, d_is_tuple_of := _, F_is_tuple_of := fun_mk (st := s_is_tuple_of) l2 c2 k2, B_is_tuple_of := (fun_mk (st := s_is_tuple_of) l2 c2 k2).binds (ps := ["thing", "size"]) fun _ _ _ _ _ _ us hl => (match us, hl with | [_, _], _ => rfl), g_is_tuple_of := PySem.W.mg_of X G a2,
    a_check_field := f3, d_check_field := _, F_check_field := fun_mk (st := s_check_field) l3 c3 k3, B_check_field := (fun_mk (st := s_check_field) l3 c3 k3).binds (ps := ["field"]) fun _ _ _ _ _ _ us hl => (match us, hl with | [_], _ => rfl), g_check_field := PySem.W.mg_of X G a3,
    a_is_cell_of := f4, d_is_cell_of := _, F_is_cell_of := fun_mk (st := s_is_cell_of) l4 c4 k4, B_is_cell_of := (fun_mk (st := s_is_cell_of) l4 c4 k4).binds (ps := ["field", "thing"]) fun _ _ _ _ _ _ us hl => (match us, hl with | [_, _], _ => rfl), g_is_cell_of := PySem.W.mg_of X G a4,
    a_is_puff := f5, d_is_puff := _, F_is_puff := fun_mk (st := s_is_puff) l5 c5 k5, B_is_puff := (fun_mk (st := s_is_puff) l5 c5 k5).binds (ps := ["field", "thing"]) fun _ _ _ _ _ _ us hl => (match us, hl with | [_, _], _ => rfl), g_is_puff := PySem.W.mg_of X G a5,
    a_check_only_puffs := f6, d_check_only_puffs := _, F_check_only_puffs := fun_mk (st := s_check_only_puffs) l6 c6 k6, B_check_only_puffs := (fun_mk (st := s_check_only_puffs) l6 c6 k6).binds (ps := ["field", "puffs"]) fun _ _ _ _ _ _ us hl => (match us, hl with | [_, _], _ => rfl), g_check_only_puffs := PySem.W.mg_of X G a6,
    a_check_puffs := f7, d_check_puffs := _, F_check_puffs := fun_mk (st := s_check_puffs) l7 c7 k7, B_check_puffs := (fun_mk (st := s_check_puffs) l7 c7 k7).binds (ps := ["field", "puffs"]) fun _ _ _ _ _ _ us hl => (match us, hl with | [_, _], _ => rfl), g_check_puffs := PySem.W.mg_of X G a7,
    a_check_wind := f8, d_check_wind := _, F_check_wind := fun_mk (st := s_check_wind) l8 c8 k8, B_check_wind := (fun_mk (st := s_check_wind) l8 c8 k8).binds (ps := ["wind"]) fun _ _ _ _ _ _ us hl => (match us, hl with | [_], _ => rfl), g_check_wind := PySem.W.mg_of X G a8,
    a_check_ash := f9, d_check_ash := _, F_check_ash := fun_mk (st := s_check_ash) l9 c9 k9, B_check_ash := (fun_mk (st := s_check_ash) l9 c9 k9).binds (ps := ["field", "puffs", "wind"]) fun _ _ _ _ _ _ us hl => (match us, hl with | [_, _, _], _ => rfl), g_check_ash := PySem.W.mg_of X G a9,
    a_down_at := f10, d_down_at := _, F_down_at := fun_mk (st := s_down_at) l10 c10 k10, B_down_at := (fun_mk (st := s_down_at) l10 c10 k10).binds (ps := ["puff", "wind"]) fun _ _ _ _ _ _ us hl => (match us, hl with | [_, _], _ => rfl), g_down_at := PySem.W.mg_of X G a10,
    a_raw_fallen := f11, d_raw_fallen := _, F_raw_fallen := fun_mk (st := s_raw_fallen) l11 c11 k11, B_raw_fallen := (fun_mk (st := s_raw_fallen) l11 c11 k11).binds (ps := ["field", "puffs", "wind"]) fun _ _ _ _ _ _ us hl => (match us, hl with | [_, _, _], _ => rfl), g_raw_fallen := PySem.W.mg_of X G a11,
    a_fallen := f12, d_fallen := _, F_fallen := fun_mk (st := s_fallen) l12 c12 k12, B_fallen := (fun_mk (st := s_fallen) l12 c12 k12).binds (ps := ["field", "puffs", "wind"]) fun _ _ _ _ _ _ us hl => (match us, hl with | [_, _, _], _ => rfl), g_fallen := PySem.W.mg_of X G a12,
    a_ash_on := f13, d_ash_on := _, F_ash_on := fun_mk (st := s_ash_on) l13 c13 k13, B_ash_on := (fun_mk (st := s_ash_on) l13 c13 k13).binds (ps := ["field", "puffs", "wind"]) fun _ _ _ _ _ _ us hl => (match us, hl with | [_, _, _], _ => rfl), g_ash_on := PySem.W.mg_of X G a13,
    a_lost := f14, d_lost := _, F_lost := fun_mk (st := s_lost) l14 c14 k14, B_lost := (fun_mk (st := s_lost) l14 c14 k14).binds (ps := ["field", "puffs", "wind"]) fun _ _ _ _ _ _ us hl => (match us, hl with | [_, _, _], _ => rfl), g_lost := PySem.W.mg_of X G a14,
    a_worst_cell := f15, d_worst_cell := _, F_worst_cell := fun_mk (st := s_worst_cell) l15 c15 k15, B_worst_cell := (fun_mk (st := s_worst_cell) l15 c15 k15).binds (ps := ["field", "puffs", "wind"]) fun _ _ _ _ _ _ us hl => (match us, hl with | [_, _, _], _ => rfl), g_worst_cell := PySem.W.mg_of X G a15,
    a_clean_rows := f16, d_clean_rows := _, F_clean_rows := fun_mk (st := s_clean_rows) l16 c16 k16, B_clean_rows := (fun_mk (st := s_clean_rows) l16 c16 k16).binds (ps := ["field", "puffs", "wind"]) fun _ _ _ _ _ _ us hl => (match us, hl with | [_, _, _], _ => rfl), g_clean_rows := PySem.W.mg_of X G a16,
    a_all_winds := f17, d_all_winds := _, F_all_winds := fun_mk (st := s_all_winds) l17 c17 k17, B_all_winds := (fun_mk (st := s_all_winds) l17 c17 k17).binds (ps := []) fun _ _ _ _ _ _ us hl => (match us, hl with | [], _ => rfl), g_all_winds := PySem.W.mg_of X G a17,
    a_winds_for := f18, d_winds_for := _, F_winds_for := fun_mk (st := s_winds_for) l18 c18 k18, B_winds_for := (fun_mk (st := s_winds_for) l18 c18 k18).binds (ps := ["field", "puffs", "cell"]) fun _ _ _ _ _ _ us hl => (match us, hl with | [_, _, _], _ => rfl), g_winds_for := PySem.W.mg_of X G a18,
    a_best_wind := f19, d_best_wind := _, F_best_wind := fun_mk (st := s_best_wind) l19 c19 k19, B_best_wind := (fun_mk (st := s_best_wind) l19 c19 k19).binds (ps := ["field", "puffs"]) fun _ _ _ _ _ _ us hl => (match us, hl with | [_, _], _ => rfl), g_best_wind := PySem.W.mg_of X G a19,
    a_cells_in_turn := f20, d_cells_in_turn := _, F_cells_in_turn := fun_mk (st := s_cells_in_turn) l20 c20 k20, B_cells_in_turn := (fun_mk (st := s_cells_in_turn) l20 c20 k20).binds (ps := ["field"]) fun _ _ _ _ _ _ us hl => (match us, hl with | [_], _ => rfl), g_cells_in_turn := PySem.W.mg_of X G a20,
    a_swept := f21, d_swept := _, F_swept := fun_mk (st := s_swept) l21 c21 k21, B_swept := (fun_mk (st := s_swept) l21 c21 k21).binds (ps := ["field", "puffs", "wind", "steps"]) fun _ _ _ _ _ _ us hl => (match us, hl with | [_, _, _, _], _ => rfl), g_swept := PySem.W.mg_of X G a21,
    a_same_fall := f22, d_same_fall := _, F_same_fall := fun_mk (st := s_same_fall) l22 c22 k22, B_same_fall := (fun_mk (st := s_same_fall) l22 c22 k22).binds (ps := ["field", "one", "other", "wind"]) fun _ _ _ _ _ _ us hl => (match us, hl with | [_, _, _, _], _ => rfl), g_same_fall := PySem.W.mg_of X G a22,
    a__law_bag := f23, d__law_bag := _, F__law_bag := fun_mk (st := s__law_bag) l23 c23 k23, B__law_bag := (fun_mk (st := s__law_bag) l23 c23 k23).binds (ps := ["script"]) fun _ _ _ _ _ _ us hl => (match us, hl with | [_], _ => rfl), g__law_bag := PySem.W.mg_of X G a23,
    a__law_pick := f24, d__law_pick := _, F__law_pick := fun_mk (st := s__law_pick) l24 c24 k24, B__law_pick := (fun_mk (st := s__law_pick) l24 c24 k24).binds (ps := ["bag", "many"]) fun _ _ _ _ _ _ us hl => (match us, hl with | [_, _], _ => rfl), g__law_pick := PySem.W.mg_of X G a24,
    a__law_some := f25, d__law_some := _, F__law_some := fun_mk (st := s__law_some) l25 c25 k25, B__law_some := (fun_mk (st := s__law_some) l25 c25 k25).binds (ps := ["bag", "things"]) fun _ _ _ _ _ _ us hl => (match us, hl with | [_, _], _ => rfl), g__law_some := PySem.W.mg_of X G a25,
    a__law_fallen := f26, d__law_fallen := _, F__law_fallen := fun_mk (st := s__law_fallen) l26 c26 k26, B__law_fallen := (fun_mk (st := s__law_fallen) l26 c26 k26).binds (ps := ["field", "puffs", "wind"]) fun _ _ _ _ _ _ us hl => (match us, hl with | [_, _, _], _ => rfl), g__law_fallen := PySem.W.mg_of X G a26,
    a__law_winds := f27, d__law_winds := _, F__law_winds := fun_mk (st := s__law_winds) l27 c27 k27, B__law_winds := (fun_mk (st := s__law_winds) l27 c27 k27).binds (ps := []) fun _ _ _ _ _ _ us hl => (match us, hl with | [], _ => rfl), g__law_winds := PySem.W.mg_of X G a27,
    a__law_path := f28, d__law_path := _, F__law_path := fun_mk (st := s__law_path) l28 c28 k28, B__law_path := (fun_mk (st := s__law_path) l28 c28 k28).binds (ps := ["field"]) fun _ _ _ _ _ _ us hl => (match us, hl with | [_], _ => rfl), g__law_path := PySem.W.mg_of X G a28,
    a__law_puffs := f29, d__law_puffs := _, F__law_puffs := fun_mk (st := s__law_puffs) l29 c29 k29, B__law_puffs := (fun_mk (st := s__law_puffs) l29 c29 k29).binds (ps := ["bag", "field"]) fun _ _ _ _ _ _ us hl => (match us, hl with | [_, _], _ => rfl), g__law_puffs := PySem.W.mg_of X G a29,
    a__law_is_right := f30, d__law_is_right := _, F__law_is_right := fun_mk (st := s__law_is_right) l30 c30 k30, B__law_is_right := (fun_mk (st := s__law_is_right) l30 c30 k30).binds (ps := ["bag", "field", "puffs", "wind"]) fun _ _ _ _ _ _ us hl => (match us, hl with | [_, _, _, _], _ => rfl), g__law_is_right := PySem.W.mg_of X G a30,
    a_law := fa, d_law := _, F_law := fun_mk (st := s_law) l31 c31 k31, B_law := (fun_mk (st := s_law) l31 c31 k31).binds (ps := ["script"]) fun _ _ _ _ _ _ us hl => (match us, hl with | [_], _ => rfl), g_law := PySem.W.mg_of X G a31,
    n_abs := PySem.W.mg_none_of X G z_abs,
    n_all := PySem.W.mg_none_of X G z_all,
    n_bool := PySem.W.mg_none_of X G z_bool,
    n_int := PySem.W.mg_none_of X G z_int,
    n_isinstance := PySem.W.mg_none_of X G z_isinstance,
    n_len := PySem.W.mg_none_of X G z_len,
    n_min := PySem.W.mg_none_of X G z_min,
    n_range := PySem.W.mg_none_of X G z_range,
    n_repr := PySem.W.mg_none_of X G z_repr,
    n_sum := PySem.W.mg_none_of X G z_sum,
    n_tuple := PySem.W.mg_none_of X G z_tuple,
    t_MOST_ASH := t_MOST_ASH, c_MOST_ASH := PySem.W.mg_of X G n_MOST_ASH,
    t_MOST_HIGH := t_MOST_HIGH, c_MOST_HIGH := PySem.W.mg_of X G n_MOST_HIGH,
    t_MOST_PUFFS := t_MOST_PUFFS, c_MOST_PUFFS := PySem.W.mg_of X G n_MOST_PUFFS,
    t_MOST_SIDE := t_MOST_SIDE, c_MOST_SIDE := PySem.W.mg_of X G n_MOST_SIDE,
    t_MOST_SWEPT := t_MOST_SWEPT, c_MOST_SWEPT := PySem.W.mg_of X G n_MOST_SWEPT,
    t_MOST_WIND := t_MOST_WIND, c_MOST_WIND := PySem.W.mg_of X G n_MOST_WIND,
    y_NoCell := y_NoCell, x_NoCell := ⟨PySem.W.mg_of X G xg_NoCell, xe_NoCell, xk_NoCell, xb_NoCell, xt_NoCell⟩,
    y_NoField := y_NoField, x_NoField := ⟨PySem.W.mg_of X G xg_NoField, xe_NoField, xk_NoField, xb_NoField, xt_NoField⟩,
    y_NoPuffs := y_NoPuffs, x_NoPuffs := ⟨PySem.W.mg_of X G xg_NoPuffs, xe_NoPuffs, xk_NoPuffs, xb_NoPuffs, xt_NoPuffs⟩,
    y_NoSteps := y_NoSteps, x_NoSteps := ⟨PySem.W.mg_of X G xg_NoSteps, xe_NoSteps, xk_NoSteps, xb_NoSteps, xt_NoSteps⟩,
    y_NoWind := y_NoWind, x_NoWind := ⟨PySem.W.mg_of X G xg_NoWind, xe_NoWind, xk_NoWind, xb_NoWind, xt_NoWind⟩ }
  exact ⟨T.d_law, fun s v => .of_eq rfl, fun base _ _ => ok_law T L base 1⟩
theorem winds_ok {d : D} (h : d ∈ winds.map pD) : ∃ w : II, okW w ∧ d = pD w := by
  obtain ⟨w, hw, rfl⟩ := List.mem_map.mp h
  refine ⟨w, ?_, rfl⟩
  unfold winds at hw
  obtain ⟨i, hi, hw⟩ := List.mem_flatMap.mp hw
  obtain ⟨j, hj, rfl⟩ := List.mem_map.mp hw
  rw [List.mem_range] at hi hj
  unfold okW
  show (-3 ≤ (i : Int) - 3 ∧ (i : Int) - 3 ≤ 3) ∧ -3 ≤ (j : Int) - 3 ∧ (j : Int) - 3 ≤ 3
  omega
theorem law_ok : LawOk := by
  intro a
  refine Wq.go ?_
  show Wq (b_law (.ref a) [.un, .v (.raw (.ref a)), .un, .un, .un]) _ _
  unfold b_law
  refine wq_setS (d := .tup [.tup [.int 1, .int 0, .int 5, .int 2], .tup [.int 0, .int 1, .int 3, .int 0]]) rfl ?_
  simp only [List.set_cons_succ, List.set_cons_zero]
  refine wq_chk rfl ?_
  refine wq_chk rfl ?_
  refine wq_seqR (R := fun _ => True) ?_ ?_
  · refine wq_for (enc := fun y : Nat => D.int (y : Int)) (xs := List.range 5) (I := fun _ Γ => ∃ d1 d2 d3, Γ = [.un, .v (.raw (.ref a)), d1, d2, d3]) (by rfl) ⟨_, _, _, rfl⟩ ?_ ?_
    · rintro x r Γ ⟨d1, d2, d3, rfl⟩
      simp only [bndN_, wp_ret, List.set_cons_succ, List.set_cons_zero]
      refine wq_setSP (P := fun d => ∃ i j : Nat, i < 7 ∧ j < 7 ∧ d = pD (1 + (i : Int), 1 + (j : Int))) ?_ ?_
      · simp [q_pick]
        exact fun i hi j hj => ⟨i, hi, j, hj, rfl⟩
      rintro _ ⟨i, j, hi, hj, rfl⟩
      simp only [List.set_cons_succ, List.set_cons_zero]
      refine wq_ifw_f ?_ (wq_next ⟨_, _, _, rfl⟩)
      simp only [notT_, tst_, callV_, consL_, nilL_, getS_, List.getElem?_cons_succ, List.getElem?_cons_zero, ret_b, M.wp_bind]
      refine q_puffs ⟨by omega, by omega⟩ ⟨by omega, by omega⟩ fun ps h6 hp => ?_
      simp only [wp_ret, M.wp_bind, q_lwinds]
      refine q_some (by unfold winds; exact fun h => by cases h) (by decide) fun d hd => ?_
      obtain ⟨w, hw, rfl⟩ := winds_ok hd
      have ok : Ok (1 + (i : Int), 1 + (j : Int)) ps := ⟨⟨by show (1 : Int) ≤ 1 + i; omega, by show 1 + (i : Int) ≤ 12; omega⟩, ⟨by show (1 : Int) ≤ 1 + j; omega, by show 1 + (j : Int) ≤ 12; omega⟩, by omega, hp⟩
      refine M.wp_mono (q_right hi hj ok h6 hw) (fun d e => ?_) fun _ z => z
      subst e
      rfl
    · rintro Γ ⟨d1, d2, d3, rfl⟩
      exact ⟨rfl, trivial⟩
  · intro Γ _
    exact wq_ret rfl rfl

end Px
open PySem PySem.W PyProof.Rows
set_option maxHeartbeats 0 in
theorem PySem.Challenge.cw_cordfire_k50_whole_ash_that_falls_holds : PySem.Challenge.rw_cordfire_k50_whole_ash_that_falls.Holds := by
  w_on; o_law; k_head; (case hw => w_witness2)
  k_fill
  refine Px.walk_ofG (l := PySem.Challenge.rw_cordfire_k50_whole_ash_that_falls) (n := 63) (k := 11) (x := "script") (CX := fun w => L2.CX PySem.Challenge.rw_cordfire_k50_whole_ash_that_falls.prog w) (sp := fun w => Px.spLaw _) rfl (by decide) rfl ⟨rfl, by decide, by decide⟩ (fun w h Y => PySem.W.kIn_of Y) ?F (fun _ _ a ns hl _ hS => ⟨a, ns, rfl, hS, fun _ => rfl⟩) (fun _ _ _ _ _ h => Px.cx_none h)
  case F =>
    intro w mg fa h KX G hmg
    refine' Px.all_mk KX G hmg Px.law_ok ?a0 ?l0 ?c0 ?k0 ?a1 ?l1 ?c1 ?k1 ?a2 ?l2 ?c2 ?k2 ?a3 ?l3 ?c3 ?k3 ?a4 ?l4 ?c4 ?k4 ?a5 ?l5 ?c5 ?k5 ?a6 ?l6 ?c6 ?k6 ?a7 ?l7 ?c7 ?k7 ?a8 ?l8 ?c8 ?k8 ?a9 ?l9 ?c9 ?k9 ?a10 ?l10 ?c10 ?k10 ?a11 ?l11 ?c11 ?k11 ?a12 ?l12 ?c12 ?k12 ?a13 ?l13 ?c13 ?k13 ?a14 ?l14 ?c14 ?k14 ?a15 ?l15 ?c15 ?k15 ?a16 ?l16 ?c16 ?k16 ?a17 ?l17 ?c17 ?k17 ?a18 ?l18 ?c18 ?k18 ?a19 ?l19 ?c19 ?k19 ?a20 ?l20 ?c20 ?k20 ?a21 ?l21 ?c21 ?k21 ?a22 ?l22 ?c22 ?k22 ?a23 ?l23 ?c23 ?k23 ?a24 ?l24 ?c24 ?k24 ?a25 ?l25 ?c25 ?k25 ?a26 ?l26 ?c26 ?k26 ?a27 ?l27 ?c27 ?k27 ?a28 ?l28 ?c28 ?k28 ?a29 ?l29 ?c29 ?k29 ?a30 ?l30 ?c30 ?k30 ?a31 ?l31 ?c31 ?k31 ?z_abs ?z_all ?z_bool ?z_int ?z_isinstance ?z_len ?z_min ?z_range ?z_repr ?z_sum ?z_tuple ?n_MOST_ASH ?n_MOST_HIGH ?n_MOST_PUFFS ?n_MOST_SIDE ?n_MOST_SWEPT ?n_MOST_WIND ?xg_NoCell ?xe_NoCell ?xk_NoCell ?xb_NoCell ?xt_NoCell ?xg_NoField ?xe_NoField ?xk_NoField ?xb_NoField ?xt_NoField ?xg_NoPuffs ?xe_NoPuffs ?xk_NoPuffs ?xb_NoPuffs ?xt_NoPuffs ?xg_NoSteps ?xe_NoSteps ?xk_NoSteps ?xb_NoSteps ?xt_NoSteps ?xg_NoWind ?xe_NoWind ?xk_NoWind ?xb_NoWind ?xt_NoWind
    (case a0 => k_is)
    (case l0 => k_is)
    (case c0 => k_is)
    (case k0 => k_is)
    (case a1 => k_is)
    (case l1 => k_is)
    (case c1 => k_is)
    (case k1 => k_is)
    (case a2 => k_is)
    (case l2 => k_is)
    (case c2 => k_is)
    (case k2 => k_is)
    (case a3 => k_is)
    (case l3 => k_is)
    (case c3 => k_is)
    (case k3 => k_is)
    (case a4 => k_is)
    (case l4 => k_is)
    (case c4 => k_is)
    (case k4 => k_is)
    (case a5 => k_is)
    (case l5 => k_is)
    (case c5 => k_is)
    (case k5 => k_is)
    (case a6 => k_is)
    (case l6 => k_is)
    (case c6 => k_is)
    (case k6 => k_is)
    (case a7 => k_is)
    (case l7 => k_is)
    (case c7 => k_is)
    (case k7 => k_is)
    (case a8 => k_is)
    (case l8 => k_is)
    (case c8 => k_is)
    (case k8 => k_is)
    (case a9 => k_is)
    (case l9 => k_is)
    (case c9 => k_is)
    (case k9 => k_is)
    (case a10 => k_is)
    (case l10 => k_is)
    (case c10 => k_is)
    (case k10 => k_is)
    (case a11 => k_is)
    (case l11 => k_is)
    (case c11 => k_is)
    (case k11 => k_is)
    (case a12 => k_is)
    (case l12 => k_is)
    (case c12 => k_is)
    (case k12 => k_is)
    (case a13 => k_is)
    (case l13 => k_is)
    (case c13 => k_is)
    (case k13 => k_is)
    (case a14 => k_is)
    (case l14 => k_is)
    (case c14 => k_is)
    (case k14 => k_is)
    (case a15 => k_is)
    (case l15 => k_is)
    (case c15 => k_is)
    (case k15 => k_is)
    (case a16 => k_is)
    (case l16 => k_is)
    (case c16 => k_is)
    (case k16 => k_is)
    (case a17 => k_is)
    (case l17 => k_is)
    (case c17 => k_is)
    (case k17 => k_is)
    (case a18 => k_is)
    (case l18 => k_is)
    (case c18 => k_is)
    (case k18 => k_is)
    (case a19 => k_is)
    (case l19 => k_is)
    (case c19 => k_is)
    (case k19 => k_is)
    (case a20 => k_is)
    (case l20 => k_is)
    (case c20 => k_is)
    (case k20 => k_is)
    (case a21 => k_is)
    (case l21 => k_is)
    (case c21 => k_is)
    (case k21 => k_is)
    (case a22 => k_is)
    (case l22 => k_is)
    (case c22 => k_is)
    (case k22 => k_is)
    (case a23 => k_is)
    (case l23 => k_is)
    (case c23 => k_is)
    (case k23 => k_is)
    (case a24 => k_is)
    (case l24 => k_is)
    (case c24 => k_is)
    (case k24 => k_is)
    (case a25 => k_is)
    (case l25 => k_is)
    (case c25 => k_is)
    (case k25 => k_is)
    (case a26 => k_is)
    (case l26 => k_is)
    (case c26 => k_is)
    (case k26 => k_is)
    (case a27 => k_is)
    (case l27 => k_is)
    (case c27 => k_is)
    (case k27 => k_is)
    (case a28 => k_is)
    (case l28 => k_is)
    (case c28 => k_is)
    (case k28 => k_is)
    (case a29 => k_is)
    (case l29 => k_is)
    (case c29 => k_is)
    (case k29 => k_is)
    (case a30 => k_is)
    (case l30 => k_is)
    (case c30 => k_is)
    (case k30 => k_is)
    (case a31 => k_is)
    (case l31 => k_is)
    (case c31 => k_is)
    (case k31 => k_is)
    (case z_abs => k_is)
    (case z_all => k_is)
    (case z_bool => k_is)
    (case z_int => k_is)
    (case z_isinstance => k_is)
    (case z_len => k_is)
    (case z_min => k_is)
    (case z_range => k_is)
    (case z_repr => k_is)
    (case z_sum => k_is)
    (case z_tuple => k_is)
    (case n_MOST_ASH => k_is)
    (case n_MOST_HIGH => k_is)
    (case n_MOST_PUFFS => k_is)
    (case n_MOST_SIDE => k_is)
    (case n_MOST_SWEPT => k_is)
    (case n_MOST_WIND => k_is)
    (case xg_NoCell => k_is)
    (case xe_NoCell => k_exc)
    (case xk_NoCell => k_is)
    (case xb_NoCell => k_is)
    (case xt_NoCell => k_is)
    (case xg_NoField => k_is)
    (case xe_NoField => k_exc)
    (case xk_NoField => k_is)
    (case xb_NoField => k_is)
    (case xt_NoField => k_is)
    (case xg_NoPuffs => k_is)
    (case xe_NoPuffs => k_exc)
    (case xk_NoPuffs => k_is)
    (case xb_NoPuffs => k_is)
    (case xt_NoPuffs => k_is)
    (case xg_NoSteps => k_is)
    (case xe_NoSteps => k_exc)
    (case xk_NoSteps => k_is)
    (case xb_NoSteps => k_is)
    (case xt_NoSteps => k_is)
    (case xg_NoWind => k_is)
    (case xe_NoWind => k_exc)
    (case xk_NoWind => k_is)
    (case xb_NoWind => k_is)
    (case xt_NoWind => k_is)

