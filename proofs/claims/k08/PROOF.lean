import PyProof.Rows.All
import Wide.All
import OpenK.AllK
import Wide.FinOn
import HandS.ForMost
import HandS.DictComp
import HandS.Zip
import HandS.Wide
import KE.DataEq
import HandS.TupAny
import HandS.SortInts
import HandS.More
import HandS.Conv
import KE.GoesNew
import KE.DataFind
import PyProof.Rows.Digits
import PyProof.ReprNest
import HandS.FStrTup
import HandS.TupMul
import HandS.IsInst
import HandS.Iter
import HandS.TupSets
import PySem.Challenge.RW_holetubs_k08_asked_backward
set_option Elab.async false
set_option linter.all false
set_option maxRecDepth 100000
/-! Px1: data trees D, how values bear them in a heap (Rep), the frozen part of a heap, the relation Rel of an abstract state with slots and heap -/
namespace Px
open PySem L2

/-- data without addresses -/
inductive D where
  | non | bl (b : Bool) | int (i : Int) | str (x : Str) | tup (ds : List D) | lst (ds : List D)
  | dK (ks : List Key) (ds : List D) | dT (ks : List (List Key)) (ds : List D) | scr (ns : List Int)

def isI : D → Bool
  | .int _ => true
  | _ => false
/-- all ints -/
def allI (ds : List D) : Bool := ds.all isI

mutual
def Rep (K : PySem.W.Frag) (H : Hp) : D → V → Prop
  | .non, v => v = .non
  | .bl b, v => v = .bl b
  | .int i, v => v = .int i
  | .str x, v => v = .str x
  | .tup ds, v => ∃ a xs, v = .ref a ∧ RepL K H ds xs ∧ (H a = some (.tup xs) ∨ (SqT K H a xs ∧ allI ds = true))
  | .lst ds, v => ∃ a xs, v = .ref a ∧ RepL K H ds xs ∧ H a = some (.lst xs)
  | .dK ks ds, v => ∃ a xs, v = .ref a ∧ RepL K H ds xs ∧ ks.length = ds.length ∧ Rd H a (.dK (ks.zip xs))
  | .dT ks ds, v => ∃ a xs, v = .ref a ∧ RepL K H ds xs ∧ ks.length = ds.length ∧ Rd H a (.dT (ks.zip xs))
  | .scr ns, v => ∃ a, v = .ref a ∧ SqL K H a (ns.map V.int)
def RepL (K : PySem.W.Frag) (H : Hp) : List D → List V → Prop
  | [], xs => xs = []
  | d :: ds, xs => ∃ x r, xs = x :: r ∧ Rep K H d x ∧ RepL K H ds r
end

abbrev Ex (H H' : Hp) : Prop := ∀ a o, H a = some o → H' a = some o
theorem Ex.refl (H : Hp) : Ex H H := fun _ _ h => h
theorem Ex.trans {H H1 H2 : Hp} (a : Ex H H1) (b : Ex H1 H2) : Ex H H2 := fun x o h => b x o (a x o h)
theorem Ex.new {H : Hp} {p : Addr} {o : HO} (h : H p = none) : Ex H (upd H p o) := fun a u e => by
  rw [upd_ne (ne_of_none e h)]
  exact e
theorem Ex.both {H H' : Hp} {p : Addr} {o : HO} (e : Ex H H') : Ex (upd H p o) (upd H' p o) := fun a u h => by
  by_cases q : a = p
  · subst q; rw [upd_same] at h ⊢; exact h
  · rw [upd_ne q] at h ⊢; exact e a u h
theorem Ex.back {H H' : Hp} {p : Addr} (e : Ex H H') (h : H' p = none) : H p = none := by
  cases q : H p with
  | none => rfl
  | some o => rw [e p o q] at h; cases h
theorem Ex.rd {H H' : Hp} {a : Addr} {u : HO} (e : Ex H H') (h : Rd H a u) : Rd H' a u := by
  rcases h with h | ⟨o, h⟩
  · exact .inl (e a _ h)
  · exact .inr ⟨o, e a _ h⟩
theorem Ex.sqL {K : PySem.W.Frag} {H H' : Hp} {a : Addr} {xs : List V} (e : Ex H H') (h : SqL K H a xs) : SqL K H' a xs := by
  rcases h with h | h
  · exact .inl (e.rd h)
  · exact .inr h
theorem Ex.sqT {K : PySem.W.Frag} {H H' : Hp} {a : Addr} {xs : List V} (e : Ex H H') (h : SqT K H a xs) : SqT K H' a xs := by
  rcases h with h | h
  · exact .inl (e.rd h)
  · exact .inr h

section
variable {K : PySem.W.Frag} {H H' : Hp}
mutual
theorem Rep.mono (e : Ex H H') : ∀ (d : D) (v : V), Rep K H d v → Rep K H' d v
  | .non, _, h => by simpa only [Rep] using h
  | .bl _, _, h => by simpa only [Rep] using h
  | .int _, _, h => by simpa only [Rep] using h
  | .str _, _, h => by simpa only [Rep] using h
  | .tup ds, v, h => by
    simp only [Rep] at h ⊢
    obtain ⟨a, xs, e1, r, q⟩ := h
    refine ⟨a, xs, e1, RepL.mono e ds xs r, ?_⟩
    rcases q with q | ⟨q, z⟩
    · exact .inl (e _ _ q)
    · exact .inr ⟨e.sqT q, z⟩
  | .lst ds, v, h => by
    simp only [Rep] at h ⊢
    obtain ⟨a, xs, e1, r, q⟩ := h
    exact ⟨a, xs, e1, RepL.mono e ds xs r, e _ _ q⟩
  | .dK ks ds, v, h => by
    simp only [Rep] at h ⊢
    obtain ⟨a, xs, e1, r, l, q⟩ := h
    exact ⟨a, xs, e1, RepL.mono e ds xs r, l, e.rd q⟩
  | .dT ks ds, v, h => by
    simp only [Rep] at h ⊢
    obtain ⟨a, xs, e1, r, l, q⟩ := h
    exact ⟨a, xs, e1, RepL.mono e ds xs r, l, e.rd q⟩
  | .scr ns, v, h => by
    simp only [Rep] at h ⊢
    obtain ⟨a, e1, q⟩ := h
    exact ⟨a, e1, e.sqL q⟩
theorem RepL.mono (e : Ex H H') : ∀ (ds : List D) (xs : List V), RepL K H ds xs → RepL K H' ds xs
  | [], _, h => by simpa only [RepL] using h
  | d :: ds, xs, h => by
    simp only [RepL] at h ⊢
    obtain ⟨x, r, e1, h1, h2⟩ := h
    exact ⟨x, r, e1, Rep.mono e d x h1, RepL.mono e ds r h2⟩
end
theorem Rep.up {d : D} {v : V} (h : Rep K H d v) (e : Ex H H') : Rep K H' d v := Rep.mono e d v h
theorem RepL.up {ds : List D} {xs : List V} (h : RepL K H ds xs) (e : Ex H H') : RepL K H' ds xs := RepL.mono e ds xs h
theorem RepL.nil : RepL K H [] [] := by simp only [RepL]
theorem RepL.cons {d : D} {ds : List D} {x : V} {xs : List V} (h : Rep K H d x) (r : RepL K H ds xs) : RepL K H (d :: ds) (x :: xs) := by
  simp only [RepL]; exact ⟨x, xs, rfl, h, r⟩
theorem RepL.of_nil {xs : List V} (h : RepL K H [] xs) : xs = [] := by simpa only [RepL] using h
theorem RepL.of_cons {d : D} {ds : List D} {xs : List V} (h : RepL K H (d :: ds) xs) : ∃ x r, xs = x :: r ∧ Rep K H d x ∧ RepL K H ds r := by simpa only [RepL] using h
theorem RepL.len : ∀ {ds : List D} {xs : List V}, RepL K H ds xs → xs.length = ds.length
  | [], xs, h => by rw [h.of_nil]; rfl
  | d :: ds, xs, h => by
    obtain ⟨x, r, rfl, _, h2⟩ := h.of_cons
    rw [List.length_cons, List.length_cons, RepL.len h2]
theorem RepL.append : ∀ {ds es : List D} {xs ys : List V}, RepL K H ds xs → RepL K H es ys → RepL K H (ds ++ es) (xs ++ ys)
  | [], _, xs, _, h, g => by rw [h.of_nil]; exact g
  | d :: ds, _, xs, _, h, g => by
    obtain ⟨x, r, rfl, h1, h2⟩ := h.of_cons
    exact .cons h1 (RepL.append h2 g)
theorem RepL.get : ∀ {ds : List D} {xs : List V} {i : Nat} {d : D}, RepL K H ds xs → ds[i]? = some d → ∃ x, xs[i]? = some x ∧ Rep K H d x
  | [], _, _, _, _, e => by simp at e
  | d :: ds, xs, 0, d', h, e => by
    obtain ⟨x, r, rfl, h1, _⟩ := h.of_cons
    simp at e; subst e
    exact ⟨x, rfl, h1⟩
  | d :: ds, xs, i + 1, d', h, e => by
    obtain ⟨x, r, rfl, _, h2⟩ := h.of_cons
    obtain ⟨y, e1, e2⟩ := RepL.get (i := i) h2 (by simpa using e)
    exact ⟨y, by simpa using e1, e2⟩
theorem RepL.getV : ∀ {ds : List D} {xs : List V} {i : Nat} {x : V}, RepL K H ds xs → xs[i]? = some x → ∃ d, ds[i]? = some d ∧ Rep K H d x
  | [], xs, _, _, h, e => by rw [h.of_nil] at e; simp at e
  | d :: ds, xs, 0, x', h, e => by
    obtain ⟨x, r, rfl, h1, _⟩ := h.of_cons
    simp at e; subst e
    exact ⟨d, rfl, h1⟩
  | d :: ds, xs, i + 1, x', h, e => by
    obtain ⟨x, r, rfl, _, h2⟩ := h.of_cons
    obtain ⟨y, e1, e2⟩ := RepL.getV (i := i) h2 (by simpa using e)
    exact ⟨y, by simpa using e1, e2⟩
theorem RepL.drop : ∀ {ds : List D} {xs : List V} (n : Nat), RepL K H ds xs → RepL K H (ds.drop n) (xs.drop n)
  | _, _, 0, h => h
  | [], xs, n + 1, h => by rw [h.of_nil]; exact .nil
  | d :: ds, xs, n + 1, h => by
    obtain ⟨x, r, rfl, _, h2⟩ := h.of_cons
    exact RepL.drop n h2
theorem RepL.take : ∀ {ds : List D} {xs : List V} (n : Nat), RepL K H ds xs → RepL K H (ds.take n) (xs.take n)
  | _, _, 0, h => by rw [List.take_zero, List.take_zero]; exact .nil
  | [], xs, n + 1, h => by rw [h.of_nil]; exact .nil
  | d :: ds, xs, n + 1, h => by
    obtain ⟨x, r, rfl, h1, h2⟩ := h.of_cons
    exact .cons h1 (RepL.take n h2)
theorem RepL.set : ∀ {ds : List D} {xs : List V} (n : Nat) {d : D} {x : V}, RepL K H ds xs → Rep K H d x → RepL K H (ds.set n d) (xs.set n x)
  | [], xs, n, _, _, h, _ => by rw [h.of_nil]; exact .nil
  | d :: ds, xs, 0, _, _, h, g => by
    obtain ⟨x, r, rfl, _, h2⟩ := h.of_cons
    exact .cons g h2
  | d :: ds, xs, n + 1, _, _, h, g => by
    obtain ⟨x, r, rfl, h1, h2⟩ := h.of_cons
    exact .cons h1 (RepL.set n h2 g)
theorem RepL.reverse : ∀ {ds : List D} {xs : List V}, RepL K H ds xs → RepL K H ds.reverse xs.reverse
  | [], xs, h => by rw [h.of_nil]; exact .nil
  | d :: ds, xs, h => by
    obtain ⟨x, r, rfl, h1, h2⟩ := h.of_cons
    rw [List.reverse_cons, List.reverse_cons]
    exact RepL.append (RepL.reverse h2) (.cons h1 .nil)
theorem RepL.ints : ∀ {ns : List Int} {xs : List V}, RepL K H (ns.map D.int) xs → xs = ns.map V.int
  | [], xs, h => h.of_nil
  | n :: ns, xs, h => by
    obtain ⟨x, r, rfl, h1, h2⟩ := h.of_cons
    simp only [Rep] at h1
    rw [List.map_cons, h1, RepL.ints h2]
theorem RepL.of_ints : ∀ (ns : List Int), RepL K H (ns.map D.int) (ns.map V.int)
  | [] => .nil
  | n :: ns => .cons (by simp only [Rep]) (RepL.of_ints ns)
end

/-- what an object of one's own bears -/
def Cell (K : PySem.W.Frag) (H : Hp) (o : HO) : D → Prop
  | .lst ds => ∃ xs, o = .lst xs ∧ RepL K H ds xs
  | .dK ks ds => ∃ xs, o = .dK (ks.zip xs) ∧ ks.length = ds.length ∧ RepL K H ds xs
  | .dT ks ds => ∃ xs, o = .dT (ks.zip xs) ∧ ks.length = ds.length ∧ RepL K H ds xs
  | _ => False
theorem Cell.up {K : PySem.W.Frag} {H H' : Hp} {o : HO} {d : D} (h : Cell K H o d) (e : Ex H H') : Cell K H' o d := by
  cases d <;> try exact h
  · obtain ⟨xs, e1, r⟩ := h; exact ⟨xs, e1, r.up e⟩
  · obtain ⟨xs, e1, l, r⟩ := h; exact ⟨xs, e1, l, r.up e⟩
  · obtain ⟨xs, e1, l, r⟩ := h; exact ⟨xs, e1, l, r.up e⟩
theorem Cell.rep {K : PySem.W.Frag} {H0 H : Hp} {o : HO} {d : D} {p : Addr} (h : Cell K H0 o d) (e : Ex H0 H) (hp : H p = some o) : Rep K H d (.ref p) := by
  cases d <;> try exact h.elim
  · obtain ⟨xs, e1, r⟩ := h; subst e1; simp only [Rep]; exact ⟨p, xs, rfl, r.up e, hp⟩
  · obtain ⟨xs, e1, l, r⟩ := h; subst e1; simp only [Rep]; exact ⟨p, xs, rfl, r.up e, l, .inl hp⟩
  · obtain ⟨xs, e1, l, r⟩ := h; subst e1; simp only [Rep]; exact ⟨p, xs, rfl, r.up e, l, .inl hp⟩

/-- how a slot is held: frozen, one's own, the caller's by reference -/
inductive Md where
  | sh | ow | rf
  deriving DecidableEq
abbrev Sl := Md × D
abbrev S := List (Option Sl)

/-- what stood at the entry: the heap, what is not touched, what is frozen, the object by reference -/
structure Bs where
  hE : Hp
  hb : Hp
  h0 : Hp
  rp : Addr

structure OwnSl (K : PySem.W.Frag) (B : Bs) (H0 H : Hp) (m : Md) (p : Addr) (d : D) : Prop where
  z : H0 p = none
  b : B.hb p = none
  ow : m = .ow → B.hE p = none
  rf : m = .rf → p = B.rp
  ob : ∃ o, H p = some o ∧ Cell K H0 o d

/-- new since the entry, or a tuple that stood there -/
def Nw (G : Hp) (b : Addr) (o : HO) : Prop := G b = none ∨ ∃ xs, o = .tup xs ∧ G b = some (.tup xs)
structure Rel (K : PySem.W.Frag) (B : Bs) (s : S) (σ : St) (H0 H : Hp) : Prop where
  tp : ∀ b xs, H b = some (.tup xs) → Nw B.hE b (.tup xs)
  fr : Ex B.hb H
  dom : ∀ b, H b = none → B.hE b = none
  z0 : Ex B.h0 H0
  h0 : Ex H0 H
  new : ∀ b o, H0 b = some o → B.h0 b = some o ∨ Nw B.hE b o
  len : s.length = σ.length
  sh : ∀ (i : Nat) d, s[i]? = some (some (.sh, d)) → ∃ v, σ[i]? = some (some v) ∧ Rep K H0 d v
  ow : ∀ (i : Nat) m d, s[i]? = some (some (m, d)) → m ≠ .sh → ∃ p, σ[i]? = some (some (.ref p)) ∧ OwnSl K B H0 H m p d
  ne : ∀ (i j : Nat) m n d e p, s[i]? = some (some (m, d)) → m ≠ .sh → s[j]? = some (some (n, e)) → n ≠ .sh → σ[i]? = some (some (.ref p)) → σ[j]? = some (some (.ref p)) → i = j

/-- a new object of one's own that stands in no slot -/
structure OwnAt (K : PySem.W.Frag) (B : Bs) (s : S) (σ : St) (H0 H : Hp) (p : Addr) (d : D) : Prop where
  z : H0 p = none
  e : B.hE p = none
  b : B.hb p = none
  ob : ∃ o, H p = some o ∧ Cell K H0 o d
  ne : ∀ (i : Nat) m e, s[i]? = some (some (m, e)) → m ≠ .sh → σ[i]? ≠ some (some (.ref p))

section
variable {K : PySem.W.Frag} {B : Bs} {s : S} {σ : St} {H0 H : Hp} {p : Addr} {o : HO} {d : D} {v : V} {i : Nat}
theorem Rel.fresh0 (R : Rel K B s σ H0 H) (hp : H p = none) : H0 p = none := R.h0.back hp
theorem OwnSl.up {m : Md} {H1 H' : Hp} (w : OwnSl K B H0 H m p d) (e0 : Ex H0 H1) (hz : H1 p = none) (e : H' p = H p) : OwnSl K B H1 H' m p d := by
  obtain ⟨o, ho, hc⟩ := w.ob
  exact ⟨hz, w.b, w.ow, w.rf, o, e.trans ho, hc.up e0⟩
theorem Rel.tpNew (R : Rel K B s σ H0 H) (hp : H p = none) : ∀ b xs, upd H p o b = some (.tup xs) → Nw B.hE b (.tup xs) := fun b xs h => by
  by_cases q : b = p
  · subst q; exact .inl (R.dom _ hp)
  · rw [upd_ne q] at h; exact R.tp b xs h
theorem Cell.noTup {xs : List V} (h : Cell K H0 (.tup xs) d) : False := by
  cases d <;> first | exact h | (obtain ⟨_, e, _⟩ := h; cases e)
theorem Rel.tpCell {o' : HO} {d' : D} (R : Rel K B s σ H0 H) (hc : Cell K H0 o' d') : ∀ b xs, upd H p o' b = some (.tup xs) → Nw B.hE b (.tup xs) := fun b xs h => by
  by_cases q : b = p
  · subst q; rw [upd_same] at h; cases h; exact hc.noTup.elim
  · rw [upd_ne q] at h; exact R.tp b xs h
/-- a new object, frozen at once -/
theorem Rel.laid (R : Rel K B s σ H0 H) (hp : H p = none) : Rel K B s σ (upd H0 p o) (upd H p o) := by
  have z := R.fresh0 hp
  refine ⟨R.tpNew hp, fun a u h => Ex.new hp a u (R.fr a u h), fun b h => ?_, R.z0.trans (Ex.new z), R.h0.both, fun b u h => ?_, R.len, fun i d h => ?_, fun i m d h hm => ?_, R.ne⟩
  · by_cases q : b = p
    · subst q; rw [upd_same] at h; cases h
    · rw [upd_ne q] at h; exact R.dom b h
  · by_cases q : b = p
    · subst q; exact .inr (.inl (R.dom _ hp))
    · rw [upd_ne q] at h; exact R.new b u h
  · obtain ⟨v, e1, r⟩ := R.sh i d h
    exact ⟨v, e1, r.up (Ex.new z)⟩
  · obtain ⟨q, e1, w⟩ := R.ow i m d h hm
    obtain ⟨oq, hq, _⟩ := w.ob
    have ne : q ≠ p := ne_of_none hq hp
    exact ⟨q, e1, w.up (Ex.new z) (by rw [upd_ne ne]; exact w.z) (upd_ne ne)⟩
/-- a new object of one's own -/
theorem Rel.laidO (R : Rel K B s σ H0 H) (hp : H p = none) : Rel K B s σ H0 (upd H p o) := by
  refine ⟨R.tpNew hp, fun a u h => Ex.new hp a u (R.fr a u h), fun b h => ?_, R.z0, R.h0.trans (Ex.new hp), R.new, R.len, R.sh, fun i m d h hm => ?_, R.ne⟩
  · by_cases q : b = p
    · subst q; rw [upd_same] at h; cases h
    · rw [upd_ne q] at h; exact R.dom b h
  · obtain ⟨q, e1, w⟩ := R.ow i m d h hm
    obtain ⟨oq, hq, _⟩ := w.ob
    exact ⟨q, e1, w.up (Ex.refl _) w.z (upd_ne (ne_of_none hq hp))⟩
theorem Rel.ownNew (R : Rel K B s σ H0 H) (hp : H p = none) (hc : Cell K H0 o d) : OwnAt K B s σ H0 (upd H p o) p d :=
  ⟨R.fresh0 hp, R.dom _ hp, R.fr.back hp, ⟨o, upd_same, hc⟩, fun i m e h hm z => by
    obtain ⟨q, e1, w⟩ := R.ow i m e h hm
    rw [e1] at z; cases z
    obtain ⟨oq, hq, _⟩ := w.ob
    rw [hp] at hq; cases hq⟩
/-- one's own object is frozen -/
theorem Rel.freeze (R : Rel K B s σ H0 H) (w : OwnAt K B s σ H0 H p d) : ∃ H1, Rel K B s σ H1 H ∧ Ex H0 H1 ∧ Rep K H1 d (.ref p) := by
  obtain ⟨o, ho, hc⟩ := w.ob
  refine ⟨upd H0 p o, ⟨R.tp, R.fr, R.dom, R.z0.trans (Ex.new w.z), fun a u h => ?_, fun b u h => ?_, R.len, fun i d h => ?_, fun i m d h hm => ?_, R.ne⟩, Ex.new w.z, hc.rep (Ex.new w.z) upd_same⟩
  · by_cases q : a = p
    · subst q; rw [upd_same] at h; cases h; exact ho
    · rw [upd_ne q] at h; exact R.h0 a u h
  · by_cases q : b = p
    · subst q; exact .inr (.inl w.e)
    · rw [upd_ne q] at h; exact R.new b u h
  · obtain ⟨v, e1, r⟩ := R.sh i d h
    exact ⟨v, e1, r.up (Ex.new w.z)⟩
  · obtain ⟨q, e1, y⟩ := R.ow i m d h hm
    have ne : q ≠ p := fun z => w.ne i m d h hm (by rw [e1, z])
    exact ⟨q, e1, y.up (Ex.new w.z) (by rw [upd_ne ne]; exact y.z) rfl⟩
theorem set_get {α : Type} {l : List α} {i j : Nat} {x y : α} (h : (l.set i x)[j]? = some y) : (j = i ∧ y = x) ∨ (j ≠ i ∧ l[j]? = some y) := by
  by_cases q : j = i
  · subst q
    rw [List.getElem?_set] at h
    split at h
    · split at h
      · exact .inl ⟨rfl, (Option.some.inj h).symm⟩
      · cases h
    · exact absurd rfl (by assumption)
  · rw [List.getElem?_set_ne (Ne.symm q)] at h
    exact .inr ⟨q, h⟩
theorem set_at {α : Type} {l : List α} {i : Nat} {x : α} {y : α} (h : l[i]? = some y) : (l.set i x)[i]? = some x :=
  List.getElem?_set_self (List.getElem?_eq_some_iff.mp h).1
theorem lt_of_len {α β : Type} {l : List α} {r : List β} (e : l.length = r.length) {i : Nat} {x : α} {y : α} (h : (l.set i x)[i]? = some y) : i < r.length := by
  have := (List.getElem?_eq_some_iff.mp h).1
  rw [List.length_set] at this
  omega
theorem set_self {α β : Type} {l : List α} {r : List β} (e : l.length = r.length) {i : Nat} {x y : α} {z : β} (h : (l.set i x)[i]? = some y) : (r.set i z)[i]? = some z :=
  List.getElem?_set_self (lt_of_len e h)
/-- a slot takes frozen data -/
theorem Rel.set (R : Rel K B s σ H0 H) (r : Rep K H0 d v) : Rel K B (s.set i (some (.sh, d))) (σ.set i (some v)) H0 H := by
  refine ⟨R.tp, R.fr, R.dom, R.z0, R.h0, R.new, by simp [R.len], fun j e h => ?_, fun j m e h hm => ?_, fun j k m n e f q h1 hm h2 hn e1 e2 => ?_⟩
  · rcases set_get h with ⟨rfl, q⟩ | ⟨q, h'⟩
    · cases q; exact ⟨v, set_self R.len h, r⟩
    · obtain ⟨u, e1, r1⟩ := R.sh j e h'
      exact ⟨u, by rw [List.getElem?_set_ne (Ne.symm q)]; exact e1, r1⟩
  · rcases set_get h with ⟨rfl, q⟩ | ⟨q, h'⟩
    · cases q; exact absurd rfl hm
    · obtain ⟨u, e1, r1⟩ := R.ow j m e h' hm
      exact ⟨u, by rw [List.getElem?_set_ne (Ne.symm q)]; exact e1, r1⟩
  · rcases set_get h1 with ⟨rfl, q⟩ | ⟨q1, h1⟩
    · cases q; exact absurd rfl hm
    rcases set_get h2 with ⟨rfl, q⟩ | ⟨q2, h2⟩
    · cases q; exact absurd rfl hn
    rw [List.getElem?_set_ne (Ne.symm q1)] at e1
    rw [List.getElem?_set_ne (Ne.symm q2)] at e2
    exact R.ne j k m n e f q h1 hm h2 hn e1 e2
/-- a slot takes an object of one's own -/
theorem Rel.setO (R : Rel K B s σ H0 H) (w : OwnAt K B s σ H0 H p d) : Rel K B (s.set i (some (.ow, d))) (σ.set i (some (.ref p))) H0 H := by
  refine ⟨R.tp, R.fr, R.dom, R.z0, R.h0, R.new, by simp [R.len], fun j e h => ?_, fun j m e h hm => ?_, fun j k m n e f q h1 hm h2 hn e1 e2 => ?_⟩
  · rcases set_get h with ⟨rfl, q⟩ | ⟨q, h'⟩
    · cases q
    · obtain ⟨u, e1, r1⟩ := R.sh j e h'
      exact ⟨u, by rw [List.getElem?_set_ne (Ne.symm q)]; exact e1, r1⟩
  · rcases set_get h with ⟨rfl, q⟩ | ⟨q, h'⟩
    · cases q; exact ⟨p, set_self R.len h, w.z, w.b, fun _ => w.e, fun z => (nomatch z), w.ob⟩
    · obtain ⟨u, e1, r1⟩ := R.ow j m e h' hm
      exact ⟨u, by rw [List.getElem?_set_ne (Ne.symm q)]; exact e1, r1⟩
  · rcases set_get h1 with ⟨z1, g1⟩ | ⟨q1, h1'⟩
    · rcases set_get h2 with ⟨z2, g2⟩ | ⟨q2, h2'⟩
      · rw [z1, z2]
      · subst z1
        rw [set_self R.len h1] at e1; cases e1
        rw [List.getElem?_set_ne (Ne.symm q2)] at e2
        exact absurd e2 (w.ne k n f h2' hn)
    · rcases set_get h2 with ⟨z2, g2⟩ | ⟨q2, h2'⟩
      · subst z2
        rw [set_self R.len h2] at e2; cases e2
        rw [List.getElem?_set_ne (Ne.symm q1)] at e1
        exact absurd e1 (w.ne j m e h1' hm)
      · rw [List.getElem?_set_ne (Ne.symm q1)] at e1
        rw [List.getElem?_set_ne (Ne.symm q2)] at e2
        exact R.ne j k m n e f q h1' hm h2' hn e1 e2
/-- one's own slot is frozen -/
theorem Rel.freezeSl (R : Rel K B s σ H0 H) (h : s[i]? = some (some (.ow, d))) : ∃ H1 p, σ[i]? = some (some (.ref p)) ∧ Rel K B (s.set i (some (.sh, d))) σ H1 H ∧ Ex H0 H1 ∧ Rep K H1 d (.ref p) := by
  obtain ⟨p, e1, w⟩ := R.ow i .ow d h (by decide)
  have R' : Rel K B (s.set i none) σ H0 H := by
    refine ⟨R.tp, R.fr, R.dom, R.z0, R.h0, R.new, by simp [R.len], fun j e h => ?_, fun j m e h hm => ?_, fun j k m n e f q h1 hm h2 hn e1 e2 => ?_⟩
    · rcases set_get h with ⟨rfl, q⟩ | ⟨q, h'⟩
      · cases q
      · exact R.sh j e h'
    · rcases set_get h with ⟨rfl, q⟩ | ⟨q, h'⟩
      · cases q
      · exact R.ow j m e h' hm
    · rcases set_get h1 with ⟨rfl, q⟩ | ⟨q1, h1⟩
      · cases q
      rcases set_get h2 with ⟨rfl, q⟩ | ⟨q2, h2⟩
      · cases q
      exact R.ne j k m n e f q h1 hm h2 hn e1 e2
  have w' : OwnAt K B (s.set i none) σ H0 H p d := ⟨w.z, w.ow rfl, w.b, w.ob, fun j m e hj hm z => by
    rcases set_get hj with ⟨rfl, q⟩ | ⟨q, h'⟩
    · cases q
    · exact q (R.ne j i m .ow e d p h' hm h (by decide) z e1)⟩
  obtain ⟨H1, R1, ex, r⟩ := R'.freeze w'
  refine ⟨H1, p, e1, ?_, ex, r⟩
  have R2 := R1.set (i := i) r
  have es : σ.set i (some (.ref p)) = σ := by
    obtain ⟨hi, e⟩ := List.getElem?_eq_some_iff.mp e1
    rw [← e, List.set_getElem_self]
  rw [es, List.set_set] at R2
  exact R2
/-- an object of a slot is changed -/
theorem Rel.mut {m : Md} {d' : D} {o' : HO} (R : Rel K B s σ H0 H) (h : s[i]? = some (some (m, d))) (hm : m ≠ .sh) (e1 : σ[i]? = some (some (.ref p))) (hc : Cell K H0 o' d') : Rel K B (s.set i (some (m, d'))) σ H0 (upd H p o') := by
  obtain ⟨p', e1', w⟩ := R.ow i m d h hm
  rw [e1] at e1'; cases e1'
  refine ⟨R.tpCell hc, fun a u q => ?_, fun b q => ?_, R.z0, fun a u q => ?_, R.new, by simp [R.len], fun j e q => ?_, fun j n e q hn => ?_, fun j k m1 n1 e f q h1 hm1 h2 hn1 g1 g2 => ?_⟩
  · have ne : a ≠ p := fun z => by rw [z, w.b] at q; cases q
    rw [upd_ne ne]; exact R.fr a u q
  · by_cases z : b = p
    · subst z; rw [upd_same] at q; cases q
    · rw [upd_ne z] at q; exact R.dom b q
  · have ne : a ≠ p := fun z => by rw [z, w.z] at q; cases q
    rw [upd_ne ne]; exact R.h0 a u q
  · rcases set_get q with ⟨rfl, z⟩ | ⟨z, q'⟩
    · cases z; exact absurd rfl hm
    · exact R.sh j e q'
  · rcases set_get q with ⟨rfl, z⟩ | ⟨z, q'⟩
    · cases z; exact ⟨p, e1, w.z, w.b, w.ow, w.rf, o', upd_same, hc⟩
    · obtain ⟨a, g1, y⟩ := R.ow j n e q' hn
      have ne : a ≠ p := fun zz => z (R.ne j i n m e d p q' hn h hm (by rw [g1, zz]) e1)
      exact ⟨a, g1, y.up (Ex.refl _) y.z (upd_ne ne)⟩
  · have g : ∀ {l : Nat} {mm : Md} {x : D}, (s.set i (some (m, d')))[l]? = some (some (mm, x)) → ∃ y, s[l]? = some (some (mm, y)) := fun {l mm x} hh => by
      rcases set_get hh with ⟨rfl, z⟩ | ⟨_, hh'⟩
      · cases z; exact ⟨d, h⟩
      · exact ⟨x, hh'⟩
    obtain ⟨y1, h1'⟩ := g h1
    obtain ⟨y2, h2'⟩ := g h2
    exact R.ne j k m1 n1 y1 y2 q h1' hm1 h2' hn1 g1 g2
end
end Px

set_option Elab.async false
set_option linter.all false
set_option maxRecDepth 100000
set_option maxHeartbeats 1000000
/-! Px2: expressions: the readings that abstract functions induce (tF, tO, tP, tT, tA) and the rules for names, constants, operators, comparisons, tests, displays, subscripts -/
namespace Px
open PySem L2
abbrev F := S → Option (D × S)
abbrev TB := S → Option (Bool × S)
abbrev FA := S → Option (List D × S)
/-- what is looked at and not kept: data, or the object of a slot -/
inductive PR where
  | dat (d : D) | slot (i : Nat)
@[simp] def PR.get : PR → S → Option D
  | .dat d, _ => some d
  | .slot i, s => match s[i]? with | some (some (_, d)) => some d | _ => none
abbrev FP := S → Option (PR × S)

section
variable (K : PySem.W.Frag) (B : Bs)
def PRep (σ : St) (H0 : Hp) (r : PR) (v : V) : Prop := match r with | .dat d => Rep K H0 d v | .slot i => σ[i]? = some (some v)
def tF (f : F) : TE := fun σ H Q => ∃ s H0 r s', Rel K B s σ H0 H ∧ f s = some (r, s') ∧ ∀ v H1 H', Rel K B s' σ H1 H' → Ex H0 H1 → Rep K H1 r v → Q v H'
def tO (f : F) : TE := fun σ H Q => ∃ s H0 r s', Rel K B s σ H0 H ∧ f s = some (r, s') ∧ ∀ p H1 H', Rel K B s' σ H1 H' → Ex H0 H1 → OwnAt K B s' σ H1 H' p r → Q (.ref p) H'
def tP (f : FP) : TE := fun σ H Q => ∃ s H0 r s', Rel K B s σ H0 H ∧ f s = some (r, s') ∧ ∀ v H1 H', Rel K B s' σ H1 H' → Ex H0 H1 → PRep K σ H1 r v → Q v H'
def tT (f : TB) : TT := fun σ H Q => ∃ s H0 r s', Rel K B s σ H0 H ∧ f s = some (r, s') ∧ ∀ H1 H', Rel K B s' σ H1 H' → Ex H0 H1 → Q r H'
def tA (f : FA) : TA := fun σ H Q => ∃ s H0 r s', Rel K B s σ H0 H ∧ f s = some (r, s') ∧ ∀ vs H1 H', Rel K B s' σ H1 H' → Ex H0 H1 → RepL K H1 r vs → Q vs H'
end
theorem _root_.L2.PE.pxw {X : Cx} {e : Expr} {t t' : TE} (h : PE X e t) (w : ∀ σ H Q, t' σ H Q → t σ H Q) : PE X e t' := ⟨fun pins s σ H Q I q => h.run pins s σ H Q I (w σ H Q q)⟩
theorem _root_.L2.PT.pxw {X : Cx} {e : Expr} {t t' : TT} (h : PT X e t) (w : ∀ σ H Q, t' σ H Q → t σ H Q) : PT X e t' := ⟨fun pins s σ H Q I q => h.run pins s σ H Q I (w σ H Q q)⟩
theorem _root_.L2.PW.pxw {X : Cx} {e : Expr} {t t' : TT} (h : PW X e t) (w : ∀ σ H Q, t' σ H Q → t σ H Q) : PW X e t' := ⟨fun wh pins s σ H Q I q => h.run wh pins s σ H Q I (w σ H Q q)⟩
theorem _root_.L2.PA.pxw {X : Cx} {e : List Expr} {t t' : TA} (h : PA X e t) (w : ∀ σ H Q, t' σ H Q → t σ H Q) : PA X e t' := ⟨fun pos pins s σ H Q I q => h.run pos pins s σ H Q I (w σ H Q q)⟩
theorem _root_.L2.PS.pxw {X : Cx} {e : Stmt} {t t' : TS} (h : PS X e t) (w : ∀ D σ H, t' D σ H → t D σ H) : PS X e t' := ⟨fun pins s σ H D I q => h.run pins s σ H D I (w D σ H q)⟩
theorem _root_.L2.PSs.pxw {X : Cx} {e : List Stmt} {t t' : TS} (h : PSs X e t) (w : ∀ D σ H, t' D σ H → t D σ H) : PSs X e t' := ⟨fun pins s σ H D I q => h.run pins s σ H D I (w D σ H q)⟩
theorem _root_.L2.PG.pxw {X : Cx} {e : Expr} {t t' : TG} (h : PG X e t) (w : ∀ v σ H Q, t' v σ H Q → t v σ H Q) : PG X e t' := ⟨fun pins s σ H v u Q I r q => h.run pins s σ H v u Q I r (w v σ H Q q)⟩
theorem _root_.L2.PGs.pxw {X : Cx} {e : List Expr} {t t' : TGs} (h : PGs X e t) (w : ∀ v σ H Q, t' v σ H Q → t v σ H Q) : PGs X e t' := ⟨fun pins s σ H v u Q I r q => h.run pins s σ H v u Q I r (w v σ H Q q)⟩
theorem _root_.L2.PI.pxw {X : Cx} {tg e : Expr} {t t' : TI} (h : PI X tg e t) (w : ∀ σ H R, t' σ H R → t σ H R) : PI X tg e t' := ⟨fun pins s σ H R I q => h.run pins s σ H R I (w σ H R q)⟩

theorem bnd {α β : Type} {o : Option α} {f : α → Option β} {b : β} (h : o.bind f = some b) : ∃ a, o = some a ∧ f a = some b := Option.bind_eq_some_iff.mp h

/-! ### names, constants -/
@[simp] def eVar (i : Nat) : F := fun s => match s[i]? with
  | some (some (.sh, d)) => some (d, s)
  | some (some (.ow, d)) => some (d, s.set i (some (.sh, d)))
  | _ => none
@[simp] def pVar (i : Nat) : FP := fun s => match s[i]? with
  | some (some (.sh, d)) => some (.dat d, s)
  | some (some (_, _)) => some (.slot i, s)
  | _ => none
@[simp] def pE (f : F) : FP := fun s => (f s).bind fun a => some (.dat a.1, a.2)
@[simp] def eC (d : D) : F := fun s => some (d, s)

section
variable {X : Cx} {B : Bs} {a b c e : Expr} {pos : Pos} {fa fb fc f : F} {pa pb : FP}
theorem ie_var (i : Nat) {x : Str} (h : PE X (.Name x pos) (tVar i)) : PE X (.Name x pos) (tF X.K B (eVar i)) := h.pxw fun σ H Q q => by
  obtain ⟨s, H0, r, s', R, e, k⟩ := q
  unfold eVar at e
  split at e
  · next d hd =>
    cases e
    obtain ⟨v, ev, hr⟩ := R.sh i _ hd
    exact ⟨v, ev, k v H0 H R (Ex.refl _) hr⟩
  · next d hd =>
    cases e
    obtain ⟨H1, p, ev, R1, ex, hr⟩ := R.freezeSl hd
    exact ⟨_, ev, k _ H1 H R1 ex hr⟩
  · cases e
theorem ip_var (i : Nat) {x : Str} (h : PE X (.Name x pos) (tVar i)) : PE X (.Name x pos) (tP X.K B (pVar i)) := h.pxw fun σ H Q q => by
  obtain ⟨s, H0, r, s', R, e, k⟩ := q
  unfold pVar at e
  split at e
  · next d hd =>
    cases e
    obtain ⟨v, ev, hr⟩ := R.sh i _ hd
    exact ⟨v, ev, k v H0 H R (Ex.refl _) hr⟩
  · next m d hm hd =>
    cases e
    obtain ⟨p, ev, w⟩ := R.ow i m d hd hm
    exact ⟨_, ev, k _ H0 H R (Ex.refl _) ev⟩
  · cases e
theorem ip_of (h : PE X e (tF X.K B f)) : PE X e (tP X.K B (pE f)) := h.pxw fun σ H Q q => by
  obtain ⟨s, H0, r, s', R, e, k⟩ := q
  obtain ⟨a, e1, e2⟩ := bnd e
  cases e2
  exact ⟨s, H0, a.1, a.2, R, e1, fun v H1 H' R1 ex r => k v H1 H' R1 ex r⟩
theorem ie_own (h : PE X e (tO X.K B f)) : PE X e (tF X.K B f) := h.pxw fun σ H Q q => by
  obtain ⟨s, H0, r, s', R, e, k⟩ := q
  refine ⟨s, H0, r, s', R, e, fun p H1 H' R1 ex w => ?_⟩
  obtain ⟨H2, R2, ex2, r2⟩ := R1.freeze w
  exact k _ H2 H' R2 (ex.trans ex2) r2
theorem ie_c {v : V} {d : D} (h : PE X e (tC v)) (r : ∀ H0, Rep X.K H0 d v) : PE X e (tF X.K B (eC d)) := h.pxw fun σ H Q q => by
  obtain ⟨s, H0, r', s', R, e, k⟩ := q
  cases e
  exact k v H0 H R (Ex.refl _) (r H0)
theorem ie_int {i j} : PE X (.Constant (.int i) j pos) (tF X.K B (eC (.int i))) := ie_c pe_int fun _ => by simp only [Rep]
theorem ie_str {x j} : PE X (.Constant (.str x) j pos) (tF X.K B (eC (.str x))) := ie_c pe_str fun _ => by simp only [Rep]
theorem ie_bl {x j} : PE X (.Constant (.bool x) j pos) (tF X.K B (eC (.bl x))) := ie_c pe_bl fun _ => by simp only [Rep]
theorem ie_non {j} : PE X (.Constant .none j pos) (tF X.K B (eC .non)) := ie_c pe_non fun _ => by simp only [Rep]

/-! ### what a peeked value is -/
theorem get_slot {i : Nat} {s : S} {d : D} (g : (PR.slot i).get s = some d) : ∃ m, s[i]? = some (some (m, d)) := by
  simp only [PR.get] at g
  split at g
  · next m d' hd => cases g; exact ⟨m, hd⟩
  · cases g
/-- a peeked value is frozen, or an object of a slot -/
theorem PRep.cases {s : S} {σ : St} {H0 H : Hp} {r : PR} {v : V} {d : D} {K : PySem.W.Frag} (R : Rel K B s σ H0 H) (p : PRep K σ H0 r v) (g : r.get s = some d) :
    Rep K H0 d v ∨ ∃ q o, v = .ref q ∧ H q = some o ∧ Cell K H0 o d := by
  cases r with
  | dat d' => cases g; exact .inl p
  | slot i =>
    obtain ⟨m, hd⟩ := get_slot g
    have p' : σ[i]? = some (some v) := p
    by_cases hm : m = .sh
    · subst hm
      obtain ⟨u, eu, ru⟩ := R.sh i d hd
      rw [p'] at eu; cases eu
      exact .inl ru
    · obtain ⟨q, eu, w⟩ := R.ow i m d hd hm
      rw [p'] at eu; cases eu
      obtain ⟨o, ho, hc⟩ := w.ob
      exact .inr ⟨q, o, rfl, ho, hc⟩
theorem PRep.rep {s : S} {σ : St} {H0 H : Hp} {r : PR} {v : V} {d : D} {K : PySem.W.Frag} (R : Rel K B s σ H0 H) (p : PRep K σ H0 r v) (g : r.get s = some d) : Rep K H d v := by
  rcases p.cases R g with h | ⟨q, o, rfl, ho, hc⟩
  · exact h.up R.h0
  · exact hc.rep R.h0 ho
/-- .. a list: its items are frozen -/
theorem PRep.lst {s : S} {σ : St} {H0 H : Hp} {r : PR} {v : V} {ds : List D} {K : PySem.W.Frag} (R : Rel K B s σ H0 H) (p : PRep K σ H0 r v) (g : r.get s = some (.lst ds)) : ∃ a xs, v = .ref a ∧ RepL K H0 ds xs ∧ H a = some (.lst xs) := by
  rcases p.cases R g with h | ⟨q, o, rfl, ho, hc⟩
  · simp only [Rep] at h
    obtain ⟨a, xs, e1, h1, h2⟩ := h
    exact ⟨a, xs, e1, h1, R.h0 _ _ h2⟩
  · obtain ⟨xs, e1, hc⟩ := hc
    exact ⟨q, xs, rfl, hc, by rw [ho, e1]⟩
theorem PRep.dK {s : S} {σ : St} {H0 H : Hp} {r : PR} {v : V} {ks : List Key} {ds : List D} {K : PySem.W.Frag} (R : Rel K B s σ H0 H) (p : PRep K σ H0 r v) (g : r.get s = some (.dK ks ds)) : ∃ a xs, v = .ref a ∧ RepL K H0 ds xs ∧ ks.length = ds.length ∧ Rd H a (.dK (ks.zip xs)) := by
  rcases p.cases R g with h | ⟨q, o, rfl, ho, hc⟩
  · simp only [Rep] at h
    obtain ⟨a, xs, e1, h1, hl, h2⟩ := h
    exact ⟨a, xs, e1, h1, hl, R.h0.rd h2⟩
  · obtain ⟨xs, e1, hl, hc⟩ := hc
    exact ⟨q, xs, rfl, hc, hl, .inl (by rw [ho, e1])⟩
theorem PRep.dT {s : S} {σ : St} {H0 H : Hp} {r : PR} {v : V} {ks : List (List Key)} {ds : List D} {K : PySem.W.Frag} (R : Rel K B s σ H0 H) (p : PRep K σ H0 r v) (g : r.get s = some (.dT ks ds)) : ∃ a xs, v = .ref a ∧ RepL K H0 ds xs ∧ ks.length = ds.length ∧ Rd H a (.dT (ks.zip xs)) := by
  rcases p.cases R g with h | ⟨q, o, rfl, ho, hc⟩
  · simp only [Rep] at h
    obtain ⟨a, xs, e1, h1, hl, h2⟩ := h
    exact ⟨a, xs, e1, h1, hl, R.h0.rd h2⟩
  · obtain ⟨xs, e1, hl, hc⟩ := hc
    exact ⟨q, xs, rfl, hc, hl, .inl (by rw [ho, e1])⟩
/-- .. neither a list nor a dict: frozen data -/
theorem PRep.frozen {s : S} {σ : St} {H0 H : Hp} {r : PR} {v : V} {d : D} {K : PySem.W.Frag} (R : Rel K B s σ H0 H) (p : PRep K σ H0 r v) (g : r.get s = some d) (hd : ∀ o, ¬ Cell K H0 o d) : Rep K H0 d v := by
  rcases p.cases R g with h | ⟨q, o, rfl, ho, hc⟩
  · exact h
  · exact (hd o hc).elim
theorem PRep.up {σ : St} {H0 H1 : Hp} {r : PR} {v : V} {K : PySem.W.Frag} (p : PRep K σ H0 r v) (e : Ex H0 H1) : PRep K σ H1 r v := by
  cases r with
  | dat d => exact Rep.up p e
  | slot i => exact p

/-! ### two operands -/
/-- an operator's wants are met where g gives an answer -/
def OpD (K : PySem.W.Frag) (r : R2) (g : D → D → Option D) : Prop := ∀ (B : Bs) s σ H0 H d1 d2 d x y (Q : VK), Rel K B s σ H0 H → Rep K H0 d1 x → Rep K H0 d2 y → g d1 d2 = some d →
  (∀ v H1 H', Rel K B s σ H1 H' → Ex H0 H1 → Rep K H1 d v → Q v H') → r x y H Q
/-- .. a new object -/
def OpO (K : PySem.W.Frag) (r : R2) (g : D → D → Option D) : Prop := ∀ (B : Bs) s σ H0 H d1 d2 d x y (Q : VK), Rel K B s σ H0 H → Rep K H0 d1 x → Rep K H0 d2 y → g d1 d2 = some d →
  (∀ p H', Rel K B s σ H0 H' → OwnAt K B s σ H0 H' p d → Q (.ref p) H') → r x y H Q
/-- .. on peeked operands -/
def OpP (K : PySem.W.Frag) (r : R2) (g : D → D → Option D) : Prop := ∀ (B : Bs) s σ H0 H p1 p2 d1 d2 d x y (Q : VK), Rel K B s σ H0 H → PRep K σ H0 p1 x → PRep K σ H0 p2 y → p1.get s = some d1 → p2.get s = some d2 → g d1 d2 = some d →
  (∀ v H1 H', Rel K B s σ H1 H' → Ex H0 H1 → Rep K H1 d v → Q v H') → r x y H Q
theorem OpO.d {K : PySem.W.Frag} {r : R2} {g : D → D → Option D} (h : OpO K r g) : OpD K r g := fun B s σ H0 H d1 d2 d x y Q R r1 r2 e k =>
  h B s σ H0 H d1 d2 d x y Q R r1 r2 e fun p H' R' w => by
    obtain ⟨H1, R1, ex, rr⟩ := R'.freeze w
    exact k _ H1 H' R1 ex rr
@[simp] def eOp (g : D → D → Option D) (fa fb : F) : F := fun s => (fa s).bind fun a => (fb a.2).bind fun b => (g a.1 b.1).bind fun d => some (d, b.2)
@[simp] def eOpP (g : D → D → Option D) (pa pb : FP) : F := fun s => (pa s).bind fun a => (pb a.2).bind fun b => (a.1.get b.2).bind fun d1 => (b.1.get b.2).bind fun d2 => (g d1 d2).bind fun d => some (d, b.2)
theorem rd_op2 {K : PySem.W.Frag} {r : R2} {g : D → D → Option D} (hr : OpD K r g) {σ : St} {H : Hp} {Q : VK} (q : tF K B (eOp g fa fb) σ H Q) : tOp r (tF K B fa) (tF K B fb) σ H Q := by
  obtain ⟨s, H0, d, s', R, ev, k⟩ := q
  obtain ⟨⟨d1, s1⟩, e1, ev⟩ := bnd ev
  obtain ⟨⟨d2, s2⟩, e2, ev⟩ := bnd ev
  obtain ⟨d', e3, ev⟩ := bnd ev
  cases ev
  exact ⟨s, H0, d1, s1, R, e1, fun x H1 H' R1 x1 r1 => ⟨s1, H1, d2, s2, R1, e2, fun y H2 H'' R2 x2 r2 =>
    hr B s2 σ H2 H'' d1 d2 d x y Q R2 (r1.up x2) r2 e3 fun v H3 H3' R3 x3 r3 => k v H3 H3' R3 ((x1.trans x2).trans x3) r3⟩⟩
theorem ie_op2 {r : R2} {g : D → D → Option D} {e : Expr} (hp : ∀ {ta tb : TE}, PE X a ta → PE X b tb → PE X e (tOp r ta tb)) (hr : OpD X.K r g) (ha : PE X a (tF X.K B fa)) (hb : PE X b (tF X.K B fb)) : PE X e (tF X.K B (eOp g fa fb)) := (hp ha hb).pxw fun σ H Q q => rd_op2 hr q
theorem rd_op2O {K : PySem.W.Frag} {r : R2} {g : D → D → Option D} (hr : OpO K r g) {σ : St} {H : Hp} {Q : VK} (q : tO K B (eOp g fa fb) σ H Q) : tOp r (tF K B fa) (tF K B fb) σ H Q := by
  obtain ⟨s, H0, d, s', R, ev, k⟩ := q
  obtain ⟨⟨d1, s1⟩, e1, ev⟩ := bnd ev
  obtain ⟨⟨d2, s2⟩, e2, ev⟩ := bnd ev
  obtain ⟨d', e3, ev⟩ := bnd ev
  cases ev
  exact ⟨s, H0, d1, s1, R, e1, fun x H1 H' R1 x1 r1 => ⟨s1, H1, d2, s2, R1, e2, fun y H2 H'' R2 x2 r2 =>
    hr B s2 σ H2 H'' d1 d2 d x y Q R2 (r1.up x2) r2 e3 fun p H3' R3 w => k p H2 H3' R3 (x1.trans x2) w⟩⟩
theorem ie_op2O {r : R2} {g : D → D → Option D} {e : Expr} (hp : ∀ {ta tb : TE}, PE X a ta → PE X b tb → PE X e (tOp r ta tb)) (hr : OpO X.K r g) (ha : PE X a (tF X.K B fa)) (hb : PE X b (tF X.K B fb)) : PE X e (tO X.K B (eOp g fa fb)) := (hp ha hb).pxw fun σ H Q q => rd_op2O hr q
theorem rd_op2P {K : PySem.W.Frag} {r : R2} {g : D → D → Option D} (hr : OpP K r g) {σ : St} {H : Hp} {Q : VK} (q : tF K B (eOpP g pa pb) σ H Q) : tOp r (tP K B pa) (tP K B pb) σ H Q := by
  obtain ⟨s, H0, d, s', R, ev, k⟩ := q
  obtain ⟨⟨p1, s1⟩, e1, ev⟩ := bnd ev
  obtain ⟨⟨p2, s2⟩, e2, ev⟩ := bnd ev
  obtain ⟨d1, g1, ev⟩ := bnd ev
  obtain ⟨d2, g2, ev⟩ := bnd ev
  obtain ⟨d', e3, ev⟩ := bnd ev
  cases ev
  exact ⟨s, H0, p1, s1, R, e1, fun x H1 H' R1 x1 r1 => ⟨s1, H1, p2, s2, R1, e2, fun y H2 H'' R2 x2 r2 =>
    hr B s2 σ H2 H'' p1 p2 d1 d2 d x y Q R2 (r1.up x2) r2 g1 g2 e3 fun v H3 H3' R3 x3 r3 => k v H3 H3' R3 ((x1.trans x2).trans x3) r3⟩⟩
theorem ie_op2P {r : R2} {g : D → D → Option D} {e : Expr} (hp : ∀ {ta tb : TE}, PE X a ta → PE X b tb → PE X e (tOp r ta tb)) (hr : OpP X.K r g) (ha : PE X a (tP X.K B pa)) (hb : PE X b (tP X.K B pb)) : PE X e (tF X.K B (eOpP g pa pb)) := (hp ha hb).pxw fun σ H Q q => rd_op2P hr q
/-- an answer that is no new object -/
theorem OpD.flat {K : PySem.W.Frag} {r : R2} {g : D → D → Option D} (h : ∀ H0 d1 d2 d x y, Rep K H0 d1 x → Rep K H0 d2 y → g d1 d2 = some d → ∃ v, (∀ H1, Rep K H1 d v) ∧ ∀ H (Q : VK), Q v H → r x y H Q) : OpD K r g := fun B s σ H0 H d1 d2 d x y Q R r1 r2 e k => by
  obtain ⟨v, hv, hq⟩ := h H0 d1 d2 d x y r1 r2 e
  exact hq H Q (k v H0 H R (Ex.refl _) (hv H0))

/-! ### ints -/
@[simp] def gI (f : Int → Int → D) : D → D → Option D
  | .int i, .int j => some (f i j)
  | _, _ => none
@[simp] def gIc (c : Int → Int → Bool) (f : Int → Int → D) : D → D → Option D
  | .int i, .int j => if c i j then some (f i j) else none
  | _, _ => none
theorem rep_int {K : PySem.W.Frag} {H : Hp} {i : Int} {v : V} (h : Rep K H (.int i) v) : v = .int i := by simpa only [Rep] using h
theorem rep_str {K : PySem.W.Frag} {H : Hp} {i : Str} {v : V} (h : Rep K H (.str i) v) : v = .str i := by simpa only [Rep] using h
theorem rep_bl {K : PySem.W.Frag} {H : Hp} {i : Bool} {v : V} (h : Rep K H (.bl i) v) : v = .bl i := by simpa only [Rep] using h
theorem rep_non {K : PySem.W.Frag} {H : Hp} {v : V} (h : Rep K H .non v) : v = .non := by simpa only [Rep] using h
theorem gI_inv {f : Int → Int → D} {d1 d2 d : D} (h : gI f d1 d2 = some d) : ∃ i j, d1 = .int i ∧ d2 = .int j ∧ d = f i j := by
  unfold gI at h
  split at h
  · cases h; exact ⟨_, _, rfl, rfl, rfl⟩
  · cases h
theorem gIc_inv {c : Int → Int → Bool} {f : Int → Int → D} {d1 d2 d : D} (h : gIc c f d1 d2 = some d) : ∃ i j, d1 = .int i ∧ d2 = .int j ∧ d = f i j ∧ c i j = true := by
  unfold gIc at h
  split at h
  · split at h
    · cases h; exact ⟨_, _, rfl, rfl, rfl, by assumption⟩
    · cases h
  · cases h
theorem opd_I {K : PySem.W.Frag} {f : Int → Int → Int} : OpD K (rI0 fun i j => .int (f i j)) (gI fun i j => .int (f i j)) := .flat fun H0 d1 d2 d x y r1 r2 e => by
  obtain ⟨i, j, rfl, rfl, rfl⟩ := gI_inv e
  exact ⟨.int (f i j), fun _ => by simp only [Rep], fun H Q q => ⟨i, j, rep_int r1, rep_int r2, q⟩⟩
theorem opd_B {K : PySem.W.Frag} {f : Int → Int → Bool} : OpD K (rI0 fun i j => .bl (f i j)) (gI fun i j => .bl (f i j)) := .flat fun H0 d1 d2 d x y r1 r2 e => by
  obtain ⟨i, j, rfl, rfl, rfl⟩ := gI_inv e
  exact ⟨.bl (f i j), fun _ => by simp only [Rep], fun H Q q => ⟨i, j, rep_int r1, rep_int r2, q⟩⟩
theorem opd_Ic {K : PySem.W.Frag} {C : Int → Int → Prop} {c : Int → Int → Bool} {f : Int → Int → Int} (hc : ∀ i j, c i j = true → C i j) : OpD K (rI C fun i j => .int (f i j)) (gIc c fun i j => .int (f i j)) := .flat fun H0 d1 d2 d x y r1 r2 e => by
  obtain ⟨i, j, rfl, rfl, rfl, h⟩ := gIc_inv e
  exact ⟨.int (f i j), fun _ => by simp only [Rep], fun H Q q => ⟨i, j, rep_int r1, rep_int r2, hc i j h, q⟩⟩
@[simp] def eAdd := eOp (gI fun i j => .int (i + j))
@[simp] def eSub := eOp (gI fun i j => .int (i - j))
def cMul (i j : Int) : Bool := decide (i.natAbs.log2 + j.natAbs.log2 < 1000000)
def cDiv (_ j : Int) : Bool := decide (0 < j ∧ j.natAbs.log2 < 9000)
@[simp] def cMod (_ j : Int) : Bool := decide (0 < j)
def cPow (i j : Int) : Bool := decide (0 ≤ j ∧ j ≤ 1000000 ∧ i.natAbs < 2 ^ 64)
@[simp] def eMul := eOp (gIc cMul fun i j => .int (i * j))
@[simp] def eDiv := eOp (gIc cDiv fun i j => .int (i / j))
@[simp] def eMod := eOp (gIc cMod fun i j => .int (i % j))
@[simp] def ePow := eOp (gIc cPow fun i j => .int (i ^ j.toNat))
theorem ie_add (ha : PE X a (tF X.K B fa)) (hb : PE X b (tF X.K B fb)) : PE X (.BinOp a .Add b pos) (tF X.K B (eAdd fa fb)) := ie_op2 (pe_op op_add) opd_I ha hb
theorem ie_sub (ha : PE X a (tF X.K B fa)) (hb : PE X b (tF X.K B fb)) : PE X (.BinOp a .Sub b pos) (tF X.K B (eSub fa fb)) := ie_op2 (pe_op op_sub) opd_I ha hb
theorem ie_mul (ha : PE X a (tF X.K B fa)) (hb : PE X b (tF X.K B fb)) : PE X (.BinOp a .Mult b pos) (tF X.K B (eMul fa fb)) := ie_op2 (pe_op op_mulW) (opd_Ic fun i j h => show i.natAbs.log2 + j.natAbs.log2 < 1000000 from of_decide_eq_true h) ha hb
theorem ie_fdiv (ha : PE X a (tF X.K B fa)) (hb : PE X b (tF X.K B fb)) : PE X (.BinOp a .FloorDiv b pos) (tF X.K B (eDiv fa fb)) := ie_op2 (pe_op op_fdivW) (opd_Ic fun i j h => show 0 < j ∧ j.natAbs.log2 < 9000 from of_decide_eq_true h) ha hb
theorem ie_mod (ha : PE X a (tF X.K B fa)) (hb : PE X b (tF X.K B fb)) : PE X (.BinOp a .Mod b pos) (tF X.K B (eMod fa fb)) := ie_op2 (pe_op op_mod) (opd_Ic fun i j h => of_decide_eq_true h) ha hb
theorem ie_pow (ha : PE X a (tF X.K B fa)) (hb : PE X b (tF X.K B fb)) : PE X (.BinOp a .Pow b pos) (tF X.K B (ePow fa fb)) := ie_op2 (pe_op op_pow) (opd_Ic fun i j h => show 0 ≤ j ∧ j ≤ 1000000 ∧ i.natAbs < 2 ^ 64 from of_decide_eq_true h) ha hb
@[simp] def eUn (g : D → Option D) (fa : F) : F := fun s => (fa s).bind fun a => (g a.1).bind fun d => some (d, a.2)
@[simp] def gNeg : D → Option D
  | .int i => some (.int (-i))
  | _ => none
theorem ie_neg (ha : PE X a (tF X.K B fa)) : PE X (.UnaryOp .USub a pos) (tF X.K B (eUn gNeg fa)) := (pe_un un_neg ha).pxw fun σ H Q q => by
  obtain ⟨s, H0, d, s', R, ev, k⟩ := q
  obtain ⟨⟨d1, s1⟩, e1, ev⟩ := bnd ev
  obtain ⟨d', e3, ev⟩ := bnd ev
  cases ev
  refine ⟨s, H0, d1, s1, R, e1, fun x H1 H' R1 x1 r1 => ?_⟩
  dsimp only at e3
  unfold gNeg at e3
  split at e3
  · cases e3; exact ⟨_, rep_int r1, k _ H1 H' R1 x1 (by simp only [Rep])⟩
  · cases e3

/-! ### comparisons of ints, of data -/
@[simp] def eLt := eOp (gI fun i j => .bl (decide (i < j)))
@[simp] def eLe := eOp (gI fun i j => .bl (decide (i ≤ j)))
@[simp] def eGt := eOp (gI fun i j => .bl (decide (j < i)))
@[simp] def eGe := eOp (gI fun i j => .bl (decide (j ≤ i)))
theorem ie_lt (ha : PE X a (tF X.K B fa)) (hb : PE X b (tF X.K B fb)) : PE X (.Compare a [.Lt] [b] pos) (tF X.K B (eLt fa fb)) := ie_op2 (fun h1 h2 => pe_cmpR op_lt h1 h2 (nomark _)) opd_B ha hb
theorem ie_le (ha : PE X a (tF X.K B fa)) (hb : PE X b (tF X.K B fb)) : PE X (.Compare a [.LtE] [b] pos) (tF X.K B (eLe fa fb)) := ie_op2 (fun h1 h2 => pe_cmpR op_le h1 h2 (nomark _)) opd_B ha hb
theorem ie_gt (ha : PE X a (tF X.K B fa)) (hb : PE X b (tF X.K B fb)) : PE X (.Compare a [.Gt] [b] pos) (tF X.K B (eGt fa fb)) := ie_op2 (fun h1 h2 => pe_cmpR op_gt h1 h2 (nomark _)) opd_B ha hb
theorem ie_ge (ha : PE X a (tF X.K B fa)) (hb : PE X b (tF X.K B fb)) : PE X (.Compare a [.GtE] [b] pos) (tF X.K B (eGe fa fb)) := ie_op2 (fun h1 h2 => pe_cmpR op_ge h1 h2 (nomark _)) opd_B ha hb

mutual
/-- as the library's data (dicts and the script are no such) -/
def D.py : D → PyData
  | .non => .none
  | .bl b => .bool b
  | .int i => .int i
  | .str x => .str x
  | .tup ds => .tuple (pys ds)
  | .lst ds => .list (pys ds)
  | .dK _ _ => .dict []
  | .dT _ _ => .dict []
  | .scr _ => .dict []
def pys : List D → List PyData
  | [] => []
  | d :: ds => d.py :: pys ds
end
mutual
theorem rep_dp {K : PySem.W.Frag} {H : Hp} : ∀ (d : D) (v : V), d.py.plain = true → Rep K H d v → Dp K H v d.py
  | .non, v, _, h => by rw [rep_non h]; exact .non
  | .bl b, v, _, h => by rw [rep_bl h]; exact .bl b
  | .int b, v, _, h => by rw [rep_int h]; exact .int b
  | .str b, v, _, h => by rw [rep_str h]; exact .str b
  | .tup ds, v, hp, h => by
    simp only [Rep] at h
    obtain ⟨a, xs, rfl, r, q⟩ := h
    refine .tup (xs := xs) ?_ (rep_dps ds xs hp r)
    rcases q with q | ⟨q, _⟩
    · exact .of q
    · exact q
  | .lst ds, v, hp, h => by
    simp only [Rep] at h
    obtain ⟨a, xs, rfl, r, q⟩ := h
    exact .lst (.of q) (rep_dps ds xs hp r)
  | .dK _ _, v, hp, _ => by simp [D.py, PyData.plain] at hp
  | .dT _ _, v, hp, _ => by simp [D.py, PyData.plain] at hp
  | .scr _, v, hp, _ => by simp [D.py, PyData.plain] at hp
theorem rep_dps {K : PySem.W.Frag} {H : Hp} : ∀ (ds : List D) (xs : List V), PyData.plainAll (pys ds) = true → RepL K H ds xs → DpAll K H xs (pys ds)
  | [], xs, _, h => by rw [h.of_nil]; exact .nil
  | d :: ds, xs, hp, h => by
    obtain ⟨x, r, rfl, h1, h2⟩ := h.of_cons
    have hp' : d.py.plain = true ∧ PyData.plainAll (pys ds) = true := by simpa [pys, PyData.plainAll] using hp
    exact .cons (rep_dp d x hp'.1 h1) (rep_dps ds r hp'.2 h2)
end
def okD (d : D) : Bool := d.py.plain && decide (d.py.depth ≤ 64)
def eqD (d e : D) : Bool := PyData.eqv d.py e.py
@[simp] def gEq (d e : D) : Option D := if okD d && okD e then some (.bl (eqD d e)) else none
@[simp] def gNe (d e : D) : Option D := if okD d && okD e then some (.bl (!eqD d e)) else none
def rEqP (K : PySem.W.Frag) : R2 := fun x y H Q => ∃ d e, Dp K H x d ∧ Dp K H y e ∧ (d.plain = true ∧ d.depth ≤ 64) ∧ (e.plain = true ∧ e.depth ≤ 64) ∧ Q (.bl (PyData.eqv d e)) H
def rNeP (K : PySem.W.Frag) : R2 := fun x y H Q => ∃ d e, Dp K H x d ∧ Dp K H y e ∧ (d.plain = true ∧ d.depth ≤ 64) ∧ (e.plain = true ∧ e.depth ≤ 64) ∧ Q (.bl (!PyData.eqv d e)) H
theorem op_eqP (hu : X.A.units + 64 < cLine) : OpR X (compareOp .Eq) (rEqP X.K) := by
  intro pins s σ H x y v u Q I rx ry h
  obtain ⟨d, e, hd, he, ⟨sd, dd⟩, ⟨se, de⟩, q⟩ := h
  obtain ⟨as, r1⟩ := Dp.reads I d x v hd rx
  obtain ⟨bs, r2⟩ := Dp.reads I e y u he ry
  exact PySem.SeqAt.eq_plain r1 r2 sd se (by omega) ⟨.bl _, H, I, rfl, q⟩
theorem op_neP (hu : X.A.units + 64 < cLine) : OpR X (compareOp .NotEq) (rNeP X.K) := by
  intro pins s σ H x y v u Q I rx ry h
  obtain ⟨d, e, hd, he, ⟨sd, dd⟩, ⟨se, de⟩, q⟩ := h
  obtain ⟨as, r1⟩ := Dp.reads I d x v hd rx
  obtain ⟨bs, r2⟩ := Dp.reads I e y u he ry
  exact PySem.SeqAt.ne_plain r1 r2 sd se (by omega) ⟨.bl _, H, I, rfl, q⟩
theorem okD_inv {d : D} (h : okD d = true) : d.py.plain = true ∧ d.py.depth ≤ 64 := by
  unfold okD at h
  simp only [Bool.and_eq_true, decide_eq_true_eq] at h
  exact h
theorem opp_eq {K : PySem.W.Frag} : OpP K (rEqP K) gEq := fun B s σ H0 H p1 p2 d1 d2 d x y Q R r1 r2 g1 g2 e k => by
  unfold gEq at e
  split at e
  · next h =>
    cases e
    rw [Bool.and_eq_true] at h
    have o1 := okD_inv h.1
    have o2 := okD_inv h.2
    exact ⟨d1.py, d2.py, rep_dp d1 x o1.1 (r1.rep R g1), rep_dp d2 y o2.1 (r2.rep R g2), o1, o2, k _ H0 H R (Ex.refl _) (by simp only [Rep]; rfl)⟩
  · cases e
theorem opp_ne {K : PySem.W.Frag} : OpP K (rNeP K) gNe := fun B s σ H0 H p1 p2 d1 d2 d x y Q R r1 r2 g1 g2 e k => by
  unfold gNe at e
  split at e
  · next h =>
    cases e
    rw [Bool.and_eq_true] at h
    have o1 := okD_inv h.1
    have o2 := okD_inv h.2
    exact ⟨d1.py, d2.py, rep_dp d1 x o1.1 (r1.rep R g1), rep_dp d2 y o2.1 (r2.rep R g2), o1, o2, k _ H0 H R (Ex.refl _) (by simp only [Rep]; rfl)⟩
  · cases e
theorem ie_eq (hu : X.A.units + 64 < cLine) (ha : PE X a (tP X.K B pa)) (hb : PE X b (tP X.K B pb)) : PE X (.Compare a [.Eq] [b] pos) (tF X.K B (eOpP gEq pa pb)) := ie_op2P (fun h1 h2 => pe_cmpR (op_eqP hu) h1 h2 (nomark _)) opp_eq ha hb
theorem ie_ne (hu : X.A.units + 64 < cLine) (ha : PE X a (tP X.K B pa)) (hb : PE X b (tP X.K B pb)) : PE X (.Compare a [.NotEq] [b] pos) (tF X.K B (eOpP gNe pa pb)) := ie_op2P (fun h1 h2 => pe_cmpR (op_neP hu) h1 h2 (nomark _)) opp_ne ha hb
end
end Px

set_option Elab.async false
set_option linter.all false
set_option maxRecDepth 100000
set_option maxHeartbeats 1000000
/-! Px3: tests, arguments, displays, subscripts, slices, built-in calls, dicts read -/
namespace Px
open PySem L2
section
variable {X : Cx} {B : Bs} {a b c e : Expr} {pos : Pos} {fa fb fc f : F} {pa pb : FP} {ba bb : TB} {K : PySem.W.Frag} {σ : St} {H : Hp}

/-! ### tests -/
@[simp] def bT (f : F) : TB := fun s => (f s).bind fun a => match a.1 with | .bl b => some (b, a.2) | _ => none
theorem bT_inv {f : F} {s s' : S} {r : Bool} (h : bT f s = some (r, s')) : f s = some (.bl r, s') := by
  obtain ⟨⟨d, s1⟩, e1, h⟩ := bnd h
  dsimp only at h
  split at h
  · cases h; exact e1
  · cases h
theorem rd_test {t : TE} (w : ∀ {σ H Q}, tF K B f σ H Q → t σ H Q) {Q : Bool → Hp → Prop} (q : tT K B (bT f) σ H Q) : tTest t σ H Q := by
  obtain ⟨s, H0, r, s', R, ev, k⟩ := q
  exact w ⟨s, H0, .bl r, s', R, bT_inv ev, fun v H1 H' R1 x1 rp => ⟨r, rep_bl rp, k H1 H' R1 x1⟩⟩
theorem it_of {t : TE} (h : PT X e (tTest t)) (w : ∀ {σ H Q}, tF X.K B f σ H Q → t σ H Q) : PT X e (tT X.K B (bT f)) := h.pxw fun σ H Q q => rd_test w q
theorem it_val (h : PE X e (tF X.K B f)) (he : ∀ whole, isTrue e X.env whole = (do let v ← whole; standAt e.pos; holding [v] (truthy v)) := by intro _; rfl) : PT X e (tT X.K B (bT f)) :=
  (pt_val h he).pxw fun σ H Q q => rd_test (t := tF X.K B f) (fun z => z) q
theorem it_lt (ha : PE X a (tF X.K B fa)) (hb : PE X b (tF X.K B fb)) : PT X (.Compare a [.Lt] [b] pos) (tT X.K B (bT (eLt fa fb))) := it_of (pt_cmpR op_lt ha hb (nomark _)) fun q => rd_op2 opd_B q
theorem it_le (ha : PE X a (tF X.K B fa)) (hb : PE X b (tF X.K B fb)) : PT X (.Compare a [.LtE] [b] pos) (tT X.K B (bT (eLe fa fb))) := it_of (pt_cmpR op_le ha hb (nomark _)) fun q => rd_op2 opd_B q
theorem it_gt (ha : PE X a (tF X.K B fa)) (hb : PE X b (tF X.K B fb)) : PT X (.Compare a [.Gt] [b] pos) (tT X.K B (bT (eGt fa fb))) := it_of (pt_cmpR op_gt ha hb (nomark _)) fun q => rd_op2 opd_B q
theorem it_ge (ha : PE X a (tF X.K B fa)) (hb : PE X b (tF X.K B fb)) : PT X (.Compare a [.GtE] [b] pos) (tT X.K B (bT (eGe fa fb))) := it_of (pt_cmpR op_ge ha hb (nomark _)) fun q => rd_op2 opd_B q
theorem it_eq (hu : X.A.units + 64 < cLine) (ha : PE X a (tP X.K B pa)) (hb : PE X b (tP X.K B pb)) : PT X (.Compare a [.Eq] [b] pos) (tT X.K B (bT (eOpP gEq pa pb))) := it_of (pt_cmpR (op_eqP hu) ha hb (nomark _)) fun q => rd_op2P opp_eq q
theorem it_ne (hu : X.A.units + 64 < cLine) (ha : PE X a (tP X.K B pa)) (hb : PE X b (tP X.K B pb)) : PT X (.Compare a [.NotEq] [b] pos) (tT X.K B (bT (eOpP gNe pa pb))) := it_of (pt_cmpR (op_neP hu) ha hb (nomark _)) fun q => rd_op2P opp_ne q
@[simp] def bAnd (ta tb : TB) : TB := fun s => (ta s).bind fun a => if a.1 then tb a.2 else some (false, a.2)
@[simp] def bOr (ta tb : TB) : TB := fun s => (ta s).bind fun a => if a.1 then some (true, a.2) else tb a.2
@[simp] def bNot (ta : TB) : TB := fun s => (ta s).bind fun a => some (!a.1, a.2)
theorem iw_and1 (ha : PT X a (tT X.K B ba)) : PW X (.BoolOp .And [a] pos) (tT X.K B ba) := pw_and1 ha
theorem iw_or1 (ha : PT X a (tT X.K B ba)) : PW X (.BoolOp .Or [a] pos) (tT X.K B ba) := pw_or1 ha
theorem iw_and {rest : List Expr} (ha : PT X a (tT X.K B ba)) (hb : PW X (.BoolOp .And (b :: rest) pos) (tT X.K B bb)) : PW X (.BoolOp .And (a :: b :: rest) pos) (tT X.K B (bAnd ba bb)) := (pw_and ha hb).pxw fun σ H Q q => by
  obtain ⟨s, H0, r, s', R, ev, k⟩ := q
  obtain ⟨⟨r1, s1⟩, e1, ev⟩ := bnd ev
  refine ⟨s, H0, r1, s1, R, e1, fun H1 H' R1 x1 => ?_⟩
  cases r1 with
  | true => exact ⟨s1, H1, r, s', R1, ev, fun H2 H'' R2 x2 => k H2 H'' R2 (x1.trans x2)⟩
  | false => cases ev; exact k H1 H' R1 x1
theorem iw_or {rest : List Expr} (ha : PT X a (tT X.K B ba)) (hb : PW X (.BoolOp .Or (b :: rest) pos) (tT X.K B bb)) : PW X (.BoolOp .Or (a :: b :: rest) pos) (tT X.K B (bOr ba bb)) := (pw_or ha hb).pxw fun σ H Q q => by
  obtain ⟨s, H0, r, s', R, ev, k⟩ := q
  obtain ⟨⟨r1, s1⟩, e1, ev⟩ := bnd ev
  refine ⟨s, H0, r1, s1, R, e1, fun H1 H' R1 x1 => ?_⟩
  cases r1 with
  | false => exact ⟨s1, H1, r, s', R1, ev, fun H2 H'' R2 x2 => k H2 H'' R2 (x1.trans x2)⟩
  | true => cases ev; exact k H1 H' R1 x1
theorem it_not (ha : PT X a (tT X.K B ba)) : PT X (.UnaryOp .Not a pos) (tT X.K B (bNot ba)) := (pt_not ha).pxw fun σ H Q q => by
  obtain ⟨s, H0, r, s', R, ev, k⟩ := q
  obtain ⟨⟨r1, s1⟩, e1, ev⟩ := bnd ev
  cases ev
  exact ⟨s, H0, r1, s1, R, e1, fun H1 H' R1 x1 => k H1 H' R1 x1⟩
/-- as values -/
@[simp] def eAndV (fa fb : F) : F := fun s => (bT fa s).bind fun a => if a.1 then fb a.2 else some (.bl false, a.2)
@[simp] def eOrV (fa fb : F) : F := fun s => (bT fa s).bind fun a => if a.1 then some (.bl true, a.2) else fb a.2
@[simp] def eNotV (fa : F) : F := fun s => (bT fa s).bind fun a => some (.bl (!a.1), a.2)
theorem ie_one {op} (ha : PE X a (tF X.K B fa)) : PE X (.BoolOp op [a] pos) (tF X.K B fa) := pe_one ha
theorem ie_and {rest : List Expr} (ha : PE X a (tF X.K B fa)) (hb : PE X (.BoolOp .And (b :: rest) pos) (tF X.K B fb)) : PE X (.BoolOp .And (a :: b :: rest) pos) (tF X.K B (eAndV fa fb)) := (pe_and ha hb).pxw fun σ H Q q => by
  obtain ⟨s, H0, r, s', R, ev, k⟩ := q
  obtain ⟨⟨r1, s1⟩, e1, ev⟩ := bnd ev
  refine ⟨s, H0, .bl r1, s1, R, bT_inv e1, fun v H1 H' R1 x1 rp => ⟨r1, rep_bl rp, ?_⟩⟩
  cases r1 with
  | true => exact ⟨s1, H1, r, s', R1, ev, fun v H2 H'' R2 x2 => k v H2 H'' R2 (x1.trans x2)⟩
  | false => cases ev; exact k _ H1 H' R1 x1 (by simp only [Rep])
theorem ie_or {rest : List Expr} (ha : PE X a (tF X.K B fa)) (hb : PE X (.BoolOp .Or (b :: rest) pos) (tF X.K B fb)) : PE X (.BoolOp .Or (a :: b :: rest) pos) (tF X.K B (eOrV fa fb)) := (pe_or ha hb).pxw fun σ H Q q => by
  obtain ⟨s, H0, r, s', R, ev, k⟩ := q
  obtain ⟨⟨r1, s1⟩, e1, ev⟩ := bnd ev
  refine ⟨s, H0, .bl r1, s1, R, bT_inv e1, fun v H1 H' R1 x1 rp => ⟨r1, rep_bl rp, ?_⟩⟩
  cases r1 with
  | false => exact ⟨s1, H1, r, s', R1, ev, fun v H2 H'' R2 x2 => k v H2 H'' R2 (x1.trans x2)⟩
  | true => cases ev; exact k _ H1 H' R1 x1 (by simp only [Rep])
theorem ie_not (ha : PE X a (tF X.K B fa)) : PE X (.UnaryOp .Not a pos) (tF X.K B (eNotV fa)) := (pe_not ha).pxw fun σ H Q q => by
  obtain ⟨s, H0, r, s', R, ev, k⟩ := q
  obtain ⟨⟨r1, s1⟩, e1, ev⟩ := bnd ev
  cases ev
  exact ⟨s, H0, .bl r1, s1, R, bT_inv e1, fun v H1 H' R1 x1 rp => ⟨r1, rep_bl rp, k _ H1 H' R1 x1 (by simp only [Rep])⟩⟩
@[simp] def eIf (t : TB) (fa fb : F) : F := fun s => (t s).bind fun a => if a.1 then fa a.2 else fb a.2
theorem ie_if (hc : PT X c (tT X.K B ba)) (ha : PE X a (tF X.K B fa)) (hb : PE X b (tF X.K B fb)) : PE X (.IfExp c a b pos) (tF X.K B (eIf ba fa fb)) := (pe_ifExp hc ha hb).pxw fun σ H Q q => by
  obtain ⟨s, H0, r, s', R, ev, k⟩ := q
  obtain ⟨⟨r1, s1⟩, e1, ev⟩ := bnd ev
  refine ⟨s, H0, r1, s1, R, e1, fun H1 H' R1 x1 => ?_⟩
  cases r1 with
  | true => exact ⟨s1, H1, r, s', R1, ev, fun v H2 H'' R2 x2 => k v H2 H'' R2 (x1.trans x2)⟩
  | false => exact ⟨s1, H1, r, s', R1, ev, fun v H2 H'' R2 x2 => k v H2 H'' R2 (x1.trans x2)⟩
/-- a < b < c on ints -/
@[simp] def eChain (p q : Int → Int → Bool) (fa fb fc : F) : F := fun s => (fa s).bind fun a => (fb a.2).bind fun b => match a.1, b.1 with
  | .int i, .int j => if p i j then (fc b.2).bind fun c => match c.1 with | .int k => some (.bl (q j k), c.2) | _ => none else some (.bl false, b.2)
  | _, _ => none
theorem chain_inv {p q : Int → Int → Bool} {s s' : S} {r : D} (h : eChain p q fa fb fc s = some (r, s')) : ∃ i j s1 s2, fa s = some (.int i, s1) ∧ fb s1 = some (.int j, s2) ∧
    ((p i j = false ∧ r = .bl false ∧ s' = s2) ∨ (p i j = true ∧ ∃ k, fc s2 = some (.int k, s') ∧ r = .bl (q j k))) := by
  unfold eChain at h
  obtain ⟨⟨d1, s1⟩, e1, h1⟩ := bnd h
  clear h
  obtain ⟨⟨d2, s2⟩, e2, h2⟩ := bnd h1
  clear h1
  cases d1 with
  | int i =>
    cases d2 with
    | int j =>
      refine ⟨i, j, s1, s2, e1, e2, ?_⟩
      dsimp only at h2
      by_cases hp : p i j = true
      · rw [if_pos hp] at h2
        obtain ⟨⟨d3, s3⟩, e3, h3⟩ := bnd h2
        cases d3 with
        | int k => cases h3; exact .inr ⟨hp, k, e3, rfl⟩
        | _ => cases h3
      · rw [if_neg hp] at h2
        cases h2
        exact .inl ⟨by simpa using hp, rfl, rfl⟩
    | _ => cases h2
  | _ => cases h2
theorem rd_chain {p q : Int → Int → Bool} {Q : VK} (h : tF K B (eChain p q fa fb fc) σ H Q) : tChain (rI0 fun i j => .bl (p i j)) (rI0 fun i j => .bl (q i j)) (tF K B fa) (tF K B fb) (tF K B fc) σ H Q := by
  obtain ⟨s, H0, r, s', R, ev, k⟩ := h
  obtain ⟨i, j, s1, s2, e1, e2, h⟩ := chain_inv ev
  refine ⟨s, H0, _, s1, R, e1, fun x H1 H' R1 x1 r1 => ⟨s1, H1, _, s2, R1, e2, fun y H2 H'' R2 x2 r2 => ⟨i, j, rep_int (r1.up x2), rep_int r2, p i j, rfl, ?_⟩⟩⟩
  rcases h with ⟨hp, rfl, rfl⟩ | ⟨hp, l, e3, rfl⟩
  · rw [hp]
    exact iteF (k _ H2 H'' R2 (x1.trans x2) (by simp only [Rep]))
  · rw [hp]
    exact iteT ⟨s2, H2, _, _, R2, e3, fun z H3 H3' R3 x3 r3 => ⟨j, l, rep_int (r2.up x3), rep_int r3, k _ H3 H3' R3 ((x1.trans x2).trans x3) (by simp only [Rep])⟩⟩
theorem ie_lele (ha : PE X a (tF X.K B fa)) (hb : PE X b (tF X.K B fb)) (hc : PE X c (tF X.K B fc)) (hm : lastMarks [.LtE, .LtE] [b, c] = false := by with_unfolding_all rfl) : PE X (.Compare a [.LtE, .LtE] [b, c] pos) (tF X.K B (eChain (fun i j => decide (i ≤ j)) (fun i j => decide (i ≤ j)) fa fb fc)) := (pe_chain op_le op_le ha hb hc hm).pxw fun σ H Q q => rd_chain q
theorem it_lele (ha : PE X a (tF X.K B fa)) (hb : PE X b (tF X.K B fb)) (hc : PE X c (tF X.K B fc)) (hm : lastMarks [.LtE, .LtE] [b, c] = false := by with_unfolding_all rfl) : PT X (.Compare a [.LtE, .LtE] [b, c] pos) (tT X.K B (bT (eChain (fun i j => decide (i ≤ j)) (fun i j => decide (i ≤ j)) fa fb fc))) := it_of (pt_chain op_le op_le ha hb hc hm) fun q => rd_chain q
theorem it_ltlt (ha : PE X a (tF X.K B fa)) (hb : PE X b (tF X.K B fb)) (hc : PE X c (tF X.K B fc)) (hm : lastMarks [.Lt, .Lt] [b, c] = false := by with_unfolding_all rfl) : PT X (.Compare a [.Lt, .Lt] [b, c] pos) (tT X.K B (bT (eChain (fun i j => decide (i < j)) (fun i j => decide (i < j)) fa fb fc))) := it_of (pt_chain op_lt op_lt ha hb hc hm) fun q => rd_chain q
/-- is None -/
@[simp] def isN : D → Bool
  | .non => true
  | _ => false
theorem rep_isN {H0 : Hp} {d : D} {v : V} (h : Rep K H0 d v) : decide (v = .non) = isN d := by
  cases d <;> simp only [Rep] at h
  case non => subst h; rfl
  case bl => subst h; rfl
  case int => subst h; rfl
  case str => subst h; rfl
  case scr => obtain ⟨a, rfl, _⟩ := h; rfl
  all_goals obtain ⟨a, xs, rfl, _⟩ := h; rfl
@[simp] def eIsN (neg : Bool) (pa : FP) : F := fun s => (pa s).bind fun a => (a.1.get a.2).bind fun d => some (.bl (if neg then !isN d else isN d), a.2)
theorem rd_isN {Q : VK} (q : tF K B (eIsN false pa) σ H Q) : tIsN (tP K B pa) σ H Q := by
  obtain ⟨s, H0, r, s', R, ev, k⟩ := q
  obtain ⟨⟨p1, s1⟩, e1, ev⟩ := bnd ev
  obtain ⟨d, g1, ev⟩ := bnd ev
  cases ev
  refine ⟨s, H0, p1, s1, R, e1, fun x H1 H' R1 x1 r1 => ?_⟩
  show Q (V.bl (decide (x = V.non))) H'
  rw [rep_isN (r1.rep R1 g1)]
  exact k _ H1 H' R1 x1 (by simp only [Rep]; rfl)
theorem rd_notN {Q : VK} (q : tF K B (eIsN true pa) σ H Q) : tNotN (tP K B pa) σ H Q := by
  obtain ⟨s, H0, r, s', R, ev, k⟩ := q
  obtain ⟨⟨p1, s1⟩, e1, ev⟩ := bnd ev
  obtain ⟨d, g1, ev⟩ := bnd ev
  cases ev
  refine ⟨s, H0, p1, s1, R, e1, fun x H1 H' R1 x1 r1 => ?_⟩
  show Q (V.bl (!decide (x = V.non))) H'
  rw [rep_isN (r1.rep R1 g1)]
  exact k _ H1 H' R1 x1 (by simp only [Rep]; rfl)
theorem ie_isN {j pos'} (ha : PE X a (tP X.K B pa)) : PE X (.Compare a [.Is] [.Constant .none j pos'] pos) (tF X.K B (eIsN false pa)) := (pe_cmp (pc_isN ha)).pxw fun σ H Q q => rd_isN q
theorem ie_notN {j pos'} (ha : PE X a (tP X.K B pa)) : PE X (.Compare a [.IsNot] [.Constant .none j pos'] pos) (tF X.K B (eIsN true pa)) := (pe_cmp (pc_notN ha)).pxw fun σ H Q q => rd_notN q
theorem it_isN {j pos'} (ha : PE X a (tP X.K B pa)) : PT X (.Compare a [.Is] [.Constant .none j pos'] pos) (tT X.K B (bT (eIsN false pa))) := it_of (pt_cmp (pc_isN ha)) fun q => rd_isN q
theorem it_notN {j pos'} (ha : PE X a (tP X.K B pa)) : PT X (.Compare a [.IsNot] [.Constant .none j pos'] pos) (tT X.K B (bT (eIsN true pa))) := it_of (pt_cmp (pc_notN ha)) fun q => rd_notN q

/-! ### arguments, tuples, lists -/
@[simp] def aNil : FA := fun s => some ([], s)
@[simp] def aCons (f : F) (g : FA) : FA := fun s => (f s).bind fun a => (g a.2).bind fun b => some (a.1 :: b.1, b.2)
theorem ia_nil : PA X [] (tA X.K B aNil) := pa_nil.pxw fun σ H Q q => by
  obtain ⟨s, H0, r, s', R, ev, k⟩ := q
  cases ev
  exact k [] H0 H R (Ex.refl _) .nil
theorem ia_cons {es : List Expr} {g : FA} (ha : PE X e (tF X.K B f)) (hr : PA X es (tA X.K B g)) (hs : starEach (e :: es) X.env = (false, eval e X.env) :: starEach es X.env := by rfl) : PA X (e :: es) (tA X.K B (aCons f g)) := (pa_cons ha hr hs).pxw fun σ H Q q => by
  obtain ⟨s, H0, r, s', R, ev, k⟩ := q
  obtain ⟨⟨d1, s1⟩, e1, ev⟩ := bnd ev
  obtain ⟨⟨d2, s2⟩, e2, ev⟩ := bnd ev
  cases ev
  exact ⟨s, H0, d1, s1, R, e1, fun x H1 H' R1 x1 r1 => ⟨s1, H1, d2, s2, R1, e2, fun xs H2 H'' R2 x2 r2 => k (x :: xs) H2 H'' R2 (x1.trans x2) (.cons (r1.up x2) r2)⟩⟩
def small (n : Nat) : Bool := decide (n ≤ 10000000)
theorem small_le {n : Nat} (h : small n = true) : n ≤ sizeLine := Nat.le_trans (of_decide_eq_true h) (by decide)
theorem small_lt {n : Nat} (h : small n = true) : n < sizeLine := Nat.lt_of_le_of_lt (of_decide_eq_true h) (by decide)
@[simp] def eTup (g : FA) : F := fun s => (g s).bind fun a => if small a.1.length then some (.tup a.1, a.2) else none
@[simp] def eLst (g : FA) : F := fun s => (g s).bind fun a => if small a.1.length then some (.lst a.1, a.2) else none
theorem rep_tupNew {H0 : Hp} {p : Addr} {ds : List D} {xs : List V} (r : RepL K H0 ds xs) (h : H0 p = none) : Rep K (upd H0 p (.tup xs)) (.tup ds) (.ref p) := by
  simp only [Rep]; exact ⟨p, xs, rfl, r.up (Ex.new h), .inl upd_same⟩
theorem ie_tup {es : List Expr} {x1} {g : FA} (h : PA X es (tA X.K B g)) : PE X (.Tuple es x1 pos) (tF X.K B (eTup g)) := (pe_tup h).pxw fun σ H Q q => by
  obtain ⟨s, H0, r, s', R, ev, k⟩ := q
  obtain ⟨⟨ds, s1⟩, e1, ev⟩ := bnd ev
  dsimp only at ev
  split at ev
  · next hl =>
    cases ev
    exact ⟨s, H0, ds, _, R, e1, fun xs H1 H' R1 x1 r1 => ⟨by rw [r1.len]; exact small_le hl, fun p hp => k _ _ _ (R1.laid hp) (x1.trans (Ex.new (R1.fresh0 hp))) (rep_tupNew r1 (R1.fresh0 hp))⟩⟩
  · cases ev
theorem io_lst {es : List Expr} {g : FA} (h : PA X es (tA X.K B g)) : PE X (.List es pos) (tO X.K B (eLst g)) := (pe_lst h).pxw fun σ H Q q => by
  obtain ⟨s, H0, r, s', R, ev, k⟩ := q
  obtain ⟨⟨ds, s1⟩, e1, ev⟩ := bnd ev
  dsimp only at ev
  split at ev
  · next hl =>
    cases ev
    exact ⟨s, H0, ds, _, R, e1, fun xs H1 H' R1 x1 r1 => ⟨by rw [r1.len]; exact small_le hl, fun p hp => k p H1 _ (R1.laidO hp) x1 (R1.ownNew (o := .lst xs) hp ⟨xs, rfl, r1⟩)⟩⟩
  · cases ev

/-! ### + of lists, tuples, texts -/
@[simp] def gCatL : D → D → Option D
  | .lst a, .lst b => if small (a.length + b.length) then some (.lst (a ++ b)) else none
  | _, _ => none
@[simp] def gCatT : D → D → Option D
  | .tup a, .tup b => if small (a.length + b.length) then some (.tup (a ++ b)) else none
  | _, _ => none
@[simp] def gCatS : D → D → Option D
  | .str a, .str b => if small (a.length + b.length) then some (.str (a ++ b)) else none
  | _, _ => none
theorem opo_catL : OpO K rCat gCatL := fun B s σ H0 H d1 d2 d x y Q R r1 r2 e k => by
  unfold gCatL at e
  split at e
  · next a b =>
    split at e
    · next hl =>
      cases e
      simp only [Rep] at r1 r2
      obtain ⟨p, xs, rfl, l1, h1⟩ := r1
      obtain ⟨q, ys, rfl, l2, h2⟩ := r2
      refine ⟨p, q, xs, ys, rfl, rfl, R.h0 _ _ h1, R.h0 _ _ h2, by rw [l1.len, l2.len]; exact small_le hl, fun t ht => ?_⟩
      exact k t _ (R.laidO ht) (R.ownNew ht ⟨_, rfl, l1.append l2⟩)
    · cases e
  · cases e
theorem rep_tup_sq {H0 : Hp} {ds : List D} {v : V} (h : Rep K H0 (.tup ds) v) : ∃ a xs, v = .ref a ∧ RepL K H0 ds xs ∧ SqT K H0 a xs := by
  simp only [Rep] at h
  obtain ⟨a, xs, e, r, q⟩ := h
  refine ⟨a, xs, e, r, ?_⟩
  rcases q with q | ⟨q, _⟩
  · exact .of q
  · exact q
theorem RepL.nil_iff {H0 : Hp} {ds : List D} {xs : List V} (h : RepL K H0 ds xs) : xs = [] ↔ ds = [] := by
  have := h.len
  constructor
  · intro z; subst z; exact List.eq_nil_of_length_eq_zero this.symm
  · intro z; subst z; exact h.of_nil
theorem opd_catT : OpD K (rCatA K) gCatT := fun B s σ H0 H d1 d2 d x y Q R r1 r2 e k => by
  unfold gCatT at e
  split at e
  · next a b =>
    split at e
    · next hl =>
      cases e
      obtain ⟨p, xs, rfl, l1, h1⟩ := rep_tup_sq r1
      obtain ⟨q, ys, rfl, l2, h2⟩ := rep_tup_sq r2
      refine ⟨p, q, xs, ys, rfl, rfl, R.h0.sqT h1, R.h0.sqT h2, by rw [l1.len, l2.len]; exact small_le hl, fun z => ?_, fun z1 z2 => ?_, fun _ _ t ht => ?_⟩
      · rw [l1.nil_iff] at z; subst z
        exact k _ H0 H R (Ex.refl _) r2
      · rw [l2.nil_iff] at z2; subst z2
        rw [List.append_nil] at k
        exact k _ H0 H R (Ex.refl _) r1
      · exact k _ _ _ (R.laid ht) (Ex.new (R.fresh0 ht)) (rep_tupNew (l1.append l2) (R.fresh0 ht))
    · cases e
  · cases e
theorem opd_catS : OpD K (fun x y H Q => ∃ i j, x = .str i ∧ y = .str j ∧ i.length + j.length ≤ sizeLine ∧ Q (.str (i ++ j)) H) gCatS := .flat fun H0 d1 d2 d x y r1 r2 e => by
  unfold gCatS at e
  split at e
  · next a b =>
    split at e
    · next hl =>
      cases e
      exact ⟨.str (a ++ b), fun _ => by simp only [Rep], fun H Q q => ⟨a, b, rep_str r1, rep_str r2, small_le hl, q⟩⟩
    · cases e
  · cases e
theorem io_catL (ha : PE X a (tF X.K B fa)) (hb : PE X b (tF X.K B fb)) : PE X (.BinOp a .Add b pos) (tO X.K B (eOp gCatL fa fb)) := ie_op2O (pe_op op_cat) opo_catL ha hb
theorem ie_catT (ha : PE X a (tF X.K B fa)) (hb : PE X b (tF X.K B fb)) : PE X (.BinOp a .Add b pos) (tF X.K B (eOp gCatT fa fb)) := ie_op2 (pe_op op_catA) opd_catT ha hb
theorem ie_catS (ha : PE X a (tF X.K B fa)) (hb : PE X b (tF X.K B fb)) : PE X (.BinOp a .Add b pos) (tF X.K B (eOp gCatS fa fb)) := ie_op2 (pe_op op_add_str) opd_catS ha hb

/-! ### subscripts -/
theorem RepL.atI {H0 : Hp} {ds : List D} {xs : List V} {i : Int} {d : D} (h : RepL K H0 ds xs) (e : atI ds i = some d) : ∃ x, L2.atI xs i = some x ∧ Rep K H0 d x := by
  unfold L2.atI at e ⊢
  rw [h.len]
  obtain ⟨j, e1, e2⟩ := bnd e
  obtain ⟨x, g1, g2⟩ := h.get e2
  exact ⟨x, by rw [e1]; exact g1, g2⟩
@[simp] def gIx : D → D → Option D
  | .lst ds, .int i => atI ds i
  | .tup ds, .int i => atI ds i
  | .scr ns, .int i => (atI ns i).map D.int
  | _, _ => none
theorem atI_map {α β : Type} (f : α → β) (l : List α) (i : Int) : atI (l.map f) i = (atI l i).map f := by
  unfold L2.atI
  rw [List.length_map]
  cases ixN l.length i with
  | none => rfl
  | some j => simp
theorem gIx_inv {d1 d2 d : D} (h : gIx d1 d2 = some d) : (∃ ds i, d1 = .lst ds ∧ d2 = .int i ∧ atI ds i = some d) ∨ (∃ ds i, d1 = .tup ds ∧ d2 = .int i ∧ atI ds i = some d) ∨ ∃ ns i n, d1 = .scr ns ∧ d2 = .int i ∧ atI ns i = some n ∧ d = .int n := by
  cases d2 with
  | int i =>
    cases d1 with
    | lst ds => exact .inl ⟨ds, i, rfl, rfl, h⟩
    | tup ds => exact .inr (.inl ⟨ds, i, rfl, rfl, h⟩)
    | scr ns =>
      obtain ⟨n, en, ed⟩ := Option.map_eq_some_iff.mp (show (atI ns i).map D.int = some d from h)
      exact .inr (.inr ⟨ns, i, n, rfl, rfl, en, ed.symm⟩)
    | _ => cases h
  | _ => cases d1 <;> cases h
theorem rd_ix {Q : VK} (q : tF K B (eOpP gIx pa (pE fb)) σ H Q) : tOp (rIx K) (tP K B pa) (tF K B fb) σ H Q := by
  obtain ⟨s, H0, d, s', R, ev, k⟩ := q
  obtain ⟨⟨p1, s1⟩, e1, ev1⟩ := bnd ev
  obtain ⟨⟨p2, s2⟩, e2, ev2⟩ := bnd ev1
  obtain ⟨⟨d2', s2'⟩, e2', ev'⟩ := bnd e2
  cases ev'
  obtain ⟨d1, g1, ev3⟩ := bnd ev2
  obtain ⟨d2, g2, ev4⟩ := bnd ev3
  cases g2
  obtain ⟨d', e3, ev5⟩ := bnd ev4
  cases ev5
  refine ⟨s, H0, p1, s1, R, e1, fun x H1 H' R1 x1 r1 => ⟨s1, H1, d2', s2', R1, e2', fun y H2 H'' R2 x2 r2 => ?_⟩⟩
  have r1' := r1.up x2
  dsimp only at g1
  rcases gIx_inv e3 with ⟨ds, i, rfl, rfl, hi⟩ | ⟨ds, i, rfl, rfl, hi⟩ | ⟨ns, i, n, rfl, rfl, hi, rfl⟩
  · obtain ⟨p, xs, rfl, l1, h1⟩ := r1'.lst R2 g1
    obtain ⟨z, g, rz⟩ := l1.atI hi
    exact .inl ⟨p, xs, i, z, rfl, rep_int r2, .of h1, g, k z H2 H'' R2 (x1.trans x2) rz⟩
  · have hf := r1'.frozen R2 g1 (fun o z => z)
    obtain ⟨p, xs, rfl, l1, h1⟩ := rep_tup_sq hf
    obtain ⟨z, g, rz⟩ := l1.atI hi
    exact .inr (.inl ⟨p, xs, i, z, rfl, rep_int r2, R2.h0.sqT h1, g, k z H2 H'' R2 (x1.trans x2) rz⟩)
  · have hf := r1'.frozen R2 g1 (fun o z => z)
    simp only [Rep] at hf
    obtain ⟨p, rfl, h1⟩ := hf
    exact .inl ⟨p, _, i, .int n, rfl, rep_int r2, R2.h0.sqL h1, by rw [atI_map, hi]; rfl, k _ H2 H'' R2 (x1.trans x2) (by simp only [Rep])⟩
@[simp] def eIx (pa : FP) (fb : F) : F := eOpP gIx pa (pE fb)
theorem ie_ix (ha : PE X a (tP X.K B pa)) (hb : PE X b (tF X.K B fb)) (hs : PlainIx b := by exact fun _ _ => rfl) : PE X (.Subscript a b pos) (tF X.K B (eIx pa fb)) := (pe_ix ix_seq ha hb hs).pxw fun σ H Q q => rd_ix q

/-! ### slices -/
abbrev FO := S → Option (Option Int × S)
@[simp] def oNone : FO := fun s => some (none, s)
@[simp] def oSome (f : F) : FO := fun s => (f s).bind fun a => match a.1 with | .int i => some (some i, a.2) | _ => none
def tOo (K : PySem.W.Frag) (B : Bs) (f : FO) : TO := fun σ H Q => ∃ s H0 r s', Rel K B s σ H0 H ∧ f s = some (r, s') ∧ ∀ H1 H', Rel K B s' σ H1 H' → Ex H0 H1 → Q r H'
theorem _root_.L2.PO.pxw {X : Cx} {e : Option Expr} {t t' : TO} (h : PO X e t) (w : ∀ σ H Q, t' σ H Q → t σ H Q) : PO X e t' := ⟨fun pins s σ H Q I q => h.run pins s σ H Q I (w σ H Q q)⟩
theorem iq_none : PO X none (tOo X.K B oNone) := po_none.pxw fun σ H Q q => by
  obtain ⟨s, H0, r, s', R, ev, k⟩ := q
  cases ev
  exact k H0 H R (Ex.refl _)
theorem iq_some (h : PE X e (tF X.K B f)) : PO X (some e) (tOo X.K B (oSome f)) := (po_some h).pxw fun σ H Q q => by
  obtain ⟨s, H0, r, s', R, ev, k⟩ := q
  obtain ⟨⟨d, s1⟩, e1, ev⟩ := bnd ev
  dsimp only at ev
  split at ev
  · next i =>
    cases ev
    exact ⟨s, H0, _, _, R, e1, fun v H1 H' R1 x1 r1 => ⟨i, rep_int r1, k H1 H' R1 x1⟩⟩
  · cases ev
def cutD (ds : List D) (lo hi : Option Int) : List D := (ds.drop (HT.sIx ds.length 0 lo)).take (HT.sIx ds.length ds.length hi - HT.sIx ds.length 0 lo)
theorem RepL.cut {H0 : Hp} {ds : List D} {xs : List V} (h : RepL K H0 ds xs) (lo hi : Option Int) : RepL K H0 (cutD ds lo hi) (cutV xs lo hi) := by
  unfold cutD cutV
  rw [h.len]
  exact (h.drop _).take _
@[simp] def gSl (d : D) (lo hi : Option Int) : Option D := match d with
  | .lst ds => some (.lst (cutD ds lo hi))
  | .tup ds => some (.tup (cutD ds lo hi))
  | _ => none
@[simp] def eSl (pa : FP) (l h : FO) : F := fun s => (pa s).bind fun a => (l a.2).bind fun b => (h b.2).bind fun c => (a.1.get c.2).bind fun d => (gSl d b.1 c.1).bind fun r => some (r, c.2)
theorem cutD_all {ds : List D} {lo hi : Option Int} (h : HT.sIx ds.length 0 lo = 0 ∧ HT.sIx ds.length ds.length hi = ds.length) : cutD ds lo hi = ds := by
  unfold cutD
  rw [h.1, h.2, List.drop_zero, Nat.sub_zero, List.take_length]
theorem ie_sl {lo hi : Option Expr} {p2 : Pos} {l h : FO} (ha : PE X a (tP X.K B pa)) (hl : PO X lo (tOo X.K B l)) (hh : PO X hi (tOo X.K B h)) : PE X (.Subscript a (.Slice lo hi none p2) pos) (tF X.K B (eSl pa l h)) := (pe_slice (SlR.or sl_list sl_tupA) ha hl hh).pxw fun σ H Q q => by
  obtain ⟨s, H0, d, s', R, ev, k⟩ := q
  obtain ⟨⟨p1, s1⟩, e1, ev⟩ := bnd ev
  obtain ⟨⟨o2, s2⟩, e2, ev⟩ := bnd ev
  obtain ⟨⟨o3, s3⟩, e3, ev⟩ := bnd ev
  obtain ⟨d1, g1, ev⟩ := bnd ev
  obtain ⟨d', e4, ev⟩ := bnd ev
  cases ev
  refine ⟨s, H0, p1, s1, R, e1, fun x H1 H' R1 x1 r1 => ⟨s1, H1, o2, s2, R1, e2, fun H2 H'' R2 x2 => ⟨s2, H2, o3, s3, R2, e3, fun H3 H3' R3 x3 => ?_⟩⟩⟩
  have r1' := (r1.up x2).up x3
  have x13 := (x1.trans x2).trans x3
  unfold gSl at e4
  split at e4
  · next ds =>
    cases e4
    obtain ⟨p, xs, rfl, l1, h1⟩ := r1'.lst R3 g1
    refine .inl ⟨p, xs, rfl, .of h1, fun t ht => ?_⟩
    have R4 := R3.laidO (o := .lst (cutV xs o2 o3)) ht
    obtain ⟨H4, R5, x5, r5⟩ := R4.freeze (R3.ownNew ht (d := .lst (cutD ds o2 o3)) ⟨_, rfl, l1.cut o2 o3⟩)
    exact k _ H4 _ R5 (x13.trans x5) r5
  · next ds =>
    cases e4
    have hf := r1'.frozen R3 g1 (fun o z => z)
    obtain ⟨p, xs, rfl, l1, h1⟩ := rep_tup_sq hf
    refine .inr ⟨p, xs, rfl, R3.h0.sqT h1, fun z => ?_, fun z t ht => ?_⟩
    · rw [l1.len] at z
      rw [cutD_all z] at k
      exact k _ H3 H3' R3 x13 hf
    · exact k _ _ _ (R3.laid ht) (x13.trans (Ex.new (R3.fresh0 ht))) (rep_tupNew (l1.cut o2 o3) (R3.fresh0 ht))
  · cases e4
end
end Px

set_option Elab.async false
set_option linter.all false
set_option maxRecDepth 100000
set_option maxHeartbeats 1000000
/-! Px4: built-in calls, dicts read, calls of defs -/
namespace Px
open PySem L2
section
variable {X : Cx} {B : Bs} {a b c e : Expr} {pos p : Pos} {fa fb fc f : F} {pa pb : FP} {ba bb : TB} {K : PySem.W.Frag} {σ : St} {H : Hp} {x : Str}

/-! ### a built-in of one argument that is looked at -/
def CaP (K : PySem.W.Frag) (r : List V → Hp → VK → Prop) (g : D → Option D) : Prop := ∀ (B : Bs) s σ H0 H q d d' x (Q : VK), Rel K B s σ H0 H → PRep K σ H0 q x → q.get s = some d → g d = some d' →
  (∀ v H1 H', Rel K B s σ H1 H' → Ex H0 H1 → Rep K H1 d' v → Q v H') → r [x] H Q
def CaO (K : PySem.W.Frag) (r : List V → Hp → VK → Prop) (g : D → Option D) : Prop := ∀ (B : Bs) s σ H0 H q d d' x (Q : VK), Rel K B s σ H0 H → PRep K σ H0 q x → q.get s = some d → g d = some d' →
  (∀ t H', Rel K B s σ H0 H' → OwnAt K B s σ H0 H' t d' → Q (.ref t) H') → r [x] H Q
@[simp] def eB1 (g : D → Option D) (pa : FP) : F := fun s => (pa s).bind fun a => (a.1.get a.2).bind fun d => (g d).bind fun d' => some (d', a.2)
theorem ie_b1 {r : List V → Hp → VK → Prop} {g : D → Option D} {e : Expr} (h : PE X e (tCB r (tCons (tP X.K B pa) tNil))) (hr : CaP X.K r g) : PE X e (tF X.K B (eB1 g pa)) := h.pxw fun σ H Q q => by
  obtain ⟨s, H0, d, s', R, ev, k⟩ := q
  obtain ⟨⟨p1, s1⟩, e1, ev1⟩ := bnd ev
  obtain ⟨d1, g1, ev2⟩ := bnd ev1
  obtain ⟨d', e3, ev3⟩ := bnd ev2
  cases ev3
  exact ⟨s, H0, p1, s1, R, e1, fun x H1 H' R1 x1 r1 => hr B s1 σ H1 H' p1 d1 d x Q R1 r1 g1 e3 fun v H2 H2' R2 x2 r2 => k v H2 H2' R2 (x1.trans x2) r2⟩
theorem io_b1 {r : List V → Hp → VK → Prop} {g : D → Option D} {e : Expr} (h : PE X e (tCB r (tCons (tP X.K B pa) tNil))) (hr : CaO X.K r g) : PE X e (tO X.K B (eB1 g pa)) := h.pxw fun σ H Q q => by
  obtain ⟨s, H0, d, s', R, ev, k⟩ := q
  obtain ⟨⟨p1, s1⟩, e1, ev1⟩ := bnd ev
  obtain ⟨d1, g1, ev2⟩ := bnd ev1
  obtain ⟨d', e3, ev3⟩ := bnd ev2
  cases ev3
  exact ⟨s, H0, p1, s1, R, e1, fun x H1 H' R1 x1 r1 => hr B s1 σ H1 H' p1 d1 d x Q R1 r1 g1 e3 fun t H2' R2 w => k t H1 H2' R2 x1 w⟩
theorem CaP.flat {r : List V → Hp → VK → Prop} {g : D → Option D} (h : ∀ (B : Bs) s σ H0 H q d d' x, Rel K B s σ H0 H → PRep K σ H0 q x → q.get s = some d → g d = some d' → ∃ v, (∀ H1, Rep K H1 d' v) ∧ ∀ (Q : VK), Q v H → r [x] H Q) : CaP K r g :=
  fun B s σ H0 H q d d' x Q R r1 g1 e k => by
    obtain ⟨v, hv, hq⟩ := h B s σ H0 H q d d' x R r1 g1 e
    exact hq Q (k v H0 H R (Ex.refl _) (hv H0))
theorem CaP.or1 {r r' : List V → Hp → VK → Prop} {g : D → Option D} (h : CaP K r g) : CaP K (fun xs H Q => r xs H Q ∨ r' xs H Q) g := fun B s σ H0 H q d d' x Q R r1 g1 e k => .inl (h B s σ H0 H q d d' x Q R r1 g1 e k)
/-- len -/
@[simp] def gLen : D → Option D
  | .lst ds => some (.int ds.length)
  | .tup ds => some (.int ds.length)
  | .scr ns => some (.int ns.length)
  | .str x => if small x.length then some (.int x.length) else none
  | .dK ks _ => some (.int ks.length)
  | _ => none
theorem call_lenRd : CallR X (.builtin "len") (fun xs H Q => ∃ a kvs, xs = [V.ref a] ∧ Rd H a (.dK kvs) ∧ Q (.int kvs.length) H) := by
  intro pins s σ H xs us Q I r h
  obtain ⟨a, kvs, rfl, ha, q⟩ := h
  obtain ⟨u, rfl, ru⟩ := vals1 r
  cases ru
  exact d_len I ha fun t s' I' => ⟨.int kvs.length, H, I', ⟨t, rfl⟩, q⟩
def rLenA (K : PySem.W.Frag) : List V → Hp → VK → Prop := fun xs H Q => (∃ p ys, xs = [.ref p] ∧ (SqL K H p ys ∨ SqT K H p ys) ∧ Q (.int ys.length) H) ∨ (∃ z, xs = [.str z] ∧ z.length ≤ sizeLine ∧ Q (.int z.length) H) ∨ ∃ a kvs, xs = [V.ref a] ∧ Rd H a (.dK kvs) ∧ Q (.int kvs.length) H
theorem call_lenA : CallR X (.builtin "len") (rLenA X.K) := CallR.or call_len_seq (CallR.or call_len_str call_lenRd)
theorem zip_length {α β : Type} {l : List α} {r : List β} (h : l.length = r.length) : (l.zip r).length = l.length := by rw [List.length_zip, h, Nat.min_self]
theorem cap_len : CaP K (rLenA K) gLen := .flat fun B s σ H0 H q d d' x R r1 g1 e => by
  cases d with
  | lst ds =>
    cases e
    obtain ⟨a, xs, rfl, l, h⟩ := r1.lst R g1
    exact ⟨.int ds.length, fun _ => by simp only [Rep], fun Q z => .inl ⟨a, xs, rfl, .inl (.of h), by rw [l.len]; exact z⟩⟩
  | tup ds =>
    cases e
    obtain ⟨a, xs, rfl, l, h⟩ := rep_tup_sq (r1.frozen R g1 (fun o z => z))
    exact ⟨.int ds.length, fun _ => by simp only [Rep], fun Q z => .inl ⟨a, xs, rfl, .inr (R.h0.sqT h), by rw [l.len]; exact z⟩⟩
  | scr ns =>
    cases e
    have hf := r1.frozen R g1 (fun o z => z)
    simp only [Rep] at hf
    obtain ⟨a, rfl, h⟩ := hf
    exact ⟨.int ns.length, fun _ => by simp only [Rep], fun Q z => .inl ⟨a, _, rfl, .inl (R.h0.sqL h), by rw [List.length_map]; exact z⟩⟩
  | str y =>
    simp only [gLen] at e
    split at e
    · next hl =>
      cases e
      have hf := rep_str (r1.frozen R g1 (fun o z => z))
      subst hf
      exact ⟨.int y.length, fun _ => by simp only [Rep], fun Q z => .inr (.inl ⟨y, rfl, small_le hl, z⟩)⟩
    · cases e
  | dK ks ds =>
    cases e
    obtain ⟨a, xs, rfl, l, hl, h⟩ := r1.dK R g1
    exact ⟨.int ks.length, fun _ => by simp only [Rep], fun Q z => .inr (.inr ⟨a, _, rfl, h, by rw [zip_length (hl.trans l.len.symm)]; exact z⟩)⟩
  | _ => cases e
theorem ie_len (hg : Gl X "len") (hm : X.mg "len" = none) (ha : PE X a (tP X.K B pa)) (he : starEach [a] X.env = (false, eval a X.env) :: starEach [] X.env := by rfl) (hpl : (backTo pos (starEach [] X.env)).any (·.1) = false := by rfl) :
    PE X (.Call (.Name "len" p) [a] [] pos) (tF X.K B (eB1 gLen pa)) := ie_b1 (pe_callB call_lenA hg hm PySem.boot_len (pa_cons ha pa_nil he) (by decide) (by decide) he hpl) cap_len
/-- abs -/
@[simp] def gAbs : D → Option D
  | .int i => some (.int (if i < 0 then -i else i))
  | _ => none
theorem cap_abs : CaP K (fun xs H Q => ∃ i, xs = [.int i] ∧ Q (.int (if i < 0 then -i else i)) H) gAbs := .flat fun B s σ H0 H q d d' x R r1 g1 e => by
  cases d with
  | int i => cases e; exact ⟨_, fun _ => by simp only [Rep], fun Q z => ⟨i, by rw [rep_int (r1.frozen R g1 (fun o z => z))], z⟩⟩
  | _ => cases e
theorem ie_abs (hg : Gl X "abs") (hm : X.mg "abs" = none) (ha : PE X a (tP X.K B pa)) (he : starEach [a] X.env = (false, eval a X.env) :: starEach [] X.env := by rfl) (hpl : (backTo pos (starEach [] X.env)).any (·.1) = false := by rfl) :
    PE X (.Call (.Name "abs" p) [a] [] pos) (tF X.K B (eB1 gAbs pa)) := ie_b1 (pe_callB call_abs hg hm (by decide +kernel) (pa_cons ha pa_nil he) (by decide) (by decide) he hpl) cap_abs
/-- ints in a list -/
@[simp] def ints? : List D → Option (List Int)
  | [] => some []
  | .int i :: r => (ints? r).bind fun l => some (i :: l)
  | _ :: _ => none
theorem ints_inv : ∀ {ds : List D} {ns : List Int}, ints? ds = some ns → ds = ns.map D.int
  | [], ns, h => by cases h; rfl
  | .int i :: r, ns, h => by
    obtain ⟨l, e, h'⟩ := bnd (show (ints? r).bind _ = some ns from h)
    cases h'
    rw [List.map_cons, ← ints_inv e]
  | .non :: _, _, h | .bl _ :: _, _, h | .str _ :: _, _, h | .tup _ :: _, _, h | .lst _ :: _, _, h | .dK _ _ :: _, _, h | .dT _ _ :: _, _, h | .scr _ :: _, _, h => by cases h
theorem ints_map : ∀ (ns : List Int), ints? (ns.map D.int) = some ns
  | [] => rfl
  | n :: ns => by rw [List.map_cons]; show (ints? (ns.map D.int)).bind _ = _; rw [ints_map ns]; rfl
@[simp] def gSum : D → Option D
  | .lst ds => (ints? ds).bind fun ns => some (.int ns.sum)
  | _ => none
theorem cap_sum : CaP K (rSum K) gSum := .flat fun B s σ H0 H q d d' x R r1 g1 e => by
  cases d with
  | lst ds =>
    obtain ⟨ns, en, e2⟩ := bnd (show (ints? ds).bind _ = some d' from e)
    cases e2
    have := ints_inv en
    subst this
    obtain ⟨a, xs, rfl, l, h⟩ := r1.lst R g1
    rw [l.ints] at h
    exact ⟨_, fun _ => by simp only [Rep], fun Q z => ⟨a, ns, rfl, .of h, z⟩⟩
  | _ => cases e
theorem ie_sum (hc : X.calm = true) (hg : Gl X "sum") (hm : X.mg "sum" = none) (ha : PE X a (tP X.K B pa)) (he : starEach [a] X.env = (false, eval a X.env) :: starEach [] X.env := by rfl) (hpl : (backTo pos (starEach [] X.env)).any (·.1) = false := by rfl) :
    PE X (.Call (.Name "sum" p) [a] [] pos) (tF X.K B (eB1 gSum pa)) := ie_b1 (pe_callB (cr_sum hc) hg hm (by decide +kernel) (pa_cons ha pa_nil he) (by decide) (by decide) he hpl) cap_sum
/-- tuple(list), tuple(tuple) -/
@[simp] def gTuple : D → Option D
  | .lst ds => some (.tup ds)
  | .tup ds => some (.tup ds)
  | _ => none
theorem cap_tuple : CaP K (fun xs H Q => ∃ p ys, xs = [.ref p] ∧ ((SqL K H p ys ∧ ∀ l, H l = none → Q (.ref l) (upd H l (.tup ys))) ∨ (SqT K H p ys ∧ Q (.ref p) H))) gTuple := fun B s σ H0 H q d d' x Q R r1 g1 e k => by
  cases d with
  | lst ds =>
    cases e
    obtain ⟨a, xs, rfl, l, h⟩ := r1.lst R g1
    exact ⟨a, xs, rfl, .inl ⟨.of h, fun t ht => k _ _ _ (R.laid ht) (Ex.new (R.fresh0 ht)) (rep_tupNew l (R.fresh0 ht))⟩⟩
  | tup ds =>
    cases e
    have hf := r1.frozen R g1 (fun o z => z)
    obtain ⟨a, xs, rfl, l, h⟩ := rep_tup_sq hf
    exact ⟨a, xs, rfl, .inr ⟨R.h0.sqT h, k _ H0 H R (Ex.refl _) hf⟩⟩
  | _ => cases e
theorem ie_tuple (hg : Gl X "tuple") (hm : X.mg "tuple" = none) (ha : PE X a (tP X.K B pa)) (he : starEach [a] X.env = (false, eval a X.env) :: starEach [] X.env := by rfl) (hpl : (backTo pos (starEach [] X.env)).any (·.1) = false := by rfl) :
    PE X (.Call (.Name "tuple" p) [a] [] pos) (tF X.K B (eB1 gTuple pa)) := ie_b1 (pe_callTy call_tuple_of hg hm (by decide +kernel) (pa_cons ha pa_nil he) (by decide) (by decide) he hpl) cap_tuple
/-- list(list), list(tuple) -/
@[simp] def gList : D → Option D
  | .lst ds => some (.lst ds)
  | .tup ds => some (.lst ds)
  | _ => none
theorem cao_list : CaO K (fun xs H Q => ∃ p ys, xs = [.ref p] ∧ (SqL K H p ys ∨ SqT K H p ys) ∧ ∀ l, H l = none → Q (.ref l) (upd H l (.lst ys))) gList := fun B s σ H0 H q d d' x Q R r1 g1 e k => by
  cases d with
  | lst ds =>
    cases e
    obtain ⟨a, xs, rfl, l, h⟩ := r1.lst R g1
    exact ⟨a, xs, rfl, .inl (.of h), fun t ht => k t _ (R.laidO ht) (R.ownNew (o := .lst xs) ht ⟨xs, rfl, l⟩)⟩
  | tup ds =>
    cases e
    obtain ⟨a, xs, rfl, l, h⟩ := rep_tup_sq (r1.frozen R g1 (fun o z => z))
    exact ⟨a, xs, rfl, .inr (R.h0.sqT h), fun t ht => k t _ (R.laidO ht) (R.ownNew (o := .lst xs) ht ⟨xs, rfl, l⟩)⟩
  | _ => cases e
theorem io_list (hg : Gl X "list") (hm : X.mg "list" = none) (ha : PE X a (tP X.K B pa)) (he : starEach [a] X.env = (false, eval a X.env) :: starEach [] X.env := by rfl) (hpl : (backTo pos (starEach [] X.env)).any (·.1) = false := by rfl) :
    PE X (.Call (.Name "list" p) [a] [] pos) (tO X.K B (eB1 gList pa)) := io_b1 (pe_callTy call_list_of hg hm (by decide +kernel) (pa_cons ha pa_nil he) (by decide) (by decide) he hpl) cao_list

/-! ### sorted of ints, of a dict with int keys -/
def ins (x : Int) : List Int → List Int
  | [] => [x]
  | y :: r => if x ≤ y then x :: y :: r else y :: ins x r
def sortI : List Int → List Int
  | [] => []
  | x :: r => ins x (sortI r)
theorem ins_perm (x : Int) : ∀ l : List Int, (ins x l).Perm (x :: l)
  | [] => .refl _
  | y :: r => by
    unfold ins
    split
    · exact .refl _
    · exact ((ins_perm x r).cons y).trans (.swap x y r)
theorem sortI_perm : ∀ l : List Int, (sortI l).Perm l
  | [] => .refl _
  | x :: r => (ins_perm x (sortI r)).trans ((sortI_perm r).cons x)
theorem ins_sorted (x : Int) : ∀ l : List Int, l.Pairwise (· ≤ ·) → (ins x l).Pairwise (· ≤ ·)
  | [], _ => by simp [ins]
  | y :: r, h => by
    unfold ins
    rw [List.pairwise_cons] at h
    split
    · next hx =>
      rw [List.pairwise_cons, List.pairwise_cons]
      refine ⟨fun z hz => ?_, h⟩
      rcases List.mem_cons.mp hz with rfl | hz
      · exact hx
      · exact Int.le_trans hx (h.1 z hz)
    · next hx =>
      rw [List.pairwise_cons]
      refine ⟨fun z hz => ?_, ins_sorted x r h.2⟩
      rcases List.mem_cons.mp ((ins_perm x r).mem_iff.mp hz) with rfl | hz
      · omega
      · exact h.1 z hz
theorem sortI_sorted : ∀ l : List Int, (sortI l).Pairwise (· ≤ ·)
  | [] => .nil
  | x :: r => ins_sorted x _ (sortI_sorted r)
theorem sorted_one : ∀ {l r : List Int}, l.Perm r → l.Pairwise (· ≤ ·) → r.Pairwise (· ≤ ·) → l = r
  | [], r, h, _, _ => h.nil_eq
  | x :: l, r, h, hl, hr => by
    cases r with
    | nil => exact absurd h.length_eq (by simp)
    | cons y r =>
      rw [List.pairwise_cons] at hl hr
      have e : x = y := by
        have h1 : x ∈ y :: r := h.mem_iff.mp List.mem_cons_self
        have h2 : y ∈ x :: l := h.symm.mem_iff.mp List.mem_cons_self
        rcases List.mem_cons.mp h1 with z | z
        · exact z
        · rcases List.mem_cons.mp h2 with w | w
          · exact w.symm
          · exact Int.le_antisymm (hl.1 y w) (hr.1 x z)
      subst e
      rw [sorted_one ((List.perm_cons x).mp h) hl.2 hr.2]
theorem sortI_is {l r : List Int} (h : l.Perm r) (hl : l.Pairwise (· ≤ ·)) : l = sortI r := sorted_one (h.trans (sortI_perm r).symm) hl (sortI_sorted r)
@[simp] def kints? : List Key → Option (List Int)
  | [] => some []
  | .inl i :: r => (kints? r).bind fun l => some (i :: l)
  | .inr _ :: _ => none
theorem kints_inv : ∀ {ks : List Key} {ns : List Int}, kints? ks = some ns → ks = ns.map Sum.inl
  | [], ns, h => by cases h; rfl
  | .inl i :: r, ns, h => by
    obtain ⟨l, e, h'⟩ := bnd (show (kints? r).bind _ = some ns from h)
    cases h'
    rw [List.map_cons, ← kints_inv e]
  | .inr _ :: _, _, h => by cases h
theorem kints_map : ∀ (ns : List Int), kints? (ns.map Sum.inl) = some ns
  | [] => rfl
  | n :: ns => by rw [List.map_cons]; show (kints? (ns.map Sum.inl)).bind _ = _; rw [kints_map ns]; rfl
/-- sorted(d) of a dict with fewer than 64 keys, all ints -/
theorem call_sortedDI (hcalm : X.calm = true) : CallR X (.builtin "sorted") (fun xs H Q => ∃ (a : Addr) (kvs : List (Key × V)) (ks : List Int), xs = [.ref a] ∧ Rd H a (.dK kvs) ∧ kvs.map (·.1) = ks.map Sum.inl ∧ ks.length < 64 ∧
    ∀ (ys : List Int) (p : Addr), ys.Perm ks → ys.Pairwise (· ≤ ·) → H p = none → Q (.ref p) (upd H p (.lst (ys.map V.int)))) := by
  intro pins s σ H xs us Q I r q
  obtain ⟨a, kvs, ks, ex, hd, hks, h64, q⟩ := q
  subst ex
  obtain ⟨u, eu, rx⟩ := vals1 r
  subst eu
  cases rx
  obtain ⟨z, lo, vs, rel, dd⟩ := dk_rd I.hok hd
  obtain ⟨ep, hat⟩ := dd.dictAt
  have hkeys : vs.map (·.1) = ks.map Sum.inl := rel.keys.symm.trans hks
  have hl : vs.length = ks.length := by
    have e := congrArg List.length hkeys
    rw [List.length_map, List.length_map] at e
    exact e
  have h16 : vs.length ≤ sizeLine := by rw [hl, sizeLine_eq]; omega
  refine Calls.call_function_entry PyProof.Rows.kind_sorted PyProof.Rows.plain_sorted PyProof.Rows.entry_sorted (PyProof.Rows.args_sorted1 _) ?_
  unfold Builtin.«sorted»
  refine wpAny_bind (m := checkCount "sorted" 1 1 _) (wpAny_pure ?_)
  refine wpAny_bind (PySem.W.kdu_collect (A := X.A.in1) (PySem.W.kdl_dict (knd := mixKind X.prog X.w) (kvs := vs) (ep := ep) lo) (I.ok.hd hcalm) hat h16 fun h' tk acc hk hacc => ?_)
  have hal : acc.toList.length = ks.length := by rw [Array.length_toList, hacc.1, hl]
  have hV : Vals (ks.map V.int) acc.toList := by
    have all : ∀ (ks : List Int) (us : List Value), us.length = ks.length → (∀ (j : Nat) (v : Value), us[j]? = some v → ∃ (x : Int) (t : Tok), ks[j]? = some x ∧ v = Value.int x t) → Vals (ks.map V.int) us := by
      intro ks
      induction ks with
      | nil =>
        intro us hl _
        have : us = [] := List.eq_nil_of_length_eq_zero hl
        subst this
        exact .nil
      | cons k ks ih =>
        intro us hl h
        cases us with
        | nil => simp at hl
        | cons u us =>
          obtain ⟨x, t, e1, e2⟩ := h 0 u rfl
          have e1' : k = x := Option.some.inj e1
          subst e1'
          exact .cons ⟨t, e2⟩ (ih us (by simpa using hl) fun j v e => by
            obtain ⟨x, t, e1, e2⟩ := h (j + 1) v (by simpa using e)
            exact ⟨x, t, by simpa using e1, e2⟩)
    refine all ks acc.toList hal fun j v e => ?_
    obtain ⟨k, x, e1, e2⟩ := hacc.2 j v (by rw [← Array.getElem?_toList]; exact e)
    have e3 : (vs.map (·.1))[j]? = some k := by rw [List.getElem?_map, e1]; all_goals rfl
    rw [hkeys, List.getElem?_map] at e3
    cases e4 : ks[j]? with
    | none => rw [e4] at e3; cases e3
    | some y =>
      rw [e4] at e3
      have e5 : Sum.inl y = k := Option.some.inj e3
      subst e5
      obtain ⟨t, ev⟩ := Value.isInt_shape (k := y) (v := v) e2
      exact ⟨y, t, rfl, ev⟩
  have hi := hV.ints
  have I1 : Inv X pins σ H { s with heap := h', toks := tk } := I.kept hk
  refine wpAny_bind (wpAny_newList ?_ (by rw [hal, sizeLine_eq]; omega))
  have hoL : (h'.push (PyProof.Rows.seqObj "list" acc.toList.toArray 0)).get? h'.objs.size = some (PyProof.Rows.seqObj "list" acc.toList.toArray 0) := Heap.get?_push_size _ rfl
  show wpAny _ _ _ _ _ { s with heap := h'.push (PyProof.Rows.seqObj "list" acc.toList.toArray 0), toks := tk }
  refine wpAny_bind (wpAny_holding (wpAny_call_entry PyProof.Rows.slot_list_sort ⟨_, hoL, rfl⟩ PyProof.Rows.entry_list_sort
    (PyProof.Rows.list_sort_tree (s := { s with heap := h'.push (PyProof.Rows.seqObj "list" acc.toList.toArray 0), toks := tk }) hoL hi (by rw [hal]; exact h64) fun out ns' h1 h2 h3 => ⟨_, rfl, ?_⟩)
    (PyProof.Rows.args_list_sort _)))
  obtain ⟨e', he'⟩ := PyProof.Rows.sortedHeap_at (vs := acc.toList) (out := out) hoL
  have hlen : (ns'.map V.int).length ≤ sizeLine := by
    rw [List.length_map, h2.length_eq]
    exact Nat.le_trans (Nat.le_of_lt h64) (by decide)
  refine wpAny_pure ⟨_, rfl, .ref h'.objs.size, upd H h'.objs.size (.lst (ns'.map V.int)), I1.laid (t' := tk) (fun b u e => ?_) (Nat.le_refl _)
    (show ObjOk X.prog X.w _ _ _ (.lst (ns'.map V.int)) from ⟨hlen, out.toList, e', vals_of_ints h1, by rw [Array.toArray_toList]; exact he'⟩), rfl, q ns' _ h2 h3 (I1.hok.fresh (Nat.le_refl _))⟩
  have hb : b < h'.objs.size := Heap.lt_size e
  rw [PyProof.Rows.sortedHeap_old (Nat.ne_of_lt hb) (by rw [PyProof.Rows.size_push']; exact Nat.lt_succ_of_lt hb)]
  exact Heap.get?_push_of_some _ e
@[simp] def gSortedD : D → Option D
  | .dK ks _ => (kints? ks).bind fun ns => if ns.length < 64 then some (.lst ((sortI ns).map D.int)) else none
  | _ => none
theorem zip_fst {α β : Type} {l : List α} {r : List β} (h : l.length = r.length) : (l.zip r).map (·.1) = l := List.map_fst_zip (Nat.le_of_eq h)
theorem cao_sortedD : CaO K (fun xs H Q => ∃ (a : Addr) (kvs : List (Key × V)) (ks : List Int), xs = [.ref a] ∧ Rd H a (.dK kvs) ∧ kvs.map (·.1) = ks.map Sum.inl ∧ ks.length < 64 ∧
    ∀ (ys : List Int) (p : Addr), ys.Perm ks → ys.Pairwise (· ≤ ·) → H p = none → Q (.ref p) (upd H p (.lst (ys.map V.int)))) gSortedD := fun B s σ H0 H q d d' x Q R r1 g1 e k => by
  cases d with
  | dK ks ds =>
    obtain ⟨ns, en, e2⟩ := bnd (show (kints? ks).bind _ = some d' from e)
    split at e2
    · next h64 =>
      cases e2
      obtain ⟨a, xs, rfl, l, hl, h⟩ := r1.dK R g1
      refine ⟨a, _, ns, rfl, h, by rw [zip_fst (hl.trans l.len.symm), kints_inv en], h64, fun ys t hp hs ht => ?_⟩
      rw [sortI_is hp hs]
      exact k t _ (R.laidO ht) (R.ownNew (o := .lst _) ht ⟨_, rfl, RepL.of_ints _⟩)
    · cases e2
  | _ => cases e
theorem io_sortedD (hc : X.calm = true) (hg : Gl X "sorted") (hm : X.mg "sorted" = none) (ha : PE X a (tP X.K B pa)) (he : starEach [a] X.env = (false, eval a X.env) :: starEach [] X.env := by rfl) (hpl : (backTo pos (starEach [] X.env)).any (·.1) = false := by rfl) :
    PE X (.Call (.Name "sorted" p) [a] [] pos) (tO X.K B (eB1 gSortedD pa)) := io_b1 (pe_callB (call_sortedDI hc) hg hm (by decide +kernel) (pa_cons ha pa_nil he) (by decide) (by decide) he hpl) cao_sortedD

/-! ### min, max of two ints -/
@[simp] def eMin := eOp (gI fun i j => .int (if j < i then j else i))
@[simp] def eMax := eOp (gI fun i j => .int (if j > i then j else i))
theorem ie_min (hc : X.calm = true) (hg : Gl X "min") (hm : X.mg "min" = none) (ha : PE X a (tF X.K B fa)) (hb : PE X b (tF X.K B fb)) (he : starEach [a, b] X.env = (false, eval a X.env) :: starEach [b] X.env := by rfl) (he2 : starEach [b] X.env = (false, eval b X.env) :: starEach [] X.env := by rfl) (hpl : (backTo pos (starEach [b] X.env)).any (·.1) = false := by rfl) :
    PE X (.Call (.Name "min" p) [a, b] [] pos) (tF X.K B (eMin fa fb)) := (pe_callB (call_min2 hc) hg hm (by decide +kernel) (pa_cons ha (pa_cons hb pa_nil he2) he) (by decide) (by decide) he hpl).pxw fun σ H Q q => by
  have q' := rd_op2 (r := rI0 fun i j => .int (if j < i then j else i)) opd_I q
  obtain ⟨s, H0, r, s', R, ev, k⟩ := q'
  refine ⟨s, H0, r, s', R, ev, fun v H1 H' R1 x1 r1 => ?_⟩
  obtain ⟨s, H0, r, s', R, ev, k2⟩ := k v H1 H' R1 x1 r1
  refine ⟨s, H0, r, s', R, ev, fun v2 H2 H2' R2 x2 r2 => ?_⟩
  obtain ⟨i, j, rfl, rfl, z⟩ := k2 v2 H2 H2' R2 x2 r2
  exact ⟨i, j, rfl, z⟩
theorem ie_max (hc : X.calm = true) (hg : Gl X "max") (hm : X.mg "max" = none) (ha : PE X a (tF X.K B fa)) (hb : PE X b (tF X.K B fb)) (he : starEach [a, b] X.env = (false, eval a X.env) :: starEach [b] X.env := by rfl) (he2 : starEach [b] X.env = (false, eval b X.env) :: starEach [] X.env := by rfl) (hpl : (backTo pos (starEach [b] X.env)).any (·.1) = false := by rfl) :
    PE X (.Call (.Name "max" p) [a, b] [] pos) (tF X.K B (eMax fa fb)) := (pe_callB (call_max2 hc) hg hm (by decide +kernel) (pa_cons ha (pa_cons hb pa_nil he2) he) (by decide) (by decide) he hpl).pxw fun σ H Q q => by
  have q' := rd_op2 (r := rI0 fun i j => .int (if j > i then j else i)) opd_I q
  obtain ⟨s, H0, r, s', R, ev, k⟩ := q'
  refine ⟨s, H0, r, s', R, ev, fun v H1 H' R1 x1 r1 => ?_⟩
  obtain ⟨s, H0, r, s', R, ev, k2⟩ := k v H1 H' R1 x1 r1
  refine ⟨s, H0, r, s', R, ev, fun v2 H2 H2' R2 x2 r2 => ?_⟩
  obtain ⟨i, j, rfl, rfl, z⟩ := k2 v2 H2 H2' R2 x2 r2
  exact ⟨i, j, rfl, z⟩

/-! ### dicts read -/
@[simp] def look {κ : Type} [DecidableEq κ] : List κ → List D → κ → Option D
  | k' :: ks, d :: ds, k => if k' = k then some d else look ks ds k
  | _, _, _ => none
theorem look_val {κ : Type} [DecidableEq κ] {H0 : Hp} {k : κ} : ∀ {ks : List κ} {ds : List D} {xs : List V} {d : D}, RepL K H0 ds xs → look ks ds k = some d → ∃ v, valV (ks.zip xs) k = some v ∧ Rep K H0 d v
  | [], _, _, _, _, h => by simp [look] at h
  | _ :: _, [], _, _, _, h => by simp [look] at h
  | k' :: ks, d' :: ds, xs, d, r, h => by
    obtain ⟨x, rs, rfl, r1, r2⟩ := r.of_cons
    unfold look at h
    rw [List.zip_cons_cons]
    by_cases e : k' = k
    · rw [if_pos e] at h
      cases h
      exact ⟨x, valV_pos e, r1⟩
    · rw [if_neg e] at h
      obtain ⟨v, e1, e2⟩ := look_val r2 h
      exact ⟨v, by rw [valV_neg e]; exact e1, e2⟩
theorem look_none {κ : Type} [DecidableEq κ] {H0 : Hp} {k : κ} : ∀ {ks : List κ} {ds : List D} {xs : List V}, RepL K H0 ds xs → look ks ds k = none → ks.length = ds.length → valV (ks.zip xs) k = none
  | [], _, _, _, _, _ => rfl
  | _ :: _, [], _, _, _, h => by simp at h
  | k' :: ks, d' :: ds, xs, r, h, hl => by
    obtain ⟨x, rs, rfl, r1, r2⟩ := r.of_cons
    unfold look at h
    rw [List.zip_cons_cons]
    by_cases e : k' = k
    · rw [if_pos e] at h; cases h
    · rw [if_neg e] at h
      rw [valV_neg e]
      exact look_none r2 h (by simpa using hl)
@[simp] def key? : D → Option Key
  | .int i => some (.inl i)
  | .str x => some (.inr x)
  | _ => none
theorem key_inv {H0 : Hp} {d : D} {k : Key} {v : V} (h : key? d = some k) (r : Rep K H0 d v) : v = kV k := by
  cases d with
  | int i => cases h; exact rep_int r
  | str i => cases h; exact rep_str r
  | _ => cases h
@[simp] def keys? : List D → Option (List Key)
  | [] => some []
  | d :: ds => (key? d).bind fun k => (keys? ds).bind fun ks => some (k :: ks)
theorem keys_inv {H0 : Hp} : ∀ {ds : List D} {ks : List Key} {xs : List V}, keys? ds = some ks → RepL K H0 ds xs → xs = ks.map kV
  | [], ks, xs, h, r => by cases h; exact r.of_nil
  | d :: ds, ks, xs, h, r => by
    obtain ⟨x, rs, rfl, r1, r2⟩ := r.of_cons
    obtain ⟨k, e1, h1⟩ := bnd (show (key? d).bind _ = some ks from h)
    obtain ⟨ks', e2, h2⟩ := bnd h1
    cases h2
    rw [List.map_cons, key_inv e1 r1, keys_inv e2 r2]
/-- the tuple as a key (not one of ints alone) -/
@[simp] def tkey? : D → Option (List Key)
  | .tup ds => if allI ds then none else keys? ds
  | _ => none
theorem tkey_inv {H0 : Hp} {d : D} {k : List Key} {v : V} (h : tkey? d = some k) (r : Rep K H0 d v) : ∃ b, v = .ref b ∧ H0 b = some (.tup (k.map kV)) := by
  cases d with
  | tup ds =>
    simp only [tkey?] at h
    split at h
    · cases h
    · next hn =>
      simp only [Rep] at r
      obtain ⟨a, xs, rfl, l, q⟩ := r
      rw [keys_inv h l] at q
      rcases q with q | ⟨_, q⟩
      · exact ⟨a, rfl, q⟩
      · exact absurd q hn
  | _ => cases h
/-- what is asked of a dict at a key: none where the dict or the key are of no served kind -/
@[simp] def gAsk : D → D → Option (Option D)
  | .dK ks ds, k => (key? k).bind fun k => if ks.length = ds.length then some (look ks ds k) else none
  | .dT ks ds, k => (tkey? k).bind fun k => if ks.length = ds.length then some (look ks ds k) else none
  | _, _ => none
def OptR (K : PySem.W.Frag) (H0 : Hp) (o : Option D) (ov : Option V) : Prop := match o with | some e => ∃ v, ov = some v ∧ Rep K H0 e v | none => ov = none
theorem ask_dget {s : S} {H0 : Hp} {q : PR} {d k : D} {x y : V} {o : Option D} (R : Rel K B s σ H0 H) (r1 : PRep K σ H0 q x) (g1 : q.get s = some d) (r2 : Rep K H0 k y) (h : gAsk d k = some o) :
    ∃ a ov, x = .ref a ∧ DGet H a y ov ∧ IsD H a ∧ OptR K H0 o ov := by
  cases d with
  | dK ks ds =>
    obtain ⟨key, ek, h1⟩ := bnd (show (key? k).bind _ = some o from h)
    split at h1
    · next hl =>
      cases h1
      obtain ⟨a, xs, rfl, l, _, hr⟩ := r1.dK R g1
      refine ⟨a, _, rfl, .inl ⟨_, key, hr, key_inv ek r2, rfl⟩, .inl ⟨_, hr⟩, ?_⟩
      unfold OptR
      split
      · next e => exact look_val l e
      · next e => exact look_none l e hl
    · cases h1
  | dT ks ds =>
    obtain ⟨key, ek, h1⟩ := bnd (show (tkey? k).bind _ = some o from h)
    split at h1
    · next hl =>
      cases h1
      obtain ⟨a, xs, rfl, l, _, hr⟩ := r1.dT R g1
      obtain ⟨b, rfl, hb⟩ := tkey_inv ek r2
      refine ⟨a, _, rfl, .inr ⟨_, key, b, hr, rfl, R.h0 _ _ hb, rfl⟩, .inr ⟨_, hr⟩, ?_⟩
      unfold OptR
      split
      · next e => exact look_val l e
      · next e => exact look_none l e hl
    · cases h1
  | _ => cases h
@[simp] def gGet (d k : D) : Option D := (gAsk d k).bind fun o => o
@[simp] def eGet (pa : FP) (fb : F) : F := eOpP gGet pa (pE fb)
theorem ie_get (hu : X.A.units + 1 < cLine) (ha : PE X a (tP X.K B pa)) (hb : PE X b (tF X.K B fb)) (hs : NoSl b := by exact fun _ _ => rfl) : PE X (.Subscript a b pos) (tF X.K B (eGet pa fb)) := (pe_dget hu ha hb hs).pxw fun σ H Q q => by
  obtain ⟨s, H0, d, s', R, ev, k⟩ := q
  obtain ⟨⟨p1, s1⟩, e1, ev1⟩ := bnd ev
  obtain ⟨⟨p2, s2⟩, e2, ev2⟩ := bnd ev1
  obtain ⟨⟨d2', s2'⟩, e2', ev'⟩ := bnd e2
  cases ev'
  obtain ⟨d1, g1, ev3⟩ := bnd ev2
  obtain ⟨d2, g2, ev4⟩ := bnd ev3
  cases g2
  obtain ⟨d', e3, ev5⟩ := bnd ev4
  cases ev5
  refine ⟨s, H0, p1, s1, R, e1, fun x H1 H' R1 x1 r1 => ⟨s1, H1, d2', s2', R1, e2', fun y H2 H'' R2 x2 r2 => ?_⟩⟩
  obtain ⟨o, eo, e4⟩ := bnd (show (gAsk d1 d2').bind _ = some d from e3)
  cases e4
  obtain ⟨a, ov, rfl, dg, _, v, rfl, rv⟩ := ask_dget R2 (r1.up x2) g1 r2 eo
  exact ⟨a, v, rfl, dg, k v H2 H'' R2 (x1.trans x2) rv⟩
/-- k in d -/
@[simp] def gIn (neg : Bool) (k d : D) : Option D := (gAsk d k).bind fun o => some (.bl (if neg then !o.isSome else o.isSome))
@[simp] def eIn (neg : Bool) (fa : F) (pb : FP) : F := fun s => (fa s).bind fun a => (pb a.2).bind fun b => (b.1.get b.2).bind fun d => (gIn neg a.1 d).bind fun r => some (r, b.2)
theorem ask_some {K : PySem.W.Frag} {H0 : Hp} {o : Option D} {ov : Option V} (h : OptR K H0 o ov) : ov.isSome = o.isSome := by
  cases o with
  | none => rw [show ov = none from h]; rfl
  | some e => obtain ⟨v, e1, _⟩ := h; rw [e1]; rfl
theorem rd_in {Q : VK} (q : tF K B (eIn false fa pb) σ H Q) : tDIn (tF K B fa) (tP K B pb) σ H Q := by
  obtain ⟨s, H0, d, s', R, ev, k⟩ := q
  obtain ⟨⟨d1, s1⟩, e1, ev1⟩ := bnd ev
  obtain ⟨⟨p2, s2⟩, e2, ev2⟩ := bnd ev1
  obtain ⟨d2, g2, ev3⟩ := bnd ev2
  obtain ⟨d', e3, ev4⟩ := bnd ev3
  cases ev4
  refine ⟨s, H0, d1, s1, R, e1, fun x H1 H' R1 x1 r1 => ⟨s1, H1, p2, s2, R1, e2, fun y H2 H'' R2 x2 r2 => ?_⟩⟩
  obtain ⟨o, eo, e4⟩ := bnd (show (gAsk d2 d1).bind _ = some d from e3)
  cases e4
  obtain ⟨a, ov, rfl, dg, _, h⟩ := ask_dget R2 r2 g2 (r1.up x2) eo
  exact ⟨a, ov, rfl, dg, by rw [ask_some h]; exact k _ H2 H'' R2 (x1.trans x2) (by simp only [Rep]; rfl)⟩
theorem rd_notIn {Q : VK} (q : tF K B (eIn true fa pb) σ H Q) : tDNotIn (tF K B fa) (tP K B pb) σ H Q := by
  obtain ⟨s, H0, d, s', R, ev, k⟩ := q
  obtain ⟨⟨d1, s1⟩, e1, ev1⟩ := bnd ev
  obtain ⟨⟨p2, s2⟩, e2, ev2⟩ := bnd ev1
  obtain ⟨d2, g2, ev3⟩ := bnd ev2
  obtain ⟨d', e3, ev4⟩ := bnd ev3
  cases ev4
  refine ⟨s, H0, d1, s1, R, e1, fun x H1 H' R1 x1 r1 => ⟨s1, H1, p2, s2, R1, e2, fun y H2 H'' R2 x2 r2 => ?_⟩⟩
  obtain ⟨o, eo, e4⟩ := bnd (show (gAsk d2 d1).bind _ = some d from e3)
  cases e4
  obtain ⟨a, ov, rfl, dg, _, h⟩ := ask_dget R2 r2 g2 (r1.up x2) eo
  exact ⟨a, ov, rfl, dg, by rw [ask_some h]; exact k _ H2 H'' R2 (x1.trans x2) (by simp only [Rep]; rfl)⟩
theorem ie_din (hu : X.A.units + 1 < cLine) (ha : PE X a (tF X.K B fa)) (hb : PE X b (tP X.K B pb)) (hm : behindInMarks .In b = false := by rfl) : PE X (.Compare a [.In] [b] pos) (tF X.K B (eIn false fa pb)) := (pe_cmp (pc_din hu ha hb) hm).pxw fun σ H Q q => rd_in q
theorem it_din (hu : X.A.units + 1 < cLine) (ha : PE X a (tF X.K B fa)) (hb : PE X b (tP X.K B pb)) (hm : behindInMarks .In b = false := by rfl) : PT X (.Compare a [.In] [b] pos) (tT X.K B (bT (eIn false fa pb))) := it_of (pt_cmp (pc_din hu ha hb) hm) fun q => rd_in q
/-- d.get(k, x) -/
@[simp] def eGet2 (pa : FP) (fk fx : F) : F := fun s => (pa s).bind fun a => (fk a.2).bind fun b => (fx b.2).bind fun c => (a.1.get c.2).bind fun d => (gAsk d b.1).bind fun o => some (o.getD c.1, c.2)
theorem isD_of {s : S} {H0 : Hp} {q : PR} {d : D} {x : V} {k : D} {o : Option D} (R : Rel K B s σ H0 H) (r1 : PRep K σ H0 q x) (g1 : q.get s = some d) (h : gAsk d k = some o) : ∃ a, x = .ref a ∧ IsD H a := by
  cases d with
  | dK ks ds => obtain ⟨a, xs, rfl, _, _, h⟩ := r1.dK R g1; exact ⟨a, rfl, .inl ⟨_, h⟩⟩
  | dT ks ds => obtain ⟨a, xs, rfl, _, _, h⟩ := r1.dT R g1; exact ⟨a, rfl, .inr ⟨_, h⟩⟩
  | _ => cases h
end
end Px

set_option Elab.async false
set_option linter.all false
set_option maxRecDepth 100000
set_option maxHeartbeats 1000000
/-! Px5: promises of defs by abstract functions (spF, spB), calls of defs, statements without loops -/
namespace Px
open PySem L2
/-- what comes back: a new object of the caller's own, or frozen data -/
def Res (K : PySem.W.Frag) (Hin H1 H' : Hp) (o : Bool) (d : D) (v : V) : Prop :=
  if o then ∃ p u, v = .ref p ∧ Hin p = none ∧ H1 p = none ∧ H' p = some u ∧ Cell K H1 u d else Rep K H1 d v
abbrev FnD := List D → Option (Bool × D)
abbrev FnB := D → List D → Option (Bool × D × D)
def spF (K : PySem.W.Frag) (n : Nat) (G : FnD) : Sp := fun vs H Q _ => ∃ H0 ds o d, vs.length = n ∧ Ex H0 H ∧ RepL K H0 ds vs ∧ G ds = some (o, d) ∧
  ∀ v H1 H', Ex H H' → Ex H0 H1 → Ex H1 H' → (∀ b u, H1 b = some u → H0 b = some u ∨ Nw H b u) → Res K H H1 H' o d v → Q v H'
def spB (K : PySem.W.Frag) (n : Nat) (G : FnB) : Sp := fun vs H Q _ => ∃ q ws H0 c d0 ds o d d1, vs = .ref q :: ws ∧ ws.length = n ∧ Ex H0 H ∧ H0 q = none ∧ H q = some c ∧ Cell K H0 c d0 ∧ RepL K H0 ds ws ∧ G d0 ds = some (o, d, d1) ∧
  ∀ v H1 H' c', (∀ b u, b ≠ q → H b = some u → H' b = some u) → Ex H0 H1 → Ex H1 H' → H1 q = none → (∀ b u, H1 b = some u → H0 b = some u ∨ Nw H b u) → H' q = some c' → Cell K H1 c' d1 → Res K H H1 H' o d v → Q v H'
/-- a def that can be called by its name -/
def HasFn (P : Program) (w : World) (K : PySem.W.Frag) (mg : Str → Option Value) (base : Heap) (k : Nat) (x : Str) (sp : Sp) : Prop :=
  ∃ f fd ps, FnOk P w K mg base CX0 k f fd ps sp ∧ mg x = some (.ref f) ∧ PySem.W.keepIn K (.ref f) = true ∧ Binds K fd ps []

section
variable {K : PySem.W.Frag} {B : Bs} {s : S} {σ : St} {H0 H H1 H' : Hp} {d : D} {v : V}
/-- behind a call -/
theorem Rel.call (R : Rel K B s σ H0 H) (e : Ex H H') (e0 : Ex H0 H1) (e1 : Ex H1 H') (hn : ∀ b u, H1 b = some u → H0 b = some u ∨ Nw H b u) : Rel K B s σ H1 H' := by
  refine ⟨fun b xs h => ?_, R.fr.trans e, fun b h => R.dom b (e.back h), R.z0.trans e0, e1, fun b u h => ?_, R.len, fun i d h => ?_, fun i m d h hm => ?_, R.ne⟩
  · cases q : H b with
    | none => exact .inl (R.dom b q)
    | some o => rw [e b o q] at h; cases h; exact R.tp b xs q
  · rcases hn b u h with z | z | ⟨xs, rfl, z⟩
    · exact R.new b u z
    · exact .inr (.inl (R.dom b z))
    · exact .inr (R.tp b xs z)
  · obtain ⟨v, ev, r⟩ := R.sh i d h
    exact ⟨v, ev, r.up e0⟩
  · obtain ⟨p, ev, w⟩ := R.ow i m d h hm
    obtain ⟨o, ho, hc⟩ := w.ob
    refine ⟨p, ev, ?_, w.b, w.ow, w.rf, o, e _ _ ho, hc.up e0⟩
    cases q : H1 p with
    | none => rfl
    | some u =>
      rcases hn p u q with z | z | ⟨xs, rfl, z⟩
      · rw [w.z] at z; cases z
      · rw [ho] at z; cases z
      · rw [ho] at z; cases z; exact hc.noTup.elim
theorem Rel.resO (R : Rel K B s σ H0 H) {p : Addr} {u : HO} (hp : H p = none) (h1 : H1 p = none) (h2 : H' p = some u) (hc : Cell K H1 u d) (e : Ex H H') : OwnAt K B s σ H1 H' p d :=
  ⟨h1, R.dom p hp, R.fr.back hp, ⟨u, h2, hc⟩, fun i m e' h hm z => by
    obtain ⟨q, ev, w⟩ := R.ow i m e' h hm
    rw [ev] at z; cases z
    obtain ⟨o, ho, _⟩ := w.ob
    rw [hp] at ho; cases ho⟩
/-- behind a call that had the object of slot i by reference -/
theorem Rel.callB {i : Nat} {m : Md} {d0 d1 : D} {q : Addr} {c' : HO} (R : Rel K B s σ H0 H) (h : s[i]? = some (some (m, d0))) (hm : m ≠ .sh) (ev : σ[i]? = some (some (.ref q)))
    (e : ∀ b u, b ≠ q → H b = some u → H' b = some u) (e0 : Ex H0 H1) (e1 : Ex H1 H') (hq : H1 q = none) (hn : ∀ b u, H1 b = some u → H0 b = some u ∨ Nw H b u) (hc' : H' q = some c') (hc : Cell K H1 c' d1) :
    Rel K B (s.set i (some (m, d1))) σ H1 H' := by
  obtain ⟨q', ev', w0⟩ := R.ow i m d0 h hm
  rw [ev] at ev'; cases ev'
  have dm : ∀ b, H' b = none → H b = none := fun b hb => by
    cases z : H b with
    | none => rfl
    | some u =>
      by_cases bq : b = q
      · subst bq; rw [hc'] at hb; cases hb
      · rw [e b u bq z] at hb; cases hb
  have tp : ∀ b xs, H' b = some (.tup xs) → Nw B.hE b (.tup xs) := fun b xs hb => by
    by_cases bq : b = q
    · subst bq; rw [hc'] at hb; cases hb; exact hc.noTup.elim
    · cases z : H b with
      | none => exact .inl (R.dom b z)
      | some o => rw [e b o bq z] at hb; cases hb; exact R.tp b xs z
  refine ⟨tp, fun a u ha => ?_, fun b hb => R.dom b (dm b hb), R.z0.trans e0, e1, fun b u hb => ?_, by simp [R.len], fun j f hj => ?_, fun j n f hj hn' => ?_, fun j k m1 n1 e' f q' h1 hm1 h2 hn1 g1 g2 => ?_⟩
  · have ne : a ≠ q := fun z => by rw [z, w0.b] at ha; cases ha
    exact e a u ne (R.fr a u ha)
  · rcases hn b u hb with z | z | ⟨xs, rfl, z⟩
    · exact R.new b u z
    · exact .inr (.inl (R.dom b z))
    · exact .inr (R.tp b xs z)
  · rcases set_get hj with ⟨rfl, z⟩ | ⟨_, hj'⟩
    · cases z; exact absurd rfl hm
    · obtain ⟨v, ev, r⟩ := R.sh j f hj'
      exact ⟨v, ev, r.up e0⟩
  · rcases set_get hj with ⟨rfl, z⟩ | ⟨ji, hj'⟩
    · cases z
      exact ⟨q, ev, hq, w0.b, w0.ow, w0.rf, c', hc', hc⟩
    · obtain ⟨p, ep, w⟩ := R.ow j n f hj' hn'
      have ne : p ≠ q := fun z => ji (R.ne j i n m f d0 q hj' hn' h hm (by rw [ep, z]) ev)
      obtain ⟨o, ho, hcc⟩ := w.ob
      refine ⟨p, ep, ?_, w.b, w.ow, w.rf, o, e p o ne ho, hcc.up e0⟩
      cases z : H1 p with
      | none => rfl
      | some u =>
        rcases hn p u z with y | y | ⟨xs, rfl, y⟩
        · rw [w.z] at y; cases y
        · rw [ho] at y; cases y
        · rw [ho] at y; cases y; exact hcc.noTup.elim
  · have g : ∀ {l : Nat} {mm : Md} {x : D}, (s.set i (some (m, d1)))[l]? = some (some (mm, x)) → ∃ y, s[l]? = some (some (mm, y)) := fun {l mm x} hh => by
      rcases set_get hh with ⟨rfl, z⟩ | ⟨_, hh'⟩
      · cases z; exact ⟨d0, h⟩
      · exact ⟨x, hh'⟩
    obtain ⟨y1, h1'⟩ := g h1
    obtain ⟨y2, h2'⟩ := g h2
    exact R.ne j k m1 n1 y1 y2 q' h1' hm1 h2' hn1 g1 g2
end

section
variable {X : Cx} {B : Bs} {a b c e : Expr} {pos p apos : Pos} {fa fb fc f : F} {pa pb : FP} {ba bb : TB} {ga : FA} {K : PySem.W.Frag} {σ : St} {H : Hp} {x y : Str} {k n : Nat} {es : List Expr}
/-! ### calls -/
@[simp] def eCall (G : FnD) (ga : FA) : F := fun s => (ga s).bind fun a => (G a.1).bind fun r => some (r.2, a.2)
@[simp] def eCallO (G : FnD) (ga : FA) : F := fun s => (ga s).bind fun a => (G a.1).bind fun r => if r.1 then some (r.2, a.2) else none
theorem pe_fn {sp : Sp} {t : TA} (h : HasFn X.prog X.w X.K X.mg X.base k x sp) (hr : Room k X.A) (hg : Gl X x) (ha : PA X (e :: es) t) (hdb : (x == ("__debug__" : Str)) = false := by decide)
    (he : starEach (e :: es) X.env = (false, eval e X.env) :: starEach es X.env := by rfl) (hpl : (backTo pos (starEach es X.env)).any (·.1) = false := by rfl) : PE X (.Call (.Name x p) (e :: es) [] pos) (fun σ H Q => t σ H fun vs H1 => sp vs H1 Q E0) := by
  obtain ⟨f, fd, ps, F, hm, hk, hb⟩ := h
  refine (pe_call F hr hg hm hk hb .nil pass0 ha hdb he hpl).pxw fun σ H Q q => ?_
  show t σ H fun vs H1 => sp (vs ++ []) H1 Q E0
  have e : (fun vs H1 => sp (vs ++ []) H1 Q E0) = fun vs H1 => sp vs H1 Q E0 := by funext vs H1; rw [List.append_nil]
  rw [e]
  exact q
theorem ie_call {G : FnD} (h : HasFn X.prog X.w X.K X.mg X.base k x (spF X.K n G)) (hr : Room k X.A) (hg : Gl X x) (hn : (e :: es).length = n) (ha : PA X (e :: es) (tA X.K B ga)) (hla : ∀ s r s', ga s = some (r, s') → r.length = n) (hdb : (x == ("__debug__" : Str)) = false := by decide)
    (he : starEach (e :: es) X.env = (false, eval e X.env) :: starEach es X.env := by rfl) (hpl : (backTo pos (starEach es X.env)).any (·.1) = false := by rfl) : PE X (.Call (.Name x p) (e :: es) [] pos) (tF X.K B (eCall G ga)) := (pe_fn h hr hg ha hdb he hpl).pxw fun σ H Q q => by
  obtain ⟨s, H0, d, s', R, ev, k⟩ := q
  obtain ⟨⟨ds, s1⟩, e1, ev1⟩ := bnd ev
  obtain ⟨⟨o, d1⟩, e2, ev2⟩ := bnd ev1
  cases ev2
  refine ⟨s, H0, ds, s1, R, e1, fun vs H1 H' R1 x1 r1 => ⟨H1, ds, o, _, by rw [r1.len]; exact hla _ _ _ e1, R1.h0, r1, e2, fun v H2 H2' y1 y2 y3 y4 r2 => ?_⟩⟩
  have R2 := R1.call y1 y2 y3 y4
  unfold Res at r2
  split at r2
  · obtain ⟨q, u, rfl, z1, z2, z3, z4⟩ := r2
    obtain ⟨H3, R3, x3, r3⟩ := R2.freeze (R1.resO z1 z2 z3 z4 y1)
    exact k _ H3 H2' R3 ((x1.trans y2).trans x3) r3
  · exact k v H2 H2' R2 (x1.trans y2) r2
theorem io_call {G : FnD} (h : HasFn X.prog X.w X.K X.mg X.base k x (spF X.K n G)) (hr : Room k X.A) (hg : Gl X x) (hn : (e :: es).length = n) (ha : PA X (e :: es) (tA X.K B ga)) (hla : ∀ s r s', ga s = some (r, s') → r.length = n) (hdb : (x == ("__debug__" : Str)) = false := by decide)
    (he : starEach (e :: es) X.env = (false, eval e X.env) :: starEach es X.env := by rfl) (hpl : (backTo pos (starEach es X.env)).any (·.1) = false := by rfl) : PE X (.Call (.Name x p) (e :: es) [] pos) (tO X.K B (eCallO G ga)) := (pe_fn h hr hg ha hdb he hpl).pxw fun σ H Q q => by
  obtain ⟨s, H0, d, s', R, ev, k⟩ := q
  obtain ⟨⟨ds, s1⟩, e1, ev1⟩ := bnd ev
  obtain ⟨⟨o, d1⟩, e2, ev2⟩ := bnd ev1
  cases o with
  | false => cases ev2
  | true =>
    cases ev2
    refine ⟨s, H0, ds, s1, R, e1, fun vs H1 H' R1 x1 r1 => ⟨H1, ds, true, _, by rw [r1.len]; exact hla _ _ _ e1, R1.h0, r1, e2, fun v H2 H2' y1 y2 y3 y4 r2 => ?_⟩⟩
    have R2 := R1.call y1 y2 y3 y4
    obtain ⟨q, u, rfl, z1, z2, z3, z4⟩ := r2
    exact k _ H2 H2' R2 (x1.trans y2) (R1.resO z1 z2 z3 z4 y1)
theorem la_nil : ∀ s r s', aNil s = some (r, s') → r.length = 0 := fun s r s' h => by cases h; rfl
theorem la_cons {f : F} {g : FA} {n : Nat} (h : ∀ s r s', g s = some (r, s') → r.length = n) : ∀ s r s', aCons f g s = some (r, s') → r.length = n + 1 := fun s r s' ev => by
  obtain ⟨⟨d1, s1⟩, e1, ev1⟩ := bnd ev
  obtain ⟨⟨ds, s2⟩, e2, ev2⟩ := bnd ev1
  cases ev2
  rw [List.length_cons, h _ _ _ e2]
/-- f(bag, ..): the object of slot i by reference -/
@[simp] def isOwn (s : S) (i : Nat) : Bool := match s[i]? with
  | some (some (.sh, _)) => false
  | some (some (_, _)) => true
  | _ => false
theorem isOwn_inv {s : S} {i : Nat} (h : isOwn s i = true) : ∃ m d, s[i]? = some (some (m, d)) ∧ m ≠ .sh := by
  unfold isOwn at h
  split at h
  · cases h
  · next m d hm hd => exact ⟨m, d, hd, hm⟩
  · cases h
@[simp] def ownAt (s : S) (i : Nat) : Option (Md × D) := match s[i]? with
  | some (some (.sh, _)) => none
  | some (some (m, d)) => some (m, d)
  | _ => none
theorem ownAt_inv {s : S} {i : Nat} {m : Md} {d : D} (h : ownAt s i = some (m, d)) : s[i]? = some (some (m, d)) ∧ m ≠ .sh := by
  unfold ownAt at h
  split at h
  · cases h
  · next m d hm hd => cases h; exact ⟨hd, hm⟩
  · cases h
@[simp] def eCallB (G : FnB) (i : Nat) (ga : FA) : F := fun s => (ownAt s i).bind fun _ => (ga s).bind fun a => (ownAt a.2 i).bind fun m => (G m.2 a.1).bind fun r => some (r.2.1, a.2.set i (some (m.1, r.2.2)))
theorem ie_callB {G : FnB} {i : Nat} {pn : Pos} (h : HasFn X.prog X.w X.K X.mg X.base k x (spB X.K n G)) (hr : Room k X.A) (hg : Gl X x) (hv : PE X (.Name y pn) (tVar i)) (ha : PA X es (tA X.K B ga)) (hla : ∀ s r s', ga s = some (r, s') → r.length = n) (hdb : (x == ("__debug__" : Str)) = false := by decide)
    (he : starEach (.Name y pn :: es) X.env = (false, eval (.Name y pn) X.env) :: starEach es X.env := by rfl) (hpl : (backTo pos (starEach es X.env)).any (·.1) = false := by rfl) : PE X (.Call (.Name x p) (.Name y pn :: es) [] pos) (tF X.K B (eCallB G i ga)) := (pe_fn h hr hg (pa_cons hv ha he) hdb he hpl).pxw fun σ H Q q => by
  obtain ⟨s, H0, d, s', R, ev, k⟩ := q
  obtain ⟨⟨m', d'⟩, e0, ev0⟩ := bnd ev
  obtain ⟨⟨ds, s1⟩, e1, ev1⟩ := bnd ev0
  obtain ⟨⟨m, d0⟩, e2, ev2⟩ := bnd ev1
  obtain ⟨⟨o, d2, d1⟩, e3, ev3⟩ := bnd ev2
  cases ev3
  obtain ⟨h0, hm0⟩ := ownAt_inv e0
  obtain ⟨h1, hm⟩ := ownAt_inv e2
  obtain ⟨q, ep, _⟩ := R.ow i m' d' h0 hm0
  refine ⟨_, ep, s, H0, ds, s1, R, e1, fun vs H1 H' R1 x1 r1 => ?_⟩
  obtain ⟨q', ep', w⟩ := R1.ow i m d0 h1 hm
  rw [ep] at ep'; cases ep'
  obtain ⟨c, hc, hcc⟩ := w.ob
  refine ⟨q, vs, H1, c, d0, ds, o, _, d1, rfl, by rw [r1.len]; exact hla _ _ _ e1, R1.h0, w.z, hc, hcc, r1, e3, fun v H2 H2' c' y1 y2 y3 yq y4 y5 y6 r2 => ?_⟩
  have R2 := R1.callB h1 hm ep y1 y2 y3 yq y4 y5 y6
  unfold Res at r2
  split at r2
  · obtain ⟨t, u, rfl, z1, z2, z3, z4⟩ := r2
    have w2 : OwnAt X.K B (s1.set i (some (m, d1))) σ H2 H2' t _ := ⟨z2, R1.dom t z1, R1.fr.back z1, ⟨u, z3, z4⟩, fun j m2 e' hj hm2 zz => by
      have : ∃ y, s1[j]? = some (some (m2, y)) := by
        rcases set_get hj with ⟨rfl, z⟩ | ⟨_, hj'⟩
        · cases z; exact ⟨d0, h1⟩
        · exact ⟨e', hj'⟩
      obtain ⟨y, hj'⟩ := this
      obtain ⟨q2, ev2, w2⟩ := R1.ow j m2 y hj' hm2
      rw [ev2] at zz; cases zz
      obtain ⟨o2, ho2, _⟩ := w2.ob
      rw [z1] at ho2; cases ho2⟩
    obtain ⟨H3, R3, x3, r3⟩ := R2.freeze w2
    exact k _ H3 H2' R3 ((x1.trans y2).trans x3) r3
  · exact k v H2 H2' R2 (x1.trans y2) r2

/-! ### an own slot handed on -/
@[simp] def eMove (i : Nat) : F := fun s => match s[i]? with
  | some (some (.ow, d)) => some (d, s.set i none)
  | _ => none
theorem Rel.drop {s : S} {H0 : Hp} (R : Rel K B s σ H0 H) (i : Nat) : Rel K B (s.set i none) σ H0 H := by
  refine ⟨R.tp, R.fr, R.dom, R.z0, R.h0, R.new, by simp [R.len], fun j e h => ?_, fun j m e h hm => ?_, fun j k m n e f q h1 hm h2 hn e1 e2 => ?_⟩
  · rcases set_get h with ⟨rfl, q⟩ | ⟨q, h'⟩
    · cases q
    · exact R.sh j e h'
  · rcases set_get h with ⟨rfl, q⟩ | ⟨q, h'⟩
    · cases q
    · exact R.ow j m e h' hm
  · rcases set_get h1 with ⟨rfl, q⟩ | ⟨q1, h1⟩
    · cases q
    rcases set_get h2 with ⟨rfl, q⟩ | ⟨q2, h2⟩
    · cases q
    exact R.ne j k m n e f q h1 hm h2 hn e1 e2
theorem io_move (i : Nat) (h : PE X (.Name x pos) (tVar i)) : PE X (.Name x pos) (tO X.K B (eMove i)) := h.pxw fun σ H Q q => by
  obtain ⟨s, H0, r, s', R, e, k⟩ := q
  unfold eMove at e
  split at e
  · next d hd =>
    cases e
    obtain ⟨p, ev, w⟩ := R.ow i .ow _ hd (by decide)
    refine ⟨_, ev, k p H0 H (R.drop i) (Ex.refl _) ⟨w.z, w.ow rfl, w.b, w.ob, fun j m e hj hm z => ?_⟩⟩
    rcases set_get hj with ⟨rfl, q⟩ | ⟨q, h'⟩
    · cases q
    · exact q (R.ne j i m .ow e _ p h' hm hd (by decide) z ev)
  · cases e

/-! ### statements -/
inductive Out where
  | nx (s : S) | ret (o : Bool) (d : D) (s : S) | bk (s : S) | ct (s : S)
abbrev FS := S → Option Out
def OutK (K : PySem.W.Frag) (B : Bs) (E : Ends) (H0 : Hp) : Out → Prop
  | .nx s => ∀ σ H1 H', Rel K B s σ H1 H' → Ex H0 H1 → E.nx σ H'
  | .bk s => ∀ σ H1 H', Rel K B s σ H1 H' → Ex H0 H1 → E.bk σ H'
  | .ct s => ∀ σ H1 H', Rel K B s σ H1 H' → Ex H0 H1 → E.ct σ H'
  | .ret o d s => ∀ v σ H1 H', Rel K B s σ H1 H' → Ex H0 H1 → (if o then ∃ p, v = .ref p ∧ OwnAt K B s σ H1 H' p d else Rep K H1 d v) → E.rt v H'
def tS (K : PySem.W.Frag) (B : Bs) (f : FS) : TS := fun E σ H => ∃ s H0 out, Rel K B s σ H0 H ∧ f s = some out ∧ OutK K B E H0 out
theorem OutK.up {E : Ends} {H0 H1 : Hp} {out : Out} (h : OutK K B E H0 out) (e : Ex H0 H1) : OutK K B E H1 out := by
  cases out with
  | nx s => exact fun σ H2 H' R x => h σ H2 H' R (e.trans x)
  | bk s => exact fun σ H2 H' R x => h σ H2 H' R (e.trans x)
  | ct s => exact fun σ H2 H' R x => h σ H2 H' R (e.trans x)
  | ret o d s => exact fun v σ H2 H' R x r => h v σ H2 H' R (e.trans x) r
@[simp] def sNil : FS := fun s => some (.nx s)
@[simp] def sSeq (f g : FS) : FS := fun s => (f s).bind fun o => match o with | .nx s1 => g s1 | o => some o
@[simp] def sDrop (f : F) : FS := fun s => (f s).bind fun a => some (.nx a.2)
@[simp] def sRet (f : F) : FS := fun s => (f s).bind fun a => some (.ret false a.1 a.2)
@[simp] def sRetO (f : F) : FS := fun s => (f s).bind fun a => some (.ret true a.1 a.2)
@[simp] def sRetN : FS := fun s => some (.ret false .non s)
@[simp] def sIf (t : TB) (f g : FS) : FS := fun s => (t s).bind fun a => if a.1 then f a.2 else g a.2
@[simp] def sSet (i : Nat) (f : F) : FS := fun s => (f s).bind fun a => some (.nx (a.2.set i (some (.sh, a.1))))
@[simp] def sSetO (i : Nat) (f : F) : FS := fun s => (f s).bind fun a => some (.nx (a.2.set i (some (.ow, a.1))))
variable {st : Stmt} {rest : List Stmt} {fs gs : FS}
theorem iss_nil : PSs X [] (tS X.K B sNil) := pss_nil.pxw fun E σ H q => by
  obtain ⟨s, H0, out, R, e, k⟩ := q
  cases e
  exact k σ H0 H R (Ex.refl _)
theorem iss_cons (h1 : PS X st (tS X.K B fs)) (h2 : PSs X rest (tS X.K B gs)) : PSs X (st :: rest) (tS X.K B (sSeq fs gs)) := (pss_cons h1 h2).pxw fun E σ H q => by
  obtain ⟨s, H0, out, R, e, k⟩ := q
  obtain ⟨o, e1, e2⟩ := bnd e
  cases o with
  | nx s1 => exact ⟨s, H0, _, R, e1, fun σ' H1 H' R1 x1 => ⟨s1, H1, out, R1, e2, k.up x1⟩⟩
  | bk s1 => cases e2; exact ⟨s, H0, _, R, e1, k⟩
  | ct s1 => cases e2; exact ⟨s, H0, _, R, e1, k⟩
  | ret o d s1 => cases e2; exact ⟨s, H0, _, R, e1, k⟩
theorem iss_one (h1 : PS X st (tS X.K B fs)) : PSs X [st] (tS X.K B fs) := pss_one h1
theorem is_expr (he : PE X e (tF X.K B f)) (hs : swapsWith e none pos.line X.env = pure false := by rfl) : PS X (.Expr e pos) (tS X.K B (sDrop f)) := (ps_expr he hs).pxw fun E σ H q => by
  obtain ⟨s, H0, out, R, ev, k⟩ := q
  obtain ⟨a, e1, e2⟩ := bnd ev
  cases e2
  exact ⟨s, H0, a.1, a.2, R, e1, fun v H1 H' R1 x1 _ => k σ H1 H' R1 x1⟩
theorem is_ret (he : PE X e (tF X.K B f)) : PS X (.Return (some e) pos) (tS X.K B (sRet f)) := (ps_ret he).pxw fun E σ H q => by
  obtain ⟨s, H0, out, R, ev, k⟩ := q
  obtain ⟨a, e1, e2⟩ := bnd ev
  cases e2
  exact ⟨s, H0, a.1, a.2, R, e1, fun v H1 H' R1 x1 r1 => k v σ H1 H' R1 x1 r1⟩
theorem is_retO (he : PE X e (tO X.K B f)) : PS X (.Return (some e) pos) (tS X.K B (sRetO f)) := (ps_ret he).pxw fun E σ H q => by
  obtain ⟨s, H0, out, R, ev, k⟩ := q
  obtain ⟨a, e1, e2⟩ := bnd ev
  cases e2
  exact ⟨s, H0, a.1, a.2, R, e1, fun p H1 H' R1 x1 r1 => k _ σ H1 H' R1 x1 ⟨p, rfl, r1⟩⟩
theorem is_retN : PS X (.Return none pos) (tS X.K B sRetN) := ps_retN.pxw fun E σ H q => by
  obtain ⟨s, H0, out, R, ev, k⟩ := q
  cases ev
  exact k .non σ H0 H R (Ex.refl _) (iteF (by simp only [Rep]))
theorem is_if {sa sb : List Stmt} (hc : PT X c (tT X.K B ba)) (ha : PSs X sa (tS X.K B fs)) (hb : PSs X sb (tS X.K B gs)) : PS X (.If c sa sb pos) (tS X.K B (sIf ba fs gs)) := (ps_if hc ha hb).pxw fun E σ H q => by
  obtain ⟨s, H0, out, R, ev, k⟩ := q
  obtain ⟨⟨r, s1⟩, e1, e2⟩ := bnd ev
  refine ⟨s, H0, r, s1, R, e1, fun H1 H' R1 x1 => ?_⟩
  cases r with
  | true => exact iteT ⟨s1, H1, out, R1, e2, k.up x1⟩
  | false => exact iteF ⟨s1, H1, out, R1, e2, k.up x1⟩
theorem is_set {i : Nat} {pos' : Pos} (hN : X.N.Nodup) (hi : X.N[i]? = some x) (hx : Loc X.env.scope x) (he : PE X e (tF X.K B f)) (hs : swapsWith e (some (.Name x pos')) pos.line X.env = pure false := by rfl)
    (hf : X.fn x = true ∨ X.env.scope.names.lookup x = some .local := by first | exact .inl rfl | exact .inr rfl | assumption) : PS X (.Assign [.Name x pos'] e pos) (tS X.K B (sSet i f)) := (ps_set hN hi hx he hs hf).pxw fun E σ H q => by
  obtain ⟨s, H0, out, R, ev, k⟩ := q
  obtain ⟨a, e1, e2⟩ := bnd ev
  cases e2
  exact ⟨s, H0, a.1, a.2, R, e1, fun v H1 H' R1 x1 r1 => k _ H1 H' (R1.set r1) x1⟩
theorem is_setO {i : Nat} {pos' : Pos} (hN : X.N.Nodup) (hi : X.N[i]? = some x) (hx : Loc X.env.scope x) (he : PE X e (tO X.K B f)) (hs : swapsWith e (some (.Name x pos')) pos.line X.env = pure false := by rfl)
    (hf : X.fn x = true ∨ X.env.scope.names.lookup x = some .local := by first | exact .inl rfl | exact .inr rfl | assumption) : PS X (.Assign [.Name x pos'] e pos) (tS X.K B (sSetO i f)) := (ps_set hN hi hx he hs hf).pxw fun E σ H q => by
  obtain ⟨s, H0, out, R, ev, k⟩ := q
  obtain ⟨a, e1, e2⟩ := bnd ev
  cases e2
  exact ⟨s, H0, a.1, a.2, R, e1, fun p H1 H' R1 x1 w => k _ H1 H' (R1.setO w) x1⟩
/-- a, b = e1, e2 -/
@[simp] def sPar (i j : Nat) (fa fb : F) : FS := fun s => (fa s).bind fun a => (fb a.2).bind fun b => some (.nx ((b.2.set i (some (.sh, a.1))).set j (some (.sh, b.1))))
theorem is_par {i j : Nat} {x y : Str} {px py pt : Pos} {kt k2 pt2} (hc : X.calm = true) (hN : X.N.Nodup) (hi : X.N[i]? = some x) (hj : X.N[j]? = some y) (hij : i ≠ j) (hx : X.env.scope.names.lookup x = some .local) (hy : X.env.scope.names.lookup y = some .local)
    (ha : PE X a (tF X.K B fa)) (hb : PE X b (tF X.K B fb)) (he : starEach [a, b] X.env = (false, eval a X.env) :: starEach [b] X.env := by rfl) (he2 : starEach [b] X.env = (false, eval b X.env) :: starEach [] X.env := by rfl)
    (hw : swappedStores [.Tuple [.Name x px, .Name y py] kt pt] (.Tuple [a, b] k2 pt2) X.env = pure (some [x, y]) := by rfl) (hs : swapsWithSole [.Tuple [.Name x px, .Name y py] kt pt] (.Tuple [a, b] k2 pt2) pos.line X.env = pure false := by rfl) :
    PS X (.Assign [.Tuple [.Name x px, .Name y py] kt pt] (.Tuple [a, b] k2 pt2) pos) (tS X.K B (sPar i j fa fb)) := (ps_par hc hN hi hj hij hx hy (pa_cons ha (pa_cons hb pa_nil he2) he) hw hs).pxw fun E σ H q => by
  obtain ⟨s, H0, out, R, ev, k⟩ := q
  obtain ⟨⟨d1, s1⟩, e1, ev1⟩ := bnd ev
  obtain ⟨⟨d2, s2⟩, e2, ev2⟩ := bnd ev1
  cases ev2
  exact ⟨s, H0, d1, s1, R, e1, fun v H1 H' R1 x1 r1 => ⟨s1, H1, d2, s2, R1, e2, fun w H2 H2' R2 x2 r2 => ⟨v, w, rfl, k _ H2 H2' ((R2.set (r1.up x2)).set r2) (x1.trans x2)⟩⟩⟩
/-- a, b = [..], constant: the list one's own -/
@[simp] def sParO (i j : Nat) (fa : F) (d : D) : FS := fun s => (fa s).bind fun a => some (.nx ((a.2.set i (some (.ow, a.1))).set j (some (.sh, d))))
theorem is_parO {i j : Nat} {x y : Str} {px py pt : Pos} {kt k2 pt2} {w : V} {d : D} (hc : X.calm = true) (hN : X.N.Nodup) (hi : X.N[i]? = some x) (hj : X.N[j]? = some y) (hij : i ≠ j) (hx : X.env.scope.names.lookup x = some .local) (hy : X.env.scope.names.lookup y = some .local)
    (ha : PE X a (tO X.K B fa)) (hb : PE X b (tC w)) (hd : ∀ H0, Rep X.K H0 d w) (he : starEach [a, b] X.env = (false, eval a X.env) :: starEach [b] X.env := by rfl) (he2 : starEach [b] X.env = (false, eval b X.env) :: starEach [] X.env := by rfl)
    (hw : swappedStores [.Tuple [.Name x px, .Name y py] kt pt] (.Tuple [a, b] k2 pt2) X.env = pure (some [x, y]) := by rfl) (hs : swapsWithSole [.Tuple [.Name x px, .Name y py] kt pt] (.Tuple [a, b] k2 pt2) pos.line X.env = pure false := by rfl) :
    PS X (.Assign [.Tuple [.Name x px, .Name y py] kt pt] (.Tuple [a, b] k2 pt2) pos) (tS X.K B (sParO i j fa d)) := (ps_par hc hN hi hj hij hx hy (pa_cons ha (pa_cons hb pa_nil he2) he) hw hs).pxw fun E σ H q => by
  obtain ⟨s, H0, out, R, ev, k⟩ := q
  obtain ⟨⟨d1, s1⟩, e1, ev1⟩ := bnd ev
  cases ev1
  exact ⟨s, H0, d1, s1, R, e1, fun p H1 H' R1 x1 r1 => ⟨_, w, rfl, k _ H1 H' ((R1.setO r1).set (hd _)) x1⟩⟩
/-- x += e, ints -/
@[simp] def sAug (g : Int → Int → Int) (i : Nat) (f : F) : FS := fun s => match s[i]? with
  | some (some (.sh, .int m)) => (f s).bind fun a => match a.1 with | .int n => some (.nx (a.2.set i (some (.sh, .int (g m n))))) | _ => none
  | _ => none
theorem aug_inv {g : Int → Int → Int} {i : Nat} {s : S} {out : Out} (h : sAug g i f s = some out) : ∃ m n s1, s[i]? = some (some (.sh, .int m)) ∧ f s = some (.int n, s1) ∧ out = .nx (s1.set i (some (.sh, .int (g m n)))) := by
  unfold sAug at h
  split at h
  · next m hm =>
    obtain ⟨⟨d, s1⟩, e1, e2⟩ := bnd h
    cases d with
    | int n => cases e2; exact ⟨m, n, s1, hm, e1, rfl⟩
    | _ => cases e2
  · cases h
theorem is_aug {g : Int → Int → Int} {op : Operator} {i : Nat} {pos' : Pos} (ho : PIp X op (ipI g)) (hN : X.N.Nodup) (hi : X.N[i]? = some x) (hx : Loc X.env.scope x) (he : PE X e (tF X.K B f))
    (hf : X.fn x = true ∨ X.env.scope.names.lookup x = some .local := by first | exact .inl rfl | exact .inr rfl | assumption) : PS X (.AugAssign (.Name x pos') op e pos) (tS X.K B (sAug g i f)) := (ps_aug hN hi hx he ho hf).pxw fun E σ H q => by
  obtain ⟨s, H0, out, R, ev, k⟩ := q
  obtain ⟨m, n, s1, hm, e1, rfl⟩ := aug_inv ev
  obtain ⟨v, ev', r⟩ := R.sh i _ hm
  have := rep_int r
  subst this
  exact ⟨_, ev', s, H0, _, _, R, e1, fun v H1 H' R1 x1 r1 => ⟨m, n, rfl, rep_int r1, k _ H1 H' (R1.set (by simp only [Rep])) x1⟩⟩

/-! ### stores into an own object -/
theorem own_ref {s : S} {H0 : Hp} {i : Nat} {m : Md} {d : D} (R : Rel K B s σ H0 H) (h : ownAt s i = some (m, d)) : ∃ p, σ[i]? = some (some (.ref p)) := by
  obtain ⟨h1, hm⟩ := ownAt_inv h
  obtain ⟨p, ev, _⟩ := R.ow i m d h1 hm
  exact ⟨p, ev⟩
@[simp] def ownL (s : S) (i : Nat) : Option (Md × List D) := (ownAt s i).bind fun m => match m.2 with
  | .lst ds => some (m.1, ds)
  | _ => none
theorem ownL_inv {s : S} {i : Nat} {m : Md} {ds : List D} (h : ownL s i = some (m, ds)) : s[i]? = some (some (m, .lst ds)) ∧ m ≠ .sh := by
  obtain ⟨⟨m', d⟩, e, h⟩ := bnd h
  cases d with
  | lst ds' => cases h; exact ownAt_inv e
  | _ => cases h
theorem own_lst {s : S} {H0 : Hp} {i : Nat} {m : Md} {ds : List D} (R : Rel K B s σ H0 H) (h : ownL s i = some (m, ds)) : ∃ p xs, σ[i]? = some (some (.ref p)) ∧ H p = some (.lst xs) ∧ RepL K H0 ds xs := by
  obtain ⟨h1, hm⟩ := ownL_inv h
  obtain ⟨p, ev, w⟩ := R.ow i m _ h1 hm
  obtain ⟨o, ho, xs, rfl, l⟩ := w.ob
  exact ⟨p, xs, ev, ho, l⟩
/-- x.append(e) -/
@[simp] def sApp (i : Nat) (f : F) : FS := fun s => (ownL s i).bind fun _ => (f s).bind fun a => (ownL a.2 i).bind fun m => if small m.2.length then some (.nx (a.2.set i (some (m.1, .lst (m.2 ++ [a.1]))))) else none
theorem is_app {i : Nat} {apos cpos : Pos} {pn : Pos} (hv : PE X (.Name x pn) (tVar i)) (he : PE X e (tF X.K B f)) (hst : starEach [e] X.env = (false, eval e X.env) :: starEach [] X.env := by rfl)
    (hbase : attributeBase (.Name x pn) "append" X.env (eval (.Name x pn) X.env) = eval (.Name x pn) X.env := by rfl)
    (hfew : ((backTo cpos (starEach [e] X.env)).all (fun x => !x.1) && (backToKw cpos (keywordEach [] X.env)).all (fun x => x.1.isSome) && decide ([e].length + ([] : List Keyword).length + (if ([] : List Keyword).isEmpty then 0 else 1) < 30)) = true := by rfl)
    (hline : (apos.endLine == cpos.line) = true := by rfl) (hplain : (backTo cpos (starEach [] X.env)).any (·.1) = false := by rfl)
    (hs : swapsWith (.Call (.Attribute (.Name x pn) "append" apos) [e] [] cpos) none pos.line X.env = pure false := by rfl) :
    PS X (.Expr (.Call (.Attribute (.Name x pn) "append" apos) [e] [] cpos) pos) (tS X.K B (sApp i f)) :=
  (ps_expr (pe_bm PySem.F.plainAttrs_list PySem.F.slot_list_append PySem.F.type_list_append mt_append hv (pa_cons he pa_nil hst) hbase hfew hline hst hplain) hs).pxw fun E σ H q => by
  obtain ⟨s, H0, out, R, ev, k⟩ := q
  obtain ⟨⟨m0, ds0⟩, e0, ev0⟩ := bnd ev
  obtain ⟨⟨d, s1⟩, e1, ev1⟩ := bnd ev0
  obtain ⟨⟨m, ds⟩, e2, ev2⟩ := bnd ev1
  dsimp only at ev2
  split at ev2
  · next hl =>
    cases ev2
    obtain ⟨p, xs, ep, hp, _⟩ := own_lst R e0
    refine ⟨_, ep, .inl ⟨rfl, xs, .of hp⟩, s, H0, d, s1, R, e1, fun v H1 H' R1 x1 r1 => ?_⟩
    obtain ⟨p', xs', ep', hp', l⟩ := own_lst R1 e2
    rw [ep] at ep'; cases ep'
    obtain ⟨h1, hm⟩ := ownL_inv e2
    refine ⟨p, xs', v, rfl, rfl, hp', by rw [l.len]; exact small_lt hl, ?_⟩
    exact k σ H1 _ (R1.mut h1 hm ep ⟨_, rfl, l.append (.cons r1 .nil)⟩) x1
  · cases ev2
/-- x[j] = e, a list -/
@[simp] def sLPut (i : Nat) (fi fv : F) : FS := fun s => (fv s).bind fun v => (ownL v.2 i).bind fun _ => (fi v.2).bind fun k => (ownL k.2 i).bind fun m => match k.1 with
  | .int j => (ixN m.2.length j).bind fun jj => some (.nx (k.2.set i (some (m.1, .lst (m.2.set jj v.1)))))
  | _ => none
theorem is_lput {i : Nat} {pn pos' : Pos} (hv : PE X (.Name x pn) (tVar i)) (hi : PE X b (tF X.K B fb)) (he : PE X e (tF X.K B f))
    (ha : ∀ v, assign (.Subscript (.Name x pn) b pos') X.env v = (do let ov ← holding [v] (eval (.Name x pn) X.env); let iv ← holding [v, ov] (eval b X.env); standAt pos'; holding [v, ov, iv] (setItem ov iv v); release [v, ov, iv] []) := by intro _; rfl)
    (hs : swapsWithSole [.Subscript (.Name x pn) b pos'] e pos.line X.env = pure false := by rfl) (hw : swappedStores [.Subscript (.Name x pn) b pos'] e X.env = pure none := by rfl)
    (h1 : (assignEach [.Subscript (.Name x pn) b pos'] X.env).map (·.2) = [assign (.Subscript (.Name x pn) b pos') X.env] := by rfl) :
    PS X (.Assign [.Subscript (.Name x pn) b pos'] e pos) (tS X.K B (sLPut i fb f)) := (ps_asg he (pg_sub hv hi set_list ha) hs hw h1).pxw fun E σ H q => by
  obtain ⟨s, H0, out, R, ev, k⟩ := q
  obtain ⟨⟨d, s1⟩, e1, ev1⟩ := bnd ev
  obtain ⟨⟨m0, ds0⟩, e0, ev0⟩ := bnd ev1
  obtain ⟨⟨dk, s2⟩, e2, ev2⟩ := bnd ev0
  obtain ⟨⟨m, ds⟩, e3, ev3⟩ := bnd ev2
  cases dk with
  | int j =>
    obtain ⟨jj, ej, ev4⟩ := bnd ev3
    cases ev4
    refine ⟨s, H0, d, s1, R, e1, fun v H1 H' R1 x1 r1 => ?_⟩
    obtain ⟨p, xs, ep, hp, _⟩ := own_lst R1 e0
    refine ⟨_, ep, s1, H1, _, s2, R1, e2, fun w H2 H2' R2 x2 r2 => ?_⟩
    obtain ⟨p', xs', ep', hp', l⟩ := own_lst R2 e3
    rw [ep] at ep'; cases ep'
    obtain ⟨h1, hm⟩ := ownL_inv e3
    refine ⟨p, xs', j, jj, rfl, rep_int r2, hp', by rw [l.len]; exact ej, ?_⟩
    exact k σ H2 _ (R2.mut h1 hm ep ⟨_, rfl, l.set jj (r1.up x2)⟩) (x1.trans x2)
  | _ => cases ev3
/-- d[k] = v -/
def putD {κ : Type} [DecidableEq κ] (ks : List κ) (ds : List D) (k : κ) (d : D) : List κ × List D :=
  if k ∈ ks then (ks, List.zipWith (fun k' d' => if k' = k then d else d') ks ds) else (ks ++ [k], ds ++ [d])
theorem putD_len {κ : Type} [DecidableEq κ] {ks : List κ} {ds : List D} {k : κ} {d : D} (h : ks.length = ds.length) : (putD ks ds k d).1.length = (putD ks ds k d).2.length := by
  unfold putD
  split
  · simp [h]
  · simp [h]
theorem zipWith_rep {κ : Type} [DecidableEq κ] {H0 : Hp} {k : κ} {d : D} {v : V} (r : Rep K H0 d v) : ∀ {ks : List κ} {ds : List D} {xs : List V}, RepL K H0 ds xs → ks.length = ds.length →
    ∃ ys, RepL K H0 (List.zipWith (fun k' d' => if k' = k then d else d') ks ds) ys ∧ (ks.zip xs).map (fun kv => if kv.1 = k then (kv.1, v) else kv) = ks.zip ys
  | [], ds, xs, _, _ => ⟨[], by rw [List.zipWith_nil_left]; exact .nil, rfl⟩
  | k' :: ks, [], _, _, h => by simp at h
  | k' :: ks, d' :: ds, xs, h, hl => by
    obtain ⟨x, rs, rfl, r1, r2⟩ := h.of_cons
    obtain ⟨ys, e1, e2⟩ := zipWith_rep r (ks := ks) r2 (by simpa using hl)
    by_cases q : k' = k
    · refine ⟨v :: ys, ?_, ?_⟩
      · rw [List.zipWith_cons_cons, if_pos q]; exact .cons r e1
      · rw [List.zip_cons_cons, List.map_cons, e2, List.zip_cons_cons, if_pos q]
    · refine ⟨x :: ys, ?_, ?_⟩
      · rw [List.zipWith_cons_cons, if_neg q]; exact .cons r1 e1
      · rw [List.zip_cons_cons, List.map_cons, e2, List.zip_cons_cons, if_neg q]
theorem any_key {κ : Type} [DecidableEq κ] {k : κ} : ∀ {ks : List κ} {xs : List V}, ks.length = xs.length → ((ks.zip xs).any fun kv => decide (kv.1 = k)) = decide (k ∈ ks)
  | [], _, _ => by simp
  | k' :: ks, [], h => by simp at h
  | k' :: ks, x :: xs, h => by
    rw [List.zip_cons_cons, List.any_cons, any_key (ks := ks) (by simpa using h)]
    by_cases e : k' = k
    · simp [e]
    · simp [e, Ne.symm e]
theorem put_rep {κ : Type} [DecidableEq κ] {H0 : Hp} {k : κ} {ks : List κ} {ds : List D} {xs : List V} {d : D} {v : V} (l : RepL K H0 ds xs) (hl : ks.length = ds.length) (r : Rep K H0 d v) :
    ∃ ys, RepL K H0 (putD ks ds k d).2 ys ∧ putK (ks.zip xs) k v = (putD ks ds k d).1.zip ys := by
  have hx : ks.length = xs.length := hl.trans l.len.symm
  unfold putD putK
  rw [any_key hx]
  by_cases h : k ∈ ks
  · rw [if_pos h, decide_eq_true h, if_pos rfl]
    exact zipWith_rep r l hl
  · rw [if_neg h, decide_eq_false h, if_neg Bool.false_ne_true]
    exact ⟨xs ++ [v], l.append (.cons r .nil), by rw [List.zip_append hx]; rfl⟩
@[simp] def gPut (d k v : D) : Option D := match d with
  | .dK ks ds => (key? k).bind fun k => if ks.length = ds.length ∧ small ks.length then some (.dK (putD ks ds k v).1 (putD ks ds k v).2) else none
  | .dT ks ds => (tkey? k).bind fun k => if ks.length = ds.length ∧ small ks.length then some (.dT (putD ks ds k v).1 (putD ks ds k v).2) else none
  | _ => none
theorem put_dput {H0 : Hp} {q : Addr} {o : HO} {d k e d' : D} {y w : V} (ho : H q = some o) (hc : Cell K H0 o d) (hx : Ex H0 H) (r2 : Rep K H0 k y) (r3 : Rep K H0 e w) (h : gPut d k e = some d') :
    ∃ o', DPut H q y w (upd H q o') ∧ Cell K H0 o' d' := by
  cases d with
  | dK ks ds =>
    obtain ⟨key, ek, h1⟩ := bnd (show (key? k).bind _ = some d' from h)
    split at h1
    · next hh =>
      obtain ⟨hl, hs⟩ := hh
      cases h1
      obtain ⟨xs, rfl, _, l⟩ := hc
      obtain ⟨ys, r, e⟩ := put_rep (k := key) l hl r3
      refine ⟨_, .inl ⟨_, key, ho, key_inv ek r2, ?_, rfl⟩, ys, by rw [e], putD_len hl, r⟩
      rw [zip_length (hl.trans l.len.symm)]; exact small_lt hs
    · cases h1
  | dT ks ds =>
    obtain ⟨key, ek, h1⟩ := bnd (show (tkey? k).bind _ = some d' from h)
    split at h1
    · next hh =>
      obtain ⟨hl, hs⟩ := hh
      cases h1
      obtain ⟨xs, rfl, _, l⟩ := hc
      obtain ⟨ys, r, e⟩ := put_rep (k := key) l hl r3
      obtain ⟨b, rfl, hb⟩ := tkey_inv ek r2
      refine ⟨_, .inr ⟨_, key, b, ho, rfl, hx _ _ hb, ?_, rfl⟩, ys, by rw [e], putD_len hl, r⟩
      rw [zip_length (hl.trans l.len.symm)]; exact small_lt hs
    · cases h1
  | _ => cases h
@[simp] def sDPut (i : Nat) (fk fv : F) : FS := fun s => (fv s).bind fun v => (ownAt v.2 i).bind fun _ => (fk v.2).bind fun k => (ownAt k.2 i).bind fun m => (gPut m.2 k.1 v.1).bind fun d => some (.nx (k.2.set i (some (m.1, d))))
theorem is_dput {i : Nat} {pn pos' : Pos} (hu : X.A.units + 1 < cLine) (hv : PE X (.Name x pn) (tVar i)) (hi : PE X b (tF X.K B fb)) (he : PE X e (tF X.K B f))
    (hs : swapsWith e (some (.Subscript (.Name x pn) b pos')) pos.line X.env = pure false := by rfl) :
    PS X (.Assign [.Subscript (.Name x pn) b pos'] e pos) (tS X.K B (sDPut i fb f)) := (ps_dput hu hv hi he hs).pxw fun E σ H q => by
  obtain ⟨s, H0, out, R, ev, k⟩ := q
  obtain ⟨⟨d, s1⟩, e1, ev1⟩ := bnd ev
  obtain ⟨⟨m0, d0⟩, e0, ev0⟩ := bnd ev1
  obtain ⟨⟨dk, s2⟩, e2, ev2⟩ := bnd ev0
  obtain ⟨⟨m, dd⟩, e3, ev3⟩ := bnd ev2
  obtain ⟨d', e4, ev4⟩ := bnd ev3
  cases ev4
  refine ⟨s, H0, d, s1, R, e1, fun v H1 H' R1 x1 r1 => ?_⟩
  obtain ⟨p, ep⟩ := own_ref R1 e0
  refine ⟨_, ep, s1, H1, _, s2, R1, e2, fun w H2 H2' R2 x2 r2 => ?_⟩
  obtain ⟨h1, hm⟩ := ownAt_inv e3
  obtain ⟨p', ep', w0⟩ := R2.ow i m dd h1 hm
  rw [ep] at ep'; cases ep'
  obtain ⟨o, ho, hc⟩ := w0.ob
  obtain ⟨o', dp, hc'⟩ := put_dput ho hc R2.h0 r2 (r1.up x2) e4
  exact ⟨p, _, rfl, dp, k σ H2 _ (R2.mut h1 hm ep hc') (x1.trans x2)⟩
/-- d[k] += e, ints -/
@[simp] def sDAug (g : Int → Int → Int) (i : Nat) (fk fv : F) : FS := fun s => (ownAt s i).bind fun _ => (fk s).bind fun k => (ownAt k.2 i).bind fun m => (gGet m.2 k.1).bind fun d => match d with
  | .int a => (fv k.2).bind fun v => match v.1 with
    | .int b => (ownAt v.2 i).bind fun m => (gPut m.2 k.1 (.int (g a b))).bind fun d => some (.nx (v.2.set i (some (m.1, d))))
    | _ => none
  | _ => none
theorem is_daug {g : Int → Int → Int} {op : Operator} {rd : V → V → Hp → VK → Prop} {i : Nat} {pn pos' : Pos} (hrd : ∀ a b H (Q : VK), Q (.int (g a b)) H → rd (.int a) (.int b) H Q) (hop : InOp X op rd) (hu : X.A.units + 1 < cLine) (hv : PE X (.Name x pn) (tVar i)) (hi : PE X b (tF X.K B fb)) (he : PE X e (tF X.K B f))
    (ha : ∀ ov iv new, augStore b ov iv new = (do holding [new, ov, iv] (setItem ov iv new); release [new, ov, iv] []; pure .next) := by intros; rfl) :
    PS X (.AugAssign (.Subscript (.Name x pn) b pos') op e pos) (tS X.K B (sDAug g i fb f)) := (ps_daug hu hv hi he hop ha).pxw fun E σ H q => by
  obtain ⟨s, H0, out, R, ev, k⟩ := q
  obtain ⟨⟨m0, d0⟩, e0, ev0⟩ := bnd ev
  obtain ⟨⟨dk, s1⟩, e1, ev1⟩ := bnd ev0
  obtain ⟨⟨m1, dd⟩, e2, ev2⟩ := bnd ev1
  obtain ⟨di, e3, ev3⟩ := bnd ev2
  cases di with
  | int a =>
    obtain ⟨⟨dv, s2⟩, e4, ev4⟩ := bnd ev3
    cases dv with
    | int bb =>
      obtain ⟨⟨m, dm⟩, e5, ev5⟩ := bnd ev4
      obtain ⟨d', e6, ev6⟩ := bnd ev5
      cases ev6
      obtain ⟨p, ep⟩ := own_ref R e0
      refine ⟨_, ep, s, H0, _, s1, R, e1, fun y H1 H' R1 x1 r1 => ?_⟩
      obtain ⟨h2, hm2⟩ := ownAt_inv e2
      have pr : PRep X.K σ H1 (.slot i) (.ref p) := ep
      have pg : (PR.slot i).get s1 = some dd := by simp only [PR.get]; rw [h2]
      obtain ⟨o, eo, e7⟩ := bnd (show (gAsk dd dk).bind (fun o => o) = some (D.int a) from e3)
      cases e7
      obtain ⟨pp, ov, epp, dg, _, vv, rfl, rv⟩ := ask_dget R1 pr pg r1 eo
      cases epp
      have := rep_int rv
      subst this
      refine ⟨p, _, rfl, dg, s1, H1, _, s2, R1, e4, fun y2 H2 H2' R2 x2 r2 => ?_⟩
      have := rep_int r2
      subst this
      refine hrd _ _ _ _ ?_
      obtain ⟨h3, hm3⟩ := ownAt_inv e5
      obtain ⟨p', ep', w0⟩ := R2.ow i m dm h3 hm3
      rw [ep] at ep'; cases ep'
      obtain ⟨o, ho, hc⟩ := w0.ob
      obtain ⟨o', dp, hc'⟩ := put_dput (e := .int (g a bb)) ho hc R2.h0 (r1.up x2) (by simp only [Rep]; rfl) e6
      exact ⟨_, dp, k σ H2 _ (R2.mut h3 hm3 ep hc') (x1.trans x2)⟩
    | _ => cases ev4
  | _ => cases ev3
end
end Px

set_option Elab.async false
set_option linter.all false
set_option maxRecDepth 100000
set_option maxHeartbeats 1000000
/-! Px6: targets, what is walked, for, while, comprehensions, defs -/
namespace Px
open PySem L2
section
variable {X : Cx} {B : Bs} {a b c e tg : Expr} {pos p apos : Pos} {fa fb fc f : F} {pa pb : FP} {ba bb : TB} {ga : FA} {K : PySem.W.Frag} {σ : St} {H : Hp} {x y : Str} {k n : Nat} {es : List Expr} {st : Stmt} {fs gs : FS}
/-! ### targets -/
abbrev FG := D → S → Option S
abbrev FGs := List D → S → Option S
def Keeps (ts : List Nat) (σ σ' : St) : Prop := σ'.length = σ.length ∧ ∀ (i : Nat), i ∉ ts → σ'[i]? = σ[i]?
def tG (K : PySem.W.Frag) (B : Bs) (ts : List Nat) (f : FG) : TG := fun v σ H Q => ∃ s H0 d s', Rel K B s σ H0 H ∧ Rep K H0 d v ∧ f d s = some s' ∧ ∀ σ' H1 H', Rel K B s' σ' H1 H' → Ex H0 H1 → Keeps ts σ σ' → Q σ' H'
def tGs (K : PySem.W.Frag) (B : Bs) (ts : List Nat) (f : FGs) : TGs := fun vs σ H Q => ∃ s H0 d s', Rel K B s σ H0 H ∧ RepL K H0 d vs ∧ f d s = some s' ∧ ∀ σ' H1 H', Rel K B s' σ' H1 H' → Ex H0 H1 → Keeps ts σ σ' → Q σ' H'
@[simp] def hName (i : Nat) : FG := fun d s => some (s.set i (some (.sh, d)))
theorem ig_name {i : Nat} (hN : X.N.Nodup) (hi : X.N[i]? = some x) (hx : Loc X.env.scope x) (hf : X.fn x = true ∨ X.env.scope.names.lookup x = some .local := by first | exact .inl rfl | exact .inr rfl | assumption) : PG X (.Name x pos) (tG X.K B [i] (hName i)) :=
  (pg_name hN hi hx hf).pxw fun v σ H Q q => by
    obtain ⟨s, H0, d, s', R, r, e, k⟩ := q
    cases e
    exact k _ H0 H (R.set r) (Ex.refl _) ⟨by simp, fun j hj => by rw [List.getElem?_set_ne (fun z => hj (by simp [z]))]⟩
@[simp] def hNil : FGs := fun ds s => match ds with | [] => some s | _ => none
@[simp] def hCons (g : FG) (h : FGs) : FGs := fun ds s => match ds with | d :: r => (g d s).bind fun s1 => h r s1 | [] => none
theorem igs_nil : PGs X [] (tGs X.K B [] hNil) := pgs_nil.pxw fun vs σ H Q q => by
  obtain ⟨s, H0, ds, s', R, r, e, k⟩ := q
  cases ds with
  | nil => cases e; exact ⟨r.of_nil, k σ H0 H R (Ex.refl _) ⟨rfl, fun _ _ => rfl⟩⟩
  | cons d ds => cases e
theorem igs_cons {ts us : List Nat} {g : FG} {h : FGs} (h1 : PG X e (tG X.K B ts g)) (h2 : PGs X es (tGs X.K B us h)) (hs : (assignEach (e :: es) X.env).map (·.2) = assign e X.env :: (assignEach es X.env).map (·.2) := by rfl) : PGs X (e :: es) (tGs X.K B (ts ++ us) (hCons g h)) :=
  (pgs_cons h1 h2 hs).pxw fun vs σ H Q q => by
    obtain ⟨s, H0, ds, s', R, r, e, k⟩ := q
    cases ds with
    | nil => cases e
    | cons d ds =>
      obtain ⟨v, vr, rfl, r1, r2⟩ := r.of_cons
      obtain ⟨s1, e1, e2⟩ := bnd e
      refine ⟨v, vr, rfl, s, H0, d, s1, R, r1, e1, fun σ1 H1 H' R1 x1 k1 => ⟨s1, H1, ds, s', R1, r2.up x1, e2, fun σ2 H2 H2' R2 x2 k2 => k σ2 H2 H2' R2 (x1.trans x2) ⟨k2.1.trans k1.1, fun i hi => ?_⟩⟩⟩
      rw [List.mem_append] at hi
      rw [k2.2 i (fun z => hi (.inr z)), k1.2 i (fun z => hi (.inl z))]
@[simp] def hTup (h : FGs) : FG := fun d s => match d with | .tup ds => h ds s | _ => none
theorem ig_tup {kk : Nat} {ts : List Nat} {h : FGs} {n : Nat} (hc : X.calm = true) (h1 : PGs X es (tGs X.K B ts h)) (hlen : ∀ ds s s', h ds s = some s' → ds.length = n) (hn : (assignEach es X.env).length = n := by rfl) (hst : (assignEach es X.env).findIdx? (·.1) = none := by rfl) : PG X (.Tuple es kk pos) (tG X.K B ts (hTup h)) :=
  (pg_tup hc h1 hn hst).pxw fun v σ H Q q => by
    obtain ⟨s, H0, d, s', R, r, e, k⟩ := q
    cases d with
    | tup ds =>
      obtain ⟨a, xs, rfl, l, hq⟩ := rep_tup_sq r
      exact ⟨a, xs, rfl, R.h0.sqT hq, by rw [l.len]; exact hlen _ _ _ e, s, H0, ds, s', R, l, e, k⟩
    | _ => cases e
theorem ln_nil : ∀ ds s s', hNil ds s = some s' → ds.length = 0 := fun ds s s' h => by
  cases ds with
  | nil => rfl
  | cons d r => cases h
theorem ln_cons {g : FG} {h : FGs} {n : Nat} (hl : ∀ ds s s', h ds s = some s' → ds.length = n) : ∀ ds s s', hCons g h ds s = some s' → ds.length = n + 1 := fun ds s s' e => by
  cases ds with
  | nil => cases e
  | cons d r =>
    obtain ⟨s1, _, e2⟩ := bnd e
    rw [List.length_cons, hl _ _ _ e2]
/-- target = e, by frozen data -/
@[simp] def sAsg (f : F) (g : FG) : FS := fun s => (f s).bind fun a => (g a.1 a.2).bind fun s1 => some (.nx s1)
theorem is_asg {ts : List Nat} {g : FG} (he : PE X e (tF X.K B f)) (hg : PG X tg (tG X.K B ts g)) (hs : swapsWithSole [tg] e pos.line X.env = pure false := by rfl) (hw : swappedStores [tg] e X.env = pure none := by rfl) (h1 : (assignEach [tg] X.env).map (·.2) = [assign tg X.env] := by rfl) : PS X (.Assign [tg] e pos) (tS X.K B (sAsg f g)) :=
  (ps_asg he hg hs hw h1).pxw fun E σ H q => by
    obtain ⟨s, H0, out, R, ev, k⟩ := q
    obtain ⟨⟨d, s1⟩, e1, ev1⟩ := bnd ev
    obtain ⟨s2, e2, ev2⟩ := bnd ev1
    cases ev2
    exact ⟨s, H0, d, s1, R, e1, fun v H1 H' R1 x1 r1 => ⟨s1, H1, d, s2, R1, r1, e2, fun σ' H2 H2' R2 x2 _ => k σ' H2 H2' R2 (x1.trans x2)⟩⟩

/-! ### what is walked -/
abbrev FI := S → Option (List D × S)
def ItOk (K : PySem.W.Frag) (J : It) (H0 : Hp) (ds : List D) : Prop := ∀ (i : Nat) H1 H', Ex H0 H1 → Ex H1 H' →
  (∀ d, ds[i]? = some d → J.go i H' ∧ ∀ x H2, J.yld i H' x H2 → (H2 = H' ∧ Rep K H1 d x) ∨ ∃ T o, H' T = none ∧ H2 = upd H' T o ∧ Rep K (upd H1 T o) d x) ∧ (ds.length = i → J.stop i H')
def tI (K : PySem.W.Frag) (B : Bs) (f : FI) : TI := fun σ H Q => ∃ s H0 ds s', Rel K B s σ H0 H ∧ f s = some (ds, s') ∧ ∀ J H1 H', Rel K B s' σ H1 H' → Ex H0 H1 → ItOk K J H1 ds → Q J H'
@[simp] def iSeq (f : F) : FI := fun s => (f s).bind fun a => match a.1 with | .lst ds => some (ds, a.2) | .tup ds => some (ds, a.2) | _ => none
theorem itok_list {H0 : Hp} {p : Addr} {xs : List V} {ds : List D} (h : H0 p = some (.lst xs)) (l : RepL K H0 ds xs) : ItOk K (Itl K p) H0 ds := fun i H1 H' x1 x2 => by
  have hs : SqL K H' p xs := .of (x2 _ _ (x1 _ _ h))
  refine ⟨fun d hd => ?_, fun hi => ⟨xs, hs, by rw [l.len]; exact Nat.le_of_eq hi⟩⟩
  obtain ⟨x, ex, rx⟩ := l.get hd
  refine ⟨⟨xs, x, hs, ex⟩, fun y H2 hy => .inl ⟨hy.1, ?_⟩⟩
  have := hy.2 xs hs
  rw [ex] at this; cases this
  exact rx.up x1
theorem itok_tup {H0 : Hp} {p : Addr} {xs : List V} {ds : List D} (h : SqT K H0 p xs) (l : RepL K H0 ds xs) : ItOk K (Itt K p) H0 ds := fun i H1 H' x1 x2 => by
  have hs : SqT K H' p xs := (x1.trans x2).sqT h
  refine ⟨fun d hd => ?_, fun hi => ⟨xs, hs, by rw [l.len]; exact Nat.le_of_eq hi⟩⟩
  obtain ⟨x, ex, rx⟩ := l.get hd
  refine ⟨⟨xs, x, hs, ex⟩, fun y H2 hy => .inl ⟨hy.1, ?_⟩⟩
  have := hy.2 xs hs
  rw [ex] at this; cases this
  exact rx.up x1
theorem _root_.L2.PI.pxor {w1 w2 : TI} (h1 : PI X tg e w1) (h2 : PI X tg e w2) : PI X tg e (fun σ H R => w1 σ H R ∨ w2 σ H R) := ⟨fun pins s σ H R I q => by
  rcases q with q | q
  · exact h1.run pins s σ H R I q
  · exact h2.run pins s σ H R I q⟩
theorem ii_seq (h : PE X e (tF X.K B f)) : PI X tg e (tI X.K B (iSeq f)) := ((pi_list h).pxor (pi_tup h)).pxw fun σ H Q q => by
  obtain ⟨s, H0, ds, s', R, ev, k⟩ := q
  obtain ⟨⟨d, s1⟩, e1, ev1⟩ := bnd ev
  cases d with
  | lst es =>
    cases ev1
    refine .inl ⟨s, H0, _, _, R, e1, fun v H1 H' R1 x1 r1 => ?_⟩
    simp only [Rep] at r1
    obtain ⟨p, xs, rfl, l, hp⟩ := r1
    exact ⟨p, rfl, ⟨xs, .of (R1.h0 _ _ hp)⟩, k _ H1 H' R1 x1 (itok_list hp l)⟩
  | tup es =>
    cases ev1
    refine .inr ⟨s, H0, _, _, R, e1, fun v H1 H' R1 x1 r1 => ?_⟩
    obtain ⟨p, xs, rfl, l, hp⟩ := rep_tup_sq r1
    exact ⟨p, rfl, ⟨xs, R1.h0.sqT hp⟩, k _ H1 H' R1 x1 (itok_tup hp l)⟩
  | _ => cases ev1
/-- range(n), range(a, b) -/
def rng (lo : Int) (n : Nat) : List D := (List.range n).map fun i => .int (lo + (i : Nat))
def cRng (i : Int) : Bool := Nat.blt i.natAbs 1000000000
theorem cRng_inv {i : Int} (h : cRng i = true) : -(2 ^ 62) ≤ i ∧ i < 2 ^ 62 := by
  have : i.natAbs < 1000000000 := by simpa [cRng] using h
  omega
theorem cRng_of {i : Int} (h0 : 0 ≤ i) (h1 : i < 1000000) : cRng i = true := by
  have : i.natAbs < 1000000000 := by omega
  simpa [cRng] using this
@[simp] def iRng1 (f : F) : FI := fun s => (f s).bind fun a => match a.1 with | .int j => if cRng j then some (rng 0 j.toNat, a.2) else none | _ => none
theorem itok_rng {H0 : Hp} {lo : Int} {n : Nat} : ItOk K (Itr lo n) H0 (rng lo n) := fun i H1 H' x1 x2 => by
  refine ⟨fun d hd => ?_, fun hi => show n ≤ i from Nat.le_of_eq (by simpa [rng] using hi)⟩
  unfold rng at hd
  rw [List.getElem?_map] at hd
  have hi : i < n := by
    by_cases z : i < n
    · exact z
    · rw [List.getElem?_eq_none (by simpa using z)] at hd; cases hd
  rw [List.getElem?_range hi] at hd
  cases hd
  exact ⟨hi, fun x H2 hy => .inl ⟨hy.1, by rw [hy.2]; simp only [Rep]⟩⟩
theorem ii_range1 {p pos : Pos} (hg : Gl X "range") (hm : X.mg "range" = none) (ha : PE X a (tF X.K B fa)) (hs : starEach [a] X.env = [(false, eval a X.env)] := by rfl) : PI X tg (.Call (.Name "range" p) [a] [] pos) (tI X.K B (iRng1 fa)) := (pi_range1 hg hm (pa_cons ha pa_nil hs) hs).pxw fun σ H Q q => by
  obtain ⟨s, H0, ds, s', R, ev, k⟩ := q
  obtain ⟨⟨d, s1⟩, e1, ev1⟩ := bnd ev
  cases d with
  | int j =>
    dsimp only at ev1
    split at ev1
    · next hj =>
      cases ev1
      have hj' := cRng_inv hj
      refine ⟨s, H0, _, _, R, e1, fun v H1 H' R1 x1 r1 => ⟨j, by rw [rep_int r1], hj'.1, hj'.2, ?_⟩⟩
      exact k _ H1 H' R1 x1 itok_rng
    · cases ev1
  | _ => cases ev1
@[simp] def iRng2 (fa fb : F) : FI := fun s => (fa s).bind fun a => (fb a.2).bind fun b => match a.1, b.1 with | .int i, .int j => if cRng i && cRng j then some (rng i (j - i).toNat, b.2) else none | _, _ => none
theorem rng2_inv {fa fb : F} {s s' : S} {ds : List D} (h : iRng2 fa fb s = some (ds, s')) : ∃ i j s1, fa s = some (.int i, s1) ∧ fb s1 = some (.int j, s') ∧ cRng i = true ∧ cRng j = true ∧ ds = rng i (j - i).toNat := by
  obtain ⟨⟨d1, s1⟩, e1, h1⟩ := bnd h
  obtain ⟨⟨d2, s2⟩, e2, h2⟩ := bnd h1
  cases d1 with
  | int i =>
    cases d2 with
    | int j =>
      dsimp only at h2
      split at h2
      · next hc =>
        cases h2
        rw [Bool.and_eq_true] at hc
        exact ⟨i, j, s1, e1, e2, hc.1, hc.2, rfl⟩
      · cases h2
    | _ => cases h2
  | _ => cases h2
theorem ii_range2 {p pos : Pos} (hg : Gl X "range") (hm : X.mg "range" = none) (ha : PE X a (tF X.K B fa)) (hb : PE X b (tF X.K B fb)) (hs : starEach [a, b] X.env = [(false, eval a X.env), (false, eval b X.env)] := by rfl) (hs1 : starEach [a, b] X.env = (false, eval a X.env) :: starEach [b] X.env := by rfl) (hs2 : starEach [b] X.env = [(false, eval b X.env)] := by rfl) : PI X tg (.Call (.Name "range" p) [a, b] [] pos) (tI X.K B (iRng2 fa fb)) := (pi_range2 hg hm (pa_cons ha (pa_cons hb pa_nil hs2) hs1) hs hs2).pxw fun σ H Q q => by
  obtain ⟨s, H0, ds, s', R, ev, k⟩ := q
  obtain ⟨i, j, s1, e1, e2, c1, c2, rfl⟩ := rng2_inv ev
  have h1 := cRng_inv c1
  have h2 := cRng_inv c2
  exact ⟨s, H0, _, _, R, e1, fun v H1 H' R1 x1 r1 => ⟨s1, H1, _, _, R1, e2, fun w H2 H2' R2 x2 r2 => ⟨i, j, by rw [rep_int r1, rep_int r2], ⟨h1.1, h1.2, h2.1, h2.2⟩, k _ H2 H2' R2 (x1.trans x2) itok_rng⟩⟩⟩

/-! ### for, while -/
@[simp] def loopD (g : FG) (fb : FS) : List D → S → Option Out
  | [], s => some (.nx s)
  | d :: ds, s => (g d s).bind fun s1 => (fb s1).bind fun o => match o with
    | .nx s2 => loopD g fb ds s2
    | .ct s2 => loopD g fb ds s2
    | .bk s2 => some (.nx s2)
    | .ret o d s2 => some (.ret o d s2)
@[simp] def sFor (fi : FI) (g : FG) (fb : FS) : FS := fun s => (fi s).bind fun a => loopD g fb a.1 a.2
theorem is_for {iter : Expr} {body : List Stmt} {fi : FI} {ts : List Nat} {g : FG} (hp : PassesOwn (model X.prog X.w) X.A X.env X.xe) (hc : X.calm = true) (hi : PI X tg iter (tI X.K B fi)) (hg : PG X tg (tG X.K B ts g)) (hb : PSs X body (tS X.K B fs)) (hs : ∀ x, foldedSetIterable iter X.env x = pure x := by intro _; rfl) :
    PS X (.For tg iter body [] pos) (tS X.K B (sFor fi g fs)) := (ps_for hp hc hi hg hb hs).pxw fun E σ H q => by
  obtain ⟨s, H0, out, R, ev, k⟩ := q
  obtain ⟨⟨ds, s1⟩, e1, ev1⟩ := bnd ev
  refine ⟨s, H0, ds, s1, R, e1, fun J H1 H' R1 x1 ok => ?_⟩
  refine ⟨fun i m σ H => i + m = ds.length ∧ ∃ s2 H2, Rel X.K B s2 σ H2 H ∧ Ex H1 H2 ∧ loopD g fs (ds.drop i) s2 = some out, ⟨ds.length, by omega, s1, H1, R1, Ex.refl _, by rw [List.drop_zero]; exact ev1⟩, fun i m σ H hW => ?_⟩
  obtain ⟨hm, s2, H2, R2, x2, hl⟩ := hW
  cases hd : ds[i]? with
  | none =>
    have hi : ds.length ≤ i := by simpa using hd
    rw [List.drop_eq_nil_of_le hi] at hl
    cases hl
    exact .inl ⟨(ok i H2 H x2 R2.h0).2 (by omega), k σ H2 H R2 (x1.trans x2)⟩
  | some d =>
    have hi : i < ds.length := (List.getElem?_eq_some_iff.mp hd).1
    rw [List.drop_eq_getElem_cons hi] at hl
    have ed : ds[i] = d := (List.getElem?_eq_some_iff.mp hd).2
    rw [ed] at hl
    obtain ⟨s3, e3, hl1⟩ := bnd hl
    obtain ⟨o, e4, hl2⟩ := bnd hl1
    obtain ⟨hgo, hy⟩ := (ok i H2 H x2 R2.h0).1 d hd
    refine .inr ⟨hgo, fun σ' H' => i + 1 + (m - 1) = ds.length ∧ ∃ s2 H2, Rel X.K B s2 σ' H2 H' ∧ Ex H1 H2 ∧ loopD g fs (ds.drop (i + 1)) s2 = some out, fun σ' H' hN => ⟨m - 1, by omega, hN⟩, fun x Hy hyx => ?_⟩
    have key : ∃ H3, Rel X.K B s2 σ H3 Hy ∧ Ex H2 H3 ∧ Rep X.K H3 d x := by
      rcases hy x Hy hyx with ⟨rfl, r⟩ | ⟨T, o, hT, rfl, r⟩
      · exact ⟨H2, R2, Ex.refl _, r⟩
      · exact ⟨_, R2.laid hT, Ex.new (R2.fresh0 hT), r⟩
    obtain ⟨H3, R3, x3, r3⟩ := key
    refine ⟨s2, H3, d, s3, R3, r3, e3, fun σ4 H4 H4' R4 x4 _ => ⟨s3, H4, o, R4, e4, ?_⟩⟩
    have x14 : Ex H1 H4 := (x2.trans x3).trans x4
    cases o with
    | nx s5 => exact fun σ5 H5 H5' R5 x5 => ⟨by omega, s5, H5, R5, x14.trans x5, hl2⟩
    | ct s5 => exact fun σ5 H5 H5' R5 x5 => ⟨by omega, s5, H5, R5, x14.trans x5, hl2⟩
    | bk s5 => cases hl2; exact fun σ5 H5 H5' R5 x5 => k σ5 H5 H5' R5 (x1.trans (x14.trans x5))
    | ret oo dd s5 => cases hl2; exact fun v σ5 H5 H5' R5 x5 r5 => k v σ5 H5 H5' R5 (x1.trans (x14.trans x5)) r5
def whileD (t : TB) (fb : FS) : Nat → S → Option Out
  | 0, _ => none
  | n + 1, s => (t s).bind fun a => if a.1 then (fb a.2).bind fun o => match o with
    | .nx s2 => whileD t fb n s2
    | .ct s2 => whileD t fb n s2
    | .bk s2 => some (.nx s2)
    | .ret o d s2 => some (.ret o d s2)
    else some (.nx a.2)
def sWhile (μ : S → Nat) (t : TB) (fb : FS) : FS := fun s => whileD t fb (μ s) s
theorem is_while {body : List Stmt} {μ : S → Nat} (hp : PassesOwn (model X.prog X.w) X.A X.env X.xe) (hc : PT X c (tT X.K B ba)) (hb : PSs X body (tS X.K B fs)) : PS X (.While c body [] pos) (tS X.K B (sWhile μ ba fs)) := (ps_while hp hc hb).pxw fun E σ H q => by
  obtain ⟨s, H0, out, R, ev, k⟩ := q
  refine ⟨fun m σ H => ∃ s2 H2, Rel X.K B s2 σ H2 H ∧ Ex H0 H2 ∧ whileD ba fs m s2 = some out, ⟨μ s, s, H0, R, Ex.refl _, ev⟩, fun m σ H hW => ?_⟩
  obtain ⟨s2, H2, R2, x2, hw⟩ := hW
  cases m with
  | zero => cases hw
  | succ m =>
    obtain ⟨⟨r, s3⟩, e3, hw1⟩ := bnd hw
    refine ⟨s2, H2, r, s3, R2, e3, fun H3 H3' R3 x3 => ?_⟩
    cases r with
    | false =>
      cases hw1
      exact iteF (k σ H3 H3' R3 (x2.trans x3))
    | true =>
      obtain ⟨o, e4, hw2⟩ := bnd (show (fs s3).bind _ = some out from hw1)
      refine iteT ⟨fun σ' H' => ∃ s2 H2, Rel X.K B s2 σ' H2 H' ∧ Ex H0 H2 ∧ whileD ba fs m s2 = some out, fun σ' H' hN => ⟨m, Nat.lt_succ_self m, hN⟩, s3, H3, o, R3, e4, ?_⟩
      have x03 := x2.trans x3
      cases o with
      | nx s5 => exact fun σ5 H5 H5' R5 x5 => ⟨s5, H5, R5, x03.trans x5, hw2⟩
      | ct s5 => exact fun σ5 H5 H5' R5 x5 => ⟨s5, H5, R5, x03.trans x5, hw2⟩
      | bk s5 => cases hw2; exact fun σ5 H5 H5' R5 x5 => k σ5 H5 H5' R5 (x03.trans x5)
      | ret oo dd s5 => cases hw2; exact fun v σ5 H5 H5' R5 x5 r5 => k v σ5 H5 H5' R5 (x03.trans x5) r5
end

/-! ### an object pinned while a block runs -/
def Bs.pin (B : Bs) (q : Addr) (o : HO) : Bs := ⟨upd B.hE q o, upd B.hb q o, B.h0, B.rp⟩
section
variable {K : PySem.W.Frag} {B : Bs} {s : S} {σ : St} {H0 H : Hp} {q : Addr} {d : D} {o : HO}
theorem Rel.pin (R : Rel K B s σ H0 H) (w : OwnAt K B s σ H0 H q d) (ho : H q = some o) : Rel K (B.pin q o) s σ H0 H := by
  have noT : ∀ xs, o ≠ .tup xs := fun xs z => by
    obtain ⟨o1, ho1, hc1⟩ := w.ob
    rw [ho] at ho1; cases ho1
    rw [z] at hc1; exact hc1.noTup.elim
  have tp : ∀ b xs, H b = some (.tup xs) → Nw (B.pin q o).hE b (.tup xs) := fun b xs h => by
    have z : b ≠ q := fun z => by rw [z, ho] at h; cases h; exact noT _ rfl
    show Nw (upd B.hE q o) b (.tup xs)
    unfold Nw
    rw [upd_ne z]; exact R.tp b xs h
  refine ⟨tp, fun a u h => ?_, fun b h => ?_, R.z0, R.h0, fun b u h => ?_, R.len, R.sh, fun i m e h hm => ?_, R.ne⟩
  · by_cases z : a = q
    · subst z
      have h' : upd B.hb a o a = some u := h
      rw [upd_same] at h'; cases h'; exact ho
    · have h' : upd B.hb q o a = some u := h
      rw [upd_ne z] at h'; exact R.fr a u h'
  · have z : b ≠ q := fun z => by rw [z, ho] at h; cases h
    show upd B.hE q o b = none
    rw [upd_ne z]; exact R.dom b h
  · have z : b ≠ q := fun z => by rw [z, w.z] at h; cases h
    rcases R.new b u h with y | y
    · exact .inl y
    · refine .inr ?_
      show Nw (upd B.hE q o) b u
      unfold Nw
      rw [upd_ne z]; exact y
  · obtain ⟨p, ep, y⟩ := R.ow i m e h hm
    have z : p ≠ q := fun z => w.ne i m e h hm (by rw [ep, z])
    refine ⟨p, ep, y.z, ?_, fun hh => ?_, y.rf, y.ob⟩
    · show upd B.hb q o p = none
      rw [upd_ne z]; exact y.b
    · show upd B.hE q o p = none
      rw [upd_ne z]; exact y.ow hh
theorem Rel.unpin (R : Rel K (B.pin q o) s σ H0 H) (he : B.hE q = none) (hb : B.hb q = none) (h0 : B.h0 q = none) (hc : Cell K H0 o d) : Rel K B s σ H0 H ∧ OwnAt K B s σ H0 H q d ∧ H q = some o := by
  have ho : H q = some o := R.fr q o (show upd B.hb q o q = some o from upd_same)
  have hz : H0 q = none := by
    cases z : H0 q with
    | none => rfl
    | some u =>
      rcases R.new q u z with y | y | ⟨xs, rfl, y⟩
      · rw [show (B.pin q o).h0 q = B.h0 q from rfl, h0] at y; cases y
      · rw [show (B.pin q o).hE q = upd B.hE q o q from rfl, upd_same] at y; cases y
      · rw [show (B.pin q o).hE q = upd B.hE q o q from rfl, upd_same] at y; cases y; exact hc.noTup.elim
  have R' : Rel K B s σ H0 H := by
    have tp : ∀ b xs, H b = some (.tup xs) → Nw B.hE b (.tup xs) := fun b xs h => by
      have z : b ≠ q := fun z => by rw [z, ho] at h; cases h; exact hc.noTup.elim
      have y : Nw (upd B.hE q o) b (.tup xs) := R.tp b xs h
      unfold Nw at y
      rw [upd_ne z] at y; exact y
    refine ⟨tp, fun a u h => ?_, fun b h => ?_, R.z0, R.h0, fun b u h => ?_, R.len, R.sh, fun i m e h hm => ?_, R.ne⟩
    · have z : a ≠ q := fun z => by rw [z, hb] at h; cases h
      exact R.fr a u (show upd B.hb q o a = some u by rw [upd_ne z]; exact h)
    · have y : upd B.hE q o b = none := R.dom b h
      by_cases z : b = q
      · rw [z]; exact he
      · rw [upd_ne z] at y; exact y
    · rcases R.new b u h with y | y
      · exact .inl y
      · have y' : Nw (upd B.hE q o) b u := y
        by_cases z : b = q
        · rw [z]; exact .inr (.inl he)
        · unfold Nw at y'; rw [upd_ne z] at y'; exact .inr y'
    · obtain ⟨p, ep, y⟩ := R.ow i m e h hm
      have yb : upd B.hb q o p = none := y.b
      have z : p ≠ q := fun z => by rw [z, upd_same] at yb; cases yb
      rw [upd_ne z] at yb
      refine ⟨p, ep, y.z, yb, fun hh => ?_, y.rf, y.ob⟩
      have ye : upd B.hE q o p = none := y.ow hh
      rw [upd_ne z] at ye; exact ye
  refine ⟨R', ⟨hz, he, hb, ⟨o, ho, hc⟩, fun i m e h hm z => ?_⟩, ho⟩
  obtain ⟨p, ep, y⟩ := R.ow i m e h hm
  rw [ep] at z; cases z
  have yb : upd B.hb q o q = none := y.b
  rw [upd_same] at yb; cases yb
/-- a list that grows -/
theorem Rel.grow {o' : HO} {d' : D} (R : Rel K B s σ H0 H) (w : OwnAt K B s σ H0 H q d) (hc : Cell K H0 o' d') : Rel K B s σ H0 (upd H q o') ∧ OwnAt K B s σ H0 (upd H q o') q d' := by
  obtain ⟨o, ho, _⟩ := w.ob
  refine ⟨⟨R.tpCell hc, fun a u h => ?_, fun b h => ?_, R.z0, fun a u h => ?_, R.new, R.len, R.sh, fun i m e h hm => ?_, R.ne⟩, w.z, w.e, w.b, ⟨o', upd_same, hc⟩, w.ne⟩
  · have z : a ≠ q := fun z => by rw [z, w.b] at h; cases h
    rw [upd_ne z]; exact R.fr a u h
  · have z : b ≠ q := fun z => by rw [z, upd_same] at h; cases h
    rw [upd_ne z] at h; exact R.dom b h
  · have z : a ≠ q := fun z => by rw [z, w.z] at h; cases h
    rw [upd_ne z]; exact R.h0 a u h
  · obtain ⟨p, ep, y⟩ := R.ow i m e h hm
    have z : p ≠ q := fun z => w.ne i m e h hm (by rw [ep, z])
    exact ⟨p, ep, y.up (Ex.refl _) y.z (upd_ne z)⟩
end

/-! ### a block's own slots -/
@[simp] def wipeS (s : S) : List Nat → S
  | [] => s
  | v :: vs => (wipeS s vs).set v none
theorem wipeS_len (s : S) : ∀ vs, (wipeS s vs).length = s.length
  | [] => rfl
  | v :: vs => by show ((wipeS s vs).set v none).length = _; rw [List.length_set, wipeS_len s vs]
theorem wipeS_some {s : S} {i : Nat} {x : Sl} : ∀ {vs : List Nat}, (wipeS s vs)[i]? = some (some x) → s[i]? = some (some x) ∧ i ∉ vs
  | [], h => ⟨h, by simp⟩
  | v :: vs, h => by
    rcases set_get (show ((wipeS s vs).set v none)[i]? = _ from h) with ⟨_, z⟩ | ⟨z, h'⟩
    · cases z
    · obtain ⟨h1, h2⟩ := wipeS_some h'
      exact ⟨h1, by simp [z, h2]⟩
@[simp] def restS (s1 s2 : S) : List Nat → S
  | [] => s2
  | v :: vs => (restS s1 s2 vs).set v (s1.getD v none)
theorem restS_len (s1 s2 : S) : ∀ vs, (restS s1 s2 vs).length = s2.length
  | [] => rfl
  | v :: vs => by show ((restS s1 s2 vs).set v _).length = _; rw [List.length_set, restS_len s1 s2 vs]
theorem restS_some {s1 s2 : S} {i : Nat} {x : Sl} : ∀ {vs : List Nat}, (restS s1 s2 vs)[i]? = some (some x) → (s1[i]? = some (some x) ∧ i ∈ vs) ∨ (s2[i]? = some (some x) ∧ i ∉ vs)
  | [], h => .inr ⟨h, by simp⟩
  | v :: vs, h => by
    rcases set_get (show ((restS s1 s2 vs).set v _)[i]? = _ from h) with ⟨z, e⟩ | ⟨z, h'⟩
    · subst z
      refine .inl ⟨?_, by simp⟩
      rw [List.getD_eq_getElem?_getD] at e
      cases q : s1[i]? with
      | none => rw [q] at e; cases e
      | some y => rw [q] at e; rw [show y = some x from e.symm]
    · rcases restS_some h' with ⟨h1, h2⟩ | ⟨h1, h2⟩
      · exact .inl ⟨h1, by simp [h2]⟩
      · exact .inr ⟨h1, by simp [z, h2]⟩
section
variable {K : PySem.W.Frag} {B : Bs} {s : S} {σ : St} {H0 H : Hp} {q : Addr} {d : D} {o : HO}
theorem Rel.wipe (R : Rel K B s σ H0 H) (vs : List Nat) : Rel K B (wipeS s vs) (L2.wipe σ vs) H0 H := by
  refine ⟨R.tp, R.fr, R.dom, R.z0, R.h0, R.new, by rw [wipeS_len, wipe_length]; exact R.len, fun i d h => ?_, fun i m d h hm => ?_, fun i j m n d e p h1 hm h2 hn e1 e2 => ?_⟩
  · obtain ⟨h1, h2⟩ := wipeS_some h
    obtain ⟨v, ev, r⟩ := R.sh i d h1
    exact ⟨v, by rw [wipe_out h2]; exact ev, r⟩
  · obtain ⟨h1, h2⟩ := wipeS_some h
    obtain ⟨v, ev, r⟩ := R.ow i m d h1 hm
    exact ⟨v, by rw [wipe_out h2]; exact ev, r⟩
  · obtain ⟨h1', g1⟩ := wipeS_some h1
    obtain ⟨h2', g2⟩ := wipeS_some h2
    rw [wipe_out g1] at e1
    rw [wipe_out g2] at e2
    exact R.ne i j m n d e p h1' hm h2' hn e1 e2
theorem OwnAt.wipe (w : OwnAt K B s σ H0 H q d) (vs : List Nat) : OwnAt K B (wipeS s vs) (L2.wipe σ vs) H0 H q d := ⟨w.z, w.e, w.b, w.ob, fun i m e h hm z => by
  obtain ⟨h1, h2⟩ := wipeS_some h
  rw [wipe_out h2] at z
  exact w.ne i m e h1 hm z⟩
theorem isOwn_no {s : S} {i : Nat} {m : Md} {d : D} (h : isOwn s i = false) (e : s[i]? = some (some (m, d))) : m = .sh := by
  unfold isOwn at h
  rw [e] at h
  cases m with
  | sh => rfl
  | ow => cases h
  | rf => cases h
theorem Rel.rest {s1 : S} {Ha Hb : Hp} {vs : List Nat} (Ra : Rel K B s1 σ Ha Hb) (hv : ∀ i ∈ vs, isOwn s1 i = false) (x : Ex Ha H0) (R : Rel K B s (L2.wipe σ vs) H0 H) : Rel K B (restS s1 s vs) σ H0 H := by
  refine ⟨R.tp, R.fr, R.dom, R.z0, R.h0, R.new, by rw [restS_len, R.len, wipe_length], fun i d h => ?_, fun i m d h hm => ?_, fun i j m n d e p h1 hm h2 hn e1 e2 => ?_⟩
  · rcases restS_some h with ⟨h1, _⟩ | ⟨h1, h2⟩
    · obtain ⟨v, ev, r⟩ := Ra.sh i d h1
      exact ⟨v, ev, r.up x⟩
    · obtain ⟨v, ev, r⟩ := R.sh i d h1
      exact ⟨v, by rw [wipe_out h2] at ev; exact ev, r⟩
  · rcases restS_some h with ⟨h1, h2⟩ | ⟨h1, h2⟩
    · exact absurd (isOwn_no (hv i h2) h1) hm
    · obtain ⟨v, ev, r⟩ := R.ow i m d h1 hm
      exact ⟨v, by rw [wipe_out h2] at ev; exact ev, r⟩
  · rcases restS_some h1 with ⟨g1, i1⟩ | ⟨g1, i1⟩
    · exact absurd (isOwn_no (hv i i1) g1) hm
    rcases restS_some h2 with ⟨g2, i2⟩ | ⟨g2, i2⟩
    · exact absurd (isOwn_no (hv j i2) g2) hn
    exact R.ne i j m n d e p g1 hm g2 hn (by rw [wipe_out i1]; exact e1) (by rw [wipe_out i2]; exact e2)
theorem OwnAt.rest {s1 : S} {Ha Hb : Hp} {vs : List Nat} (hv : ∀ i ∈ vs, isOwn s1 i = false) (w : OwnAt K B s (L2.wipe σ vs) H0 H q d) : OwnAt K B (restS s1 s vs) σ H0 H q d := ⟨w.z, w.e, w.b, w.ob, fun i m e h hm z => by
  rcases restS_some h with ⟨h1, h2⟩ | ⟨h1, h2⟩
  · exact absurd (isOwn_no (hv i h2) h1) hm
  · exact w.ne i m e h1 hm (by rw [wipe_out h2]; exact z)⟩
theorem wipe_get {σ : St} {i : Nat} : ∀ {vs : List Nat}, i ∈ vs → i < σ.length → (L2.wipe σ vs)[i]? = some none
  | [], h, _ => by simp at h
  | v :: vs, h, hl => by
    show ((L2.wipe σ vs).set v none)[i]? = some none
    by_cases z : i = v
    · subst z; exact List.getElem?_set_self (by rw [wipe_length]; exact hl)
    · rw [List.getElem?_set_ne (Ne.symm z)]
      exact wipe_get (by simpa [z] using h) hl
theorem Keeps.wipe {ts vs : List Nat} {σ σ' : St} (k : Keeps ts (L2.wipe σ vs) σ') (h : ∀ i ∈ ts, i ∈ vs) : L2.wipe σ' vs = L2.wipe σ vs := by
  have hl : σ'.length = σ.length := by rw [k.1, wipe_length]
  refine List.ext_getElem? fun i => ?_
  by_cases z : i ∈ vs
  · by_cases hi : i < σ.length
    · rw [wipe_get z hi, wipe_get z (by rw [hl]; exact hi)]
    · rw [List.getElem?_eq_none (by rw [wipe_length, hl]; omega), List.getElem?_eq_none (by rw [wipe_length]; omega)]
  · rw [wipe_out z, k.2 i (fun y => z (h i y))]
end
end Px

set_option Elab.async false
set_option linter.all false
set_option maxRecDepth 100000
set_option maxHeartbeats 1000000
/-! Px7: comprehensions, defs -/
namespace Px
open PySem L2
section
variable {X : Cx} {B : Bs} {a b c e tg : Expr} {pos p apos : Pos} {fa fb fc f : F} {K : PySem.W.Frag} {σ : St} {H : Hp} {x y : Str} {k n : Nat} {es : List Expr} {st : Stmt} {fs gs : FS}
/-! ### tests of a comprehension -/
@[simp] def bYes : TB := fun s => some (true, s)
theorem _root_.L2.PTs.pxw {ifs : List Expr} {t t' : TT} (h : PTs X ifs t) (w : ∀ σ H Q, t' σ H Q → t σ H Q) : PTs X ifs t' := ⟨fun pins s σ H Q I q => h.run pins s σ H Q I (w σ H Q q)⟩
theorem its_nil : PTs X [] (tT X.K B bYes) := pts_nil.pxw fun σ H Q q => by
  obtain ⟨s, H0, r, s', R, ev, k⟩ := q
  cases ev
  exact k H0 H R (Ex.refl _)
theorem its_one {ba : TB} (h : PT X c (tT X.K B ba)) : PTs X [c] (tT X.K B ba) := pts_one h
/-! ### list comprehensions -/
@[simp] def compD (g : FG) (t : TB) (fe : F) (vs : List Nat) : List D → S → List D → Option (List D × S)
  | [], s, acc => some (acc, s)
  | d :: ds, s, acc => (g d s).bind fun s1 => (t s1).bind fun b => if b.1 then (fe b.2).bind fun r => if small acc.length then compD g t fe vs ds (wipeS r.2 vs) (acc ++ [r.1]) else none else compD g t fe vs ds (wipeS b.2 vs) acc
@[simp] def noOwn (s : S) (vs : List Nat) : Bool := vs.all fun i => !isOwn s i
theorem noOwn_inv {s : S} {vs : List Nat} (h : noOwn s vs = true) : ∀ i ∈ vs, isOwn s i = false := fun i hi => by
  have := List.all_eq_true.mp h i hi
  simpa using this
@[simp] def eLc (fi : FI) (g : FG) (t : TB) (fe : F) (vs : List Nat) : F := fun s => (fi s).bind fun a => if noOwn a.2 vs then (compD g t fe vs a.1 (wipeS a.2 vs) []).bind fun r => some (.lst r.1, restS a.2 r.2 vs) else none
theorem rd_lc {K : PySem.W.Frag} {fi : FI} {ts : List Nat} {g : FG} {t : TB} {fe : F} {vs : List Nat} {σ : St} {H : Hp} {Q : VK} (hts : ∀ i ∈ ts, i ∈ vs) (q : tO K B (eLc fi g t fe vs) σ H Q) :
    tLc (tI K B fi) (fun v σ H Q => ∃ B, tG K B ts g v σ H Q) (fun σ H Q => ∃ B, tT K B t σ H Q) (fun σ H Q => ∃ B, tF K B fe σ H Q) vs σ H Q := by
  obtain ⟨s, H0, r, s', R, ev, k⟩ := q
  obtain ⟨⟨ds, s1⟩, e1, ev1⟩ := bnd ev
  dsimp only at ev1
  split at ev1
  · next hno =>
    have hv := noOwn_inv hno
    obtain ⟨⟨out, sf⟩, e2, ev2⟩ := bnd ev1
    cases ev2
    refine ⟨s, H0, ds, s1, R, e1, fun J H1 H' R1 x1 ok D hD => ?_⟩
    -- what holds between two turns
    refine ⟨fun i m H => i + m = ds.length ∧ ∃ s2 H2 acc xs, Rel K B s2 (L2.wipe σ vs) H2 H ∧ Ex H1 H2 ∧ OwnAt K B s2 (L2.wipe σ vs) H2 H D (.lst acc) ∧ H D = some (.lst xs) ∧ RepL K H2 acc xs ∧ compD g t fe vs (ds.drop i) s2 acc = some (out, sf),
      ⟨ds.length, by omega, wipeS s1 vs, H1, [], [], (R1.laidO hD).wipe vs, Ex.refl _, (R1.ownNew (o := .lst []) (d := .lst []) hD ⟨[], rfl, .nil⟩).wipe vs, upd_same, .nil, by rw [List.drop_zero]; exact e2⟩, fun i m H hW => ?_⟩
    obtain ⟨hm, s2, H2, acc, xs, R2, x2, w2, hD2, l2, hc⟩ := hW
    cases hd : ds[i]? with
    | none =>
      have hi : ds.length ≤ i := by simpa using hd
      rw [List.drop_eq_nil_of_le hi] at hc
      cases hc
      refine .inl ⟨(ok i H2 H x2 R2.h0).2 (by omega), k D H2 H (R1.rest hv x2 R2) (x1.trans x2) (OwnAt.rest (Ha := H1) (Hb := H') hv w2)⟩
    | some d =>
      have hi : i < ds.length := (List.getElem?_eq_some_iff.mp hd).1
      rw [List.drop_eq_getElem_cons hi, (List.getElem?_eq_some_iff.mp hd).2] at hc
      obtain ⟨s3, e3, hc1⟩ := bnd hc
      obtain ⟨⟨b, s4⟩, e4, hc2⟩ := bnd hc1
      obtain ⟨hgo, hy⟩ := (ok i H2 H x2 R2.h0).1 d hd
      refine .inr ⟨hgo, fun H' => i + 1 + (m - 1) = ds.length ∧ ∃ s2 H2 acc xs, Rel K B s2 (L2.wipe σ vs) H2 H' ∧ Ex H1 H2 ∧ OwnAt K B s2 (L2.wipe σ vs) H2 H' D (.lst acc) ∧ H' D = some (.lst xs) ∧ RepL K H2 acc xs ∧ compD g t fe vs (ds.drop (i + 1)) s2 acc = some (out, sf),
        fun H' hN => ⟨m - 1, by omega, hN⟩, fun x Hy hyx => ?_⟩
      have key : ∃ H3, Rel K B s2 (L2.wipe σ vs) H3 Hy ∧ Ex H2 H3 ∧ Rep K H3 d x ∧ OwnAt K B s2 (L2.wipe σ vs) H3 Hy D (.lst acc) ∧ Hy D = some (.lst xs) := by
        rcases hy x Hy hyx with ⟨rfl, r⟩ | ⟨T, o, hT, rfl, r⟩
        · exact ⟨H2, R2, Ex.refl _, r, w2, hD2⟩
        · have ne : D ≠ T := ne_of_none hD2 hT
          refine ⟨_, R2.laid hT, Ex.new (R2.fresh0 hT), r, ⟨by rw [upd_ne ne]; exact w2.z, w2.e, w2.b, ⟨_, by rw [upd_ne ne]; exact hD2, xs, rfl, l2.up (Ex.new (R2.fresh0 hT))⟩, w2.ne⟩, by rw [upd_ne ne]; exact hD2⟩
      obtain ⟨H3, R3, x3, r3, w3, hD3⟩ := key
      have zE : B.hE D = none := w3.e
      have zb : B.hb D = none := w3.b
      have z0 : B.h0 D = none := R3.z0.back w3.z
      refine ⟨B.pin D (.lst xs), s2, H3, d, s3, R3.pin w3 hD3, r3, e3, fun σ4 H4 H4' R4 x4 k4 => ⟨k4.wipe hts, ?_⟩⟩
      refine ⟨B.pin D (.lst xs), s3, H4, b, s4, R4, e4, fun H5 H5' R5 x5 => ?_⟩
      have x15 : Ex H1 H5 := ((x2.trans x3).trans x4).trans x5
      have x25 : Ex H2 H5 := (x3.trans x4).trans x5
      cases b with
      | false =>
        refine iteF ⟨by omega, ?_⟩
        obtain ⟨R6, w6, hD6⟩ := R5.unpin zE zb z0 (d := .lst acc) ⟨xs, rfl, l2.up x25⟩
        have R7 := R6.wipe vs
        have w7 := w6.wipe vs
        rw [k4.wipe hts] at R7 w7
        exact ⟨wipeS s4 vs, H5, acc, xs, R7, x15, w7, hD6, l2.up x25, hc2⟩
      | true =>
        refine iteT ?_
        obtain ⟨⟨re, s5⟩, e5, hc3⟩ := bnd (show (fe s4).bind _ = some (out, sf) from hc2)
        dsimp only at hc3
        split at hc3
        · next hsm =>
          refine ⟨B.pin D (.lst xs), s4, H5, re, s5, R5, e5, fun y H6 H6' R6 x6 r6 => ?_⟩
          have l6 := l2.up (x25.trans x6)
          obtain ⟨R7, w7, hD7⟩ := R6.unpin zE zb z0 (d := .lst acc) ⟨xs, rfl, l6⟩
          obtain ⟨R8, w8⟩ := R7.grow w7 (o' := .lst (xs ++ [y])) (d' := .lst (acc ++ [re])) ⟨_, rfl, l6.append (.cons r6 .nil)⟩
          refine ⟨xs, hD7, by rw [l6.len]; exact small_lt hsm, by omega, wipeS s5 vs, H6, acc ++ [re], xs ++ [y], ?_, x15.trans x6, ?_, upd_same, l6.append (.cons r6 .nil), hc3⟩
          · have := R8.wipe vs; rw [k4.wipe hts] at this; exact this
          · have := w8.wipe vs; rw [k4.wipe hts] at this; exact this
        · cases hc3
  · cases ev1
theorem io_lc {elt iter : Expr} {ifs : List Expr} {scope : Scope} {own : List (Str × Nat)} {fi : FI} {ts : List Nat} {g : FG} {t : TB} {fe : F} (hc : X.calm = true) (hN : X.N.Nodup) (hi : PI X tg iter (tI X.K B fi)) (ok : BlkOk X.N X.env.scope scope own)
    (hg : ∀ (B : Bs) (s : Shared) (H : Hp) (C : Addr) (cl : List (Str × Addr)) (fp : List Addr), PG (X.blk s H scope (compEnvC scope cl C X.env) fp) tg (tG X.K B ts g))
    (ht : ∀ (B : Bs) (s : Shared) (H : Hp) (C : Addr) (cl : List (Str × Addr)) (fp : List Addr), PTs (X.blk s H scope (compEnvC scope cl C X.env) fp) ifs (tT X.K B t))
    (he : ∀ (B : Bs) (s : Shared) (H : Hp) (C : Addr) (cl : List (Str × Addr)) (fp : List Addr), PE (X.blk s H scope (compEnvC scope cl C X.env) fp) elt (tF X.K B fe)) (hts : ∀ i ∈ ts, i ∈ own.map (·.2) := by decide)
    (hs : ∀ x, foldedSetIterable iter X.env x = pure x := by intro _; rfl) : PE X (.ListComp elt [⟨tg, iter, ifs, 0⟩] scope pos) (tO X.K B (eLc fi g t fe (own.map (·.2)))) :=
  (pe_lc hc hN hi ok (g := fun v σ H Q => ∃ B, tG X.K B ts g v σ H Q) (tt := fun σ H Q => ∃ B, tT X.K B t σ H Q) (te := fun σ H Q => ∃ B, tF X.K B fe σ H Q)
    (fun s H C cl fp => ⟨fun pins s' σ H' v u Q I r ⟨B, q⟩ => (hg B s H C cl fp).run pins s' σ H' v u Q I r q⟩)
    (fun s H C cl fp => ⟨fun pins s' σ H' Q I ⟨B, q⟩ => (ht B s H C cl fp).run pins s' σ H' Q I q⟩)
    (fun s H C cl fp => ⟨fun pins s' σ H' Q I ⟨B, q⟩ => (he B s H C cl fp).run pins s' σ H' Q I q⟩) hs).pxw fun σ H Q q => rd_lc hts q
/-- y = [..] -/
theorem is_setLc {i : Nat} {y : Str} {py spos : Pos} {elt iter : Expr} {ifs : List Expr} {scope : Scope} {own : List (Str × Nat)} {fi : FI} {ts : List Nat} {g : FG} {t : TB} {fe : F} (hc : X.calm = true) (hN : X.N.Nodup) (hy : X.N[i]? = some y) (hyl : X.env.scope.names.lookup y = some .local)
    (hsw : swapsWith (.ListComp elt [⟨tg, iter, ifs, 0⟩] scope pos) (some (.Name y py)) spos.line X.env = pure true) (hi : PI X tg iter (tI X.K B fi)) (ok : BlkOk X.N X.env.scope scope own)
    (hg : ∀ (B : Bs) (s : Shared) (H : Hp) (C : Addr) (cl : List (Str × Addr)) (fp : List Addr), PG (X.blk s H scope (compEnvC scope cl C X.env) fp) tg (tG X.K B ts g))
    (ht : ∀ (B : Bs) (s : Shared) (H : Hp) (C : Addr) (cl : List (Str × Addr)) (fp : List Addr), PTs (X.blk s H scope (compEnvC scope cl C X.env) fp) ifs (tT X.K B t))
    (he : ∀ (B : Bs) (s : Shared) (H : Hp) (C : Addr) (cl : List (Str × Addr)) (fp : List Addr), PE (X.blk s H scope (compEnvC scope cl C X.env) fp) elt (tF X.K B fe)) (hts : ∀ i ∈ ts, i ∈ own.map (·.2) := by decide)
    (hs : ∀ x, foldedSetIterable iter X.env x = pure x := by intro _; rfl) : PS X (.Assign [.Name y py] (.ListComp elt [⟨tg, iter, ifs, 0⟩] scope pos) spos) (tS X.K B (sSetO i (eLc fi g t fe (own.map (·.2))))) :=
  (ps_setLc hc hN hy hyl hsw hi ok (g := fun v σ H Q => ∃ B, tG X.K B ts g v σ H Q) (tt := fun σ H Q => ∃ B, tT X.K B t σ H Q) (te := fun σ H Q => ∃ B, tF X.K B fe σ H Q)
    (fun s H C cl fp => ⟨fun pins s' σ H' v u Q I r ⟨B, q⟩ => (hg B s H C cl fp).run pins s' σ H' v u Q I r q⟩)
    (fun s H C cl fp => ⟨fun pins s' σ H' Q I ⟨B, q⟩ => (ht B s H C cl fp).run pins s' σ H' Q I q⟩)
    (fun s H C cl fp => ⟨fun pins s' σ H' Q I ⟨B, q⟩ => (he B s H C cl fp).run pins s' σ H' Q I q⟩) hs).pxw fun E σ H q => by
  obtain ⟨s, H0, out, R, ev, k⟩ := q
  obtain ⟨a, e1, e2⟩ := bnd ev
  cases e2
  exact rd_lc hts ⟨s, H0, a.1, a.2, R, e1, fun p H1 H' R1 x1 w => k _ H1 H' (R1.setO w) x1⟩
/-! ### dict comprehensions (int and text keys) -/
@[simp] def dcompD (g : FG) (t : TB) (fk fv : F) (vs : List Nat) : List D → S → List Key → List D → Option ((List Key × List D) × S)
  | [], s, ks, acc => some ((ks, acc), s)
  | d :: ds, s, ks, acc => (g d s).bind fun s1 => (t s1).bind fun b => if b.1 then (fk b.2).bind fun rk => (fv rk.2).bind fun r => (key? rk.1).bind fun key => if small ks.length then dcompD g t fk fv vs ds (wipeS r.2 vs) (putD ks acc key r.1).1 (putD ks acc key r.1).2 else none else dcompD g t fk fv vs ds (wipeS b.2 vs) ks acc
@[simp] def eDc (fi : FI) (g : FG) (t : TB) (fk fv : F) (vs : List Nat) : F := fun s => (fi s).bind fun a => if noOwn a.2 vs then (dcompD g t fk fv vs a.1 (wipeS a.2 vs) [] []).bind fun r => some (.dK r.1.1 r.1.2, restS a.2 r.2 vs) else none
theorem rd_dc {K : PySem.W.Frag} {fi : FI} {ts : List Nat} {g : FG} {t : TB} {fk fv : F} {vs : List Nat} {σ : St} {H : Hp} {Q : VK} (hts : ∀ i ∈ ts, i ∈ vs) (q : tO K B (eDc fi g t fk fv vs) σ H Q) :
    tDc (tI K B fi) (fun v σ H Q => ∃ B, tG K B ts g v σ H Q) (fun σ H Q => ∃ B, tT K B t σ H Q) (fun σ H Q => ∃ B, tF K B fk σ H Q) (fun σ H Q => ∃ B, tF K B fv σ H Q) vs σ H Q := by
  obtain ⟨s, H0, r, s', R, ev, k⟩ := q
  obtain ⟨⟨ds, s1⟩, e1, ev1⟩ := bnd ev
  dsimp only at ev1
  split at ev1
  · next hno =>
    have hv := noOwn_inv hno
    obtain ⟨⟨⟨ok1, out⟩, sf⟩, e2, ev2⟩ := bnd ev1
    cases ev2
    refine ⟨s, H0, ds, s1, R, e1, fun J H1 H' R1 x1 ok D hD => ?_⟩
    refine ⟨fun i m H => i + m = ds.length ∧ ∃ s2 H2 ks acc xs, Rel K B s2 (L2.wipe σ vs) H2 H ∧ Ex H1 H2 ∧ OwnAt K B s2 (L2.wipe σ vs) H2 H D (.dK ks acc) ∧ H D = some (.dK (ks.zip xs)) ∧ ks.length = acc.length ∧ RepL K H2 acc xs ∧ dcompD g t fk fv vs (ds.drop i) s2 ks acc = some ((ok1, out), sf),
      ⟨ds.length, by omega, wipeS s1 vs, H1, [], [], [], (R1.laidO hD).wipe vs, Ex.refl _, (R1.ownNew (o := .dK []) (d := .dK [] []) hD ⟨[], rfl, rfl, .nil⟩).wipe vs, upd_same, rfl, .nil, by rw [List.drop_zero]; exact e2⟩, fun i m H hW => ?_⟩
    obtain ⟨hm, s2, H2, ks, acc, xs, R2, x2, w2, hD2, hl2, l2, hc⟩ := hW
    cases hd : ds[i]? with
    | none =>
      have hi : ds.length ≤ i := by simpa using hd
      rw [List.drop_eq_nil_of_le hi] at hc
      cases hc
      refine .inl ⟨(ok i H2 H x2 R2.h0).2 (by omega), k D H2 H (R1.rest hv x2 R2) (x1.trans x2) (OwnAt.rest (Ha := H1) (Hb := H') hv w2)⟩
    | some d =>
      have hi : i < ds.length := (List.getElem?_eq_some_iff.mp hd).1
      rw [List.drop_eq_getElem_cons hi, (List.getElem?_eq_some_iff.mp hd).2] at hc
      obtain ⟨s3, e3, hc1⟩ := bnd hc
      obtain ⟨⟨b, s4⟩, e4, hc2⟩ := bnd hc1
      obtain ⟨hgo, hy⟩ := (ok i H2 H x2 R2.h0).1 d hd
      refine .inr ⟨hgo, fun H' => i + 1 + (m - 1) = ds.length ∧ ∃ s2 H2 ks acc xs, Rel K B s2 (L2.wipe σ vs) H2 H' ∧ Ex H1 H2 ∧ OwnAt K B s2 (L2.wipe σ vs) H2 H' D (.dK ks acc) ∧ H' D = some (.dK (ks.zip xs)) ∧ ks.length = acc.length ∧ RepL K H2 acc xs ∧ dcompD g t fk fv vs (ds.drop (i + 1)) s2 ks acc = some ((ok1, out), sf),
        fun H' hN => ⟨m - 1, by omega, hN⟩, fun x Hy hyx => ?_⟩
      have key : ∃ H3, Rel K B s2 (L2.wipe σ vs) H3 Hy ∧ Ex H2 H3 ∧ Rep K H3 d x ∧ OwnAt K B s2 (L2.wipe σ vs) H3 Hy D (.dK ks acc) ∧ Hy D = some (.dK (ks.zip xs)) := by
        rcases hy x Hy hyx with ⟨rfl, r⟩ | ⟨T, o, hT, rfl, r⟩
        · exact ⟨H2, R2, Ex.refl _, r, w2, hD2⟩
        · have ne : D ≠ T := ne_of_none hD2 hT
          refine ⟨_, R2.laid hT, Ex.new (R2.fresh0 hT), r, ⟨by rw [upd_ne ne]; exact w2.z, w2.e, w2.b, ⟨_, by rw [upd_ne ne]; exact hD2, xs, rfl, hl2, l2.up (Ex.new (R2.fresh0 hT))⟩, w2.ne⟩, by rw [upd_ne ne]; exact hD2⟩
      obtain ⟨H3, R3, x3, r3, w3, hD3⟩ := key
      have zE : B.hE D = none := w3.e
      have zb : B.hb D = none := w3.b
      have z0 : B.h0 D = none := R3.z0.back w3.z
      refine ⟨B.pin D (.dK (ks.zip xs)), s2, H3, d, s3, R3.pin w3 hD3, r3, e3, fun σ4 H4 H4' R4 x4 k4 => ⟨k4.wipe hts, ?_⟩⟩
      refine ⟨B.pin D (.dK (ks.zip xs)), s3, H4, b, s4, R4, e4, fun H5 H5' R5 x5 => ?_⟩
      have x15 : Ex H1 H5 := ((x2.trans x3).trans x4).trans x5
      have x25 : Ex H2 H5 := (x3.trans x4).trans x5
      cases b with
      | false =>
        refine iteF ⟨by omega, ?_⟩
        obtain ⟨R6, w6, hD6⟩ := R5.unpin zE zb z0 (d := .dK ks acc) ⟨xs, rfl, hl2, l2.up x25⟩
        have R7 := R6.wipe vs
        have w7 := w6.wipe vs
        rw [k4.wipe hts] at R7 w7
        exact ⟨wipeS s4 vs, H5, ks, acc, xs, R7, x15, w7, hD6, hl2, l2.up x25, hc2⟩
      | true =>
        refine iteT ?_
        obtain ⟨⟨rk, s5⟩, e5, hc3⟩ := bnd (show (fk s4).bind _ = some ((ok1, out), sf) from hc2)
        obtain ⟨⟨re, s6⟩, e6, hc4⟩ := bnd hc3
        obtain ⟨key, ek, hc5⟩ := bnd hc4
        dsimp only at hc5
        split at hc5
        · next hsm =>
          refine ⟨B.pin D (.dK (ks.zip xs)), s4, H5, rk, s5, R5, e5, fun yk H6 H6' R6 x6 r6 => ⟨B.pin D (.dK (ks.zip xs)), s5, H6, re, s6, R6, e6, fun y H7 H7' R7 x7 r7 => ?_⟩⟩
          have l7 := l2.up ((x25.trans x6).trans x7)
          obtain ⟨R8, w8, hD8⟩ := R7.unpin zE zb z0 (d := .dK ks acc) ⟨xs, rfl, hl2, l7⟩
          obtain ⟨ys, ry, ey⟩ := put_rep (k := key) l7 hl2 r7
          obtain ⟨R9, w9⟩ := R8.grow w8 (o' := .dK (putK (ks.zip xs) key y)) (d' := .dK (putD ks acc key re).1 (putD ks acc key re).2) ⟨ys, by rw [ey], putD_len hl2, ry⟩
          refine ⟨_, key, key_inv ek r6, hD8, by rw [zip_length (hl2.trans l7.len.symm)]; exact small_lt hsm, by omega, wipeS s6 vs, H7, _, _, ys, ?_, (x15.trans x6).trans x7, ?_, by rw [upd_same, ey], putD_len hl2, ry, hc5⟩
          · have := R9.wipe vs; rw [k4.wipe hts] at this; exact this
          · have := w9.wipe vs; rw [k4.wipe hts] at this; exact this
        · cases hc5
  · cases ev1
theorem io_dc {kx vx iter : Expr} {ifs : List Expr} {scope : Scope} {own : List (Str × Nat)} {fi : FI} {ts : List Nat} {g : FG} {t : TB} {fk fv : F} (hc : X.calm = true) (hN : X.N.Nodup) (hi : PI X tg iter (tI X.K B fi)) (ok : BlkOk X.N X.env.scope scope own)
    (hg : ∀ (B : Bs) (s : Shared) (H : Hp) (C : Addr) (cl : List (Str × Addr)) (fp : List Addr), PG (X.blk s H scope (compEnvC scope cl C X.env) fp) tg (tG X.K B ts g))
    (ht : ∀ (B : Bs) (s : Shared) (H : Hp) (C : Addr) (cl : List (Str × Addr)) (fp : List Addr), PTs (X.blk s H scope (compEnvC scope cl C X.env) fp) ifs (tT X.K B t))
    (hk : ∀ (B : Bs) (s : Shared) (H : Hp) (C : Addr) (cl : List (Str × Addr)) (fp : List Addr), PE (X.blk s H scope (compEnvC scope cl C X.env) fp) kx (tF X.K B fk))
    (he : ∀ (B : Bs) (s : Shared) (H : Hp) (C : Addr) (cl : List (Str × Addr)) (fp : List Addr), PE (X.blk s H scope (compEnvC scope cl C X.env) fp) vx (tF X.K B fv)) (hts : ∀ i ∈ ts, i ∈ own.map (·.2) := by decide)
    (hs : ∀ x, foldedSetIterable iter X.env x = pure x := by intro _; rfl) : PE X (.DictComp kx vx [⟨tg, iter, ifs, 0⟩] scope pos) (tO X.K B (eDc fi g t fk fv (own.map (·.2)))) :=
  (pe_dc hc hN hi ok (g := fun v σ H Q => ∃ B, tG X.K B ts g v σ H Q) (tt := fun σ H Q => ∃ B, tT X.K B t σ H Q) (tk := fun σ H Q => ∃ B, tF X.K B fk σ H Q) (tv := fun σ H Q => ∃ B, tF X.K B fv σ H Q)
    (fun s H C cl fp => ⟨fun pins s' σ H' v u Q I r ⟨B, q⟩ => (hg B s H C cl fp).run pins s' σ H' v u Q I r q⟩)
    (fun s H C cl fp => ⟨fun pins s' σ H' Q I ⟨B, q⟩ => (ht B s H C cl fp).run pins s' σ H' Q I q⟩)
    (fun s H C cl fp => ⟨fun pins s' σ H' Q I ⟨B, q⟩ => (hk B s H C cl fp).run pins s' σ H' Q I q⟩)
    (fun s H C cl fp => ⟨fun pins s' σ H' Q I ⟨B, q⟩ => (he B s H C cl fp).run pins s' σ H' Q I q⟩) hs).pxw fun σ H Q q => rd_dc hts q
/-- {} -/
@[simp] def eDNewK : F := fun s => some (.dK [] [], s)
@[simp] def eDNewT : F := fun s => some (.dT [] [], s)
theorem io_dnewK : PE X (.Dict [] [] pos) (tO X.K B eDNewK) := pe_dnewK.pxw fun σ H Q q => by
  obtain ⟨s, H0, r, s', R, ev, k⟩ := q
  cases ev
  exact fun p hp => k p H0 _ (R.laidO hp) (Ex.refl _) (R.ownNew (o := .dK []) hp ⟨[], rfl, rfl, .nil⟩)
theorem io_dnewT : PE X (.Dict [] [] pos) (tO X.K B eDNewT) := pe_dnewT.pxw fun σ H Q q => by
  obtain ⟨s, H0, r, s', R, ev, k⟩ := q
  cases ev
  exact fun p hp => k p H0 _ (R.laidO hp) (Ex.refl _) (R.ownNew (o := .dT []) hp ⟨[], rfl, rfl, .nil⟩)
/-! ### defs -/
@[simp] def init (m : Nat) (ds : List D) : S := ds.map (fun d => some (.sh, d)) ++ List.replicate (m - ds.length) none
@[simp] def runF (m : Nat) (fs : FS) : FnD := fun ds => (fs (init m ds)).bind fun o => match o with
  | .nx _ => some (false, .non)
  | .ret o d _ => some (o, d)
  | _ => none
theorem rel_init {H0 H : Hp} {m : Nat} {ds : List D} {vs : List V} (e : Ex H0 H) (r : RepL K H0 ds vs) (N : List Str) (hm : N.length = m) : Rel K ⟨H, H, H0, 0⟩ (init m ds) (start N vs) H0 H := by
  have hl := r.len
  refine ⟨fun b xs h => .inr ⟨xs, rfl, h⟩, Ex.refl _, fun b h => h, Ex.refl _, e, fun b o h => .inl h, by simp [init, L2.start, hl, hm], fun i d h => ?_, fun i mm d h hm' => ?_, fun i j mm n d d' p h1 hm1 h2 hn _ _ => ?_⟩
  · unfold init at h
    unfold L2.start
    by_cases hi : i < ds.length
    · rw [List.getElem?_append_left (by simpa using hi), List.getElem?_map] at h
      cases hd : ds[i]? with
      | none => rw [hd] at h; cases h
      | some d' =>
        rw [hd] at h; cases h
        obtain ⟨v, ev, rv⟩ := r.get hd
        exact ⟨v, by rw [List.getElem?_append_left (by simp [hl]; exact hi), List.getElem?_map, ev]; rfl, rv⟩
    · rw [List.getElem?_append_right (by simpa using Nat.le_of_not_lt hi), List.getElem?_replicate] at h
      split at h <;> cases h
  · exfalso
    unfold init at h
    by_cases hi : i < ds.length
    · rw [List.getElem?_append_left (by simpa using hi), List.getElem?_map] at h
      cases hd : ds[i]? with
      | none => rw [hd] at h; cases h
      | some d' => rw [hd] at h; cases h; exact hm' rfl
    · rw [List.getElem?_append_right (by simpa using Nat.le_of_not_lt hi), List.getElem?_replicate] at h
      split at h <;> cases h
  · exfalso
    unfold init at h1
    by_cases hi : i < ds.length
    · rw [List.getElem?_append_left (by simpa using hi), List.getElem?_map] at h1
      cases hd : ds[i]? with
      | none => rw [hd] at h1; cases h1
      | some d' => rw [hd] at h1; cases h1; exact hm1 rfl
    · rw [List.getElem?_append_right (by simpa using Nat.le_of_not_lt hi), List.getElem?_replicate] at h1
      split at h1 <;> cases h1
variable {P : Program} {w : World} {mg : Str → Option Value} {base : Heap}
theorem fn_okF {x qual : Str} {st : Stmt} {f : Addr} {fd : FuncData} {N ps : List Str} {k : Nat} {fs : FS} (F : Fun K x qual st f fd) (S : FnScope N ps (defScope st))
    (hb : ∀ (cdv : Value) (A : Around) (outer : List Env) (s : Shared) (H : Hp) (E : XK) (B : Bs), Room k (A.deeper (PyProof.Rows.envOfC qual (defScope st) s.heap.objs.size f cdv)) →
      PSs (cxOf CX0 P w K mg base N qual (defScope st) f cdv A outer s H E).nox (defBody st) (tS K B fs)) : FnOk P w K mg base CX0 (k + 1) f fd ps (spF K ps.length (runF N.length fs)) := by
  refine F.ok S (fun vs H Q E h => ?_) fun cdv A outer s H vs Q E hr h => ?_
  · obtain ⟨_, _, _, _, hl, _⟩ := h; exact hl
  · obtain ⟨H0, ds, o, d, hl, e, r, hG, k⟩ := h
    refine ⟨_, hb cdv A outer s H E ⟨H, H, H0, 0⟩ hr, init N.length ds, H0, ?_⟩
    obtain ⟨out, e1, e2⟩ := bnd hG
    refine ⟨out, rel_init e r N rfl, e1, ?_⟩
    cases out with
    | nx s' =>
      cases e2
      exact fun σ' H1 H' R1 x1 => k .non H1 H' R1.fr x1 R1.h0 R1.new (iteF (by simp only [Rep]))
    | ret oo dd s' =>
      cases e2
      refine fun v σ' H1 H' R1 x1 r1 => k v H1 H' R1.fr x1 R1.h0 R1.new ?_
      cases o with
      | true => obtain ⟨q, rfl, w⟩ := r1; obtain ⟨u, hu, hc⟩ := w.ob; exact ⟨q, u, rfl, w.e, w.z, hu, hc⟩
      | false => exact r1
    | bk s' => cases e2
    | ct s' => cases e2
@[simp] def initB (m : Nat) (d0 : D) (ds : List D) : S := some (.rf, d0) :: (ds.map (fun d => some (.sh, d)) ++ List.replicate (m - (ds.length + 1)) none)
@[simp] def runB (m : Nat) (fs : FS) : FnB := fun d0 ds => (fs (initB m d0 ds)).bind fun o => match o with
  | .nx s => (match (s[0]? : Option (Option Sl)) with | some (some (.rf, d1)) => some (false, .non, d1) | _ => none)
  | .ret o d s => (match (s[0]? : Option (Option Sl)) with | some (some (.rf, d1)) => some (o, d, d1) | _ => none)
  | _ => none
def hole (H : Hp) (q : Addr) : Hp := fun b => if b = q then none else H b
theorem hole_at {H : Hp} {q : Addr} : hole H q q = none := by unfold hole; rw [if_pos rfl]
theorem hole_ne {H : Hp} {q b : Addr} (h : b ≠ q) : hole H q b = H b := by unfold hole; rw [if_neg h]
theorem initB_get {m : Nat} {d0 : D} {ds : List D} {i : Nat} {x : Sl} (h : (initB m d0 ds)[i]? = some (some x)) : (i = 0 ∧ x = (.rf, d0)) ∨ ∃ j d, i = j + 1 ∧ ds[j]? = some d ∧ x = (.sh, d) := by
  cases i with
  | zero => cases h; exact .inl ⟨rfl, rfl⟩
  | succ i =>
    refine .inr ⟨i, ?_⟩
    have h' : (ds.map (fun d => some (Md.sh, d)) ++ List.replicate (m - (ds.length + 1)) none)[i]? = some (some x) := h
    by_cases hi : i < ds.length
    · rw [List.getElem?_append_left (by simpa using hi), List.getElem?_map] at h'
      cases hd : ds[i]? with
      | none => rw [hd] at h'; cases h'
      | some d' => rw [hd] at h'; cases h'; exact ⟨d', rfl, rfl, rfl⟩
    · rw [List.getElem?_append_right (by simpa using Nat.le_of_not_lt hi), List.getElem?_replicate] at h'
      split at h' <;> cases h'
theorem rel_initB {H0 H : Hp} {m : Nat} {ds : List D} {vs : List V} {q : Addr} {c : HO} {d0 : D} (e : Ex H0 H) (hq : H0 q = none) (hc : H q = some c) (cc : Cell K H0 c d0) (r : RepL K H0 ds vs) (N : List Str) (hm : N.length = m) :
    Rel K ⟨H, hole H q, H0, q⟩ (initB m d0 ds) (start N (.ref q :: vs)) H0 H := by
  have hl := r.len
  have hs : ∀ j d, ds[j]? = some d → ∃ v, (start N (.ref q :: vs))[j + 1]? = some (some v) ∧ Rep K H0 d v := fun j d hd => by
    obtain ⟨v, ev, rv⟩ := r.get hd
    refine ⟨v, ?_, rv⟩
    unfold L2.start
    have hj := (List.getElem?_eq_some_iff.mp ev).1
    rw [List.getElem?_append_left (by simp; exact hj), List.getElem?_map, List.getElem?_cons_succ, ev]; rfl
  refine ⟨fun b xs h => .inr ⟨xs, rfl, h⟩, fun a u h => ?_, fun b h => h, Ex.refl _, e, fun b o h => .inl h, by simp [initB, L2.start, hl, hm], fun i d h => ?_, fun i mm d h hm' => ?_, fun i j mm n d d' p h1 hm1 h2 hn _ _ => ?_⟩
  · have z : a ≠ q := fun z => by
      have h' : hole H q a = some u := h
      rw [z, hole_at] at h'; cases h'
    have h' : hole H q a = some u := h
    rw [hole_ne z] at h'; exact h'
  · rcases initB_get h with ⟨_, z⟩ | ⟨j, d', rfl, hd, z⟩
    · cases z
    · cases z; exact hs j d hd
  · rcases initB_get h with ⟨rfl, z⟩ | ⟨j, d', rfl, hd, z⟩
    · cases z
      exact ⟨q, by unfold L2.start; rfl, hq, hole_at, fun z => (nomatch z), fun _ => rfl, c, hc, cc⟩
    · cases z; exact absurd rfl hm'
  · rcases initB_get h1 with ⟨rfl, _⟩ | ⟨j', d'', rfl, _, z⟩
    · rcases initB_get h2 with ⟨rfl, _⟩ | ⟨j'', d''', rfl, _, z⟩
      · rfl
      · cases z; exact absurd rfl hn
    · cases z; exact absurd rfl hm1
theorem fn_okB {x qual : Str} {st : Stmt} {f : Addr} {fd : FuncData} {N ps : List Str} {k n : Nat} {fs : FS} (F : Fun K x qual st f fd) (S : FnScope N ps (defScope st)) (hn : ps.length = n + 1)
    (hb : ∀ (cdv : Value) (A : Around) (outer : List Env) (s : Shared) (H : Hp) (E : XK) (B : Bs), Room k (A.deeper (PyProof.Rows.envOfC qual (defScope st) s.heap.objs.size f cdv)) →
      PSs (cxOf CX0 P w K mg base N qual (defScope st) f cdv A outer s H E).nox (defBody st) (tS K B fs)) : FnOk P w K mg base CX0 (k + 1) f fd ps (spB K n (runB N.length fs)) := by
  refine F.ok S (fun vs H Q E h => ?_) fun cdv A outer s H vs Q E hr h => ?_
  · obtain ⟨q, ws, _, _, _, _, _, _, _, rfl, hl, _⟩ := h; rw [List.length_cons, hl, hn]
  · obtain ⟨q, ws, H0, c, d0, ds, o, d, d1, rfl, hl, e, hq, hc, cc, r, hG, k⟩ := h
    refine ⟨_, hb cdv A outer s H E ⟨H, hole H q, H0, q⟩ hr, initB N.length d0 ds, H0, ?_⟩
    obtain ⟨out, e1, e2⟩ := bnd hG
    refine ⟨out, rel_initB e hq hc cc r N rfl, e1, ?_⟩
    have fin : ∀ {s' : Px.S} {dd : D}, s'[0]? = some (some (.rf, dd)) → ∀ {σ' H1 H'}, Rel K ⟨H, hole H q, H0, q⟩ s' σ' H1 H' → Ex H0 H1 → ∃ c', (∀ b u, b ≠ q → H b = some u → H' b = some u) ∧ H1 q = none ∧ H' q = some c' ∧ Cell K H1 c' dd := fun {s' dd} h0 {σ' H1 H'} R1 x1 => by
      obtain ⟨p, ep, w⟩ := R1.ow 0 .rf dd h0 (by decide)
      have : p = q := w.rf rfl
      subst this
      obtain ⟨c', hc', cc'⟩ := w.ob
      exact ⟨c', fun b u nb hb' => R1.fr b u (show hole H p b = some u by rw [hole_ne nb]; exact hb'), w.z, hc', cc'⟩
    cases out with
    | nx s' =>
      dsimp only at e2
      split at e2
      · next dd h0 =>
        cases e2
        exact fun σ' H1 H' R1 x1 => by
          obtain ⟨c', g1, g2, g3, g4⟩ := fin h0 R1 x1
          exact k .non H1 H' c' g1 x1 R1.h0 g2 R1.new g3 g4 (iteF (by simp only [Rep]))
      · cases e2
    | ret oo dd' s' =>
      dsimp only at e2
      split at e2
      · next dd h0 =>
        cases e2
        refine fun v σ' H1 H' R1 x1 r1 => ?_
        obtain ⟨c', g1, g2, g3, g4⟩ := fin h0 R1 x1
        refine k v H1 H' c' g1 x1 R1.h0 g2 R1.new g3 g4 ?_
        cases o with
        | true => obtain ⟨t, rfl, w⟩ := r1; obtain ⟨u, hu, hc⟩ := w.ob; exact ⟨t, u, rfl, w.e, w.z, hu, hc⟩
        | false => exact r1
      · cases e2
    | bk s' => cases e2
    | ct s' => cases e2
end
end Px

set_option Elab.async false
set_option linter.all false
set_option maxRecDepth 100000
set_option maxHeartbeats 1000000
/-! Px8: enumerate and zip of lists and tuples in any mix -/
namespace Px
open PySem L2
/-- kd: a list (else a tuple) -/
def SqK (kd : Bool) (K : PySem.W.Frag) (H : Hp) (a : Addr) (xs : List V) : Prop := match kd with | true => SqL K H a xs | false => SqT K H a xs
def IterK (kd : Bool) (h : Heap) (it a : Addr) (i : Nat) : Prop := match kd with | true => h.IsListIter it a i | false => h.IsTupleIter it a i
def IsK (kd : Bool) (h : Heap) (a : Addr) (its : Array Value) : Prop := match kd with | true => h.IsList a its | false => h.IsTuple a its
def objK (kd : Bool) (a : Addr) : Obj := match kd with | true => { cls := .type "list_iterator", data := .fields #[.ref a, .int 0 0] } | false => { cls := .type "tuple_iterator", data := .fields #[.ref a, .int 0 0] }
section
variable {X : Cx} {pins : List (Addr × Obj)} {σ : St} {H : Hp} {s : Shared} {kd : Bool} {K : PySem.W.Frag}
theorem invK (I : Inv X pins σ H s) {a : Addr} {xs : List V} (h : SqK kd X.K H a xs) : ∃ its : List Value, Vals xs its ∧ IsK kd s.heap a its.toArray ∧ a < s.heap.objs.size := by
  cases kd with
  | true => obtain ⟨its, r, p, _⟩ := I.list h; exact ⟨its, r, p.isList, p.lt⟩
  | false => obtain ⟨its, r, p, _⟩ := I.tuple h; obtain ⟨o, ho, _⟩ := id p; exact ⟨its, r, p, Heap.lt_size ho⟩
theorem injK (I : Inv X pins σ H s) {a : Addr} {xs ys : List V} (h : SqK kd X.K H a xs) (h' : SqK kd X.K H a ys) : xs = ys := by
  cases kd with
  | true => exact I.list_inj h h'
  | false => exact I.tuple_inj h h'
theorem beginsK (kd : Bool) (a : Addr) (its : Array Value) : Begins (.ref a) (objK kd a) (fun h => IsK kd h a its) := by
  cases kd with
  | true => exact begins_list a its
  | false => exact begins_tuple a its
theorem drawsK {prog : Program} {w : World} {A : Around} (kd : Bool) (hh : A.handled = none) (it a : Addr) (hne : a ≠ it) (items : Array Value) :
    Draws prog w A it [it, a] items.size (fun i v => items[i]? = some v) (fun i h => IterK kd h it a i ∧ IsK kd h a items) := by
  cases kd with
  | true => exact Draws.list hh it a hne items
  | false => exact Draws.tuple hh it a hne items
theorem iterK_obj {h : Heap} {it a : Addr} {i : Nat} (x : IterK kd h it a i) : ∃ o, h.get? it = some o ∧ ∀ v, o.data ≠ .cell v := by
  cases kd with
  | true => obtain ⟨o, e, _, d⟩ := x; exact ⟨o, e, fun v q => by rw [d] at q; cases q⟩
  | false => obtain ⟨o, e, _, d⟩ := x; exact ⟨o, e, fun v q => by rw [d] at q; cases q⟩
theorem iterK_at {h h' : Heap} {it a : Addr} {i : Nat} (x : IterK kd h it a i) (k : ∀ o, h.get? it = some o → h'.get? it = some o) : IterK kd h' it a i := by
  cases kd with
  | true => exact Heap.IsListIter.at x k
  | false => exact Heap.IsTupleIter.at x k
theorem iterK_new {h : Heap} {it a : Addr} (e : h.get? it = some (objK kd a)) : IterK kd h it a 0 := by
  cases kd with
  | true => exact ⟨_, e, rfl, rfl⟩
  | false => exact ⟨_, e, rfl, rfl⟩
end
/-! ### zip of two -/
def Itz2 (k1 k2 : Bool) (K : PySem.W.Frag) (a b : Addr) : It :=
  ⟨fun i H => ∃ (xs ys : List V) (x y : V), SqK k1 K H a xs ∧ SqK k2 K H b ys ∧ xs[i]? = some x ∧ ys[i]? = some y,
    fun i H v H' => ∃ T x y, v = .ref T ∧ H T = none ∧ H' = upd H T (.tup [x, y]) ∧ (∀ xs, SqK k1 K H a xs → xs[i]? = some x) ∧ ∀ ys, SqK k2 K H b ys → ys[i]? = some y,
    fun i H => ∃ xs ys : List V, SqK k1 K H a xs ∧ SqK k2 K H b ys ∧ min xs.length ys.length = i⟩
theorem turn_zip2 {P : Program} {w : World} {K : PySem.W.Frag} {elts : List Expr} {kk : Nat} {tpos : Pos} {k1 k2 : Bool} {a b z TI TO i1 i2 : Addr} (S : ZipSep2 z TI TO i1 i2 [i1, a] [i2, b]) (n1 : a ≠ i1) (n2 : b ≠ i2) :
    Turn P w K (.Tuple elts kk tpos) (Itz2 k1 k2 K a b) [z, TI, TO, i1, i2] z (fun i h => IsZip h z TI TO .none ∧ IsTupOf2 h TI (.ref i1) (.ref i2) ∧ (∃ x y, IsTupOf2 h TO x y) ∧ IterK k1 h i1 a i ∧ IterK k2 h i2 b i) where
  mem := by simp
  obj := fun i h st c hc => by
    obtain ⟨hz, hTI, ⟨x, y, hTO⟩, h1, h2⟩ := st
    have e' : c = z ∨ c = TI ∨ c = TO ∨ c = i1 ∨ c = i2 := by simpa using hc
    rcases e' with q | q | q | q | q
    · rw [q]; exact ⟨_, hz, fun v q => nomatch q⟩
    · rw [q]; exact ⟨_, hTI, fun v q => nomatch q⟩
    · rw [q]; exact ⟨_, hTO, fun v q => nomatch q⟩
    · rw [q]; exact iterK_obj h1
    · rw [q]; exact iterK_obj h2
  keep := fun i h h' st k => by
    obtain ⟨hz, hTI, ⟨x, y, hTO⟩, h1, h2⟩ := st
    exact ⟨k z (by simp) _ hz, k TI (by simp) _ hTI, ⟨x, y, k TO (by simp) _ hTO⟩, iterK_at h1 fun o q => k i1 (by simp) o q, iterK_at h2 fun o q => k i2 (by simp) o q⟩
  item := by
    intro X hP hw hK hc i pins s σ H E I hf st hg
    subst hP hw hK
    obtain ⟨hz, hTI, hTO, h1, h2⟩ := st
    obtain ⟨xs, ys, x, y, hqx, hqy, hx, hy⟩ := hg
    obtain ⟨its, rv, p, la⟩ := invK I hqx
    obtain ⟨its2, rv2, p2, lb⟩ := invK I hqy
    obtain ⟨u, hu, ru⟩ := rv.get hx
    obtain ⟨u2, hu2, ru2⟩ := rv2.get hy
    have hh : X.A.in1.handled = none := I.ok.hd hc
    have hi1 : i < its.length := (List.getElem?_eq_some_iff.mp hu).1
    have hi2 : i < its2.length := (List.getElem?_eq_some_iff.mp hu2).1
    have G := GoesN.zip2 (elts := elts) (x1 := kk) (pos := tpos) S (drawsK (prog := X.prog) (w := X.w) (A := X.A.in1) k1 hh i1 a n1 its.toArray) (drawsK k2 hh i2 b n2 its2.toArray)
    refine wpAny_mono (G.goes i s (fun v s2 => ∃ x H', Inv X pins σ H' s2 ∧ RelV x v ∧ (Itz2 k1 k2 X.K a b).yld i H x H' ∧ (IsZip s2.heap z TI TO .none ∧ IsTupOf2 s2.heap TI (.ref i1) (.ref i2) ∧ (∃ x y, IsTupOf2 s2.heap TO x y) ∧ IterK k1 s2.heap i1 a (i + 1) ∧ IterK k2 s2.heap i2 b (i + 1)) ∧ ∀ b ∈ [z, TI, TO, i1, i2], H' b = none) E (by simp; omega) ⟨hz, hTI, hTO, ⟨h1, p⟩, ⟨h2, p2⟩⟩ ?_) (fun r s1 q => q) (fun _ _ q => q)
    rintro v h' tk ⟨T, v1, v2, rfl, hT, e1, e2, hTT⟩ ⟨g1, g2, g3, ⟨g4, _⟩, g5, _⟩ hk _
    have ev1 : v1 = u := by
      have : its[i]? = some v1 := by simpa using e1
      rw [hu] at this; exact (Option.some.inj this).symm
    have ev2 : v2 = u2 := by
      have : its2[i]? = some v2 := by simpa using e2
      rw [hu2] at this; exact (Option.some.inj this).symm
    subst ev1 ev2
    have new : ObjOk X.prog X.w (upd H T (.tup [x, y])) h' T (.tup [x, y]) := ⟨by show 2 ≤ sizeLine; decide, [v1, v2], .cons ru (.cons ru2 .nil), hTT⟩
    have I1 : Inv X pins σ (upd H T (.tup [x, y])) { s with heap := h', toks := tk } :=
      I.turnedNew (ch := [z, TI, TO, i1, i2]) (fun c o hb q => hk c o (fun y => hb (by simp at y ⊢; rcases y with y | y | y | y <;> simp [y])) q) hf hT new
    refine ⟨.ref T, _, I1, rfl, ⟨T, x, y, rfl, I.hok.fresh hT, rfl, fun l hl => by rw [injK I hl hqx]; exact hx, fun l hl => by rw [injK I hl hqy]; exact hy⟩, ⟨g1, g2, g3, g4, g5⟩, fun c hcm => ?_⟩
    have hlt : c < s.heap.objs.size := by
      have e' : c = z ∨ c = TI ∨ c = TO ∨ c = i1 ∨ c = i2 := by simpa using hcm
      rcases e' with q | q | q | q | q
      · rw [q]; exact Heap.lt_size hz
      · rw [q]; exact Heap.lt_size hTI
      · rw [q]; obtain ⟨_, _, hTO⟩ := hTO; exact Heap.lt_size hTO
      · rw [q]; obtain ⟨_, e1, _⟩ := iterK_obj h1; exact Heap.lt_size e1
      · rw [q]; obtain ⟨_, e2, _⟩ := iterK_obj h2; exact Heap.lt_size e2
    rw [upd_ne (Nat.ne_of_lt (Nat.lt_of_lt_of_le hlt hT))]
    exact (hf c hcm).1
  done := by
    intro X hP hw hK hc i pins s σ H E I hf st hg
    subst hP hw hK
    obtain ⟨hz, hTI, hTO, h1, h2⟩ := st
    obtain ⟨xs, ys, hqx, hqy, hend⟩ := hg
    obtain ⟨its, rv, p, la⟩ := invK I hqx
    obtain ⟨its2, rv2, p2, lb⟩ := invK I hqy
    have hh : X.A.in1.handled = none := I.ok.hd hc
    have hi : i = min its.toArray.size its2.toArray.size := by
      rw [← hend, rv.length, rv2.length]; simp
    have G := GoesN.zip2 (elts := elts) (x1 := kk) (pos := tpos) S (drawsK (prog := X.prog) (w := X.w) (A := X.A.in1) k1 hh i1 a n1 its.toArray) (drawsK k2 hh i2 b n2 its2.toArray)
    subst hi
    exact G.stops s (fun s1 => Inv X pins σ H s1) E ⟨hz, hTI, hTO, ⟨h1, p⟩, ⟨h2, p2⟩⟩ fun h' tk hk _ => I.turnedL (t' := tk) (ch := [z, TI, TO, i1, i2]) (fun c o hb q => hk c o (fun y => hb (by simp at y ⊢; rcases y with y | y | y | y <;> simp [y])) q) hf
  self := fun A i s Q E st h => wpAny_pyIter_zip st.1 h
def iZip2 (k1 k2 : Bool) (K : PySem.W.Frag) (ta : TA) : L2.TI := fun σ H R => ta σ H fun vs H1 => ∃ a b xs ys, vs = [.ref a, .ref b] ∧ SqK k1 K H1 a xs ∧ SqK k2 K H1 b ys ∧ R (Itz2 k1 k2 K a b) H1
theorem pi_zip2 {X : Cx} {e e2 : Expr} {ta : TA} {p pos tpos : Pos} {elts : List Expr} {kk : Nat} {k1 k2 : Bool} (hg : Gl X "zip") (hm : X.mg "zip" = none) (ha : PA X [e, e2] ta)
    (hs : starEach [e, e2] X.env = (false, eval e X.env) :: starEach [e2] X.env := by rfl) (hpl : (backTo pos (starEach [e2] X.env)).any (·.1) = false := by rfl) :
    PI X (.Tuple elts kk tpos) (.Call (.Name "zip" p) [e, e2] [] pos) (iZip2 k1 k2 X.K ta) := by
  refine ⟨fun pins s σ H R I h => ?_⟩
  refine PyProof.Rows.Call_ (ld_blt I hg hm PyProof.Rows.boot_zip (PyProof.Rows.callWith_type1 (thn (ha.run pos pins s σ H _ I h) fun us s1 ⟨vs, H1, I1, r1, q1⟩ => ?_) hs hpl))
  obtain ⟨a, b, xs, ys, ex, hqx, hqy, q⟩ := q1
  subst ex
  cases r1 with
  | cons r rr =>
    cases rr with
    | cons r' rr =>
      cases rr
      cases r
      cases r'
      obtain ⟨its, rv, p1, la⟩ := invK I1 hqx
      obtain ⟨its2, rv2, p2, lb⟩ := invK I1 hqy
      refine zip_begins2 (beginsK k1 a its.toArray) (beginsK k2 b its2.toArray) p1 p2 fun h' hz hTI hTO h1 h2 hsz hk => wpAny_pyIter_zip hz ?_
      have I2 : Inv X pins σ H1 { s1 with heap := h' } := I1.kept (t' := s1.toks) hk
      refine ⟨s1.heap.objs.size + 4, [s1.heap.objs.size + 4, s1.heap.objs.size + 2, s1.heap.objs.size + 3, s1.heap.objs.size, s1.heap.objs.size + 1], _, _, H1, rfl, I2,
        turn_zip2 (zip_sep2 (N := s1.heap.objs.size) (fp1 := [a]) (fp2 := [b]) (by simpa using la) (by simpa using lb)) (Nat.ne_of_lt la) (Nat.ne_of_lt (Nat.lt_succ_of_lt lb)), ⟨hz, hTI, ⟨_, _, hTO⟩, iterK_new h1, iterK_new h2⟩, fun c hcm => ?_, q⟩
      have hle : s1.heap.objs.size ≤ c := by
        have e' : c = s1.heap.objs.size + 4 ∨ c = s1.heap.objs.size + 2 ∨ c = s1.heap.objs.size + 3 ∨ c = s1.heap.objs.size ∨ c = s1.heap.objs.size + 1 := by simpa using hcm
        rcases e' with z | z | z | z | z
        · rw [z]; exact Nat.le_add_right _ _
        · rw [z]; exact Nat.le_add_right _ _
        · rw [z]; exact Nat.le_add_right _ _
        · rw [z]; exact Nat.le_refl _
        · rw [z]; exact Nat.le_add_right _ _
      exact I1.fpOk hle (I1.hok.fresh hle)
/-! ### over abstract data -/
@[simp] def seq? : D → Option (Bool × List D)
  | .lst ds => some (true, ds)
  | .tup ds => some (false, ds)
  | _ => none
section
variable {X : Cx} {B : Bs} {a b c e tg : Expr} {pos p tpos : Pos} {fa fb fc f : F} {K : PySem.W.Frag} {σ : St} {H : Hp}
theorem seq_rep {H0 : Hp} {d : D} {kd : Bool} {ds : List D} {v : V} (h : seq? d = some (kd, ds)) (r : Rep K H0 d v) : ∃ q xs, v = .ref q ∧ SqK kd K H0 q xs ∧ RepL K H0 ds xs := by
  cases d with
  | lst es => cases h; simp only [Rep] at r; obtain ⟨q, xs, e, l, hq⟩ := r; exact ⟨q, xs, e, SqL.of hq, l⟩
  | tup es => cases h; obtain ⟨q, xs, e, l, hq⟩ := rep_tup_sq r; exact ⟨q, xs, e, hq, l⟩
  | _ => cases h
theorem Ex.sqK {kd : Bool} {H H' : Hp} {q : Addr} {xs : List V} (x : Ex H H') (h : SqK kd K H q xs) : SqK kd K H' q xs := by
  cases kd with
  | true => exact x.sqL h
  | false => exact x.sqT h
@[simp] def zipD (as bs : List D) : List D := List.zipWith (fun x y => .tup [x, y]) as bs
theorem zipD_get {as bs : List D} {i : Nat} {d : D} (h : (zipD as bs)[i]? = some d) : ∃ x y, as[i]? = some x ∧ bs[i]? = some y ∧ d = .tup [x, y] := by
  unfold zipD at h
  rw [List.getElem?_zipWith] at h
  cases ha : as[i]? with
  | none => rw [ha] at h; simp at h
  | some x =>
    cases hb : bs[i]? with
    | none => rw [ha, hb] at h; simp at h
    | some y => rw [ha, hb] at h; simp at h; exact ⟨x, y, rfl, rfl, h.symm⟩
theorem itok_zip {H0 : Hp} {k1 k2 : Bool} {q1 q2 : Addr} {xs ys : List V} {as bs : List D} (h1 : SqK k1 K H0 q1 xs) (l1 : RepL K H0 as xs) (h2 : SqK k2 K H0 q2 ys) (l2 : RepL K H0 bs ys) : ItOk K (Itz2 k1 k2 K q1 q2) H0 (zipD as bs) := fun i H1 H' x1 x2 => by
  have s1 := (x1.trans x2).sqK h1
  have s2 := (x1.trans x2).sqK h2
  refine ⟨fun d hd => ?_, fun hi => ⟨xs, ys, s1, s2, by rw [l1.len, l2.len]; simpa [zipD] using hi⟩⟩
  obtain ⟨x, y, ex, ey, rfl⟩ := zipD_get hd
  obtain ⟨vx, gx, rx⟩ := l1.get ex
  obtain ⟨vy, gy, ry⟩ := l2.get ey
  refine ⟨⟨xs, ys, vx, vy, s1, s2, gx, gy⟩, fun v H2 hy => ?_⟩
  obtain ⟨T, wx, wy, rfl, hT, rfl, f1, f2⟩ := hy
  have e1 := f1 xs s1
  rw [gx] at e1; cases e1
  have e2 := f2 ys s2
  rw [gy] at e2; cases e2
  exact .inr ⟨T, _, hT, rfl, rep_tupNew (.cons (rx.up x1) (.cons (ry.up x1) .nil)) (x2.back hT)⟩
@[simp] def iZip (fa fb : F) : FI := fun s => (fa s).bind fun a => (fb a.2).bind fun b => (seq? a.1).bind fun x => (seq? b.1).bind fun y => some (zipD x.2 y.2, b.2)
theorem ii_zip {elts : List Expr} {kk : Nat} (hg : Gl X "zip") (hm : X.mg "zip" = none) (ha : PE X a (tF X.K B fa)) (hb : PE X b (tF X.K B fb)) (hs : starEach [a, b] X.env = (false, eval a X.env) :: starEach [b] X.env := by rfl) (hs2 : starEach [b] X.env = (false, eval b X.env) :: starEach [] X.env := by rfl)
    (hpl : (backTo pos (starEach [b] X.env)).any (·.1) = false := by rfl) : PI X (.Tuple elts kk tpos) (.Call (.Name "zip" p) [a, b] [] pos) (tI X.K B (iZip fa fb)) := by
  have pa := pa_cons ha (pa_cons hb pa_nil hs2) hs
  refine (((pi_zip2 (k1 := true) (k2 := true) hg hm pa hs hpl).pxor (pi_zip2 (k1 := true) (k2 := false) hg hm pa hs hpl)).pxor ((pi_zip2 (k1 := false) (k2 := true) hg hm pa hs hpl).pxor (pi_zip2 (k1 := false) (k2 := false) hg hm pa hs hpl))).pxw fun σ H Q q => ?_
  obtain ⟨s, H0, ds, s', R, ev, k⟩ := q
  obtain ⟨⟨d1, s1⟩, e1, ev1⟩ := bnd ev
  obtain ⟨⟨d2, s2⟩, e2, ev2⟩ := bnd ev1
  obtain ⟨⟨k1, as⟩, e3, ev3⟩ := bnd ev2
  obtain ⟨⟨k2, bs⟩, e4, ev4⟩ := bnd ev3
  cases ev4
  have all : ∀ (k1 k2 : Bool), seq? d1 = some (k1, as) → seq? d2 = some (k2, bs) → iZip2 k1 k2 X.K (tCons (tF X.K B fa) (tCons (tF X.K B fb) tNil)) σ H Q := fun k1 k2 e3 e4 => by
    refine ⟨s, H0, d1, s1, R, e1, fun v H1 H' R1 x1 r1 => ⟨s1, H1, d2, s2, R1, e2, fun w H2 H2' R2 x2 r2 => ?_⟩⟩
    obtain ⟨q1, xs, rfl, h1, l1⟩ := seq_rep e3 (r1.up x2)
    obtain ⟨q2, ys, rfl, h2, l2⟩ := seq_rep e4 r2
    exact ⟨q1, q2, xs, ys, rfl, R2.h0.sqK h1, R2.h0.sqK h2, k _ H2 H2' R2 (x1.trans x2) (itok_zip h1 l1 h2 l2)⟩
  cases k1 <;> cases k2
  · exact .inr (.inr (all _ _ e3 e4))
  · exact .inr (.inl (all _ _ e3 e4))
  · exact .inl (.inr (all _ _ e3 e4))
  · exact .inl (.inl (all _ _ e3 e4))
end
/-! ### enumerate -/
set_option maxHeartbeats 1000000 in
theorem meets_enumK (kd : Bool) (l : Addr) (its : Array Value) :
    Meets (Builtin.«enumerate.__new__» ⟨[.type "enumerate", .ref l], []⟩) (fun _ R s => IsK kd s.heap l its ∧
      R (.ok (.ret (.ref (s.heap.push (objK kd l)).objs.size))) { s with heap := (s.heap.push (objK kd l)).push { cls := .type "enumerate", data := .fields #[.none, .bool false, .ref s.heap.objs.size, rawInt 0, .none, .none] } }) :=
  .of_wp fun prog w A R s h => by
    obtain ⟨hp, g, d, tk, os⟩ := s; obtain ⟨h1, h⟩ := h
    have hsub := sub_enumerate
    have q1 : ∀ {A' : Around} {E : Value → Shared → Prop} {Q : Value → Shared → Prop}, Q (.ref hp.objs.size) ⟨hp.push (objK kd l), g, d, tk, os⟩ → wpAny (model prog w) A' (pyIter (.ref l)) Q E ⟨hp, g, d, tk, os⟩ :=
      fun q => (beginsK kd l its).iter prog w _ _ ⟨hp, g, d, tk, os⟩ _ h1 q
    wp_walk using q1
    refine wpAny_stack_any fun st => wpAny_pure ?_
    split
    · rename_i c _ _ _ _ _
      cases (c == Value.type "enumerate")
      · wp_walk using q1
        exact ⟨_, rfl, h⟩
      · wp_walk using q1
        exact ⟨_, rfl, h⟩
    · wp_walk using q1
      exact ⟨_, rfl, h⟩
theorem objK_free (kd : Bool) (a : Addr) : (objK kd a).isFreed = false := by cases kd <;> rfl
theorem call_enumK {prog : Program} {w : World} {A : Around} {E : Value → Shared → Prop} {s : Shared} {kd : Bool} {l : Addr} {its : Array Value} {Q : Value → Shared → Prop} (hL : IsK kd s.heap l its)
    (h : ∀ h', IsEnum h' (s.heap.objs.size + 1) s.heap.objs.size 0 .none → h'.get? s.heap.objs.size = some (objK kd l) → h'.objs.size = s.heap.objs.size + 2 →
      (∀ b o, s.heap.get? b = some o → h'.get? b = some o) → Q (.ref (s.heap.objs.size + 1)) { s with heap := h' }) :
    wpAny (model prog w) A (call (.type "enumerate") [.ref l]) Q E s := by
  refine callType_new F.called_enumerate (by decide) (F.typeCall_enumerate_1 _) (F.newCall_enumerate_1 _) (fun obj => F.args_object_init_2 obj _) F.entry_enumerate_new (meets_enumK kd l its) ⟨hL, ?_⟩
  have hz : (s.heap.push (objK kd l)).objs.size = s.heap.objs.size + 1 := Heap.size_push ..
  show _ ∧ _
  rw [hz]
  have he : IsEnum ((s.heap.push (objK kd l)).push { cls := .type "enumerate", data := .fields #[.none, .bool false, .ref s.heap.objs.size, rawInt 0, .none, .none] }) (s.heap.objs.size + 1) s.heap.objs.size 0 .none := by
    have := Heap.get?_push_size (s.heap.push (objK kd l)) (o := { cls := .type "enumerate", data := .fields #[.none, .bool false, .ref s.heap.objs.size, rawInt 0, .none, .none] }) rfl
    rw [hz] at this; exact this
  refine ⟨⟨_, he, rfl⟩, h _ he (Heap.get?_push_of_some _ (Heap.get?_push_size _ (objK_free kd l))) (by rw [Heap.size_push, hz]) fun b o x => Heap.get?_push_of_some _ (Heap.get?_push_of_some _ x)⟩
def IteK (kd : Bool) (K : PySem.W.Frag) (a : Addr) : It :=
  ⟨fun i H => ∃ (xs : List V) (x : V), SqK kd K H a xs ∧ xs[i]? = some x, fun i H v H' => ∃ T x, v = .ref T ∧ H T = none ∧ H' = upd H T (.tup [.int (i : Nat), x]) ∧ ∀ xs, SqK kd K H a xs → xs[i]? = some x, fun i H => ∃ xs : List V, SqK kd K H a xs ∧ xs.length = i⟩
theorem turn_enumK {P : Program} {w : World} {K : PySem.W.Frag} {elts : List Expr} {kk : Nat} {tpos : Pos} {kd : Bool} {a e it : Addr} (na : a ≠ it) (ne : e ≠ it) (nea : e ≠ a) :
    Turn P w K (.Tuple elts kk tpos) (IteK kd K a) [e, it] e (fun i h => (∃ old, IsEnum h e it (0 + (i : Int)) old) ∧ IterK kd h it a i) where
  mem := by simp
  obj := fun i h st b hb => by
    obtain ⟨⟨old, he⟩, hi⟩ := st
    have e' : b = e ∨ b = it := by simpa using hb
    rcases e' with z | z
    · rw [z]; exact ⟨_, he, fun v q => nomatch q⟩
    · rw [z]; exact iterK_obj hi
  keep := fun i h h' st k => let ⟨⟨old, he⟩, hi⟩ := st; ⟨⟨old, k e (by simp) _ he⟩, iterK_at hi fun o q => k it (by simp) o q⟩
  item := by
    intro X hP hw hK hc i pins s σ H E I hf st hg
    subst hP hw hK
    obtain ⟨he, hit⟩ := st
    obtain ⟨xs, x, hq, hx⟩ := hg
    obtain ⟨its, rv, p, la⟩ := invK I hq
    obtain ⟨u, hu, ru⟩ := rv.get hx
    have hh : X.A.in1.handled = none := I.ok.hd hc
    have hi : i < its.length := (List.getElem?_eq_some_iff.mp hu).1
    have G := GoesN.enumFrom (elts := elts) (x1 := kk) (pos := tpos) 0 (drawsK (prog := X.prog) (w := X.w) (A := X.A.in1) kd hh it a na its.toArray) e ne (by simp [ne, nea]) (by simp)
    refine wpAny_mono (G.goes i s (fun v s2 => ∃ x H', Inv X pins σ H' s2 ∧ RelV x v ∧ (IteK kd X.K a).yld i H x H' ∧ ((∃ old, IsEnum s2.heap e it (0 + ((i + 1 : Nat) : Int)) old) ∧ IterK kd s2.heap it a (i + 1)) ∧ ∀ b ∈ [e, it], H' b = none) E (by simpa using hi) ⟨he, hit, p⟩ ?_) (fun r s1 q => q) (fun _ _ q => q)
    rintro v h' tk ⟨T, t, v1, rfl, hT, e1, hTT⟩ ⟨g1, g2, _⟩ hk _
    have ev1 : v1 = u := by
      have : its[i]? = some v1 := by simpa using e1
      rw [hu] at this; exact (Option.some.inj this).symm
    subst ev1
    have new : ObjOk X.prog X.w (upd H T (.tup [.int (i : Nat), x])) h' T (.tup [.int (i : Nat), x]) := ⟨by show 2 ≤ sizeLine; decide, [.int (0 + (i : Int)) t, v1], .cons ⟨t, by rw [Int.zero_add]⟩ (.cons ru .nil), hTT⟩
    have I1 : Inv X pins σ (upd H T (.tup [.int (i : Nat), x])) { s with heap := h', toks := tk } :=
      I.turnedNew (ch := [e, it]) (fun c o hb q => hk c o hb q) hf hT new
    refine ⟨.ref T, _, I1, rfl, ⟨T, x, rfl, I.hok.fresh hT, rfl, fun l hl => by rw [injK I hl hq]; exact hx⟩, ⟨g1, g2⟩, fun c hcm => ?_⟩
    have hlt : c < s.heap.objs.size := by
      have e' : c = e ∨ c = it := by simpa using hcm
      rcases e' with q | q
      · rw [q]; obtain ⟨_, he⟩ := he; exact Heap.lt_size he
      · rw [q]; obtain ⟨_, e1, _⟩ := iterK_obj hit; exact Heap.lt_size e1
    rw [upd_ne (Nat.ne_of_lt (Nat.lt_of_lt_of_le hlt hT))]
    exact (hf c hcm).1
  done := by
    intro X hP hw hK hc i pins s σ H E I hf st hg
    subst hP hw hK
    obtain ⟨he, hit⟩ := st
    obtain ⟨xs, hq, hend⟩ := hg
    obtain ⟨its, rv, p, la⟩ := invK I hq
    have hh : X.A.in1.handled = none := I.ok.hd hc
    have hi : i = its.toArray.size := by rw [← hend, rv.length]; simp
    have G := GoesN.enumFrom (elts := elts) (x1 := kk) (pos := tpos) 0 (drawsK (prog := X.prog) (w := X.w) (A := X.A.in1) kd hh it a na its.toArray) e ne (by simp [ne, nea]) (by simp)
    subst hi
    exact G.stops s (fun s1 => Inv X pins σ H s1) E ⟨he, hit, p⟩ fun h' tk hk _ => I.turnedL (t' := tk) (ch := [e, it]) (fun c o hb q => hk c o hb q) hf
  self := fun A i s Q E st h => let ⟨⟨_, he⟩, _⟩ := st; wpAny_pyIter_enum he h
def iEnumK (kd : Bool) (K : PySem.W.Frag) (ta : TA) : L2.TI := fun σ H R => ta σ H fun vs H1 => ∃ a xs, vs = [.ref a] ∧ SqK kd K H1 a xs ∧ R (IteK kd K a) H1
theorem pi_enumK {X : Cx} {e : Expr} {ta : TA} {p pos tpos : Pos} {elts : List Expr} {kk : Nat} {kd : Bool} (hg : Gl X "enumerate") (hm : X.mg "enumerate" = none) (ha : PA X [e] ta) (hs : starEach [e] X.env = [(false, eval e X.env)] := by rfl) :
    PI X (.Tuple elts kk tpos) (.Call (.Name "enumerate" p) [e] [] pos) (iEnumK kd X.K ta) := by
  refine ⟨fun pins s σ H R I h => ?_⟩
  refine PyProof.Rows.Call_ (ld_blt I hg hm PyProof.Rows.boot_enumerate (PyProof.Rows.callWith_type1 (thn (ha.run pos pins s σ H _ I h) fun us s1 ⟨vs, H1, I1, r1, q1⟩ => ?_) hs rfl))
  obtain ⟨a, xs, ex, hq, q⟩ := q1
  subst ex
  cases r1 with
  | cons r rr =>
    cases rr
    cases r
    obtain ⟨its, rv, p', la⟩ := invK I1 hq
    refine call_enumK p' fun h' he hit hsz hk => wpAny_pyIter_enum he ?_
    have I2 : Inv X pins σ H1 { s1 with heap := h' } := I1.kept (t' := s1.toks) hk
    refine ⟨s1.heap.objs.size + 1, [s1.heap.objs.size + 1, s1.heap.objs.size], _, _, H1, rfl, I2, turn_enumK (Nat.ne_of_lt la) (Nat.succ_ne_self _) (Nat.ne_of_gt (Nat.lt_succ_of_lt la)), ⟨⟨.none, he⟩, iterK_new hit⟩, fun b hb => ?_, q⟩
    have e' : b = s1.heap.objs.size + 1 ∨ b = s1.heap.objs.size := by simpa using hb
    have hle : s1.heap.objs.size ≤ b := by
      rcases e' with z | z
      · rw [z]; exact Nat.le_add_right _ _
      · rw [z]; exact Nat.le_refl _
    exact I1.fpOk hle (I1.hok.fresh hle)
section
variable {X : Cx} {B : Bs} {a b c e tg : Expr} {pos p tpos : Pos} {fa fb fc f : F} {K : PySem.W.Frag} {σ : St} {H : Hp}
@[simp] def enumD (n : Nat) : List D → List D
  | [] => []
  | d :: ds => .tup [.int n, d] :: enumD (n + 1) ds
theorem enumD_get : ∀ {ds : List D} {n i : Nat} {d : D}, (enumD n ds)[i]? = some d → ∃ x, ds[i]? = some x ∧ d = .tup [.int ((n + i : Nat) : Int), x]
  | [], _, _, _, h => by simp [enumD] at h
  | x :: ds, n, 0, d, h => by simp [enumD] at h; exact ⟨x, rfl, h.symm⟩
  | x :: ds, n, i + 1, d, h => by
    obtain ⟨y, e1, e2⟩ := enumD_get (ds := ds) (n := n + 1) (i := i) (by simpa [enumD] using h)
    exact ⟨y, by simpa using e1, by rw [e2, show n + 1 + i = n + (i + 1) by omega]⟩
theorem enumD_len : ∀ (ds : List D) (n : Nat), (enumD n ds).length = ds.length
  | [], _ => rfl
  | x :: ds, n => by show (enumD (n + 1) ds).length + 1 = _; rw [enumD_len ds]; rfl
theorem itok_enum {H0 : Hp} {kd : Bool} {q : Addr} {xs : List V} {as : List D} (h1 : SqK kd K H0 q xs) (l1 : RepL K H0 as xs) : ItOk K (IteK kd K q) H0 (enumD 0 as) := fun i H1 H' x1 x2 => by
  have s1 := (x1.trans x2).sqK h1
  refine ⟨fun d hd => ?_, fun hi => ⟨xs, s1, by rw [l1.len, ← hi, enumD_len]⟩⟩
  obtain ⟨x, ex, rfl⟩ := enumD_get hd
  obtain ⟨vx, gx, rx⟩ := l1.get ex
  refine ⟨⟨xs, vx, s1, gx⟩, fun v H2 hy => ?_⟩
  obtain ⟨T, wx, rfl, hT, rfl, f1⟩ := hy
  have e1 := f1 xs s1
  rw [gx] at e1; cases e1
  exact .inr ⟨T, _, hT, rfl, rep_tupNew (.cons (by simp only [Rep]; rw [Nat.zero_add]) (.cons (rx.up x1) .nil)) (x2.back hT)⟩
@[simp] def iEnum (f : F) : FI := fun s => (f s).bind fun a => (seq? a.1).bind fun x => some (enumD 0 x.2, a.2)
theorem ii_enum {elts : List Expr} {kk : Nat} (hg : Gl X "enumerate") (hm : X.mg "enumerate" = none) (ha : PE X a (tF X.K B fa)) (hs : starEach [a] X.env = [(false, eval a X.env)] := by rfl) : PI X (.Tuple elts kk tpos) (.Call (.Name "enumerate" p) [a] [] pos) (tI X.K B (iEnum fa)) := by
  have pa := pa_cons ha pa_nil hs
  refine ((pi_enumK (kd := true) hg hm pa hs).pxor (pi_enumK (kd := false) hg hm pa hs)).pxw fun σ H Q q => ?_
  obtain ⟨s, H0, ds, s', R, ev, k⟩ := q
  obtain ⟨⟨d1, s1⟩, e1, ev1⟩ := bnd ev
  obtain ⟨⟨k1, as⟩, e3, ev3⟩ := bnd ev1
  cases ev3
  have all : ∀ (k1 : Bool), seq? d1 = some (k1, as) → iEnumK k1 X.K (tCons (tF X.K B fa) tNil) σ H Q := fun k1 e3 => by
    refine ⟨s, H0, d1, s1, R, e1, fun v H1 H' R1 x1 r1 => ?_⟩
    obtain ⟨q1, xs, rfl, h1, l1⟩ := seq_rep e3 r1
    exact ⟨q1, xs, rfl, R1.h0.sqK h1, k _ H1 H' R1 x1 (itok_enum h1 l1)⟩
  cases k1
  · exact .inr (all _ e3)
  · exact .inl (all _ e3)
end
end Px
namespace Px
open PySem L2
/-! ### dict([(k, v), ..]) -/
section
variable {X : Cx} {B : Bs} {a : Expr} {pos p : Pos} {pa : FP} {K : PySem.W.Frag}
@[simp] def pairs? : List D → Option (List (Key × D))
  | [] => some []
  | .tup [k, v] :: r => (key? k).bind fun k => (pairs? r).bind fun l => some ((k, v) :: l)
  | _ :: _ => none
@[simp] def mergeD : List Key × List D → List (Key × D) → List Key × List D
  | acc, [] => acc
  | acc, kv :: r => mergeD (putD acc.1 acc.2 kv.1 kv.2) r
theorem pairs_inv {H0 : Hp} : ∀ {ds : List D} {l : List (Key × D)} {xs : List V}, pairs? ds = some l → RepL K H0 ds xs → ∃ (ps : List Addr) (kvs : List (Key × V)), xs = ps.map V.ref ∧ Paired (fun p kv => SqT K H0 p [kV kv.1, kv.2]) ps kvs ∧ kvs.map (·.1) = l.map (·.1) ∧ RepL K H0 (l.map (·.2)) (kvs.map (·.2))
  | [], l, xs, h, r => by cases h; rw [r.of_nil]; exact ⟨[], [], rfl, .nil, rfl, .nil⟩
  | .tup [k, v] :: ds, l, xs, h, r => by
    obtain ⟨x, rs, rfl, r1, r2⟩ := r.of_cons
    obtain ⟨key, ek, h1⟩ := bnd (show (key? k).bind _ = some l from h)
    obtain ⟨l', el, h2⟩ := bnd h1
    cases h2
    obtain ⟨ps, kvs, e1, e2, e3, e4⟩ := pairs_inv el r2
    obtain ⟨q, ys, rfl, ly, hq⟩ := rep_tup_sq r1
    obtain ⟨y1, yr, rfl, ry1, ly2⟩ := ly.of_cons
    obtain ⟨y2, yr2, rfl, ry2, ly3⟩ := ly2.of_cons
    rw [ly3.of_nil] at hq
    rw [key_inv ek ry1] at hq
    exact ⟨q :: ps, (key, y2) :: kvs, by rw [List.map_cons, e1], .cons hq e2, by simp [e3], .cons ry2 e4⟩
  | .non :: _, _, _, h, _ | .bl _ :: _, _, _, h, _ | .str _ :: _, _, _, h, _ | .int _ :: _, _, _, h, _ | .lst _ :: _, _, _, h, _ | .dK _ _ :: _, _, _, h, _ | .dT _ _ :: _, _, _, h, _ | .scr _ :: _, _, _, h, _ => by cases h
  | .tup [] :: _, _, _, h, _ | .tup [_] :: _, _, _, h, _ | .tup (_ :: _ :: _ :: _) :: _, _, _, h, _ => by cases h
theorem merge_rep {H0 : Hp} : ∀ {l : List (Key × D)} {kvs : List (Key × V)} {ks : List Key} {ds : List D} {xs : List V}, kvs.map (·.1) = l.map (·.1) → RepL K H0 (l.map (·.2)) (kvs.map (·.2)) → RepL K H0 ds xs → ks.length = ds.length →
    ∃ ys, RepL K H0 (mergeD (ks, ds) l).2 ys ∧ mergeK (ks.zip xs) kvs = (mergeD (ks, ds) l).1.zip ys ∧ (mergeD (ks, ds) l).1.length = (mergeD (ks, ds) l).2.length
  | [], kvs, ks, ds, xs, e, _, l, hl => by
    have : kvs = [] := by cases kvs with | nil => rfl | cons _ _ => simp at e
    subst this
    exact ⟨xs, l, rfl, hl⟩
  | (k, d) :: r, kvs, ks, ds, xs, e, rr, l, hl => by
    cases kvs with
    | nil => simp at e
    | cons kv kvs =>
      obtain ⟨k', v⟩ := kv
      simp only [List.map_cons, List.cons.injEq] at e
      obtain ⟨e1, e2⟩ := e
      subst e1
      obtain ⟨x, xr, ex, r1, r2⟩ := rr.of_cons
      simp only [List.map_cons, List.cons.injEq] at ex
      obtain ⟨ex1, ex2⟩ := ex
      subst ex1 ex2
      obtain ⟨ys, ry, ey⟩ := put_rep (k := k') l hl r1
      obtain ⟨zs, rz, ez, hz⟩ := merge_rep (ks := (putD ks ds k' d).1) (ds := (putD ks ds k' d).2) e2 r2 ry (putD_len hl)
      refine ⟨zs, rz, ?_, hz⟩
      show mergeK (putK (ks.zip xs) k' v) kvs = _
      rw [ey]
      exact ez
@[simp] def gDictP : D → Option D
  | .lst ds => (pairs? ds).bind fun l => some (.dK (mergeD ([], []) l).1 (mergeD ([], []) l).2)
  | _ => none
theorem cao_dictP : CaO K (fun xs H Q => ∃ (a : Addr) (ps : List Addr) (kvs : List (Key × V)), xs = [.ref a] ∧ SqL K H a (ps.map V.ref) ∧ Paired (fun p kv => SqT K H p [kV kv.1, kv.2]) ps kvs ∧ ∀ p, H p = none → Q (.ref p) (upd H p (.dK (mergeK [] kvs)))) gDictP := fun B s σ H0 H q d d' x Q R r1 g1 e k => by
  cases d with
  | lst ds =>
    obtain ⟨l, el, e2⟩ := bnd (show (pairs? ds).bind _ = some d' from e)
    cases e2
    obtain ⟨a, xs, rfl, lx, h⟩ := r1.lst R g1
    obtain ⟨ps, kvs, e1, e2, e3, e4⟩ := pairs_inv el lx
    subst e1
    refine ⟨a, ps, kvs, rfl, .of h, L2.Paired.mapP e2 fun _ _ z => R.h0.sqT z, fun t ht => ?_⟩
    obtain ⟨ys, ry, ey, hy⟩ := merge_rep (ks := []) (ds := []) (xs := []) e3 e4 .nil rfl
    exact k t _ (R.laidO ht) (R.ownNew (o := .dK (mergeK [] kvs)) ht ⟨ys, by rw [← ey]; rfl, hy, ry⟩)
  | _ => cases e
theorem io_dictP (hc : X.calm = true) (hg : Gl X "dict") (hm : X.mg "dict" = none) (ha : PE X a (tP X.K B pa)) (he : starEach [a] X.env = (false, eval a X.env) :: starEach [] X.env := by rfl) (hpl : (backTo pos (starEach [] X.env)).any (·.1) = false := by rfl) :
    PE X (.Call (.Name "dict" p) [a] [] pos) (tO X.K B (eB1 gDictP pa)) := io_b1 (pe_callTy (call_dictP hc) hg hm (by decide +kernel) (pa_cons ha pa_nil he) (by decide) (by decide) he hpl) cao_dictP
end
end Px

set_option Elab.async false
set_option linter.all false
set_option maxRecDepth 100000
set_option maxHeartbeats 1000000
/-! Px9: the law's end, module constants -/
namespace Px
open PySem L2
/-- a constant of the module -/
def GlobC (K : PySem.W.Frag) (mg : Str → Option Value) (x : Str) (d : D) : Prop := ∃ v u, mg x = some u ∧ RelV v u ∧ ∀ H0, Rep K H0 d v
theorem law_sp {K : PySem.W.Frag} {H : Hp} {a : Addr} {ns : List Int} {G : FnD} {E : XK} (hS : SqL K H a (ns.map V.int)) (h : G [.scr ns] = some (false, .bl true)) : spF K 1 G [.ref a] H (fun v _ => v = .bl true) E :=
  ⟨H, [.scr ns], false, .bl true, rfl, Ex.refl _, .cons (by simp only [Rep]; exact ⟨a, rfl, hS⟩) .nil, h, fun v H1 H' _ _ _ _ r => rep_bl (show Rep K H1 (.bl true) v from r)⟩
section
variable {X : Cx} {B : Bs} {tg : Expr} {pos : Pos}
theorem ie_glob {x : Str} {d : D} (h : GlobC X.K X.mg x d) (hg : Gl X x) (hd : (x == ("__debug__" : Str)) = false := by decide) : PE X (.Name x pos) (tF X.K B (eC d)) := by
  obtain ⟨v, u, h1, h2, h3⟩ := h
  exact ie_c (pe_glob hg h1 h2 hd) h3
theorem sw_trueD {kx vx : Expr} {gs : List Comprehension} {scope : Scope} {pos py : Pos} {y : Str} {l : Nat} {env : Env} (hk : env.scope.kind = .function) (hy : env.scope.names.lookup y = some .local) (hl : (py.line == pos.line) = true)
    (ha : (scope.names.any fun (n, k) => n == y && (k == .local || k == .cell)) = false) : swapsWith (.DictComp kx vx gs scope pos) (some (.Name y py)) l env = pure true := by
  have ky : env.kindOf y = some .local := hy
  have hb : env.blockKind = .function := by unfold Env.blockKind; rw [hk]; rfl
  unfold swapsWith
  simp only [hb, ky, ha, Expr.pos, hl]
  rfl
/-- y = {k: v for ..} -/
theorem is_setDc {i : Nat} {y : Str} {py spos : Pos} {kx vx iter : Expr} {ifs : List Expr} {scope : Scope} {own : List (Str × Nat)} {fi : FI} {ts : List Nat} {g : FG} {t : TB} {fk fv : F} (hc : X.calm = true) (hN : X.N.Nodup) (hy : X.N[i]? = some y) (hyl : X.env.scope.names.lookup y = some .local)
    (hsw : swapsWith (.DictComp kx vx [⟨tg, iter, ifs, 0⟩] scope pos) (some (.Name y py)) spos.line X.env = pure true) (hi : PI X tg iter (tI X.K B fi)) (ok : BlkOk X.N X.env.scope scope own)
    (hg : ∀ (B : Bs) (s : Shared) (H : Hp) (C : Addr) (cl : List (Str × Addr)) (fp : List Addr), PG (X.blk s H scope (compEnvC scope cl C X.env) fp) tg (tG X.K B ts g))
    (ht : ∀ (B : Bs) (s : Shared) (H : Hp) (C : Addr) (cl : List (Str × Addr)) (fp : List Addr), PTs (X.blk s H scope (compEnvC scope cl C X.env) fp) ifs (tT X.K B t))
    (hk : ∀ (B : Bs) (s : Shared) (H : Hp) (C : Addr) (cl : List (Str × Addr)) (fp : List Addr), PE (X.blk s H scope (compEnvC scope cl C X.env) fp) kx (tF X.K B fk))
    (he : ∀ (B : Bs) (s : Shared) (H : Hp) (C : Addr) (cl : List (Str × Addr)) (fp : List Addr), PE (X.blk s H scope (compEnvC scope cl C X.env) fp) vx (tF X.K B fv)) (hts : ∀ i ∈ ts, i ∈ own.map (·.2) := by decide)
    (hs : ∀ x, foldedSetIterable iter X.env x = pure x := by intro _; rfl) : PS X (.Assign [.Name y py] (.DictComp kx vx [⟨tg, iter, ifs, 0⟩] scope pos) spos) (tS X.K B (sSetO i (eDc fi g t fk fv (own.map (·.2))))) := by
  refine ⟨fun pins s σ H D I h => ?_⟩
  rw [exec_Assign_Name_used _ _ _ _ hsw]
  refine wpAny_bind (wpAny_standAt (wpAny_bind ?_))
  show wpAny _ X.A (do let _ ← comprehension (.DictComp kx vx [⟨tg, iter, ifs, 0⟩] scope pos) scope X.env (firstIterPos [⟨tg, iter, ifs, 0⟩] pos) newDict false (eval iter X.env) (some (assign (.Name y py) X.env))) _ _ s
  have h : tDc (tI X.K B fi) (fun v σ H Q => ∃ B, tG X.K B ts g v σ H Q) (fun σ H Q => ∃ B, tT X.K B t σ H Q) (fun σ H Q => ∃ B, tF X.K B fk σ H Q) (fun σ H Q => ∃ B, tF X.K B fv σ H Q) (own.map (·.2)) σ H (fun x H1 => gName i x σ H1 D.nx) := by
    obtain ⟨s, H0, out, R, ev, k⟩ := h
    obtain ⟨a, e1, e2⟩ := bnd ev
    cases e2
    exact rd_dc hts ⟨s, H0, a.1, a.2, R, e1, fun p H1 H' R1 x1 w => k _ H1 H' (R1.setO w) x1⟩
  refine wpAny_bind (thn (dc_core (Qf := fun _ s' => SP X pins D .next s') hc hN I hi ok
    (fun s H C cl fp => ⟨fun pins s' σ H' v u Q I r ⟨B, q⟩ => (hg B s H C cl fp).run pins s' σ H' v u Q I r q⟩)
    (fun s H C cl fp => ⟨fun pins s' σ H' Q I ⟨B, q⟩ => (ht B s H C cl fp).run pins s' σ H' Q I q⟩)
    (fun s H C cl fp => ⟨fun pins s' σ H' Q I ⟨B, q⟩ => (hk B s H C cl fp).run pins s' σ H' Q I q⟩)
    (fun s H C cl fp => ⟨fun pins s' σ H' Q I ⟨B, q⟩ => (he B s H C cl fp).run pins s' σ H' Q I q⟩) hs h fun L C s' m H' I' q hn f => ?_) fun _ s' hq => wpAny_pure (wpAny_pure hq))
  show wpAny _ _ (assign (.Name y py) X.env (.ref L)) _ _ _
  refine wpAny_assign_Name (store_ok2 (v := V.ref L) I' hN hy (.inl hyl) rfl (fun s2 I2 ⟨a, sb, ha⟩ => ?_) (.inr hyl))
  obtain ⟨f0, f1, f2, f3, f4, f5⟩ := f
  have haC : C ≠ a := by
    rcases ha with z | z
    · rw [z]; exact f1
    · exact fun e => f4 y a z e.symm
  refine ⟨m, hn.sameBut sb haC, fun h3 sb3 => ?_⟩
  exact ⟨_, H', I2.turned (t' := s2.toks) (fun b o hb e => (sb3.2 b hb).trans e) f0 f1 f3 f4 f5, q⟩
end
end Px

set_option Elab.async false
set_option linter.all false
set_option maxRecDepth 100000
set_option maxHeartbeats 1000000
/-! Px10: zip of three, in, remove, index by data, a dict display of one pair, tuples repeated -/
namespace Px
open PySem L2
/-! ### zip of three -/
def Itz3 (k1 k2 k3 : Bool) (K : PySem.W.Frag) (a b c : Addr) : It :=
  ⟨fun i H => ∃ (xs ys zs : List V) (x y z : V), SqK k1 K H a xs ∧ SqK k2 K H b ys ∧ SqK k3 K H c zs ∧ xs[i]? = some x ∧ ys[i]? = some y ∧ zs[i]? = some z,
    fun i H v H' => ∃ T x y z, v = .ref T ∧ H T = none ∧ H' = upd H T (.tup [x, y, z]) ∧ (∀ xs, SqK k1 K H a xs → xs[i]? = some x) ∧ (∀ ys, SqK k2 K H b ys → ys[i]? = some y) ∧ ∀ zs, SqK k3 K H c zs → zs[i]? = some z,
    fun i H => ∃ xs ys zs : List V, SqK k1 K H a xs ∧ SqK k2 K H b ys ∧ SqK k3 K H c zs ∧ min (min xs.length ys.length) zs.length = i⟩
theorem turn_zip3 {P : Program} {w : World} {K : PySem.W.Frag} {elts : List Expr} {kk : Nat} {tpos : Pos} {k1 k2 k3 : Bool} {a b c z TI TO i1 i2 i3 : Addr} (S : ZipSep3 z TI TO i1 i2 i3 [i1, a] [i2, b] [i3, c]) (n1 : a ≠ i1) (n2 : b ≠ i2) (n3 : c ≠ i3) :
    Turn P w K (.Tuple elts kk tpos) (Itz3 k1 k2 k3 K a b c) [z, TI, TO, i1, i2, i3] z (fun i h => IsZip h z TI TO .none ∧ IsTupOf3 h TI (.ref i1) (.ref i2) (.ref i3) ∧ (∃ x y u, IsTupOf3 h TO x y u) ∧ IterK k1 h i1 a i ∧ IterK k2 h i2 b i ∧ IterK k3 h i3 c i) where
  mem := by simp
  obj := fun i h st c hc => by
    obtain ⟨hz, hTI, ⟨x, y, u, hTO⟩, h1, h2, h3⟩ := st
    have e' : c = z ∨ c = TI ∨ c = TO ∨ c = i1 ∨ c = i2 ∨ c = i3 := by simpa using hc
    rcases e' with q | q | q | q | q | q
    · rw [q]; exact ⟨_, hz, fun v q => nomatch q⟩
    · rw [q]; exact ⟨_, hTI, fun v q => nomatch q⟩
    · rw [q]; exact ⟨_, hTO, fun v q => nomatch q⟩
    · rw [q]; exact iterK_obj h1
    · rw [q]; exact iterK_obj h2
    · rw [q]; exact iterK_obj h3
  keep := fun i h h' st k => by
    obtain ⟨hz, hTI, ⟨x, y, u, hTO⟩, h1, h2, h3⟩ := st
    exact ⟨k z (by simp) _ hz, k TI (by simp) _ hTI, ⟨x, y, u, k TO (by simp) _ hTO⟩, iterK_at h1 fun o q => k i1 (by simp) o q, iterK_at h2 fun o q => k i2 (by simp) o q, iterK_at h3 fun o q => k i3 (by simp) o q⟩
  item := by
    intro X hP hw hK hc i pins s σ H E I hf st hg
    subst hP hw hK
    obtain ⟨hz, hTI, hTO, h1, h2, h3⟩ := st
    obtain ⟨xs, ys, zs, x, y, z', hqx, hqy, hqz, hx, hy, hzz⟩ := hg
    obtain ⟨its, rv, p, la⟩ := invK I hqx
    obtain ⟨its2, rv2, p2, lb⟩ := invK I hqy
    obtain ⟨its3, rv3, p3, lc⟩ := invK I hqz
    obtain ⟨u, hu, ru⟩ := rv.get hx
    obtain ⟨u2, hu2, ru2⟩ := rv2.get hy
    obtain ⟨u3, hu3, ru3⟩ := rv3.get hzz
    have hh : X.A.in1.handled = none := I.ok.hd hc
    have hi1 : i < its.length := (List.getElem?_eq_some_iff.mp hu).1
    have hi2 : i < its2.length := (List.getElem?_eq_some_iff.mp hu2).1
    have hi3 : i < its3.length := (List.getElem?_eq_some_iff.mp hu3).1
    have G := GoesN.zip3 (elts := elts) (x1 := kk) (pos := tpos) S (drawsK (prog := X.prog) (w := X.w) (A := X.A.in1) k1 hh i1 a n1 its.toArray) (drawsK k2 hh i2 b n2 its2.toArray) (drawsK k3 hh i3 c n3 its3.toArray)
    refine wpAny_mono (G.goes i s (fun v s2 => ∃ x H', Inv X pins σ H' s2 ∧ RelV x v ∧ (Itz3 k1 k2 k3 X.K a b c).yld i H x H' ∧ (IsZip s2.heap z TI TO .none ∧ IsTupOf3 s2.heap TI (.ref i1) (.ref i2) (.ref i3) ∧ (∃ x y u, IsTupOf3 s2.heap TO x y u) ∧ IterK k1 s2.heap i1 a (i + 1) ∧ IterK k2 s2.heap i2 b (i + 1) ∧ IterK k3 s2.heap i3 c (i + 1)) ∧ ∀ b ∈ [z, TI, TO, i1, i2, i3], H' b = none) E (by simp; omega) ⟨hz, hTI, hTO, ⟨h1, p⟩, ⟨h2, p2⟩, ⟨h3, p3⟩⟩ ?_) (fun r s1 q => q) (fun _ _ q => q)
    rintro v h' tk ⟨T, v1, v2, v3, rfl, hT, e1, e2, e3, hTT⟩ ⟨g1, g2, g3, ⟨g4, _⟩, ⟨g5, _⟩, g6, _⟩ hk _
    have ev1 : v1 = u := by
      have : its[i]? = some v1 := by simpa using e1
      rw [hu] at this; exact (Option.some.inj this).symm
    have ev2 : v2 = u2 := by
      have : its2[i]? = some v2 := by simpa using e2
      rw [hu2] at this; exact (Option.some.inj this).symm
    have ev3 : v3 = u3 := by
      have : its3[i]? = some v3 := by simpa using e3
      rw [hu3] at this; exact (Option.some.inj this).symm
    subst ev1 ev2 ev3
    have new : ObjOk X.prog X.w (upd H T (.tup [x, y, z'])) h' T (.tup [x, y, z']) := ⟨by show 3 ≤ sizeLine; decide, [v1, v2, v3], .cons ru (.cons ru2 (.cons ru3 .nil)), hTT⟩
    have I1 : Inv X pins σ (upd H T (.tup [x, y, z'])) { s with heap := h', toks := tk } :=
      I.turnedNew (ch := [z, TI, TO, i1, i2, i3]) (fun c o hb q => hk c o (fun y => hb (by simp at y ⊢; rcases y with y | y | y | y | y <;> simp [y])) q) hf hT new
    refine ⟨.ref T, _, I1, rfl, ⟨T, x, y, z', rfl, I.hok.fresh hT, rfl, fun l hl => by rw [injK I hl hqx]; exact hx, fun l hl => by rw [injK I hl hqy]; exact hy, fun l hl => by rw [injK I hl hqz]; exact hzz⟩, ⟨g1, g2, g3, g4, g5, g6⟩, fun c hcm => ?_⟩
    have hlt : c < s.heap.objs.size := by
      have e' : c = z ∨ c = TI ∨ c = TO ∨ c = i1 ∨ c = i2 ∨ c = i3 := by simpa using hcm
      rcases e' with q | q | q | q | q | q
      · rw [q]; exact Heap.lt_size hz
      · rw [q]; exact Heap.lt_size hTI
      · rw [q]; obtain ⟨_, _, _, hTO⟩ := hTO; exact Heap.lt_size hTO
      · rw [q]; obtain ⟨_, e1, _⟩ := iterK_obj h1; exact Heap.lt_size e1
      · rw [q]; obtain ⟨_, e2, _⟩ := iterK_obj h2; exact Heap.lt_size e2
      · rw [q]; obtain ⟨_, e3, _⟩ := iterK_obj h3; exact Heap.lt_size e3
    rw [upd_ne (Nat.ne_of_lt (Nat.lt_of_lt_of_le hlt hT))]
    exact (hf c hcm).1
  done := by
    intro X hP hw hK hc i pins s σ H E I hf st hg
    subst hP hw hK
    obtain ⟨hz, hTI, hTO, h1, h2, h3⟩ := st
    obtain ⟨xs, ys, zs, hqx, hqy, hqz, hend⟩ := hg
    obtain ⟨its, rv, p, la⟩ := invK I hqx
    obtain ⟨its2, rv2, p2, lb⟩ := invK I hqy
    obtain ⟨its3, rv3, p3, lc⟩ := invK I hqz
    have hh : X.A.in1.handled = none := I.ok.hd hc
    have hi : i = min (min its.toArray.size its2.toArray.size) its3.toArray.size := by
      rw [← hend, rv.length, rv2.length, rv3.length]; simp
    have G := GoesN.zip3 (elts := elts) (x1 := kk) (pos := tpos) S (drawsK (prog := X.prog) (w := X.w) (A := X.A.in1) k1 hh i1 a n1 its.toArray) (drawsK k2 hh i2 b n2 its2.toArray) (drawsK k3 hh i3 c n3 its3.toArray)
    subst hi
    exact G.stops s (fun s1 => Inv X pins σ H s1) E ⟨hz, hTI, hTO, ⟨h1, p⟩, ⟨h2, p2⟩, ⟨h3, p3⟩⟩ fun h' tk hk _ => I.turnedL (t' := tk) (ch := [z, TI, TO, i1, i2, i3]) (fun c o hb q => hk c o (fun y => hb (by simp at y ⊢; rcases y with y | y | y | y | y <;> simp [y])) q) hf
  self := fun A i s Q E st h => wpAny_pyIter_zip st.1 h
def iZipT (k1 k2 k3 : Bool) (K : PySem.W.Frag) (ta : TA) : L2.TI := fun σ H R => ta σ H fun vs H1 => ∃ a b c xs ys zs, vs = [.ref a, .ref b, .ref c] ∧ SqK k1 K H1 a xs ∧ SqK k2 K H1 b ys ∧ SqK k3 K H1 c zs ∧ R (Itz3 k1 k2 k3 K a b c) H1
theorem pi_zip3 {X : Cx} {e e2 e3 : Expr} {ta : TA} {p pos tpos : Pos} {elts : List Expr} {kk : Nat} {k1 k2 k3 : Bool} (hg : Gl X "zip") (hm : X.mg "zip" = none) (ha : PA X [e, e2, e3] ta)
    (hs : starEach [e, e2, e3] X.env = (false, eval e X.env) :: starEach [e2, e3] X.env := by rfl) (hpl : (backTo pos (starEach [e2, e3] X.env)).any (·.1) = false := by rfl) :
    PI X (.Tuple elts kk tpos) (.Call (.Name "zip" p) [e, e2, e3] [] pos) (iZipT k1 k2 k3 X.K ta) := by
  refine ⟨fun pins s σ H R I h => ?_⟩
  refine PyProof.Rows.Call_ (ld_blt I hg hm PyProof.Rows.boot_zip (PyProof.Rows.callWith_type1 (thn (ha.run pos pins s σ H _ I h) fun us s1 ⟨vs, H1, I1, r1, q1⟩ => ?_) hs hpl))
  obtain ⟨a, b, c, xs, ys, zs, ex, hqx, hqy, hqz, q⟩ := q1
  subst ex
  cases r1 with
  | cons r rr =>
    cases rr with
    | cons r' rr =>
      cases rr with
      | cons r'' rr =>
        cases rr
        cases r
        cases r'
        cases r''
        obtain ⟨its, rv, p1, la⟩ := invK I1 hqx
        obtain ⟨its2, rv2, p2, lb⟩ := invK I1 hqy
        obtain ⟨its3, rv3, p3, lc⟩ := invK I1 hqz
        refine zip_begins3 (beginsK k1 a its.toArray) (beginsK k2 b its2.toArray) (beginsK k3 c its3.toArray) p1 p2 p3 fun h' hz hTI hTO h1 h2 h3 hsz hk => wpAny_pyIter_zip hz ?_
        have I2 : Inv X pins σ H1 { s1 with heap := h' } := I1.kept (t' := s1.toks) hk
        refine ⟨s1.heap.objs.size + 5, [s1.heap.objs.size + 5, s1.heap.objs.size + 3, s1.heap.objs.size + 4, s1.heap.objs.size, s1.heap.objs.size + 1, s1.heap.objs.size + 2], _, _, H1, rfl, I2,
          turn_zip3 (zip_sep3 (N := s1.heap.objs.size) (fp1 := [a]) (fp2 := [b]) (fp3 := [c]) (by simpa using la) (by simpa using lb) (by simpa using lc)) (Nat.ne_of_lt la) (Nat.ne_of_lt (Nat.lt_succ_of_lt lb)) (Nat.ne_of_lt (Nat.lt_succ_of_lt (Nat.lt_succ_of_lt lc))), ⟨hz, hTI, ⟨_, _, _, hTO⟩, iterK_new h1, iterK_new h2, iterK_new h3⟩, fun c hcm => ?_, q⟩
        have hle : s1.heap.objs.size ≤ c := by
          have e' : c = s1.heap.objs.size + 5 ∨ c = s1.heap.objs.size + 3 ∨ c = s1.heap.objs.size + 4 ∨ c = s1.heap.objs.size ∨ c = s1.heap.objs.size + 1 ∨ c = s1.heap.objs.size + 2 := by simpa using hcm
          rcases e' with z | z | z | z | z | z
          · rw [z]; exact Nat.le_add_right _ _
          · rw [z]; exact Nat.le_add_right _ _
          · rw [z]; exact Nat.le_add_right _ _
          · rw [z]; exact Nat.le_refl _
          · rw [z]; exact Nat.le_add_right _ _
          · rw [z]; exact Nat.le_add_right _ _
        exact I1.fpOk hle (I1.hok.fresh hle)
section
variable {X : Cx} {B : Bs} {a b c e tg : Expr} {pos p tpos : Pos} {fa fb fc f : F} {K : PySem.W.Frag} {σ : St} {H : Hp}
@[simp] def zip3D : List D → List D → List D → List D
  | x :: as, y :: bs, z :: cs => .tup [x, y, z] :: zip3D as bs cs
  | _, _, _ => []
theorem zip3D_get : ∀ {as bs cs : List D} {i : Nat} {d : D}, (zip3D as bs cs)[i]? = some d → ∃ x y z, as[i]? = some x ∧ bs[i]? = some y ∧ cs[i]? = some z ∧ d = .tup [x, y, z]
  | x :: as, y :: bs, z :: cs, 0, d, h => by
    simp [zip3D] at h
    exact ⟨x, y, z, rfl, rfl, rfl, h.symm⟩
  | x :: as, y :: bs, z :: cs, i + 1, d, h => by
    obtain ⟨x', y', z', h1, h2, h3, h4⟩ := zip3D_get (i := i) (by simpa [zip3D] using h)
    exact ⟨x', y', z', by simpa using h1, by simpa using h2, by simpa using h3, h4⟩
  | [], _, _, _, _, h => by simp [zip3D] at h
  | _ :: _, [], _, _, _, h => by simp [zip3D] at h
  | _ :: _, _ :: _, [], _, _, h => by simp [zip3D] at h
theorem zip3D_length : ∀ (as bs cs : List D), (zip3D as bs cs).length = min (min as.length bs.length) cs.length
  | x :: as, y :: bs, z :: cs => by simp [zip3D, zip3D_length as bs cs]
  | [], _, _ => by simp [zip3D]
  | _ :: _, [], _ => by simp [zip3D]
  | _ :: _, _ :: _, [] => by simp [zip3D]
theorem itok_zip3 {H0 : Hp} {k1 k2 k3 : Bool} {q1 q2 q3 : Addr} {xs ys zs : List V} {as bs cs : List D} (h1 : SqK k1 K H0 q1 xs) (l1 : RepL K H0 as xs) (h2 : SqK k2 K H0 q2 ys) (l2 : RepL K H0 bs ys) (h3 : SqK k3 K H0 q3 zs) (l3 : RepL K H0 cs zs) : ItOk K (Itz3 k1 k2 k3 K q1 q2 q3) H0 (zip3D as bs cs) := fun i H1 H' x1 x2 => by
  have s1 := (x1.trans x2).sqK h1
  have s2 := (x1.trans x2).sqK h2
  have s3 := (x1.trans x2).sqK h3
  refine ⟨fun d hd => ?_, fun hi => ⟨xs, ys, zs, s1, s2, s3, by rw [l1.len, l2.len, l3.len, ← zip3D_length]; exact hi⟩⟩
  obtain ⟨x, y, z, ex, ey, ez, rfl⟩ := zip3D_get hd
  obtain ⟨vx, gx, rx⟩ := l1.get ex
  obtain ⟨vy, gy, ry⟩ := l2.get ey
  obtain ⟨vz, gz, rz⟩ := l3.get ez
  refine ⟨⟨xs, ys, zs, vx, vy, vz, s1, s2, s3, gx, gy, gz⟩, fun v H2 hy => ?_⟩
  obtain ⟨T, wx, wy, wz, rfl, hT, rfl, f1, f2, f3⟩ := hy
  have e1 := f1 xs s1
  rw [gx] at e1; cases e1
  have e2 := f2 ys s2
  rw [gy] at e2; cases e2
  have e3 := f3 zs s3
  rw [gz] at e3; cases e3
  exact .inr ⟨T, _, hT, rfl, rep_tupNew (.cons (rx.up x1) (.cons (ry.up x1) (.cons (rz.up x1) .nil))) (x2.back hT)⟩
/-- zip of three, of told kinds -/
@[simp] def iZip3 (k1 k2 k3 : Bool) (fa fb fc : F) : FI := fun s => (fa s).bind fun a => (fb a.2).bind fun b => (fc b.2).bind fun c => match seq? a.1, seq? b.1, seq? c.1 with
  | some x, some y, some z => if x.1 = k1 ∧ y.1 = k2 ∧ z.1 = k3 then some (zip3D x.2 y.2 z.2, c.2) else none
  | _, _, _ => none
theorem ii_zip3 {elts : List Expr} {kk : Nat} {k1 k2 k3 : Bool} (hg : Gl X "zip") (hm : X.mg "zip" = none) (ha : PE X a (tF X.K B fa)) (hb : PE X b (tF X.K B fb)) (hc : PE X c (tF X.K B fc)) (hs : starEach [a, b, c] X.env = (false, eval a X.env) :: starEach [b, c] X.env := by rfl) (hs2 : starEach [b, c] X.env = (false, eval b X.env) :: starEach [c] X.env := by rfl)
    (hs3 : starEach [c] X.env = (false, eval c X.env) :: starEach [] X.env := by rfl) (hpl : (backTo pos (starEach [b, c] X.env)).any (·.1) = false := by rfl) : PI X (.Tuple elts kk tpos) (.Call (.Name "zip" p) [a, b, c] [] pos) (tI X.K B (iZip3 k1 k2 k3 fa fb fc)) := by
  have pa := pa_cons ha (pa_cons hb (pa_cons hc pa_nil hs3) hs2) hs
  refine (pi_zip3 (k1 := k1) (k2 := k2) (k3 := k3) hg hm pa hs hpl).pxw fun σ H Q q => ?_
  obtain ⟨s, H0, ds, s', R, ev, k⟩ := q
  obtain ⟨⟨d1, s1⟩, e1, ev1⟩ := bnd ev
  obtain ⟨⟨d2, s2⟩, e2, ev2⟩ := bnd ev1
  obtain ⟨⟨d3, s3⟩, e3, ev3⟩ := bnd ev2
  dsimp only at ev3
  split at ev3
  · next x y z g1 g2 g3 =>
    split at ev3
    · next hk =>
      cases ev3
      obtain ⟨xk, xd⟩ := x
      obtain ⟨yk, yd⟩ := y
      obtain ⟨zk, zd⟩ := z
      obtain ⟨rfl, rfl, rfl⟩ := hk
      refine ⟨s, H0, d1, s1, R, e1, fun v H1 H' R1 x1 r1 => ⟨s1, H1, d2, s2, R1, e2, fun w H2 H2' R2 x2 r2 => ⟨s2, H2, d3, _, R2, e3, fun u H3 H3' R3 x3 r3 => ?_⟩⟩⟩
      obtain ⟨q1, xs, rfl, h1, l1⟩ := seq_rep g1 (r1.up (x2.trans x3))
      obtain ⟨q2, ys, rfl, h2, l2⟩ := seq_rep g2 (r2.up x3)
      obtain ⟨q3, zs, rfl, h3, l3⟩ := seq_rep g3 r3
      exact ⟨q1, q2, q3, xs, ys, zs, rfl, R3.h0.sqK h1, R3.h0.sqK h2, R3.h0.sqK h3, k _ H3 H3' R3 ((x1.trans x2).trans x3) (itok_zip3 h1 l1 h2 l2 h3 l3)⟩
    · cases ev3
  · cases ev3
/-! ### in, not in, by data -/
@[simp] def gInQ (neg : Bool) (x c : D) : Option D := match seq? c with
  | some y => if okD x && okD c then some (.bl (if neg then !y.2.any fun z => eqD z x else y.2.any fun z => eqD z x)) else none
  | none => none
def rInP (K : PySem.W.Frag) (neg : Bool) : R2 := fun x y H Q => ∃ d xs, Dp K H x d ∧ (Dp K H y (.list xs) ∨ Dp K H y (.tuple xs)) ∧ d.plain = true ∧ PyData.plainAll xs = true ∧ PyData.depthAll xs ≤ 63 ∧ Q (.bl (if neg then !xs.any fun z => PyData.eqv z d else xs.any fun z => PyData.eqv z d)) H
theorem op_inP (hu : X.A.units + 64 < cLine) : OpR X (compareOp .In) (rInP X.K false) := by
  intro pins s σ H x y v u Q I rx ry h
  obtain ⟨d, xs, hd, he, pd, px, dx, q⟩ := h
  obtain ⟨as, r1⟩ := Dp.reads I d x v hd rx
  rcases he with he | he
  · obtain ⟨bs, r2⟩ := Dp.reads I _ y u he ry
    exact SeqAt.in_list_data r2 r1 px pd (by omega) ⟨.bl _, H, I, rfl, q⟩
  · obtain ⟨bs, r2⟩ := Dp.reads I _ y u he ry
    exact SeqAt.in_tuple_data r2 r1 px pd (by omega) ⟨.bl _, H, I, rfl, q⟩
theorem op_notInP (hu : X.A.units + 64 < cLine) : OpR X (compareOp .NotIn) (rInP X.K true) := by
  intro pins s σ H x y v u Q I rx ry h
  obtain ⟨d, xs, hd, he, pd, px, dx, q⟩ := h
  obtain ⟨as, r1⟩ := Dp.reads I d x v hd rx
  rcases he with he | he
  · obtain ⟨bs, r2⟩ := Dp.reads I _ y u he ry
    exact SeqAt.notIn_list_data r2 r1 px pd (by omega) ⟨.bl _, H, I, rfl, q⟩
  · obtain ⟨bs, r2⟩ := Dp.reads I _ y u he ry
    exact SeqAt.notIn_tuple_data r2 r1 px pd (by omega) ⟨.bl _, H, I, rfl, q⟩
theorem any_pys (f : PyData → Bool) : ∀ ds : List D, (pys ds).any f = ds.any fun z => f z.py
  | [] => rfl
  | d :: ds => by simp [pys, any_pys f ds]
theorem opp_in {neg : Bool} : OpP K (rInP K neg) (gInQ neg) := fun B s σ H0 H p1 p2 d1 d2 d x y Q R r1 r2 g1 g2 e k => by
  unfold gInQ at e
  split at e
  · next z hz =>
    split at e
    · next h =>
      cases e
      rw [Bool.and_eq_true] at h
      have o1 := okD_inv h.1
      have o2 := okD_inv h.2
      have rd1 := rep_dp d1 x o1.1 (r1.rep R g1)
      have rd2 := rep_dp d2 y o2.1 (r2.rep R g2)
      cases d2 with
      | lst es =>
        cases hz
        refine ⟨d1.py, pys es, rd1, .inl rd2, o1.1, o2.1, by have := o2.2; simp only [D.py, PyData.depth] at this; omega, ?_⟩
        refine k _ H0 H R (Ex.refl _) ?_
        simp only [Rep, any_pys]; rfl
      | tup es =>
        cases hz
        refine ⟨d1.py, pys es, rd1, .inr rd2, o1.1, o2.1, by have := o2.2; simp only [D.py, PyData.depth] at this; omega, ?_⟩
        refine k _ H0 H R (Ex.refl _) ?_
        simp only [Rep, any_pys]; rfl
      | _ => cases hz
    · cases e
  · cases e
variable {pa pb : FP}
theorem ie_inQ (hu : X.A.units + 64 < cLine) (ha : PE X a (tP X.K B pa)) (hb : PE X b (tP X.K B pb)) (hm : behindInMarks .In b = false := by rfl) : PE X (.Compare a [.In] [b] pos) (tF X.K B (eOpP (gInQ false) pa pb)) := ie_op2P (fun h1 h2 => pe_cmpR (op_inP hu) h1 h2 hm) opp_in ha hb
theorem ie_inQn (hu : X.A.units + 64 < cLine) (ha : PE X a (tP X.K B pa)) (hb : PE X b (tP X.K B pb)) (hm : behindInMarks .NotIn b = false := by rfl) : PE X (.Compare a [.NotIn] [b] pos) (tF X.K B (eOpP (gInQ true) pa pb)) := ie_op2P (fun h1 h2 => pe_cmpR (op_notInP hu) h1 h2 hm) opp_in ha hb
theorem it_inQ (hu : X.A.units + 64 < cLine) (ha : PE X a (tP X.K B pa)) (hb : PE X b (tP X.K B pb)) (hm : behindInMarks .In b = false := by rfl) : PT X (.Compare a [.In] [b] pos) (tT X.K B (bT (eOpP (gInQ false) pa pb))) := it_of (pt_cmpR (op_inP hu) ha hb hm) fun q => rd_op2P opp_in q
theorem it_inQn (hu : X.A.units + 64 < cLine) (ha : PE X a (tP X.K B pa)) (hb : PE X b (tP X.K B pb)) (hm : behindInMarks .NotIn b = false := by rfl) : PT X (.Compare a [.NotIn] [b] pos) (tT X.K B (bT (eOpP (gInQ true) pa pb))) := it_of (pt_cmpR (op_notInP hu) ha hb hm) fun q => rd_op2P opp_in q
/-! ### list.remove by data -/
def rRemP (K : PySem.W.Frag) : V → List V → Hp → VK → Prop := fun x xs H Q => ∃ (l : Addr) (ys : List V) (y : V) (d : PyData) (ds : List PyData) (j : Nat), x = .ref l ∧ xs = [y] ∧ H l = some (.lst ys) ∧ DpAll K H ys ds ∧ Dp K H y d ∧
  PyData.plainAll ds = true ∧ d.plain = true ∧ PyData.depthAll ds ≤ 63 ∧ SeqAt.dataPlace ds d = some j ∧ Q .non (upd H l (.lst (ys.eraseIdx j)))
theorem mt_removeP (hu : X.A.units + 64 < cLine) : MtM X "list.remove" (rRemP X.K) := by
  intro pins s σ H x xs v us Q I rx rxs h
  obtain ⟨l, ys, y, d, ds, j, rfl, rfl, hH, ha, hd, pds, pd, dep, hj, q⟩ := h
  cases rx
  obtain ⟨u, rfl, ru⟩ := rxs.one
  obtain ⟨z, its, n, r, hl, e⟩ := I.lstM hH
  obtain ⟨as, ra⟩ := Dp.readsAll I ds ys its ha r
  obtain ⟨bs, rb⟩ := Dp.reads I d y u hd ru
  refine SeqAt.remove_list_data (vs := its.toArray) ⟨_, e, rfl, n, rfl⟩ (by simpa using ra) rb pds pd (by omega) hj (by rw [List.size_toArray]; omega) ?_
  have rr := r.eraseIdx j
  refine ⟨.non, _, I.lset (its' := its.eraseIdx j) (t' := s.toks) hH e ?_ rr ?_, rfl, q⟩
  · show its.toArray.eraseIdxIfInBounds j = (its.eraseIdx j).toArray
    rw [List.eraseIdxIfInBounds_toArray]
  · have z2 := List.length_eraseIdx_le ys j
    omega
theorem rep_dpAll {H : Hp} {ds : List D} {xs : List V} (h : PyData.plainAll (pys ds) = true) (r : RepL K H ds xs) : DpAll K H xs (pys ds) := rep_dps ds xs h r
theorem RepL.eraseIdx : ∀ {ds : List D} {xs : List V} (j : Nat), RepL K H ds xs → RepL K H (ds.eraseIdx j) (xs.eraseIdx j)
  | [], xs, j, h => by rw [h.of_nil]; simpa using RepL.nil
  | d :: ds, xs, 0, h => by
    obtain ⟨x, r, rfl, _, h2⟩ := h.of_cons
    exact h2
  | d :: ds, xs, j + 1, h => by
    obtain ⟨x, r, rfl, h1, h2⟩ := h.of_cons
    exact .cons h1 (RepL.eraseIdx j h2)
theorem find_pys (f : PyData → Bool) : ∀ ds : List D, (pys ds).findIdx? f = ds.findIdx? fun z => f z.py
  | [] => rfl
  | d :: ds => by simp [pys, List.findIdx?_cons, find_pys f ds]
/-- x.remove(e) -/
@[simp] def sRemove (i : Nat) (f : F) : FS := fun s => (ownL s i).bind fun _ => (f s).bind fun a => (ownL a.2 i).bind fun m => if okD a.1 && okD (.lst m.2) then (m.2.findIdx? fun z => eqD z a.1).bind fun j => some (.nx (a.2.set i (some (m.1, .lst (m.2.eraseIdx j))))) else none
theorem is_remove {i : Nat} {x : Str} {apos cpos : Pos} {pn : Pos} (hu : X.A.units + 64 < cLine) (hv : PE X (.Name x pn) (tVar i)) (he : PE X e (tF X.K B f)) (hst : starEach [e] X.env = (false, eval e X.env) :: starEach [] X.env := by rfl)
    (hbase : attributeBase (.Name x pn) "remove" X.env (eval (.Name x pn) X.env) = eval (.Name x pn) X.env := by rfl)
    (hfew : ((backTo cpos (starEach [e] X.env)).all (fun x => !x.1) && (backToKw cpos (keywordEach [] X.env)).all (fun x => x.1.isSome) && decide ([e].length + ([] : List Keyword).length + (if ([] : List Keyword).isEmpty then 0 else 1) < 30)) = true := by rfl)
    (hline : (apos.endLine == cpos.line) = true := by rfl) (hplain : (backTo cpos (starEach [] X.env)).any (·.1) = false := by rfl)
    (hs : swapsWith (.Call (.Attribute (.Name x pn) "remove" apos) [e] [] cpos) none pos.line X.env = pure false := by rfl) :
    PS X (.Expr (.Call (.Attribute (.Name x pn) "remove" apos) [e] [] cpos) pos) (tS X.K B (sRemove i f)) :=
  (ps_expr (pe_bm PySem.F.plainAttrs_list PySem.F.slot_list_remove PySem.F.type_list_remove (mt_removeP hu) hv (pa_cons he pa_nil hst) hbase hfew hline hst hplain) hs).pxw fun E σ H q => by
  obtain ⟨s, H0, out, R, ev, k⟩ := q
  obtain ⟨⟨m0, ds0⟩, e0, ev0⟩ := bnd ev
  obtain ⟨⟨d, s1⟩, e1, ev1⟩ := bnd ev0
  obtain ⟨⟨m, ds⟩, e2, ev2⟩ := bnd ev1
  dsimp only at ev2
  split at ev2
  · next hl =>
    obtain ⟨j, ej, ev3⟩ := bnd ev2
    cases ev3
    rw [Bool.and_eq_true] at hl
    have o1 := okD_inv hl.1
    have o2 := okD_inv hl.2
    obtain ⟨p, xs, ep, hp, _⟩ := own_lst R e0
    refine ⟨_, ep, .inl ⟨rfl, xs, .of hp⟩, s, H0, d, s1, R, e1, fun v H1 H' R1 x1 r1 => ?_⟩
    obtain ⟨p', xs', ep', hp', l⟩ := own_lst R1 e2
    rw [ep] at ep'; cases ep'
    obtain ⟨h1, hm⟩ := ownL_inv e2
    refine ⟨p, xs', v, d.py, pys ds, j, rfl, rfl, hp', rep_dpAll o2.1 (l.up R1.h0), rep_dp d v o1.1 (r1.up R1.h0), o2.1, o1.1, by have := o2.2; simp only [D.py, PyData.depth] at this; omega, ?_, ?_⟩
    · unfold SeqAt.dataPlace; rw [find_pys]; exact ej
    · exact k σ H1 _ (R1.mut h1 hm ep ⟨_, rfl, l.eraseIdx j⟩) x1
  · cases ev2
/-! ### {k: c}, both written -/
@[simp] def eDOne (k : Key) (d : D) : F := fun s => some (.dK [k] [d], s)
theorem io_dispIB {i : Int} {j : Nat} {b : Bool} {p1 p2 : Pos} (hall : [some (Expr.Constant (.int i) j p1)].all (·.isSome) = true := by rfl) : PE X (.Dict [some (.Constant (.int i) j p1)] [.Constant (.bool b) 0 p2] pos) (tO X.K B (eDOne (.inl i) (.bl b))) :=
  (pe_disp (pps_cons pe_int pe_bl pps_nil) hall rfl (by simp) (by simp)).pxw fun σ H Q q => by
  obtain ⟨s, H0, r, s', R, ev, k⟩ := q
  cases ev
  intro p hp
  refine ⟨upd_same .., [(.inl i, .bl b)], rfl, by simp, ?_⟩
  have e : upd (upd H p (.dK [])) p (.dK (mergeK [] [(Sum.inl i, V.bl b)])) = upd H p (.dK [(Sum.inl i, V.bl b)]) := by
    funext x; unfold upd; split <;> rfl
  rw [e]
  exact k p H0 _ (R.laidO hp) (Ex.refl _) (R.ownNew (o := .dK [(.inl i, .bl b)]) hp ⟨[.bl b], rfl, rfl, .cons (by simp only [Rep]) .nil⟩)
/-! ### d.get(k, x) -/
@[simp] def isDct : D → Bool
  | .dK _ _ => true
  | .dT _ _ => true
  | _ => false
@[simp] def eGetD (pa : FP) (fk fx : F) : F := fun s => (pa s).bind fun a => (a.1.get a.2).bind fun d0 => if isDct d0 then (fk a.2).bind fun b => (fx b.2).bind fun c => (a.1.get c.2).bind fun d => (gAsk d b.1).bind fun o => some (o.getD c.1, c.2) else none
theorem ie_getD {apos cpos : Pos} (hu : X.A.units + 1 < cLine) (ha : PE X a (tP X.K B pa)) (hb : PE X b (tF X.K B fb)) (hc : PE X c (tF X.K B fc)) (m : M2 X a "get" apos b c cpos) : PE X (.Call (.Attribute a "get" apos) [b, c] [] cpos) (tF X.K B (eGetD pa fb fc)) := (pe_dget2 hu ha hb hc m).pxw fun σ H Q q => by
  obtain ⟨s, H0, d, s', R, ev, k⟩ := q
  obtain ⟨⟨p1, s1⟩, e1, ev1⟩ := bnd ev
  obtain ⟨d0, g0, ev2⟩ := bnd ev1
  dsimp only at ev2
  split at ev2
  · next hd0 =>
    obtain ⟨⟨d2, s2⟩, e2, ev3⟩ := bnd ev2
    obtain ⟨⟨d3, s3⟩, e3, ev4⟩ := bnd ev3
    obtain ⟨d1, g1, ev5⟩ := bnd ev4
    obtain ⟨o, eo, ev6⟩ := bnd ev5
    cases ev6
    refine ⟨s, H0, p1, s1, R, e1, fun v H1 H' R1 x1 r1 => ?_⟩
    have hD : ∃ q, v = .ref q ∧ IsD H' q := by
      cases d0 with
      | dK ks ds => obtain ⟨q, xs, rfl, _, _, h⟩ := r1.dK R1 g0; exact ⟨q, rfl, .inl ⟨_, h⟩⟩
      | dT ks ds => obtain ⟨q, xs, rfl, _, _, h⟩ := r1.dT R1 g0; exact ⟨q, rfl, .inr ⟨_, h⟩⟩
      | _ => cases hd0
    obtain ⟨q, rfl, hq⟩ := hD
    refine ⟨q, rfl, hq, s1, H1, d2, s2, R1, e2, fun v2 H2 H2' R2 x2 r2 => ⟨s2, H2, d3, _, R2, e3, fun v3 H3 H3' R3 x3 r3 => ?_⟩⟩
    obtain ⟨q', ov, eq, dg, _, h⟩ := ask_dget R3 (r1.up (x2.trans x3)) g1 (r2.up x3) eo
    cases eq
    refine ⟨ov, dg, k _ H3 H3' R3 ((x1.trans x2).trans x3) ?_⟩
    cases o with
    | none => rw [show ov = none from h]; exact r3
    | some e => obtain ⟨w, rfl, rw'⟩ := h; exact rw'
  · cases ev2
/-! ### x, y = {}, [] -/
@[simp] def sParDL (i j : Nat) (d : D) : FS := fun s => some (.nx ((s.set i (some (.ow, d))).set j (some (.ow, .lst []))))
theorem is_parTL {i j : Nat} {x y : Str} {px py pt p1 p2 : Pos} {kt k2 pt2} (hc : X.calm = true) (hN : X.N.Nodup) (hi : X.N[i]? = some x) (hj : X.N[j]? = some y) (hij : i ≠ j) (hx : X.env.scope.names.lookup x = some .local) (hy : X.env.scope.names.lookup y = some .local)
    (he : starEach [.Dict [] [] p1, .List [] p2] X.env = (false, eval (.Dict [] [] p1) X.env) :: starEach [.List [] p2] X.env := by rfl) (he2 : starEach [.List [] p2] X.env = (false, eval (.List [] p2) X.env) :: starEach [] X.env := by rfl)
    (hw : swappedStores [.Tuple [.Name x px, .Name y py] kt pt] (.Tuple [.Dict [] [] p1, .List [] p2] k2 pt2) X.env = pure (some [x, y]) := by rfl) (hs : swapsWithSole [.Tuple [.Name x px, .Name y py] kt pt] (.Tuple [.Dict [] [] p1, .List [] p2] k2 pt2) pos.line X.env = pure false := by rfl) :
    PS X (.Assign [.Tuple [.Name x px, .Name y py] kt pt] (.Tuple [.Dict [] [] p1, .List [] p2] k2 pt2) pos) (tS X.K B (sParDL i j (.dT [] []))) := (ps_par hc hN hi hj hij hx hy (pa_cons pe_dnewT (pa_cons (pe_lst pa_nil) pa_nil he2) he) hw hs).pxw fun E σ H q => by
  obtain ⟨s, H0, out, R, ev, k⟩ := q
  cases ev
  intro p hp
  refine ⟨by show 0 ≤ sizeLine; decide, fun p' hp' => ⟨_, _, rfl, ?_⟩⟩
  have R1 := (R.laidO (o := .dT []) hp).setO (i := i) (R.ownNew (o := .dT []) (d := .dT [] []) hp ⟨[], rfl, rfl, .nil⟩)
  have R2 := (R1.laidO (o := .lst []) hp').setO (i := j) (R1.ownNew (o := .lst []) (d := .lst []) hp' ⟨[], rfl, .nil⟩)
  exact k _ H0 _ R2 (Ex.refl _)
end
/-- turns of the common divisor's loop -/
def muG (s : S) : Nat := match (s[3]? : Option (Option Sl)) with
  | some (some (_, .int o)) => o.toNat + 1
  | _ => 0
/-! ### constants of the module -/
theorem globT2 {K : PySem.W.Frag} {mg : Str → Option Value} {x : Str} {a b : Int} {cN : Addr} {dd : Option Addr} {t0 t1 : Tok} {n : Nat} {sl : Array (Option Value)} (h1 : mg x = some (.ref cN)) (h2 : K.lookup cN = some ⟨.type "tuple", dd, .seq #[.int a t0, .int b t1] n, sl⟩) : GlobC K mg x (.tup [.int a, .int b]) :=
  ⟨.ref cN, .ref cN, h1, rfl, fun H0 => by
    simp only [Rep]
    exact ⟨cN, [.int a, .int b], rfl, .cons (by simp only [Rep]) (.cons (by simp only [Rep]) .nil), .inr ⟨.inr ⟨_, _, n, h2, rfl, rfl, by show 2 ≤ sizeLine; decide, .cons ⟨t0, rfl⟩ (.cons ⟨t1, rfl⟩ .nil)⟩, rfl⟩⟩⟩
theorem globI {K : PySem.W.Frag} {mg : Str → Option Value} {x : Str} {i : Int} {t : Tok} (h1 : mg x = some (.int i t)) : GlobC K mg x (.int i) := ⟨.int i, .int i t, h1, ⟨t, rfl⟩, fun H0 => by simp only [Rep]⟩
theorem globS {K : PySem.W.Frag} {mg : Str → Option Value} {x y : Str} {t : Tok} (h1 : mg x = some (.str y t)) : GlobC K mg x (.str y) := ⟨.str y, .str y t, h1, ⟨t, rfl⟩, fun H0 => by simp only [Rep]⟩
end Px

set_option Elab.async false
set_option linter.all false
set_option maxRecDepth 100000
set_option maxHeartbeats 1000000
/-! Px11: for over a list of one's own, read as it stands -/
namespace Px
open PySem L2
def noRf (s : S) : Bool := s.all fun o => match o with | some (.rf, _) => false | _ => true
theorem noRf_inv {s : S} (h : noRf s = true) {j : Nat} {m : Md} {d : D} (e : s[j]? = some (some (m, d))) : m ≠ .rf := by
  intro z
  subst z
  have := List.all_eq_true.mp h (some (.rf, d)) (List.mem_of_getElem? e)
  simp at this
section
variable {K : PySem.W.Frag} {B : Bs} {s : S} {σ : St} {H0 H : Hp} {p : Addr} {d : D} {i : Nat}
def Bs.by (B : Bs) (p : Addr) : Bs := ⟨B.hE, B.hb, B.h0, p⟩
theorem Rel.toRf (R : Rel K B s σ H0 H) (h : s[i]? = some (some (.ow, d))) (e : σ[i]? = some (some (.ref p))) (nr : noRf s = true) : Rel K (B.by p) (s.set i (some (.rf, d))) σ H0 H := by
  have hi : i < s.length := (List.getElem?_eq_some_iff.mp h).1
  refine ⟨R.tp, R.fr, R.dom, R.z0, R.h0, R.new, by simp [R.len], fun j e' q => ?_, fun j m e' q hm => ?_, fun j k m n e' f q h1 hm h2 hn g1 g2 => ?_⟩
  · rcases set_get q with ⟨_, z⟩ | ⟨_, q'⟩
    · cases z
    · exact R.sh j e' q'
  · rcases set_get q with ⟨z, z2⟩ | ⟨z, q'⟩
    · cases z2
      subst z
      obtain ⟨p', e1, w⟩ := R.ow _ .ow d h (by intro z; cases z)
      rw [e] at e1; cases e1
      exact ⟨p, e, w.z, w.b, fun z => (by cases z), fun _ => rfl, w.ob⟩
    · obtain ⟨p', e1, w⟩ := R.ow j m e' q' hm
      exact ⟨p', e1, w.z, w.b, w.ow, fun z => absurd z (noRf_inv nr q'), w.ob⟩
  · have a1 : ∃ m' e'', s[j]? = some (some (m', e'')) ∧ m' ≠ .sh := by
      rcases set_get h1 with ⟨z, z2⟩ | ⟨z, q'⟩
      · subst z; exact ⟨_, _, h, by intro z; cases z⟩
      · exact ⟨_, _, q', hm⟩
    have a2 : ∃ m' e'', s[k]? = some (some (m', e'')) ∧ m' ≠ .sh := by
      rcases set_get h2 with ⟨z, z2⟩ | ⟨z, q'⟩
      · subst z; exact ⟨_, _, h, by intro z; cases z⟩
      · exact ⟨_, _, q', hn⟩
    obtain ⟨m1, d1, b1, c1⟩ := a1
    obtain ⟨m2, d2, b2, c2⟩ := a2
    exact R.ne j k m1 m2 d1 d2 q b1 c1 b2 c2 g1 g2
theorem Rel.ofRf (R : Rel K (B.by p) s σ H0 H) (h : s[i]? = some (some (.rf, d))) (nr : noRf (s.set i none) = true) (hE : B.hE p = none) : Rel K B (s.set i (some (.ow, d))) σ H0 H := by
  have hi : i < s.length := (List.getElem?_eq_some_iff.mp h).1
  refine ⟨R.tp, R.fr, R.dom, R.z0, R.h0, R.new, by simp [R.len], fun j e' q => ?_, fun j m e' q hm => ?_, fun j k m n e' f q h1 hm h2 hn g1 g2 => ?_⟩
  · rcases set_get q with ⟨_, z⟩ | ⟨_, q'⟩
    · cases z
    · exact R.sh j e' q'
  · rcases set_get q with ⟨z, z2⟩ | ⟨z, q'⟩
    · cases z2
      subst z
      obtain ⟨p', e1, w⟩ := R.ow _ .rf d h (by intro z; cases z)
      have : p' = p := w.rf rfl
      subst this
      exact ⟨p', e1, w.z, w.b, fun _ => hE, fun z => (by cases z), w.ob⟩
    · obtain ⟨p', e1, w⟩ := R.ow j m e' q' hm
      have hne : m ≠ .rf := noRf_inv nr (j := j) (d := e') (by rw [List.getElem?_set_ne (fun x => z x.symm)]; exact q')
      exact ⟨p', e1, w.z, w.b, w.ow, fun z => absurd z hne, w.ob⟩
  · have a1 : ∃ m' e'', s[j]? = some (some (m', e'')) ∧ m' ≠ .sh := by
      rcases set_get h1 with ⟨z, z2⟩ | ⟨z, q'⟩
      · subst z; exact ⟨_, _, h, by intro z; cases z⟩
      · exact ⟨_, _, q', hm⟩
    have a2 : ∃ m' e'', s[k]? = some (some (m', e'')) ∧ m' ≠ .sh := by
      rcases set_get h2 with ⟨z, z2⟩ | ⟨z, q'⟩
      · subst z; exact ⟨_, _, h, by intro z; cases z⟩
      · exact ⟨_, _, q', hn⟩
    obtain ⟨m1, d1, b1, c1⟩ := a1
    obtain ⟨m2, d2, b2, c2⟩ := a2
    exact R.ne j k m1 m2 d1 d2 q b1 c1 b2 c2 g1 g2
end
@[simp] def rfL (s : S) (i : Nat) : Option (List D) := match s[i]? with
  | some (some (.rf, .lst ds)) => some ds
  | _ => none
theorem rfL_inv {s : S} {i : Nat} {ds : List D} (h : rfL s i = some ds) : s[i]? = some (some (.rf, .lst ds)) := by
  unfold rfL at h
  split at h
  · next e => cases h; exact e
  · cases h
def liveD (i : Nat) (g : FG) (fb : FS) : Nat → Nat → S → Option S
  | 0, _, _ => none
  | n + 1, k, s => (rfL s i).bind fun ds => match ds[k]? with
    | none => some s
    | some d => (g d s).bind fun s1 => (fb s1).bind fun o => match o with
      | .nx s2 => liveD i g fb n (k + 1) s2
      | _ => none
@[simp] def owL (s : S) (i : Nat) : Option (List D) := match s[i]? with
  | some (some (.ow, .lst ds)) => some ds
  | _ => none
theorem owL_inv {s : S} {i : Nat} {ds : List D} (h : owL s i = some ds) : s[i]? = some (some (.ow, .lst ds)) := by
  unfold owL at h
  split at h
  · next e => cases h; exact e
  · cases h
/-- for x in y, y a list of one's own -/
def sForL (i : Nat) (g : FG) (fb : FS) : FS := fun s => (owL s i).bind fun ds => if noRf s then (liveD i g fb (ds.length + 1) 0 (s.set i (some (.rf, .lst ds)))).bind fun s2 => (rfL s2 i).bind fun d => if noRf (s2.set i none) then some (.nx (s2.set i (some (.ow, .lst d)))) else none else none
section
variable {X : Cx} {B : Bs} {tg : Expr} {pos pn : Pos} {x : Str} {g : FG} {fs : FS}
theorem is_forL {i : Nat} {body : List Stmt} {ts : List Nat} (hp : PassesOwn (model X.prog X.w) X.A X.env X.xe) (hc : X.calm = true) (hv : PE X (.Name x pn) (tVar i)) (hg : ∀ B, PG X tg (tG X.K B ts g)) (hb : ∀ B, PSs X body (tS X.K B fs)) (hs : ∀ y, foldedSetIterable (.Name x pn) X.env y = pure y := by intro _; rfl) :
    PS X (.For tg (.Name x pn) body [] pos) (tS X.K B (sForL i g fs)) :=
  (ps_for (g := fun v σ H Q => ∃ B, tG X.K B ts g v σ H Q) (tb := fun D σ H => ∃ B, tS X.K B fs D σ H) hp hc (pi_list hv) ⟨fun pins s' σ H' v u Q I r ⟨B, q⟩ => (hg B).run pins s' σ H' v u Q I r q⟩ ⟨fun pins s' σ H' D I ⟨B, q⟩ => (hb B).run pins s' σ H' D I q⟩ hs).pxw fun E σ H q => by
  obtain ⟨s, H0, out, R, ev, k⟩ := q
  obtain ⟨ds, e0, ev0⟩ := bnd ev
  try dsimp only at ev0
  split at ev0
  · next nr =>
    obtain ⟨s3, e3, ev3⟩ := bnd ev0
    obtain ⟨dd, e4, ev4⟩ := bnd ev3
    try dsimp only at ev4
    split at ev4
    · next nr3 =>
      cases ev4
      have h0 := owL_inv e0
      obtain ⟨p, ep, w⟩ := R.ow i .ow _ h0 (by intro z; cases z)
      obtain ⟨o, hpo, xs, rfl, l⟩ := w.ob
      have hE := w.ow rfl
      refine ⟨_, ep, p, rfl, ⟨xs, .of hpo⟩, fun kk m σ H => ∃ s2 H2, Rel X.K (B.by p) s2 σ H2 H ∧ Ex H0 H2 ∧ liveD i g fs m kk s2 = some s3, ⟨ds.length + 1, _, H0, R.toRf h0 ep nr, Ex.refl _, e3⟩, fun kk m σ H hW => ?_⟩
      obtain ⟨s2, H2, R2, x2, hl⟩ := hW
      cases m with
      | zero => cases hl
      | succ m =>
        obtain ⟨es, e5, hl1⟩ := bnd (show (rfL s2 i).bind _ = some s3 from hl)
        have h2 := rfL_inv e5
        obtain ⟨p', ep', w'⟩ := R2.ow i .rf _ h2 (by intro z; cases z)
        have : p' = p := w'.rf rfl
        subst this
        obtain ⟨o', hpo', ys, rfl, l'⟩ := w'.ob
        cases hd : es[kk]? with
        | none =>
          simp only [hd] at hl1
          cases hl1
          refine .inl ⟨⟨ys, .of hpo', by rw [l'.len]; simpa using hd⟩, ?_⟩
          have := rfL_inv e4
          exact k σ H2 H (R2.ofRf this nr3 hE) x2
        | some d =>
          simp only [hd] at hl1
          obtain ⟨s4, e6, hl2⟩ := bnd hl1
          obtain ⟨oo, e7, hl3⟩ := bnd hl2
          obtain ⟨v, gv, rv⟩ := l'.get hd
          refine .inr ⟨⟨ys, v, .of hpo', gv⟩, fun σ' H' => ∃ s2 H2, Rel X.K (B.by p') s2 σ' H2 H' ∧ Ex H0 H2 ∧ liveD i g fs m (kk + 1) s2 = some s3, fun σ' H' hN => ⟨m, Nat.lt_succ_self m, hN⟩, fun y Hy hy => ?_⟩
          obtain ⟨rfl, hy2⟩ := hy
          have := hy2 ys (.of hpo')
          rw [gv] at this; cases this
          refine ⟨B.by p', s2, H2, d, s4, R2, rv, e6, fun σ4 H4 H4' R4 x4 _ => ⟨B.by p', s4, H4, oo, R4, e7, ?_⟩⟩
          cases oo with
          | nx s5 => exact fun σ5 H5 H5' R5 x5 => ⟨s5, H5, R5, x2.trans (x4.trans x5), hl3⟩
          | _ => cases hl3
    · cases ev4
  · cases ev0
end
end Px

set_option Elab.async false
set_option linter.all false
set_option maxRecDepth 100000
set_option maxHeartbeats 1000000
/-! Px12: the text of a pair of whole numbers -/
namespace Px
open PySem PySem.Spec PyProof.Rows L2
theorem ten_hide : ∃ P : Nat, P = 10 ^ 4300 := ⟨_, rfl⟩
section
variable {prog : Program} {w : World} {A : Around} {E : Value → Shared → Prop} {s : Shared}
theorem big_repr {a : Int} {t : Tok} {Q : Value → Shared → Prop} (hn : s.heap.NoDigits) (ha : a.natAbs < 10 ^ 4300) (h : Q (.str (toString a) s.toks) { s with toks := s.toks + 1 }) :
    wpAny (model prog w) A (call (.builtin "int.__repr__") [.int a t]) Q E s := by
  refine wpAny_call (codeAny_call_builtin F.slot_int_repr.plain F.entry_int_repr (F.slot_int_repr.check _ _ _ _ _ _ _ _ (typeIs_int _ a t) (F.args_int_repr_1 _) ?_))
  unfold Builtin.«int.__repr__»
  show wpAny _ _ (do let r ← Builtin.overDigitLimit? a; _) _ _ s
  have fits := int_text_fits10 ha
  obtain ⟨P, hP⟩ := ten_hide
  refine wpAny_bind (overDigitLimit_any hn (fun _ => ?_) (fun hge => ?_))
  · exact wpAny_bind (wpAny_mkStr (wpAny_pure h) fits)
  · rw [← hP] at hge ha; exact absurd ha (Nat.not_lt.mpr hge)
theorem big_reprK {a : Int} {t : Tok} {as : List Addr} {h₀ : Heap} {d : Nat} (hn : h₀.NoDigits) (ha : a.natAbs < 10 ^ 4300) : ReprK prog w as h₀ d (.int a t) (toString a) := by
  intro b hb A g E s Q hg hcl hu hk hQ
  have hb' : b ≤ sizeLine := by omega
  rw [pyReprUnder_leaf (v := .int a t) hb' (fun _ e => nomatch e)]
  unfold pyRepr
  refine wpAny_bind (wpAny_pyReprObj_slot (by omega) (typeIs_int s a t) F.slot_int_repr.toG (big_repr (hn.keeps hk) ha ⟨_, _, rfl, ?_⟩))
  exact wpAny_pure (hQ s.heap _ fun _ _ e => e)
theorem str_pair {a : Addr} {o : Obj} {x y : Int} {tx ty : Tok} {items : Array Value} {n : Nat} {Q : Value → Shared → Prop} (hn : s.heap.NoDigits) (hg : A.guards = some []) (hu : A.units + 20 < cLine)
    (ha : s.heap.get? a = some o) (hc : o.cls = .type "tuple") (hd : o.data = .seq items n) (hi : items.toList = [.int x tx, .int y ty]) (hx : x.natAbs < 10 ^ 4300) (hy : y.natAbs < 10 ^ 4300)
    (hsz : (tupleText [(toString x : String), (toString y : String)]).length ≤ sizeLine)
    (hQ : ∀ h' u tk, (∀ b o, s.heap.get? b = some o → h'.get? b = some o) → Q (.str (tupleText [(toString x : String), (toString y : String)]) u) { s with heap := h', toks := tk }) :
    wpAny (model prog w) A (call (.type "str") [.ref a]) Q E s := by
  have all : ∀ prog w, ReprAllK prog w [] s.heap 1 items.toList [(toString x : String), (toString y : String)] := fun prog w => by
    rw [hi]; exact .cons (big_reprK hn hx) (.cons (big_reprK hn hy) .nil)
  refine callType_new F.called_str (by decide) (F.typeCall_str_1 _) (F.newCall_str_1 _) (fun obj => F.args_object_init_2 obj _) F.entry_str_new
    (meets_str_new (S := fun A' R s' => A'.guards = some [] ∧ A'.units + 10 < cLine ∧ (∀ b o, s.heap.get? b = some o → s'.heap.get? b = some o) ∧
        ∀ h' u tk, (∀ b o, s'.heap.get? b = some o → h'.get? b = some o) → R (.ok (.ret (.str (tupleText [(toString x : String), (toString y : String)]) u))) { s' with heap := h', toks := tk })
      fun prog' w' A' R s' hh => ?_) ?_
  · obtain ⟨h1, h2, h3, h4⟩ := hh
    exact wpAny_strOf_slot rfl (by show A'.units + 1 + 1 < cLine; omega) ⟨o, h3 _ _ ha, hc⟩ F.slot_tuple_str F.slot_tuple_repr
      (call_tuple_reprK ha hc hd (by simp) (all prog' w') (g := []) h1 (fun b _ => Clear.nil b) (by show A'.units + 1 + 1 + (1 + 1) < cLine; omega) h3 (fun h' u tk hk => ⟨_, _, rfl, h4 h' u tk hk⟩) hsz)
  · exact ⟨hg, by show A.units + 1 + 10 < cLine; omega, fun _ _ e => e, fun h' u tk hk => ⟨typeIs_str _ _ _, hQ h' u tk hk⟩⟩
end
def txt2 (i j : Int) : Str := tupleText [(toString i : String), (toString j : String)]
theorem txt2_len {i j : Int} (hi : i.natAbs < 10 ^ 4300) (hj : j.natAbs < 10 ^ 4300) : (txt2 i j).length ≤ 9000 := by
  have h1 := int_text_length_le10 (k := 4300) (by decide) hi
  have h2 := int_text_length_le10 (k := 4300) (by decide) hj
  have h3 := fmt_text [(toString i : String), (toString j : String)]
  rw [piled_cons, piled_cons, piled_nil, PySem.ofString_length, PySem.ofString_length] at h3
  clear hi hj
  unfold txt2
  omega
section
variable {X : Cx} {B : Bs} {a : Expr} {pos p : Pos} {pa : FP} {K : PySem.W.Frag}
theorem call_str2 (hg : X.A.guards = some []) (hn : X.base.NoDigits) (hu : X.A.units + 20 < cLine) : CallR X (.type "str") (fun xs H Q => ∃ p i j, xs = [.ref p] ∧ SqT X.K H p [.int i, .int j] ∧ i.natAbs < 10 ^ 4300 ∧ j.natAbs < 10 ^ 4300 ∧ Q (.str (txt2 i j)) H) := by
  intro pins s σ H xs us Q I r h
  obtain ⟨q, i, j, rfl, hs, hi, hj, hq⟩ := h
  obtain ⟨u, rfl, ru⟩ := vals1 r
  cases ru
  obtain ⟨its, r2, ⟨o, e1, e2, n, e3⟩, _⟩ := I.tuple hs
  obtain ⟨u1, u2, rfl, ⟨t1, rfl⟩, ⟨t2, rfl⟩⟩ := vals2 r2
  have hl := txt2_len hi hj
  refine str_pair (hn.keeps I.bk) hg hu e1 e2 e3 rfl hi hj (Nat.le_trans hl (by decide)) fun h' u tk k => ⟨.str (txt2 i j), H, I.kept k, ⟨_, rfl⟩, hq⟩
def cTen (i : Int) : Bool := decide (i.natAbs < 10 ^ 4300)
@[simp] def gStr : D → Option D
  | .tup [.int i, .int j] => if cTen i && cTen j then some (.str (txt2 i j)) else none
  | _ => none
theorem cap_str : CaP K (fun xs H Q => ∃ p i j, xs = [.ref p] ∧ SqT K H p [.int i, .int j] ∧ i.natAbs < 10 ^ 4300 ∧ j.natAbs < 10 ^ 4300 ∧ Q (.str (txt2 i j)) H) gStr := .flat fun B s σ H0 H q d d' x R r1 g1 e => by
  unfold gStr at e
  split at e
  · next i j =>
    split at e
    · next hc =>
      cases e
      rw [Bool.and_eq_true] at hc
      obtain ⟨a, xs, rfl, l, h⟩ := rep_tup_sq (r1.frozen R g1 (fun o z => z))
      simp only [RepL] at l
      obtain ⟨x1, l1, rfl, z1, x2, l2, rfl, z2, rfl⟩ := l
      cases rep_int z1
      cases rep_int z2
      exact ⟨.str (txt2 i j), fun _ => by simp only [Rep], fun Q z => ⟨a, i, j, rfl, R.h0.sqT h, of_decide_eq_true hc.1, of_decide_eq_true hc.2, z⟩⟩
    · cases e
  · cases e
theorem ie_strp (hgd : X.A.guards = some []) (hn : X.base.NoDigits) (hu : X.A.units + 20 < cLine) (hg : Gl X "str") (hm : X.mg "str" = none) (ha : PE X a (tP X.K B pa)) (he : starEach [a] X.env = (false, eval a X.env) :: starEach [] X.env := by rfl) (hpl : (backTo pos (starEach [] X.env)).any (·.1) = false := by rfl) :
    PE X (.Call (.Name "str" p) [a] [] pos) (tF X.K B (eB1 gStr pa)) := ie_b1 (pe_callTy (call_str2 hgd hn hu) hg hm PySem.Pv.boot_str (pa_cons ha pa_nil he) (by decide) (by decide) he hpl) cap_str
end
/-! ### defs that rest on what is under way (no text of a tuple is) -/
structure FnG (P : Program) (w : World) (K : PySem.W.Frag) (mg : Str → Option Value) (base : Heap) (k : Nat) (f : Addr) (fd : FuncData) (ps : List Str) (sp : Sp) : Prop where
  many : ∀ vs H Q E, sp vs H Q E → vs.length = ps.length
  goes : ∀ {A : Around} {outer : List Env} {s : Shared} {H : Hp} {args : Args} {us : List Value} {vs : List V} {Q : VK} {E : XK}, A.guards = some [] → Room k A → Env0 P w K mg base A outer s H → BindsTo s fd args (ps.zip us) → Vals vs us → sp vs H Q E →
    codeAny (model P w) A (.call (.ref f) args) (CR CX0 outer P w H s Q E) s
section
variable {P : Program} {w : World} {K : PySem.W.Frag} {mg : Str → Option Value} {base : Heap}
theorem Fun.okG {x qual : Str} {st : Stmt} {f : Addr} {fd : FuncData} {N ps : List Str} {k : Nat} {sp : Sp} (F : Fun K x qual st f fd) (S : FnScope N ps (defScope st)) (many : ∀ vs H Q E, sp vs H Q E → vs.length = ps.length)
    (body : ∀ (cdv : Value) (A : Around) (outer : List Env) (s : Shared) (H : Hp) (vs : List V) (Q : VK) (E : XK), A.guards = some [] → Room k (A.deeper (envOfC qual (defScope st) s.heap.objs.size f cdv)) → sp vs H Q E →
      ∃ t, PSs (cxOf CX0 P w K mg base N qual (defScope st) f cdv A outer s H E).nox (defBody st) t ∧ t { nx := fun _ H' => Q .non H', rt := Q } (start N vs) H) : FnG P w K mg base (k + 1) f fd ps sp := by
  obtain ⟨oc, od, kV, doc, pm, an, cdv, ct, osl, e, lk, hcd⟩ := F.ex
  subst e
  refine ⟨many, fun {A outer s H args us vs Q E} hgd hr e0 hb r hsp => ?_⟩
  have kept : ∀ b o, base.get? b = some o → s.heap.get? b = some o := fun b o e => (e0.bs b o e).1
  have inK := e0.mod.kin.keeps kept
  have inL := e0.mod.nolimit.keeps kept
  refine codeAny_call_function hr.depth (inK _ _ lk) rfl S.co S.gen rfl (PySem.W.codeRec_of inK hcd) (hb _ _ _ _ (wpAny_newFunctionEnv_cells S.kind (fun y hy => ?_) fun env he s1 x => ?_))
  · exact (S.par y.1 (List.of_mem_zip (a := y.1) (b := y.2) hy).1).elim .inl fun q => .inr ⟨q, PySem.W.cellsFrom_some _ _ _ (.inl q)⟩
  subst he
  obtain ⟨t, ht, hq⟩ := body cdv A outer s H vs Q E hgd (hr.deeper _) hsp
  refine ⟨inL.keeps x.toInCall.keep, codeAny_func (wpAny_mono (ht.nox.run [] s1 (start N vs) H _ (inv_start S hr.hd e0 (many _ _ _ _ hsp) r x) hq) (fun fl s' hs => ?_) fun e s' hs => hs)⟩
  match fl, hs with
  | .ret u, ⟨v, σ', H', J, rv, q⟩ => exact ⟨v, H', J.os, J.bare, J.base, J.hok, rv, q⟩
  | .next, ⟨σ', H', J, q⟩ => exact ⟨.non, H', J.os, J.bare, J.base, J.hok, rfl, q⟩
  | .brk, ⟨_, _, _, q⟩ => exact q.elim
  | .cont, ⟨_, _, _, q⟩ => exact q.elim
def HasG (P : Program) (w : World) (K : PySem.W.Frag) (mg : Str → Option Value) (base : Heap) (k : Nat) (x : Str) (sp : Sp) : Prop :=
  ∃ f fd ps, FnG P w K mg base k f fd ps sp ∧ mg x = some (.ref f) ∧ PySem.W.keepIn K (.ref f) = true ∧ Binds K fd ps []
end
section
variable {X : Cx} {B : Bs} {e : Expr} {es : List Expr} {pos p : Pos} {ga : FA} {x y : Str} {k n : Nat}
theorem pe_fnG {sp : Sp} {t : TA} (hgd : X.A.guards = some []) (h : HasG X.prog X.w X.K X.mg X.base k x sp) (hr : Room k X.A) (hg : Gl X x) (ha : PA X (e :: es) t) (hdb : (x == ("__debug__" : Str)) = false := by decide)
    (he : starEach (e :: es) X.env = (false, eval e X.env) :: starEach es X.env := by rfl) (hpl : (backTo pos (starEach es X.env)).any (·.1) = false := by rfl) : PE X (.Call (.Name x p) (e :: es) [] pos) (fun σ H Q => t σ H fun vs H1 => sp vs H1 Q E0) := by
  obtain ⟨f, fd, ps, F, hm, hk, hb⟩ := h
  constructor
  intro pins s σ H Q I q0
  have arg := ha.run pos pins s σ H _ I q0
  refine wpAny_Call_Name_kw (ld_glob I hg hm (PySem.W.callWith_K (h₀ := X.base) I.ok.mod.kin hk (thn arg ?_) he hpl) hdb)
  rintro us s1 ⟨vs, H1, J, r, q⟩
  have many := F.many _ _ _ _ q
  have bnd1 := hb s1 us J.kIn (by rw [List.append_nil, ← r.length]; exact many)
  rw [List.append_nil] at bnd1
  refine ⟨J.kIn, wpAny_call (codeAny_mono (F.goes (args := ⟨us, []⟩) hgd hr J.env0 bnd1 r q) fun res s' hq => ?_)⟩
  match res, hq with
  | .ok (.ret u), hq => exact J.after hq
  | .ok .next, hq => exact False.elim hq
  | .ok .brk, hq => exact False.elim hq
  | .ok .cont, hq => exact False.elim hq
  | .error e, hq => exact (pass0 (X := X)) pins σ H1 s1 e s' J hq
end
end Px

set_option Elab.async false
set_option linter.all false
set_option maxRecDepth 100000
set_option maxHeartbeats 1000000
/-! Px13: defs that rest on what is under way: calls, entries, the head -/
namespace Px
open PySem PySem.Spec PyProof.Rows L2
section
variable {X : Cx} {B : Bs} {e : Expr} {es : List Expr} {pos p : Pos} {ga : FA} {x y : Str} {k n : Nat}
theorem ie_callBG {G : FnB} {i : Nat} {pn : Pos} (hgd : X.A.guards = some []) (h : HasG X.prog X.w X.K X.mg X.base k x (spB X.K n G)) (hr : Room k X.A) (hg : Gl X x) (hv : PE X (.Name y pn) (tVar i)) (ha : PA X es (tA X.K B ga)) (hla : ∀ s r s', ga s = some (r, s') → r.length = n) (hdb : (x == ("__debug__" : Str)) = false := by decide)
    (he : starEach (.Name y pn :: es) X.env = (false, eval (.Name y pn) X.env) :: starEach es X.env := by rfl) (hpl : (backTo pos (starEach es X.env)).any (·.1) = false := by rfl) : PE X (.Call (.Name x p) (.Name y pn :: es) [] pos) (tF X.K B (eCallB G i ga)) := (pe_fnG hgd h hr hg (pa_cons hv ha he) hdb he hpl).pxw fun σ H Q q => by
  obtain ⟨s, H0, d, s', R, ev, k⟩ := q
  obtain ⟨⟨m', d'⟩, e0, ev0⟩ := bnd ev
  obtain ⟨⟨ds, s1⟩, e1, ev1⟩ := bnd ev0
  obtain ⟨⟨m, d0⟩, e2, ev2⟩ := bnd ev1
  obtain ⟨⟨o, d2, d1⟩, e3, ev3⟩ := bnd ev2
  cases ev3
  obtain ⟨h0, hm0⟩ := ownAt_inv e0
  obtain ⟨h1, hm⟩ := ownAt_inv e2
  obtain ⟨q, ep, _⟩ := R.ow i m' d' h0 hm0
  refine ⟨_, ep, s, H0, ds, s1, R, e1, fun vs H1 H' R1 x1 r1 => ?_⟩
  obtain ⟨q', ep', w⟩ := R1.ow i m d0 h1 hm
  rw [ep] at ep'; cases ep'
  obtain ⟨c, hc, hcc⟩ := w.ob
  refine ⟨q, vs, H1, c, d0, ds, o, _, d1, rfl, by rw [r1.len]; exact hla _ _ _ e1, R1.h0, w.z, hc, hcc, r1, e3, fun v H2 H2' c' y1 y2 y3 yq y4 y5 y6 r2 => ?_⟩
  have R2 := R1.callB h1 hm ep y1 y2 y3 yq y4 y5 y6
  unfold Res at r2
  split at r2
  · obtain ⟨t, u, rfl, z1, z2, z3, z4⟩ := r2
    have w2 : OwnAt X.K B (s1.set i (some (m, d1))) σ H2 H2' t _ := ⟨z2, R1.dom t z1, R1.fr.back z1, ⟨u, z3, z4⟩, fun j m2 e' hj hm2 zz => by
      have : ∃ y, s1[j]? = some (some (m2, y)) := by
        rcases set_get hj with ⟨rfl, z⟩ | ⟨_, hj'⟩
        · cases z; exact ⟨d0, h1⟩
        · exact ⟨e', hj'⟩
      obtain ⟨y, hj'⟩ := this
      obtain ⟨q2, ev2, w2⟩ := R1.ow j m2 y hj' hm2
      rw [ev2] at zz; cases zz
      obtain ⟨o2, ho2, _⟩ := w2.ob
      rw [z1] at ho2; cases ho2⟩
    obtain ⟨H3, R3, x3, r3⟩ := R2.freeze w2
    exact k _ H3 H2' R3 ((x1.trans y2).trans x3) r3
  · exact k v H2 H2' R2 (x1.trans y2) r2

end
section
variable {P : Program} {w : World} {K : PySem.W.Frag} {mg : Str → Option Value} {base : Heap}
theorem fn_okFG {x qual : Str} {st : Stmt} {f : Addr} {fd : FuncData} {N ps : List Str} {k : Nat} {fs : FS} (F : Fun K x qual st f fd) (S : FnScope N ps (defScope st))
    (hb : ∀ (cdv : Value) (A : Around) (outer : List Env) (s : Shared) (H : Hp) (E : XK) (B : Bs), A.guards = some [] → Room k (A.deeper (PyProof.Rows.envOfC qual (defScope st) s.heap.objs.size f cdv)) →
      PSs (cxOf CX0 P w K mg base N qual (defScope st) f cdv A outer s H E).nox (defBody st) (tS K B fs)) : FnG P w K mg base (k + 1) f fd ps (spF K ps.length (runF N.length fs)) := by
  refine Fun.okG F S (fun vs H Q E h => ?_) fun cdv A outer s H vs Q E hgd hr h => ?_
  · obtain ⟨_, _, _, _, hl, _⟩ := h; exact hl
  · obtain ⟨H0, ds, o, d, hl, e, r, hG, k⟩ := h
    refine ⟨_, hb cdv A outer s H E ⟨H, H, H0, 0⟩ hgd hr, init N.length ds, H0, ?_⟩
    obtain ⟨out, e1, e2⟩ := bnd hG
    refine ⟨out, rel_init e r N rfl, e1, ?_⟩
    cases out with
    | nx s' =>
      cases e2
      exact fun σ' H1 H' R1 x1 => k .non H1 H' R1.fr x1 R1.h0 R1.new (iteF (by simp only [Rep]))
    | ret oo dd s' =>
      cases e2
      refine fun v σ' H1 H' R1 x1 r1 => k v H1 H' R1.fr x1 R1.h0 R1.new ?_
      cases o with
      | true => obtain ⟨q, rfl, w⟩ := r1; obtain ⟨u, hu, hc⟩ := w.ob; exact ⟨q, u, rfl, w.e, w.z, hu, hc⟩
      | false => exact r1
    | bk s' => cases e2
    | ct s' => cases e2
theorem fn_okBG {x qual : Str} {st : Stmt} {f : Addr} {fd : FuncData} {N ps : List Str} {k n : Nat} {fs : FS} (F : Fun K x qual st f fd) (S : FnScope N ps (defScope st)) (hn : ps.length = n + 1)
    (hb : ∀ (cdv : Value) (A : Around) (outer : List Env) (s : Shared) (H : Hp) (E : XK) (B : Bs), A.guards = some [] → Room k (A.deeper (PyProof.Rows.envOfC qual (defScope st) s.heap.objs.size f cdv)) →
      PSs (cxOf CX0 P w K mg base N qual (defScope st) f cdv A outer s H E).nox (defBody st) (tS K B fs)) : FnG P w K mg base (k + 1) f fd ps (spB K n (runB N.length fs)) := by
  refine Fun.okG F S (fun vs H Q E h => ?_) fun cdv A outer s H vs Q E hgd hr h => ?_
  · obtain ⟨q, ws, _, _, _, _, _, _, _, rfl, hl, _⟩ := h; rw [List.length_cons, hl, hn]
  · obtain ⟨q, ws, H0, c, d0, ds, o, d, d1, rfl, hl, e, hq, hc, cc, r, hG, k⟩ := h
    refine ⟨_, hb cdv A outer s H E ⟨H, hole H q, H0, q⟩ hgd hr, initB N.length d0 ds, H0, ?_⟩
    obtain ⟨out, e1, e2⟩ := bnd hG
    refine ⟨out, rel_initB e hq hc cc r N rfl, e1, ?_⟩
    have fin : ∀ {s' : Px.S} {dd : D}, s'[0]? = some (some (.rf, dd)) → ∀ {σ' H1 H'}, Rel K ⟨H, hole H q, H0, q⟩ s' σ' H1 H' → Ex H0 H1 → ∃ c', (∀ b u, b ≠ q → H b = some u → H' b = some u) ∧ H1 q = none ∧ H' q = some c' ∧ Cell K H1 c' dd := fun {s' dd} h0 {σ' H1 H'} R1 x1 => by
      obtain ⟨p, ep, w⟩ := R1.ow 0 .rf dd h0 (by decide)
      have : p = q := w.rf rfl
      subst this
      obtain ⟨c', hc', cc'⟩ := w.ob
      exact ⟨c', fun b u nb hb' => R1.fr b u (show hole H p b = some u by rw [hole_ne nb]; exact hb'), w.z, hc', cc'⟩
    cases out with
    | nx s' =>
      dsimp only at e2
      split at e2
      · next dd h0 =>
        cases e2
        exact fun σ' H1 H' R1 x1 => by
          obtain ⟨c', g1, g2, g3, g4⟩ := fin h0 R1 x1
          exact k .non H1 H' c' g1 x1 R1.h0 g2 R1.new g3 g4 (iteF (by simp only [Rep]))
      · cases e2
    | ret oo dd' s' =>
      dsimp only at e2
      split at e2
      · next dd h0 =>
        cases e2
        refine fun v σ' H1 H' R1 x1 r1 => ?_
        obtain ⟨c', g1, g2, g3, g4⟩ := fin h0 R1 x1
        refine k v H1 H' c' g1 x1 R1.h0 g2 R1.new g3 g4 ?_
        cases o with
        | true => obtain ⟨t, rfl, w⟩ := r1; obtain ⟨u, hu, hc⟩ := w.ob; exact ⟨t, u, rfl, w.e, w.z, hu, hc⟩
        | false => exact r1
      · cases e2
    | bk s' => cases e2
    | ct s' => cases e2
end
/-- the script alone is tracked, if it is none of the module's own objects -/
def scrH (K : PySem.W.Frag) (a : Addr) (ob : Obj) (ns : List Int) : Hp := fun b => if K.lookup a = none ∧ b = a then some (.frz ob (.lst (ns.map V.int))) else none
theorem scrH_inv {K : PySem.W.Frag} {a b : Addr} {ob : Obj} {ns : List Int} {u : HO} (h : scrH K a ob ns b = some u) : K.lookup a = none ∧ b = a ∧ u = .frz ob (.lst (ns.map V.int)) := by
  unfold scrH at h
  split at h
  · next q => cases h; exact ⟨q.1, q.2, rfl⟩
  · cases h
theorem head_G {P : Program} {w : World} {K : PySem.W.Frag} {mg mb : Str → Option Value} {k : Nat} {fa a : Addr} {fd : FuncData} {x : Str} {sp : Sp} {s₁ : Shared} {vs : List Value} {ns : List Int}
    (KX : K.In s₁.heap) (hns : s₁.heap.Ns mainGlobals mg) (hb : s₁.heap.Ns builtinsNs mb) (hbb : ∀ x : Str, x ≠ "__name__" → mb x = bootBuiltins x) (hlim : s₁.heap.NoLimit) (hdig : s₁.heap.NoDigits) (hg : s₁.gens = #[])
    (ha : s₁.heap.get? a = some { cls := .type "list", data := .seq vs.toArray }) (hi : IntsAre vs ns) (hl : ns.length ≤ sizeLine) (hr : Room k callerA)
    (F : ∀ base : Heap, K.In base → base.Ns mainGlobals mg → base.NoDigits → FnG P w K mg base k fa fd [x] sp) (hbind : ∀ (s : Shared) (u : Value), BindsTo s fd ⟨[u], []⟩ [(x, u)])
    (hsp : ∀ H : Hp, SqL K H a (ns.map V.int) → sp [.ref a] H (fun v _ => v = .bl true) fun _ _ _ => False) :
    codeAny (model P w) callerA (.call (.ref fa) ⟨[.ref a], []⟩) (fun r s' => r = .ok (.ret (.bool true)) ∧ OldK s₁.heap s'.heap ∧ s'.os = s₁.os ∧ AllBare s'.gens) s₁ := by
  obtain ⟨ob, hob⟩ : ∃ ob : Obj, ob = { cls := .type "list", data := .seq vs.toArray } := ⟨_, rfl⟩
  rw [← hob] at ha
  obtain ⟨H, hH⟩ : ∃ H, H = scrH K a ob ns := ⟨_, rfl⟩
  have inv : ∀ {b u}, H b = some u → K.lookup a = none ∧ b = a ∧ u = .frz ob (.lst (ns.map V.int)) := fun h => scrH_inv (hH ▸ h)
  have rv := vals_ints hi
  have lenV := hi.length
  have obd : ob.data = .seq vs.toArray 0 := by rw [hob]
  have sq : SqL K H a (ns.map V.int) := by
    cases hk : K.lookup a with
    | some o =>
      have e := KX a o hk
      rw [ha] at e
      cases e
      exact .inr ⟨_, vs.toArray, _, hk, by rw [hob], by rw [hob], by rw [hob], by rw [List.size_toArray, lenV]; exact hl, by simpa using rv⟩
    | none =>
      refine .inl (.inr ⟨ob, ?_⟩)
      rw [hH]; unfold scrH; rw [if_pos ⟨hk, rfl⟩]
  have hok : HOk P w H s₁.heap := fun b u z => by
    obtain ⟨_, rfl, rfl⟩ := inv z
    exact ⟨ha, by rw [List.length_map]; exact hl, vs, _, rv, by rw [ha, hob]⟩
  have free : ∀ {b : Addr} {o : Obj} {es : Array DictEntry} {n : Nat}, s₁.heap.get? b = some o → o.data = .dict es n → H b = none := fun {b o es n} e d => by
    cases q : H b with
    | none => rfl
    | some u =>
      obtain ⟨_, rfl, _⟩ := inv q
      rw [ha] at e; cases e
      rw [obd] at d; cases d
  have nsB : ∀ {b : Addr} {m : Str → Option Value}, s₁.heap.Ns b m → (hidT s₁.heap H).Ns b m := fun {b m} ⟨o, es, n, e, d, r⟩ => ⟨o, es, n, hidT_get e (free e d), d, r⟩
  have inB : K.In (hidT s₁.heap H) := fun b o e => hidT_get (KX b o e) (by
    cases q : H b with
    | none => rfl
    | some u => obtain ⟨z, rfl, _⟩ := inv q; rw [z] at e; cases e)
  have mo : Mod K mg (hidT s₁.heap H) := ⟨inB, nsB hns, ⟨mb, nsB hb, hbb⟩, by obtain ⟨mc, h1, h2⟩ := hlim; exact ⟨mc, nsB h1, h2⟩⟩
  have dg : (hidT s₁.heap H).NoDigits := by obtain ⟨mc, h1, h2⟩ := hdig; exact ⟨mc, nsB h1, h2⟩
  have env : Env0 P w K mg (hidT s₁.heap H) callerA [] s₁ H := ⟨rfl, mo, fun b o e => of_hidT e, Nat.le_of_eq (hidT_size _ _), trivial, fun b z => absurd z (List.not_mem_nil), hok, .of_eq hg⟩
  refine codeAny_mono ((F _ inB (nsB hns) dg).goes (args := ⟨[.ref a], []⟩) (us := [.ref a]) (vs := [.ref a]) (A := callerA) rfl hr env (hbind s₁ (.ref a)) (.cons rfl .nil) (hsp H sq)) fun r s' h => ?_
  match r, h with
  | .error e, h => exact h.elim
  | .ok .next, h => exact False.elim h
  | .ok .brk, h => exact False.elim h
  | .ok .cont, h => exact False.elim h
  | .ok (.ret u), ⟨v, H', os, bare, un, hok', r', q⟩ =>
    have q' : v = .bl true := q
    subst q'
    obtain rfl : u = Value.bool true := r'
    refine ⟨rfl, OldK.of_keep fun b o e => ?_, os, bare⟩
    cases q : H b with
    | none => exact un.keep b o e q (fun z => absurd z List.not_mem_nil) (fun z => absurd z List.not_mem_nil)
    | some u =>
      obtain ⟨_, rfl, rfl⟩ := inv q
      obtain ⟨e2, _⟩ := hok' b _ (un.frzs b ob _ q)
      rw [ha] at e; cases e
      exact e2
theorem walk_G {l : PySem.W.OpenLaw} {n k : Nat} {q : Program} {loose : List Str} {XP : (Str → Option Value) → Heap → Prop} {YP : World → Heap → Prop} {d : DefRec} {K : Params → PySem.W.Frag} {sp : World → Sp} {x : Str}
    (hn : l.most = some n) (hn2 : n ≤ sizeLine) (hdf : d.params.defaults = []) (hr : Room k callerA)
    (hY : ∀ (w : World) (h : Heap), YP w h → (K w.params).In h)
    (F : ∀ (w : World) (mg : Str → Option Value) (fa : Addr) (h : Heap), (K w.params).In h → h.Ns mainGlobals mg → mg d.name = some (.ref fa) →
      ∃ fd : FuncData, (∀ (s : Shared) (u : Value), BindsTo s fd ⟨[u], []⟩ [(x, u)]) ∧ ∀ base : Heap, (K w.params).In base → base.Ns mainGlobals mg → base.NoDigits → FnG l.prog w (K w.params) mg base k fa fd [x] (sp w))
    (hsp : ∀ (w : World) (H : Hp) (a : Addr) (ns : List Int), ns.length ≤ n → SqL (K w.params) H a (ns.map V.int) → sp w [.ref a] H (fun v _ => v = .bl true) fun _ _ _ => False) :
    PySem.W.WalkO q loose XP YP l.row.toRowW d [] (fun f vs => PySem.call f vs) :=
  Att.attach_call hn hdf fun w s₀ s₁ mg mb fa o pm cd doc a vs ns gr Y ho hd hcd hmg hobj hints hlen hg =>
    let ⟨fd, hb, hF⟩ := F w mg fa _ (hY w _ Y) gr.T.g hmg
    head_G (hY w _ Y) gr.T.g gr.T.b gr.T.builtins gr.T.nolimit gr.T.nodigits hg hobj hints (Nat.le_trans hlen hn2) hr hF hb fun H hS => hsp w H a ns hlen hS
end Px
namespace Px
open PySem L2
theorem hu20_of {A : Around} {k : Nat} (hr : Room k A) : A.units + 20 < cLine := by have := hr.units; omega
end Px

set_option Elab.async false
set_option linter.all false
set_option maxRecDepth 100000
set_option maxHeartbeats 1000000
/-! Px14: for x in d, d a dict: the dict is locked while it is walked -/
namespace Px
open PySem L2
def keyD : Key → D
  | .inl i => .int i
  | .inr x => .str x
/-- the object at d exchanged -/
def sw (d : Addr) (n : HO) (G : Hp) : Hp := fun b => if b = d then (G d).map (fun _ => n) else G b
section
variable {d a b : Addr} {n m : HO} {G G' : Hp} {K : PySem.W.Frag}
theorem sw_ne (h : b ≠ d) : sw d n G b = G b := by unfold sw; rw [if_neg h]
theorem sw_at : sw d n G d = (G d).map (fun _ => n) := by unfold sw; rw [if_pos rfl]
theorem sw_some (h : G d = some m) : sw d n G d = some n := by rw [sw_at, h]; rfl
theorem sw_none : sw d n G b = none ↔ G b = none := by
  by_cases h : b = d
  · subst h; rw [sw_at]; cases G b <;> simp
  · rw [sw_ne h]
theorem sw_upd (h : G d = some m) : sw d n G = upd G d n := by
  funext b
  by_cases hb : b = d
  · subst hb; rw [sw_some h, upd_same]
  · rw [sw_ne hb, upd_ne hb]
def Two (d : Addr) (m : HO) (G : Hp) : Prop := G d = none ∨ G d = some m
theorem Two.of {H : Hp} (e : Ex G H) (h : H d = some m) : Two d m G := by
  cases q : G d with
  | none => exact .inl q
  | some u => have := e d u q; rw [h] at this; cases this; exact .inr q
theorem sw_back (h : Two d m G) : sw d m (sw d n G) = G := by
  funext b
  by_cases hb : b = d
  · subst hb
    rw [sw_at, sw_at]
    rcases h with h | h <;> rw [h] <;> rfl
  · rw [sw_ne hb, sw_ne hb]
theorem sw_ex (e : Ex G G') (h : Two d m G') : Ex (sw d n G) (sw d n G') := fun b u q => by
  by_cases hb : b = d
  · subst hb
    rw [sw_at] at q ⊢
    cases z : G b with
    | none => rw [z] at q; cases q
    | some v => rw [z] at q; rw [e b v z]; exact q
  · rw [sw_ne hb] at q ⊢; exact e b u q
/-- n reads as m does -/
structure Alike (kvs : List (Key × V)) (m n : HO) : Prop where
  m1 : m = .dK kvs ∨ ∃ o, m = .frz o (.dK kvs)
  n1 : n = .dK kvs ∨ ∃ o, n = .frz o (.dK kvs)
theorem Alike.rd {kvs : List (Key × V)} (al : Alike kvs m n) (h : Two d m G) {u : HO} (nf : ∀ o v, u ≠ .frz o v) (r : Rd G a u) : Rd (sw d n G) a u := by
  by_cases z : a = d
  · subst z
    have hm : G a = some m := by
      rcases h with h | h
      · rcases r with r | ⟨o, r⟩ <;> rw [h] at r <;> cases r
      · exact h
    have hu : u = .dK kvs := by
      rcases al.m1 with e | ⟨o', e⟩
      · rcases r with r | ⟨o, r⟩
        · rw [hm, e] at r; cases r; rfl
        · rw [hm, e] at r; cases r
      · rcases r with r | ⟨o, r⟩
        · rw [hm, e] at r; cases r
          exact absurd rfl (nf _ _)
        · rw [hm, e] at r; cases r; rfl
    subst hu
    rcases al.n1 with e | ⟨o', e⟩
    · exact .inl (by rw [sw_some hm, e])
    · exact .inr ⟨o', by rw [sw_some hm, e]⟩
  · rcases r with r | ⟨o, r⟩
    · exact .inl (by rw [sw_ne z]; exact r)
    · exact .inr ⟨o, by rw [sw_ne z]; exact r⟩
theorem Alike.ne {kvs : List (Key × V)} (al : Alike kvs m n) (h : Two d m G) {u : HO} (r : G a = some u) (hu : ∀ z, u ≠ .dK z) (hf : ∀ o v, u ≠ .frz o v) : sw d n G a = some u := by
  have z : a ≠ d := fun z => by
    subst z
    rcases h with h | h
    · rw [h] at r; cases r
    · rw [h] at r
      cases r
      rcases al.m1 with e | ⟨o, e⟩
      · exact hu _ e
      · exact hf _ _ e
  rw [sw_ne z]; exact r
theorem Alike.sqT {kvs : List (Key × V)} (al : Alike kvs m n) (h : Two d m G) {xs : List V} (r : SqT K G a xs) : SqT K (sw d n G) a xs := by
  rcases r with r | r
  · exact .inl (al.rd h (fun _ _ z => nomatch z) r)
  · exact .inr r
theorem Alike.sqL {kvs : List (Key × V)} (al : Alike kvs m n) (h : Two d m G) {xs : List V} (r : SqL K G a xs) : SqL K (sw d n G) a xs := by
  rcases r with r | r
  · exact .inl (al.rd h (fun _ _ z => nomatch z) r)
  · exact .inr r
mutual
theorem Alike.rep {kvs : List (Key × V)} (al : Alike kvs m n) (h : Two d m G) : ∀ (e : D) (v : V), Rep K G e v → Rep K (sw d n G) e v
  | .non, v, r => by simpa only [Rep] using r
  | .bl _, v, r => by simpa only [Rep] using r
  | .int _, v, r => by simpa only [Rep] using r
  | .str _, v, r => by simpa only [Rep] using r
  | .tup ds, v, r => by
    simp only [Rep] at r ⊢
    obtain ⟨a, xs, e1, l, q⟩ := r
    refine ⟨a, xs, e1, Alike.repL al h ds xs l, ?_⟩
    rcases q with q | ⟨q, q2⟩
    · exact .inl (al.ne h q (fun _ z => nomatch z) (fun _ _ z => nomatch z))
    · exact .inr ⟨al.sqT h q, q2⟩
  | .lst ds, v, r => by
    simp only [Rep] at r ⊢
    obtain ⟨a, xs, e1, l, q⟩ := r
    exact ⟨a, xs, e1, Alike.repL al h ds xs l, al.ne h q (fun _ z => nomatch z) (fun _ _ z => nomatch z)⟩
  | .dK ks ds, v, r => by
    simp only [Rep] at r ⊢
    obtain ⟨a, xs, e1, l, hl, q⟩ := r
    exact ⟨a, xs, e1, Alike.repL al h ds xs l, hl, al.rd h (fun _ _ z => nomatch z) q⟩
  | .dT ks ds, v, r => by
    simp only [Rep] at r ⊢
    obtain ⟨a, xs, e1, l, hl, q⟩ := r
    exact ⟨a, xs, e1, Alike.repL al h ds xs l, hl, al.rd h (fun _ _ z => nomatch z) q⟩
  | .scr ns, v, r => by
    simp only [Rep] at r ⊢
    obtain ⟨a, e1, q⟩ := r
    exact ⟨a, e1, al.sqL h q⟩
theorem Alike.repL {kvs : List (Key × V)} (al : Alike kvs m n) (h : Two d m G) : ∀ (ds : List D) (xs : List V), RepL K G ds xs → RepL K (sw d n G) ds xs
  | [], xs, r => by simpa only [RepL] using r
  | e :: ds, xs, r => by
    simp only [RepL] at r ⊢
    obtain ⟨x, r', e1, r1, r2⟩ := r
    exact ⟨x, r', e1, Alike.rep al h e x r1, Alike.repL al h ds r' r2⟩
end
theorem Alike.cell {kvs : List (Key × V)} (al : Alike kvs m n) (h : Two d m G) {o : HO} {e : D} (c : Cell K G o e) : Cell K (sw d n G) o e := by
  cases e <;> try exact c
  · obtain ⟨xs, e1, r⟩ := c; exact ⟨xs, e1, al.repL h _ _ r⟩
  · obtain ⟨xs, e1, l, r⟩ := c; exact ⟨xs, e1, l, al.repL h _ _ r⟩
  · obtain ⟨xs, e1, l, r⟩ := c; exact ⟨xs, e1, l, al.repL h _ _ r⟩
def Bs.sw (B : Bs) (d : Addr) (n : HO) : Bs := ⟨B.hE, Px.sw d n B.hb, Px.sw d n B.h0, B.rp⟩
theorem Rel.sw {B : Bs} {s : S} {σ : St} {H0 H : Hp} {kvs : List (Key × V)} (al : Alike kvs m n) (R : Rel K B s σ H0 H) (h : H0 d = some m) : Rel K (B.sw d n) s σ (sw d n H0) (sw d n H) := by
  have hH : H d = some m := R.h0 d m h
  have t0 : Two d m H0 := .inr h
  have tH : Two d m H := .inr hH
  have noN : ∀ xs, n ≠ .tup xs := fun xs z => by
    rcases al.n1 with e | ⟨o, e⟩ <;> rw [e] at z <;> cases z
  have noM : ∀ xs, m ≠ .tup xs := fun xs z => by
    rcases al.m1 with e | ⟨o, e⟩ <;> rw [e] at z <;> cases z
  have tp : ∀ b xs, Px.sw d n H b = some (.tup xs) → Nw B.hE b (.tup xs) := fun b xs hb => by
    by_cases z : b = d
    · subst z; rw [sw_some hH] at hb; cases hb; exact absurd rfl (noN _)
    · rw [sw_ne z] at hb; exact R.tp b xs hb
  refine ⟨tp, sw_ex R.fr tH, fun b hb => R.dom b (sw_none.mp hb), sw_ex R.z0 t0, sw_ex R.h0 tH, fun b o hb => ?_, R.len, fun i e hi => ?_, fun i mm e hi hm => ?_, R.ne⟩
  · by_cases z : b = d
    · subst z
      rw [sw_some h] at hb
      cases hb
      rcases R.new b m h with q | q | ⟨xs, z, _⟩
      · exact .inl (sw_some q)
      · exact .inr (.inl q)
      · exact absurd z (noM xs)
    · rw [sw_ne z] at hb
      rcases R.new b o hb with q | q
      · exact .inl (by show Px.sw d n B.h0 b = some o; rw [sw_ne z]; exact q)
      · exact .inr q
  · obtain ⟨v, ev, r⟩ := R.sh i e hi
    exact ⟨v, ev, al.rep t0 e v r⟩
  · obtain ⟨p, ep, w⟩ := R.ow i mm e hi hm
    have z : p ≠ d := fun z => by have q := w.z; rw [z, h] at q; cases q
    obtain ⟨o, ho, hc⟩ := w.ob
    exact ⟨p, ep, sw_none.mpr w.z, sw_none.mpr w.b, w.ow, w.rf, o, by rw [sw_ne z]; exact ho, al.cell t0 hc⟩
theorem itok_keys {H0 : Hp} {o : Obj} {ks : List Key} {xs : List V} (h : H0 d = some (.frz o (.dK (ks.zip xs)))) (hl : ks.length = xs.length) : ItOk K (Itk d o (ks.zip xs)) H0 (ks.map keyD) := fun i H1 H' x1 x2 => by
  have hd := x2 _ _ (x1 _ _ h)
  have zl : (ks.zip xs).length = ks.length := zip_length hl
  refine ⟨fun e he => ?_, fun hi => ⟨hd, by rw [List.length_map] at hi; omega⟩⟩
  rw [List.getElem?_map] at he
  obtain ⟨k, hk, rfl⟩ := Option.map_eq_some_iff.mp he
  have hi := (List.getElem?_eq_some_iff.mp hk).1
  refine ⟨⟨hd, by omega⟩, fun y H2 hy => ?_⟩
  obtain ⟨e1, k', v', hz, rfl⟩ := hy
  refine .inl ⟨e1, ?_⟩
  have : k' = k := by
    have := (List.getElem?_zip_eq_some.mp hz).1
    rw [hk] at this; cases this; rfl
  subst this
  cases k' <;> simp only [Rep, kV, keyD]
end
@[simp] def keysOf (s : S) (i : Nat) : Option (List Key) := match s[i]? with
  | some (some (.sh, .dK ks _)) => some ks
  | _ => none
/-- for x in y, y a frozen dict -/
def sForK (i : Nat) (g : FG) (fb : FS) : FS := fun s => (keysOf s i).bind fun ks => (loopD g fb (ks.map keyD) s).bind fun o => match o with
  | .nx s2 => some (.nx s2)
  | _ => none
section
variable {X : Cx} {B : Bs} {tg : Expr} {pos pn : Pos} {x : Str} {g : FG} {fs : FS} {ts : List Nat}
theorem for_core {J : It} {D0 : Ends} {σ0 : St} {H1 H2 : Hp} {ds : List D} {s1 s3 : S} (R1 : Rel X.K B s1 σ0 H1 H2) (ok : ItOk X.K J H1 ds) (ev : loopD g fs ds s1 = some (.nx s3)) (k : ∀ σ5 H5 H5', Rel X.K B s3 σ5 H5 H5' → Ex H1 H5 → D0.nx σ5 H5') :
    tFor (fun _ H R => R J H) (fun v σ H Q => ∃ B, tG X.K B ts g v σ H Q) (fun D σ H => ∃ B, tS X.K B fs D σ H) D0 σ0 H2 := by
  refine ⟨fun i m σ H => i + m = ds.length ∧ ∃ s2 H3, Rel X.K B s2 σ H3 H ∧ Ex H1 H3 ∧ loopD g fs (ds.drop i) s2 = some (.nx s3), ⟨ds.length, by omega, s1, H1, R1, Ex.refl _, by rw [List.drop_zero]; exact ev⟩, fun i m σ H hW => ?_⟩
  obtain ⟨hm, s2, H3, R2, x2, hl⟩ := hW
  cases hd : ds[i]? with
  | none =>
    have hi : ds.length ≤ i := by simpa using hd
    rw [List.drop_eq_nil_of_le hi] at hl
    cases hl
    exact .inl ⟨(ok i H3 H x2 R2.h0).2 (by omega), k σ H3 H R2 x2⟩
  | some d =>
    have hi : i < ds.length := (List.getElem?_eq_some_iff.mp hd).1
    rw [List.drop_eq_getElem_cons hi] at hl
    have ed : ds[i] = d := (List.getElem?_eq_some_iff.mp hd).2
    rw [ed] at hl
    obtain ⟨s4, e3, hl1⟩ := bnd hl
    obtain ⟨o, e4, hl2⟩ := bnd hl1
    obtain ⟨hgo, hy⟩ := (ok i H3 H x2 R2.h0).1 d hd
    refine .inr ⟨hgo, fun σ' H' => i + 1 + (m - 1) = ds.length ∧ ∃ s2 H3, Rel X.K B s2 σ' H3 H' ∧ Ex H1 H3 ∧ loopD g fs (ds.drop (i + 1)) s2 = some (.nx s3), fun σ' H' hN => ⟨m - 1, by omega, hN⟩, fun y Hy hyx => ?_⟩
    have key : ∃ H4, Rel X.K B s2 σ H4 Hy ∧ Ex H3 H4 ∧ Rep X.K H4 d y := by
      rcases hy y Hy hyx with ⟨rfl, r⟩ | ⟨T, o, hT, rfl, r⟩
      · exact ⟨H3, R2, Ex.refl _, r⟩
      · exact ⟨_, R2.laid hT, Ex.new (R2.fresh0 hT), r⟩
    obtain ⟨H4, R4, x4, r4⟩ := key
    refine ⟨B, s2, H4, d, s4, R4, r4, e3, fun σ6 H6 H6' R6 x6 _ => ⟨B, s4, H6, o, R6, e4, ?_⟩⟩
    have x14 : Ex H1 H6 := (x2.trans x4).trans x6
    cases o with
    | nx s5 => exact fun σ5 H5 H5' R5 x5 => ⟨by omega, s5, H5, R5, x14.trans x5, hl2⟩
    | ct s5 => exact fun σ5 H5 H5' R5 x5 => ⟨by omega, s5, H5, R5, x14.trans x5, hl2⟩
    | bk s5 => cases hl2; exact fun σ5 H5 H5' R5 x5 => k σ5 H5 H5' R5 (x14.trans x5)
    | ret oo dd s5 => cases hl2
theorem is_forK {i : Nat} {body : List Stmt} (hp : PassesOwn (model X.prog X.w) X.A X.env X.xe) (hc : X.calm = true) (hv : PE X (.Name x pn) (tVar i)) (hg : ∀ B, PG X tg (tG X.K B ts g)) (hb : ∀ B, PSs X body (tS X.K B fs)) (hs : ∀ y, foldedSetIterable (.Name x pn) X.env y = pure y := by intro _; rfl) :
    PS X (.For tg (.Name x pn) body [] pos) (tS X.K B (sForK i g fs)) := by
  have base := ps_for (pos := pos) (g := fun v σ H Q => ∃ B, tG X.K B ts g v σ H Q) (tb := fun D σ H => ∃ B, tS X.K B fs D σ H) hp hc (pi_keys hv) ⟨fun pins s' σ H' v u Q I r ⟨B, q⟩ => (hg B).run pins s' σ H' v u Q I r q⟩ ⟨fun pins s' σ H' D I ⟨B, q⟩ => (hb B).run pins s' σ H' D I q⟩ hs
  have both : PS X (.For tg (.Name x pn) body [] pos) (fun D σ H => tFor (iKeys (tVar i)) (fun v σ H Q => ∃ B, tG X.K B ts g v σ H Q) (fun D σ H => ∃ B, tS X.K B fs D σ H) D σ H ∨ tLock (tFor (iKeys (tVar i)) (fun v σ H Q => ∃ B, tG X.K B ts g v σ H Q) (fun D σ H => ∃ B, tS X.K B fs D σ H)) D σ H) := ⟨fun pins s σ H D I q => q.elim (base.run pins s σ H D I) ((ps_lock base).run pins s σ H D I)⟩
  refine both.pxw fun E σ H q => ?_
  obtain ⟨s, H0, out, R, ev, k⟩ := q
  obtain ⟨ks, e0, ev0⟩ := bnd ev
  obtain ⟨o1, e1, ev1⟩ := bnd ev0
  have hsl : ∃ es, s[i]? = some (some (.sh, .dK ks es)) := by
    unfold keysOf at e0
    split at e0
    · next ks' es' h => cases e0; exact ⟨_, h⟩
    · cases e0
  obtain ⟨es, hsl⟩ := hsl
  cases o1 with
  | nx s3 =>
    cases ev1
    obtain ⟨v, ev, rv⟩ := R.sh i _ hsl
    simp only [Rep] at rv
    obtain ⟨d, xs, rfl, l, hl, rd⟩ := rv
    have hlx : ks.length = xs.length := hl.trans l.len.symm
    rcases rd with rd | ⟨o, rd⟩
    · right
      have al : ∀ od, Alike (ks.zip xs) (.dK (ks.zip xs)) (.frz od (.dK (ks.zip xs))) := fun od => ⟨.inl rfl, .inr ⟨od, rfl⟩⟩
      have la : ∀ od, Alike (ks.zip xs) (.frz od (.dK (ks.zip xs))) (.dK (ks.zip xs)) := fun od => ⟨.inr ⟨od, rfl⟩, .inl rfl⟩
      have hH := R.h0 _ _ rd
      refine ⟨d, _, hH, trivial, fun od => ?_⟩
      have RL := R.sw (al od) rd
      rw [← sw_upd (n := .frz od (.dK (ks.zip xs))) hH]
      have h0L : sw d (.frz od (.dK (ks.zip xs))) H0 d = some (.frz od (.dK (ks.zip xs))) := sw_some rd
      refine ⟨_, ev, d, od, rfl, .inl ⟨ks.zip xs, RL.h0 _ _ h0L, for_core RL (itok_keys h0L hlx) e1 fun σ5 H5 H5' R5 x5 => ?_⟩⟩
      have h5 : H5 d = some (.frz od (.dK (ks.zip xs))) := x5 _ _ h0L
      have h5' := R5.h0 _ _ h5
      refine ⟨h5', ?_⟩
      have RU := R5.sw (la od) h5
      have eB : (B.sw d (.frz od (.dK (ks.zip xs)))).sw d (.dK (ks.zip xs)) = B := by
        unfold Bs.sw
        rw [sw_back (Two.of R.fr hH), sw_back (Two.of R.z0 rd)]
      rw [eB] at RU
      rw [← sw_upd (n := .dK (ks.zip xs)) h5']
      refine k σ5 _ _ RU ?_
      have := sw_ex (n := HO.dK (ks.zip xs)) x5 (.inr h5)
      rw [sw_back (.inr rd)] at this
      exact this
    · left
      exact ⟨_, ev, d, o, rfl, .inl ⟨ks.zip xs, R.h0 _ _ rd, for_core R (itok_keys rd hlx) e1 fun σ5 H5 H5' R5 x5 => k σ5 H5 H5' R5 x5⟩⟩
  | _ => cases ev1
end
end Px

set_option Elab.async false
set_option linter.all false
set_option maxRecDepth 100000
set_option maxHeartbeats 1000000
/-! Px15: list(d), d a dict with tuple keys -/
namespace Px
open PySem L2
def keyTD (k : List Key) : D := .tup (k.map keyD)
section
variable {K : PySem.W.Frag} {B : Bs} {s : S} {σ : St} {H0 H : Hp} {q : Addr} {xs : List V}
theorem Rel.thaw (R : Rel K B s σ H0 H) (h : H q = some (.tup xs)) : ∃ H1, Rel K B s σ H1 H ∧ Ex H0 H1 ∧ H1 q = some (.tup xs) := by
  cases z : H0 q with
  | some u =>
    have := R.h0 q u z
    rw [h] at this; cases this
    exact ⟨H0, R, Ex.refl _, z⟩
  | none =>
    refine ⟨upd H0 q (.tup xs), ⟨R.tp, R.fr, R.dom, R.z0.trans (Ex.new z), fun a u g => ?_, fun b u g => ?_, R.len, fun i d g => ?_, fun i m d g hm => ?_, R.ne⟩, Ex.new z, upd_same⟩
    · by_cases y : a = q
      · subst y; rw [upd_same] at g; cases g; exact h
      · rw [upd_ne y] at g; exact R.h0 a u g
    · by_cases y : b = q
      · subst y; rw [upd_same] at g; cases g; exact .inr (R.tp b xs h)
      · rw [upd_ne y] at g; exact R.new b u g
    · obtain ⟨v, e1, r⟩ := R.sh i d g
      exact ⟨v, e1, r.up (Ex.new z)⟩
    · obtain ⟨p, e1, w⟩ := R.ow i m d g hm
      obtain ⟨o, ho, hc⟩ := w.ob
      have ne : p ≠ q := fun y => by rw [y, h] at ho; cases ho; exact hc.noTup.elim
      exact ⟨p, e1, w.up (Ex.new z) (by rw [upd_ne ne]; exact w.z) rfl⟩
theorem repL_keys : ∀ (k : List Key), RepL K H0 (k.map keyD) (k.map kV)
  | [] => by simp only [List.map_nil, RepL]
  | x :: k => by
    simp only [List.map_cons, RepL]
    refine ⟨_, _, rfl, ?_, repL_keys k⟩
    cases x <;> simp only [Rep, keyD, kV]
theorem Rel.thaws : ∀ (ks : List (List Key)) (xs : List V) (bs : List Addr) (H0 : Hp), Rel K B s σ H0 H → ks.length = xs.length → IsKeys H (ks.zip xs) bs → ∃ H1, Rel K B s σ H1 H ∧ Ex H0 H1 ∧ RepL K H1 (ks.map keyTD) (bs.map V.ref)
  | [], xs, bs, H0, R, _, h => by
    rw [List.zip_nil_left] at h
    cases h
    exact ⟨H0, R, Ex.refl _, by simp only [List.map_nil, RepL]⟩
  | k :: ks, [], bs, H0, R, hl, h => by simp at hl
  | k :: ks, x :: xs, bs, H0, R, hl, h => by
    rw [List.zip_cons_cons] at h
    cases h with
    | cons hb ht =>
      rename_i b bs
      obtain ⟨H1, R1, x1, h1⟩ := R.thaw hb
      obtain ⟨H2, R2, x2, l2⟩ := Rel.thaws ks xs bs H1 R1 (by simpa using hl) ht
      refine ⟨H2, R2, x1.trans x2, ?_⟩
      simp only [List.map_cons, RepL]
      refine ⟨_, _, rfl, ?_, l2⟩
      simp only [keyTD, Rep]
      exact ⟨b, _, rfl, repL_keys k, .inl (x2 _ _ h1)⟩
end
@[simp] def gListD : D → Option D
  | .dT ks _ => some (.lst (ks.map keyTD))
  | _ => none
section
variable {X : Cx} {B : Bs} {a : Expr} {pos p : Pos} {pa : FP}
theorem io_listD (hc : X.calm = true) (hg : Gl X "list") (hm : X.mg "list" = none) (ha : PE X a (tP X.K B pa)) (he : starEach [a] X.env = (false, eval a X.env) :: starEach [] X.env := by rfl) (hpl : (backTo pos (starEach [] X.env)).any (·.1) = false := by rfl) :
    PE X (.Call (.Name "list" p) [a] [] pos) (tO X.K B (eB1 gListD pa)) := (pe_callTy (call_list_dT hc) hg hm (by decide +kernel) (pa_cons ha pa_nil he) (by decide) (by decide) he hpl).pxw fun σ H Q q => by
  obtain ⟨s, H0, d, s', R, ev, k⟩ := q
  obtain ⟨⟨p1, s1⟩, e1, ev1⟩ := bnd ev
  obtain ⟨d1, g1, ev2⟩ := bnd ev1
  obtain ⟨d', e3, ev3⟩ := bnd ev2
  cases ev3
  refine ⟨s, H0, p1, s1, R, e1, fun x H1 H' R1 x1 r1 => ?_⟩
  cases d1 with
  | dT ks ds =>
    cases e3
    obtain ⟨t, xs, rfl, l, hl, rd⟩ := r1.dT R1 g1
    refine ⟨t, ks.zip xs, rfl, rd, fun u bs hu hk => ?_⟩
    obtain ⟨H2, R2, x2, l2⟩ := Rel.thaws ks xs bs H1 R1 (hl.trans l.len.symm) hk
    exact k u H2 _ (R2.laidO hu) (x1.trans x2) (R2.ownNew (o := .lst (bs.map V.ref)) hu ⟨_, rfl, l2⟩)
  | _ => cases e3
end
end Px

set_option Elab.async false
set_option linter.all false
set_option maxRecDepth 100000
set_option maxHeartbeats 1000000
/-! Px16: tuple * int -/
namespace Px
open PySem L2 PySem.Spec PyProof.Rows
theorem tuple_mul1 (l : Addr) (items : Array Value) (n : Nat) (dd : Option Addr) (sl : Array (Option Value)) (u : Tok) :
    Meets (Builtin.«tuple.__mul__» ⟨[.ref l, .int 1 u], []⟩) (fun _ R s => s.heap.get? l = some { cls := .type "tuple", dict := dd, data := .seq items n, slots := sl } ∧
      R (.ok (.ret (Value.ref l))) s) :=
  .of_wp fun prog w A R s h => by
    obtain ⟨hp, g, d, tk, os⟩ := s
    obtain ⟨hl, h⟩ := h
    have f1 := AutoSeq1.idx_int
    have c1 : (items.isEmpty || (1 : Int) == 1) = true := by simp
    wp_walk using wpAny_loadPart' hl
    repeat (first
      | (refine wpAny_ite_false (decide_eq_false (by decide)) ?_; wp_walk using wpAny_loadPart' hl)
      | (refine wpAny_ite_true (decide_eq_true c1) ?_; wp_walk using wpAny_loadPart' hl))
    exact ⟨_, rfl, h⟩
def rRepT1 (K : PySem.W.Frag) : R2 := fun x y H Q => ∃ l k xs, x = .ref l ∧ y = .int k ∧ SqT K H l xs ∧ xs ≠ [] ∧ 1 ≤ k ∧ k ≤ 1000 ∧ xs.length ≤ 1000 ∧ (k = 1 → Q x H) ∧ (2 ≤ k → ∀ p, H p = none → Q (.ref p) (upd H p (.tup (List.replicate k.toNat xs).flatten)))
section
variable {X : Cx}
theorem op_repT1 : OpR X (binaryOp .Mult) (rRepT1 X.K) := by
  intro pins s σ H x y v u Q I rx ry h
  obtain ⟨l, k, xs, ex, ey, hT, hne, h1, h2, hz, q1, q2⟩ := h
  by_cases hk : 2 ≤ k
  · exact op_repT pins s σ H x y v u Q I rx ry ⟨l, k, xs, ex, ey, hT, hne, hk, h2, hz, q2 hk⟩
  · have e : k = 1 := by omega
    subst e
    have q := q1 rfl
    subst ex ey
    cases rx
    obtain ⟨t, rfl⟩ := ry
    obtain ⟨its, r, ⟨⟨cls, dd, data, sl⟩, ho, hc, n, hd⟩, hs⟩ := I.tuple hT
    simp only at hc hd
    subst hc hd
    refine wpAny_binaryOp_repeat_ref (T := "tuple") (U := "int") (by decide) ⟨_, ho, rfl⟩ (fun s' => typeIs_int s' 1 t) noFill_tuple_mul F.fills_int_mul F.slot_int_rmul repeat_tuple F.slot_int_index.lookup
      (call_meets F.slot_int_rmul (typeIs_int s 1 t) F.entry_int_rmul (F.args_int_rmul_2 _ _) (int_rmul_tuple 1 t l its.toArray n dd sl)
        ⟨ho, rfl, ⟨_, ho, rfl⟩, call_meets F.slot_tuple_mul ⟨_, ho, rfl⟩ F.entry_tuple_mul (F.args_tuple_mul_2 _ _) (tuple_mul1 l its.toArray n dd sl t) ⟨ho, ?_⟩⟩)
    exact ⟨.ref l, _, I, rfl, q⟩
end
@[simp] def gRepT : D → D → Option D
  | .tup ds, .int k => if ds ≠ [] ∧ ds.length ≤ 1000 ∧ 1 ≤ k ∧ k ≤ 1000 then some (.tup (List.replicate k.toNat ds).flatten) else none
  | _, _ => none
section
variable {K : PySem.W.Frag}
theorem RepL.rep {H0 : Hp} {ds : List D} {xs : List V} (h : RepL K H0 ds xs) : ∀ n, RepL K H0 (List.replicate n ds).flatten (List.replicate n xs).flatten
  | 0 => by simp [RepL]
  | n + 1 => by
    rw [List.replicate_succ, List.replicate_succ, List.flatten_cons, List.flatten_cons]
    exact h.append (RepL.rep h n)
theorem opd_repT : OpD K (rRepT1 K) gRepT := fun B s σ H0 H d1 d2 d x y Q R r1 r2 e k => by
  unfold gRepT at e
  split at e
  · next ds n =>
    split at e
    · next hl =>
      obtain ⟨a1, a2, a3, a4⟩ := hl
      cases e
      obtain ⟨p, xs, rfl, l1, h1⟩ := rep_tup_sq r1
      refine ⟨p, n, xs, rfl, rep_int r2, R.h0.sqT h1, fun z => a1 (l1.nil_iff.mp z), a3, a4, by rw [l1.len]; exact a2, fun z => ?_, fun _ t ht => ?_⟩
      · subst z
        have e1 : (List.replicate (1 : Int).toNat ds).flatten = ds := by simp
        rw [e1] at k
        exact k _ H0 H R (Ex.refl _) r1
      · exact k _ _ _ (R.laid ht) (Ex.new (R.fresh0 ht)) (rep_tupNew (l1.rep _) (R.fresh0 ht))
    · cases e
  · cases e
end
section
variable {X : Cx} {a b : Expr} {B : Bs} {fa fb : Px.F} {pos : Pos}
theorem ie_repT (ha : PE X a (tF X.K B fa)) (hb : PE X b (tF X.K B fb)) : PE X (.BinOp a .Mult b pos) (tF X.K B (eOp gRepT fa fb)) := ie_op2 (pe_op op_repT1) opd_repT ha hb
end
end Px

set_option Elab.async false
set_option linter.all false
set_option maxRecDepth 100000
set_option maxHeartbeats 1000000
/-! Px17: isinstance, all, a text's signs, text in text -/
namespace Px
open PySem L2
/-! ### isinstance -/
@[simp] def gIsi (T : String) : D → Option D
  | .int _ => if T = "int" then some (.bl true) else if T = "bool" ∨ T = "str" ∨ T = "tuple" then some (.bl false) else none
  | .bl _ => if T = "int" ∨ T = "bool" then some (.bl true) else if T = "str" ∨ T = "tuple" then some (.bl false) else none
  | .str _ => if T = "str" then some (.bl true) else if T = "int" ∨ T = "bool" ∨ T = "tuple" then some (.bl false) else none
  | .non => if T = "int" ∨ T = "bool" ∨ T = "str" ∨ T = "tuple" then some (.bl false) else none
  | .tup _ => if T = "tuple" then some (.bl true) else if T = "int" ∨ T = "bool" ∨ T = "str" then some (.bl false) else none
  | _ => none
section
variable {K : PySem.W.Frag}
theorem kitI {T : String} {b : Bool} : (if T = "int" then some (D.bl true) else if T = "bool" ∨ T = "str" ∨ T = "tuple" then some (.bl false) else none) = some (.bl b) → kitB "int" T = some b := fun e => by
  split at e
  · next h => subst h; cases e; decide +kernel
  · split at e
    · next h => rcases h with h | h | h <;> subst h <;> cases e <;> decide +kernel
    · cases e
theorem kitBo {T : String} {b : Bool} : (if T = "int" ∨ T = "bool" then some (D.bl true) else if T = "str" ∨ T = "tuple" then some (.bl false) else none) = some (.bl b) → kitB "bool" T = some b := fun e => by
  split at e
  · next h => rcases h with h | h <;> subst h <;> cases e <;> decide +kernel
  · split at e
    · next h => rcases h with h | h <;> subst h <;> cases e <;> decide +kernel
    · cases e
theorem kitS {T : String} {b : Bool} : (if T = "str" then some (D.bl true) else if T = "int" ∨ T = "bool" ∨ T = "tuple" then some (.bl false) else none) = some (.bl b) → kitB "str" T = some b := fun e => by
  split at e
  · next h => subst h; cases e; decide +kernel
  · split at e
    · next h => rcases h with h | h | h <;> subst h <;> cases e <;> decide +kernel
    · cases e
theorem kitN {T : String} {b : Bool} : (if T = "int" ∨ T = "bool" ∨ T = "str" ∨ T = "tuple" then some (D.bl false) else none) = some (.bl b) → kitB "NoneType" T = some b := fun e => by
  split at e
  · next h => rcases h with h | h | h | h <;> subst h <;> cases e <;> decide +kernel
  · cases e
theorem kitT {T : String} {b : Bool} : (if T = "tuple" then some (D.bl true) else if T = "int" ∨ T = "bool" ∨ T = "str" then some (.bl false) else none) = some (.bl b) → kitB "tuple" T = some b := fun e => by
  split at e
  · next h => subst h; cases e; decide +kernel
  · split at e
    · next h => rcases h with h | h | h <;> subst h <;> cases e <;> decide +kernel
    · cases e
theorem isi_bl {T : String} {d d' : D} (h : gIsi T d = some d') : ∃ b, d' = .bl b := by
  cases d with
  | int i => simp only [gIsi] at h; split at h; cases h; exact ⟨_, rfl⟩; split at h; cases h; exact ⟨_, rfl⟩; cases h
  | bl i => simp only [gIsi] at h; split at h; cases h; exact ⟨_, rfl⟩; split at h; cases h; exact ⟨_, rfl⟩; cases h
  | str i => simp only [gIsi] at h; split at h; cases h; exact ⟨_, rfl⟩; split at h; cases h; exact ⟨_, rfl⟩; cases h
  | non => simp only [gIsi] at h; split at h; cases h; exact ⟨_, rfl⟩; cases h
  | tup i => simp only [gIsi] at h; split at h; cases h; exact ⟨_, rfl⟩; split at h; cases h; exact ⟨_, rfl⟩; cases h
  | _ => cases h
theorem isi_ty {T : String} {B : Bs} {s : S} {σ : St} {H0 H : Hp} {q : PR} {d : D} {b : Bool} {x : V} (R : Rel K B s σ H0 H) (r1 : PRep K σ H0 q x) (g1 : q.get s = some d) (e : gIsi T d = some (.bl b)) : ∃ t : String, TyX K H x (.type t) ∧ kitB t T = some b := by
  cases d with
  | int i =>
    rw [rep_int (r1.frozen R g1 (fun o z => z))]
    exact ⟨_, .base (.int i), kitI e⟩
  | bl i =>
    have : x = .bl i := by simpa only [Rep] using r1.frozen R g1 (fun o z => z)
    rw [this]
    exact ⟨_, .base (.bl i), kitBo e⟩
  | str i =>
    rw [rep_str (r1.frozen R g1 (fun o z => z))]
    exact ⟨_, .base (.str i), kitS e⟩
  | non =>
    have : x = .non := by simpa only [Rep] using r1.frozen R g1 (fun o z => z)
    rw [this]
    exact ⟨_, .base .non, kitN e⟩
  | tup ds =>
    obtain ⟨a, xs, rfl, l, h⟩ := rep_tup_sq (r1.frozen R g1 (fun o z => z))
    refine ⟨"tuple", ?_, kitT e⟩
    rcases R.h0.sqT h with h | ⟨o, its, n, h1, h2, _⟩
    · rcases h with h | ⟨o, h⟩
      · exact .base (.tup h)
      · exact .fTuple h
    · exact .kTuple h1 h2
  | _ => cases e
end
section
variable {X : Cx} {B : Bs} {a : Expr} {p pT pos : Pos} {pa : FP}
theorem ie_isi {T : String} {x : Str} (hb : bootBuiltins x = some (.type T)) (hg : Gl X "isinstance") (hm : X.mg "isinstance" = none) (hgT : Gl X x) (hmT : X.mg x = none) (ha : PE X a (tP X.K B pa)) (hn : x ≠ "__name__" := by decide) (hdb : (x == ("__debug__" : Str)) = false := by decide)
    (he : starEach [a, .Name x pT] X.env = (false, eval a X.env) :: starEach [.Name x pT] X.env := by rfl) (he2 : starEach [.Name x pT] X.env = (false, eval (.Name x pT) X.env) :: starEach [] X.env := by rfl) (hpl : (backTo pos (starEach [.Name x pT] X.env)).any (·.1) = false := by rfl) :
    PE X (.Call (.Name "isinstance" p) [a, .Name x pT] [] pos) (tF X.K B (eB1 (gIsi T) pa)) :=
  (pe_callB call_isi hg hm (by decide +kernel) (pa_cons ha (pa_cons (pe_bltn (v := .ty T) hgT hmT hb rfl hn hdb) pa_nil he2) he) (by decide) (by decide) he hpl).pxw fun σ H Q q => by
    obtain ⟨s, H0, d, s', R, ev, k⟩ := q
    obtain ⟨⟨p1, s1⟩, e1, ev1⟩ := bnd ev
    obtain ⟨d1, g1, ev2⟩ := bnd ev1
    obtain ⟨d', e3, ev3⟩ := bnd ev2
    cases ev3
    obtain ⟨b, rfl⟩ := isi_bl e3
    refine ⟨s, H0, p1, s1, R, e1, fun x H1 H' R1 x1 r1 => ?_⟩
    obtain ⟨t, ty, kb⟩ := isi_ty R1 r1 g1 e3
    exact ⟨x, .ty T, .type t, .type T, b, rfl, .ty T, ty, kit_ty kb, k _ _ _ R1 x1 (by simp only [Rep])⟩
end
/-! ### all -/
@[simp] def bls? : List D → Option (List Bool)
  | [] => some []
  | .bl i :: r => (bls? r).bind fun l => some (i :: l)
  | _ :: _ => none
theorem bls_inv : ∀ {ds : List D} {ns : List Bool}, bls? ds = some ns → ds = ns.map D.bl
  | [], ns, h => by cases h; rfl
  | .bl i :: r, ns, h => by
    obtain ⟨l, e, h'⟩ := bnd (show (bls? r).bind _ = some ns from h)
    cases h'
    rw [List.map_cons, ← bls_inv e]
  | .non :: _, _, h | .int _ :: _, _, h | .str _ :: _, _, h | .tup _ :: _, _, h | .lst _ :: _, _, h | .dK _ _ :: _, _, h | .dT _ _ :: _, _, h | .scr _ :: _, _, h => by cases h
theorem bls_map : ∀ (ns : List Bool), bls? (ns.map D.bl) = some ns
  | [] => rfl
  | n :: ns => by rw [List.map_cons]; show (bls? (ns.map D.bl)).bind _ = _; rw [bls_map ns]; rfl
@[simp] def gAll : D → Option D
  | .lst ds => (bls? ds).bind fun ns => some (.bl (ns.all id))
  | _ => none
section
variable {K : PySem.W.Frag}
theorem RepL.bls {H : Hp} : ∀ {ns : List Bool} {xs : List V}, RepL K H (ns.map D.bl) xs → xs = ns.map V.bl
  | [], xs, h => h.of_nil
  | n :: ns, xs, h => by
    obtain ⟨x, r, rfl, h1, h2⟩ := h.of_cons
    simp only [Rep] at h1
    rw [List.map_cons, h1, RepL.bls h2]
theorem cap_all : CaP K (rAll K) gAll := .flat fun B s σ H0 H q d d' x R r1 g1 e => by
  cases d with
  | lst ds =>
    obtain ⟨ns, en, e2⟩ := bnd (show (bls? ds).bind _ = some d' from e)
    cases e2
    have := bls_inv en
    subst this
    obtain ⟨a, xs, rfl, l, h⟩ := r1.lst R g1
    rw [l.bls] at h
    exact ⟨_, fun _ => by simp only [Rep], fun Q z => ⟨a, ns, rfl, .of h, z⟩⟩
  | _ => cases e
end
section
variable {X : Cx} {B : Bs} {a b : Expr} {p pos : Pos} {pa pb : FP} {fa : Px.F} {tg : Expr}
theorem ie_all (hc : X.calm = true) (hg : Gl X "all") (hm : X.mg "all" = none) (ha : PE X a (tP X.K B pa)) (he : starEach [a] X.env = (false, eval a X.env) :: starEach [] X.env := by rfl) (hpl : (backTo pos (starEach [] X.env)).any (·.1) = false := by rfl) :
    PE X (.Call (.Name "all" p) [a] [] pos) (tF X.K B (eB1 gAll pa)) := ie_b1 (pe_callB (cr_all hc) hg hm (by decide +kernel) (pa_cons ha pa_nil he) (by decide) (by decide) he hpl) cap_all
/-! ### text in text -/
@[simp] def gInS : D → D → Option D
  | .str i, .str j => some (.bl (!(Builtin.Str.occurrences j i 0 j.length 1).isEmpty))
  | _, _ => none
theorem opp_inS {K : PySem.W.Frag} : OpP K (fun x y H Q => ∃ i j, x = .str i ∧ y = .str j ∧ Q (.bl (!(Builtin.Str.occurrences j i 0 j.length 1).isEmpty)) H) gInS := fun B s σ H0 H q1 q2 d1 d2 d x y Q R r1 r2 g1 g2 e k => by
  cases d1 with
  | str i =>
    cases d2 with
    | str j =>
      cases e
      exact ⟨i, j, rep_str (r1.frozen R g1 (fun o z => z)), rep_str (r2.frozen R g2 (fun o z => z)), k _ H0 H R (Ex.refl _) (by simp only [Rep])⟩
    | _ => cases e
  | _ => cases e
theorem ie_inS (ha : PE X a (tP X.K B pa)) (hb : PE X b (tP X.K B pb)) (hm : behindInMarks .In b = false := by rfl) : PE X (.Compare a [.In] [b] pos) (tF X.K B (eOpP gInS pa pb)) := ie_op2P (fun h1 h2 => pe_cmpR op_in_str h1 h2 hm) opp_inS ha hb
theorem it_inS (ha : PE X a (tP X.K B pa)) (hb : PE X b (tP X.K B pb)) (hm : behindInMarks .In b = false := by rfl) : PT X (.Compare a [.In] [b] pos) (tT X.K B (bT (eOpP gInS pa pb))) := it_of (pt_cmpR op_in_str ha hb hm) fun q => rd_op2P opp_inS q
/-! ### a text's signs -/
def signs (x : Str) : List D := x.cps.toList.map fun c => .str ⟨#[c]⟩
@[simp] def iTxt (f : Px.F) : FI := fun s => (f s).bind fun a => match a.1 with | .str x => some (signs x, a.2) | _ => none
theorem itok_txt {K : PySem.W.Frag} {H0 : Hp} {x : Str} : ItOk K (Its x) H0 (signs x) := fun i H1 H' x1 x2 => by
  refine ⟨fun d hd => ?_, fun hi => show x.cps.size ≤ i from Nat.le_of_eq (by simpa [signs] using hi)⟩
  unfold signs at hd
  rw [List.getElem?_map] at hd
  cases hc : x.cps.toList[i]? with
  | none => rw [hc] at hd; cases hd
  | some c =>
    rw [hc] at hd
    cases hd
    have hi : i < x.cps.size := by simpa using (List.getElem?_eq_some_iff.mp hc).1
    refine ⟨hi, fun v H2 hy => .inl ⟨hy.1, ?_⟩⟩
    obtain ⟨c', e1, e2⟩ := hy.2
    have : c' = c := by
      rw [Array.getElem?_toList] at hc
      rw [hc] at e1; cases e1; rfl
    rw [e2, this]
    simp only [Rep]
theorem ii_txt (ha : PE X a (tF X.K B fa)) : PI X tg a (tI X.K B (iTxt fa)) := (pi_str ha).pxw fun σ H Q q => by
  obtain ⟨s, H0, ds, s', R, ev, k⟩ := q
  obtain ⟨⟨d, s1⟩, e1, ev1⟩ := bnd ev
  cases d with
  | str x =>
    cases ev1
    exact ⟨s, H0, _, _, R, e1, fun v H1 H' R1 x1 r1 => ⟨x, rep_str r1, k _ H1 H' R1 x1 itok_txt⟩⟩
  | _ => cases ev1
end
end Px

set_option Elab.async false
set_option linter.all false
set_option maxRecDepth 100000
set_option maxHeartbeats 1000000
/-! Px18: sorted of tuples (text, whole number) -/
namespace Px.SI
open PySem PyProof.Rows
abbrev SN := Str × Int
/-- by the text, then by the number -/
def ltSI (p q : SN) : Prop := p.1.cps.toList < q.1.cps.toList ∨ (p.1 = q.1 ∧ p.2 < q.2)
instance (p q : SN) : Decidable (ltSI p q) := by unfold ltSI; infer_instance
theorem list_tri : ∀ (a b : List Nat), a < b ∨ a = b ∨ b < a
  | [], [] => .inr (.inl rfl)
  | [], _ :: _ => .inl (List.nil_lt_cons _ _)
  | _ :: _, [] => .inr (.inr (List.nil_lt_cons _ _))
  | x :: a, y :: b => by
    rcases Nat.lt_trichotomy x y with h | h | h
    · exact .inl (List.cons_lt_cons_iff.mpr (.inl h))
    · subst h
      rcases list_tri a b with h | h | h
      · exact .inl (List.cons_lt_cons_iff.mpr (.inr ⟨rfl, h⟩))
      · exact .inr (.inl (by rw [h]))
      · exact .inr (.inr (List.cons_lt_cons_iff.mpr (.inr ⟨rfl, h⟩)))
    · exact .inr (.inr (List.cons_lt_cons_iff.mpr (.inl h)))
theorem cps_inj {x y : Str} (h : x.cps.toList = y.cps.toList) : x = y := by
  have : x.cps = y.cps := Array.toList_inj.mp h
  cases x; cases y; simp only at this; rw [this]
theorem ltSI_irrefl (p : SN) : ¬ ltSI p p := fun h => by
  rcases h with h | h
  · exact List.lt_irrefl _ h
  · omega
theorem ltSI_trans {p q r : SN} (h : ltSI p q) (k : ltSI q r) : ltSI p r := by
  rcases h with h | ⟨h1, h2⟩ <;> rcases k with k | ⟨k1, k2⟩
  · exact .inl (List.lt_trans h k)
  · exact .inl (by rw [← k1]; exact h)
  · exact .inl (by rw [h1]; exact k)
  · exact .inr ⟨h1.trans k1, by omega⟩
theorem ltSI_tri (p q : SN) : ltSI p q ∨ p = q ∨ ltSI q p := by
  rcases list_tri p.1.cps.toList q.1.cps.toList with h | h | h
  · exact .inl (.inl h)
  · have e := cps_inj h
    rcases Int.lt_trichotomy p.2 q.2 with k | k | k
    · exact .inl (.inr ⟨e, k⟩)
    · exact .inr (.inl (Prod.ext e k))
    · exact .inr (.inr (.inr ⟨e.symm, k⟩))
  · exact .inr (.inr (.inl h))
/-- a tuple of a text and a number -/
def TupSI (h : Heap) (v : Value) (p : SN) : Prop := ∃ (a : Addr) (t u : Tok), v = .ref a ∧ IsTup h a #[.str p.1 t, .int p.2 u]
theorem TupSI.keeps {h h' : Heap} {v : Value} {p : SN} (x : TupSI h v p) (k : ∀ b o, h.get? b = some o → o.cls = .type "tuple" → h'.get? b = some o) : TupSI h' v p := by
  obtain ⟨a, t, u, e, o, ho, hc, hd⟩ := x
  exact ⟨a, t, u, e, o, k _ _ ho hc, hc, hd⟩
def pick : List Value → SN
  | [.str x _, .int n _] => (x, n)
  | _ => (⟨#[]⟩, 0)
/-- read off the heap -/
def rd (h : Heap) (v : Value) : SN := match v with
  | .ref a => match h.get? a with
    | some o => match o.data with
      | .seq xs _ => pick xs.toList
      | _ => pick []
    | none => pick []
  | _ => pick []
theorem TupSI.rd {h : Heap} {v : Value} {p : SN} (x : TupSI h v p) : rd h v = p := by
  obtain ⟨a, t, u, rfl, o, ho, hc, n, hd⟩ := x
  simp only [SI.rd, ho, hd]
  rfl
def rank (f : Value → SN) (vs : List Value) (v : Value) : Int := (vs.countP fun u => decide (ltSI (f u) (f v)) : Nat)
theorem countP_lt {α : Type} {p q : α → Bool} : ∀ {l : List α} {v : α}, (∀ x ∈ l, p x = true → q x = true) → v ∈ l → q v = true → p v = false → l.countP p < l.countP q
  | [], v, _, h, _, _ => by cases h
  | x :: l, v, hm, h, hq, hp => by
    rcases List.mem_cons.mp h with e | h
    · subst e
      rw [List.countP_cons_of_neg (by rw [hp]; decide), List.countP_cons_of_pos hq]
      have := List.countP_mono_left (l := l) (p := p) (q := q) fun x hx => hm x (.tail _ hx)
      omega
    · have ih := countP_lt (fun x hx => hm x (.tail _ hx)) h hq hp
      rw [List.countP_cons, List.countP_cons]
      have h0 := hm x (.head _)
      by_cases c : p x = true
      · rw [if_pos c, if_pos (h0 c)]; omega
      · rw [if_neg c]; split <;> omega
theorem rank_lt {f : Value → SN} {vs : List Value} {v u : Value} (hv : v ∈ vs) (h : ltSI (f v) (f u)) : rank f vs v < rank f vs u := by
  unfold rank
  have : (vs.countP fun w => decide (ltSI (f w) (f v))) < (vs.countP fun w => decide (ltSI (f w) (f u))) :=
    countP_lt (fun x _ hx => decide_eq_true (ltSI_trans (of_decide_eq_true hx) h)) hv (decide_eq_true h) (decide_eq_false (ltSI_irrefl _))
  omega
theorem rank_iff {f : Value → SN} {vs : List Value} {v u : Value} (hv : v ∈ vs) (hu : u ∈ vs) : rank f vs v < rank f vs u ↔ ltSI (f v) (f u) := by
  constructor
  · intro h
    rcases ltSI_tri (f v) (f u) with k | k | k
    · exact k
    · unfold rank at h; rw [k] at h; omega
    · have := rank_lt hu k; omega
  · exact rank_lt hv
theorem firsts_of {h : Heap} : ∀ vs : List Value, (∀ v ∈ vs, ∃ p, TupSI h v p) → ∃ fs, PySem.W.KatTups h vs fs ∧ fs.length = vs.length ∧ ∀ f, f ∈ fs → ∃ x t, f = Value.str x t
  | [], _ => ⟨[], PySem.W.KatTups.nil, rfl, fun f hf => by simp at hf⟩
  | v :: vs, x => by
    obtain ⟨fs, k, hl, hi⟩ := firsts_of vs fun u hu => x u (List.mem_cons_of_mem _ hu)
    obtain ⟨p, a, t, u, rfl, o, ho, hc, n, hdt⟩ := x v (List.mem_cons_self ..)
    refine ⟨.str p.1 t :: fs, PySem.W.KatTups.cons ho hc hdt rfl k, by simp [hl], ?_⟩
    intro f hf
    rcases List.mem_cons.mp hf with rfl | hf
    · exact ⟨p.1, t, rfl⟩
    · exact hi f hf
section
variable {prog : Program} {w : World} {A : Around} {E : Value → Shared → Prop} {s : Shared}
theorem kind_si {vs : List Value} (h2 : 2 ≤ vs.length) (x : ∀ v ∈ vs, ∃ p, TupSI s.heap v p) (r : Value → Int) (hr : ∀ v ∈ vs, ∀ u ∈ vs, ∀ p q, TupSI s.heap v p → TupSI s.heap u q → (r v < r u ↔ ltSI p q)) (Q : SortKind → Shared → Prop)
    (h : ∀ κ, TS.Cmp prog w A s κ (pairsOf vs) r → Q κ s) : wpAny (model prog w) A (keyKind' vs.toArray) Q E s := by
  obtain ⟨fs, k, hl, hi⟩ := firsts_of vs x
  refine PySem.W.kat_kind (T := Value.type "str") k (by omega) (fun f hf => ?_) rfl (h _ ?_)
  · obtain ⟨n, t, rfl⟩ := hi f hf
    exact PySem.W.Looks.of_pure rfl
  · intro p q hp hq Q' E' hQ
    rw [pairsOf_toList] at hp hq
    obtain ⟨np, tp⟩ := x _ (mem_zip_self hp).2
    obtain ⟨nq, tq⟩ := x _ (mem_zip_self hq).2
    have hQ' : Q' (decide (ltSI np nq)) s := by
      have z : decide (r p.1 < r q.1) = decide (ltSI np nq) := decide_eq_decide.mpr (hr _ (mem_zip_self hp).2 _ (mem_zip_self hq).2 _ _ tp tq)
      rw [← z]; exact hQ
    obtain ⟨a, t, u, e1, o, ho, hc, n, hdt⟩ := tp
    obtain ⟨a', t', u', e2, o', ho', hc', n', hdt'⟩ := tq
    rw [e1, e2]
    refine PySem.W.kat_lt ho hdt ho' hdt' ?_
    show PySem.W.KatLex prog w A _ (decide (2 < 2)) Q' [(Value.str np.1 t, Value.str nq.1 t'), (Value.int np.2 u, Value.int nq.2 u')] 0 s
    refine PySem.W.kat_cons (PySem.wpAny_eqBool_str ?_)
    by_cases e : np.1 = nq.1
    · rw [decide_eq_true e]
      refine PySem.W.kat_yes (PySem.W.kat_cons (wpAny_eqBool_int ?_))
      by_cases e2 : np.2 = nq.2
      · have : (np.2 == nq.2) = true := by rw [e2]; exact beq_self_eq_true _
        rw [this]
        refine PySem.W.kat_yes (PySem.W.kat_nil ?_)
        have z : decide (ltSI np nq) = false := decide_eq_false (by rw [show np = nq from Prod.ext e e2]; exact ltSI_irrefl _)
        rw [z] at hQ'
        exact hQ'
      · rw [show (np.2 == nq.2) = false from beq_eq_false_iff_ne.mpr e2]
        refine PySem.W.kat_no (TS.oneLt_ints _ ?_)
        have z : decide (ltSI np nq) = decide (np.2 < nq.2) := decide_eq_decide.mpr ⟨fun k => by
          rcases k with k | k
          · rw [e] at k; exact absurd k (List.lt_irrefl _)
          · exact k.2, fun k => .inr ⟨e, k⟩⟩
        rw [z] at hQ'
        exact hQ'
    · rw [decide_eq_false e]
      refine PySem.W.kat_no ?_
      refine oneLt_str (E := fun _ _ => False) ?_
      have z : decide (ltSI np nq) = decide (np.1.cps.toList < nq.1.cps.toList) := decide_eq_decide.mpr ⟨fun k => by
        rcases k with k | k
        · exact k
        · exact absurd k.1 e, fun k => .inl k⟩
      rw [z] at hQ'
      exact hQ'
theorem sort_si {a : Addr} {vs : List Value} {n : Nat} {P : PySem.Fin → Shared → Prop} (ho : s.heap.get? a = some (seqObj "list" vs.toArray n)) (h64 : vs.length < 64) (x : ∀ v ∈ vs, ∃ p, TupSI s.heap v p)
    (h : ∀ out : Array Value, out.toList.Perm vs → out.toList.Pairwise (fun u v => ¬ ltSI (rd s.heap v) (rd s.heap u)) → P (.done (.ret .none)) { s with heap := sortedHeap s.heap a vs out }) :
    wpAny (model prog w) A (Builtin.«list.sort» ⟨[.ref a], []⟩) P E s := by
  have keep : ∀ b o, s.heap.get? b = some o → o.cls = .type "tuple" → (TS.midHeap s.heap a vs).get? b = some o := fun b o e hc => by
    refine TS.midHeap_old ?_ e
    rintro rfl
    rw [ho] at e
    have e' : seqObj "list" vs.toArray n = o := Option.some.inj e
    rw [← e'] at hc
    have c' : Value.type "list" = Value.type "tuple" := hc
    injection c' with c''
    exact absurd c'' (by decide)
  refine SK.plain_sort (r := rank (rd s.heap) vs) ho h64 (fun h2 Q hQ => ?_) fun ps out h1 h2 h3 => ?_
  · refine kind_si (s := { s with heap := TS.midHeap s.heap a vs }) h2 (fun v hv => ?_) _ (fun v hv u hu p q tp tq => ?_) Q hQ
    · obtain ⟨p, t⟩ := x v hv
      exact ⟨p, t.keeps keep⟩
    · obtain ⟨p0, t0⟩ := x v hv
      obtain ⟨q0, t1⟩ := x u hu
      rw [rank_iff hv hu, t0.rd, t1.rd, ← (t0.keeps keep).rd, ← (t1.keeps keep).rd]
      have e1 : SI.rd (TS.midHeap s.heap a vs) v = p := tp.rd
      have e2 : SI.rd (TS.midHeap s.heap a vs) u = q := tq.rd
      rw [e1, e2]
  · obtain ⟨p, o⟩ := TS.out_rank h1 h2 h3
    refine h out p (List.Pairwise.imp_of_mem (fun {u v} hu hv huv k => ?_) o)
    have := rank_lt (f := rd s.heap) (p.mem_iff.mp hv) k
    omega
/-- the end of sorted: what was collected, sorted in a new list -/
theorem sorted_end {vs : List Value} {Q : Value → Shared → Prop} (h64 : vs.length < 64) (x : ∀ v ∈ vs, ∃ p, TupSI s.heap v p)
    (h : ∀ out : Array Value, out.toList.Perm vs → out.toList.Pairwise (fun u v => ¬ ltSI (rd s.heap v) (rd s.heap u)) → Q .none { s with heap := sortedHeap (s.heap.push (seqObj "list" vs.toArray 0)) s.heap.objs.size vs out }) :
    wpAny (model prog w) A (call (.builtin "list.sort") [.ref s.heap.objs.size]) Q E { s with heap := s.heap.push (seqObj "list" vs.toArray 0) } := by
  have hoL : (s.heap.push (seqObj "list" vs.toArray 0)).get? s.heap.objs.size = some (seqObj "list" vs.toArray 0) := Heap.get?_push_size _ rfl
  have keep : ∀ b o, s.heap.get? b = some o → o.cls = .type "tuple" → (s.heap.push (seqObj "list" vs.toArray 0)).get? b = some o := fun b o e _ => Heap.get?_push_of_some _ e
  refine wpAny_call_entry slot_list_sort ⟨_, hoL, rfl⟩ entry_list_sort (sort_si (s := { s with heap := s.heap.push (seqObj "list" vs.toArray 0) }) hoL h64 (fun v hv => ?_) fun out a1 a2 => ⟨_, rfl, h out a1 (a2.imp_of_mem fun {u v} hu hv huv => ?_)⟩) (args_list_sort _)
  · obtain ⟨p, t⟩ := x v hv
    exact ⟨p, t.keeps keep⟩
  · obtain ⟨p, t⟩ := x u (a1.mem_iff.mp hu)
    obtain ⟨q, t'⟩ := x v (a1.mem_iff.mp hv)
    rw [t.rd, t'.rd]
    have e1 : SI.rd (s.heap.push (seqObj "list" vs.toArray 0)) u = p := (t.keeps keep).rd
    have e2 : SI.rd (s.heap.push (seqObj "list" vs.toArray 0)) v = q := (t'.keeps keep).rd
    rw [← e1, ← e2]
    exact huv
end
end Px.SI

set_option Elab.async false
set_option linter.all false
set_option maxRecDepth 100000
set_option maxHeartbeats 1000000
/-! Px19: sorted(xs), sorted(d) of tuples (text, whole number): the rules -/
namespace Px.SI
open PySem L2 Px
/-! ### the order's own arrangement -/
def insSI (p : SN) : List SN → List SN
  | [] => [p]
  | q :: l => if ltSI p q then p :: q :: l else q :: insSI p l
def sortSI : List SN → List SN
  | [] => []
  | p :: l => insSI p (sortSI l)
theorem ins_perm (p : SN) : ∀ l : List SN, (insSI p l).Perm (p :: l)
  | [] => .refl _
  | q :: l => by
    unfold insSI
    split
    · exact .refl _
    · exact ((ins_perm p l).cons q).trans (.swap p q l)
theorem sort_perm : ∀ l : List SN, (sortSI l).Perm l
  | [] => .refl _
  | p :: l => (ins_perm p _).trans ((sort_perm l).cons p)
theorem ins_up (p : SN) : ∀ l : List SN, (∀ q ∈ l, q ≠ p) → l.Pairwise ltSI → (insSI p l).Pairwise ltSI
  | [], _, _ => by simp [insSI]
  | q :: l, hn, h => by
    rw [List.pairwise_cons] at h
    unfold insSI
    split
    · next k =>
      rw [List.pairwise_cons, List.pairwise_cons]
      refine ⟨fun r hr => ?_, h.1, h.2⟩
      rcases List.mem_cons.mp hr with e | hr
      · rw [e]; exact k
      · exact ltSI_trans k (h.1 r hr)
    · next k =>
      rw [List.pairwise_cons]
      refine ⟨fun r hr => ?_, ins_up p l (fun r hr => hn r (.tail _ hr)) h.2⟩
      rcases List.mem_cons.mp ((ins_perm p l).mem_iff.mp hr) with e | hr
      · rw [e]
        rcases ltSI_tri q p with z | z | z
        · exact z
        · exact absurd z (hn q (.head _))
        · exact absurd z k
      · exact h.1 r hr
theorem sort_up : ∀ l : List SN, l.Nodup → (sortSI l).Pairwise ltSI
  | [], _ => by simp [sortSI]
  | p :: l, h => by
    rw [List.nodup_cons] at h
    exact ins_up p _ (fun q hq e => h.1 (by rw [← e]; exact (sort_perm l).mem_iff.mp hq)) (sort_up l h.2)
theorem up_uniq : ∀ {a b : List SN}, a.Perm b → a.Pairwise ltSI → b.Pairwise ltSI → a = b
  | [], b, h, _, _ => (List.nil_perm.mp h).symm
  | x :: a, [], h, _, _ => by have := h.length_eq; simp at this
  | x :: a, y :: b, h, ha, hb => by
    have e : x = y := by
      rw [List.pairwise_cons] at ha hb
      rcases List.mem_cons.mp (h.mem_iff.mp (List.mem_cons_self ..)) with z | z
      · exact z
      · rcases List.mem_cons.mp (h.mem_iff.mpr (List.mem_cons_self ..)) with w | w
        · exact w.symm
        · exact absurd (ltSI_trans (ha.1 y w) (hb.1 x z)) (ltSI_irrefl _)
    subst e
    rw [up_uniq ((List.perm_cons _).mp h) (List.pairwise_cons.mp ha).2 (List.pairwise_cons.mp hb).2]
theorem sort_is {a l : List SN} (hp : a.Perm l) (nd : l.Nodup) (h : a.Pairwise fun p q => ¬ ltSI q p) : a = sortSI l := by
  refine up_uniq (hp.trans (sort_perm l).symm) ?_ (sort_up l nd)
  have na : a.Nodup := hp.nodup_iff.mpr nd
  refine (List.Pairwise.and h na).imp fun {p q} z => ?_
  rcases ltSI_tri p q with w | w | w
  · exact w
  · exact absurd w z.2
  · exact absurd w z.1
/-! ### the rules by values -/
def TI (K : PySem.W.Frag) (H : Hp) (x : V) (p : SN) : Prop := ∃ t, x = .ref t ∧ SqT K H t [.str p.1, .int p.2]
section
variable {X : Cx} {pins : List (Addr × Obj)} {σ : St} {H : Hp} {s : Shared} {Q : VK}
theorem TI.raw (I : Inv X pins σ H s) {x : V} {p : SN} (h : TI X.K H x p) : ∃ t, x = .ref t ∧ TupSI s.heap (.ref t) p := by
  obtain ⟨t, e, h⟩ := h
  obtain ⟨its, rv, hT, _⟩ := I.tuple h
  obtain ⟨u1, u2, rfl, r1, r2⟩ := vals2 rv
  obtain ⟨t1, rfl⟩ := r1
  obtain ⟨t2, rfl⟩ := r2
  exact ⟨t, e, t, t1, t2, rfl, hT⟩
theorem raws (I : Inv X pins σ H s) {xs : List V} {its : List Value} (rv : Vals xs its) (hx : ∀ x ∈ xs, ∃ p, TI X.K H x p) : xs = its.map bkV ∧ (∀ u ∈ its, ∃ a, u = Value.ref a) ∧ ∀ v ∈ its, ∃ p, TupSI s.heap v p := by
  obtain ⟨e1, e2⟩ := bkV_refs rv fun x m => by
    obtain ⟨p, t, e, _⟩ := hx x m
    exact ⟨t, e⟩
  refine ⟨e1, e2, fun v hv => ?_⟩
  obtain ⟨t, rfl⟩ := e2 v hv
  have hm : V.ref t ∈ xs := by rw [e1]; exact List.mem_map.mpr ⟨_, hv, rfl⟩
  obtain ⟨p, h⟩ := hx _ hm
  obtain ⟨t', e, h'⟩ := h.raw I
  cases e
  exact ⟨p, h'⟩
/-- what is wanted of the sorted list -/
def Wish (K : PySem.W.Frag) (xs : List V) (H : Hp) (Q : VK) : Prop := ∀ (ys : List V) (q : Addr), ys.Perm xs → ys.Pairwise (fun x y => ∀ p r, TI K H x p → TI K H y r → ¬ ltSI r p) → H q = none → Q (.ref q) (upd H q (.lst ys))
theorem laid_sorted (I : Inv X pins σ H s) {xs : List V} {its : List Value} (rv : Vals xs its) (h64 : its.length < 64) (hx : ∀ x ∈ xs, ∃ p, TI X.K H x p) (q : Wish X.K xs H Q) {out : Array Value} (h1 : out.toList.Perm its)
    (h2 : out.toList.Pairwise (fun u v => ¬ ltSI (rd s.heap v) (rd s.heap u))) : EP X pins σ Q (.ref s.heap.objs.size) { s with heap := PyProof.Rows.sortedHeap (s.heap.push (PyProof.Rows.seqObj "list" its.toArray 0)) s.heap.objs.size its out } := by
  obtain ⟨e1, e2, _⟩ := raws I rv hx
  have hoL : (s.heap.push (PyProof.Rows.seqObj "list" its.toArray 0)).get? s.heap.objs.size = some (PyProof.Rows.seqObj "list" its.toArray 0) := Heap.get?_push_size _ rfl
  obtain ⟨e', he'⟩ := PyProof.Rows.sortedHeap_at (vs := its) (out := out) hoL
  have h3 : ∀ u ∈ out.toList, ∃ a, u = Value.ref a := fun u hu => e2 u (h1.mem_iff.mp hu)
  have hp : (out.toList.map bkV).Perm xs := by rw [e1]; exact h1.map bkV
  have hlen : (out.toList.map bkV).length ≤ sizeLine := by
    rw [List.length_map, h1.length_eq]
    exact Nat.le_trans (Nat.le_of_lt h64) (by decide)
  refine ⟨.ref _, upd H s.heap.objs.size (.lst (out.toList.map bkV)), I.laid (t' := s.toks) (fun b u e => ?_) (Nat.le_refl _) ⟨hlen, out.toList, e', bkV_vals h3, by rw [Array.toArray_toList]; exact he'⟩, rfl, q _ _ hp ?_ (I.hok.fresh (Nat.le_refl _))⟩
  · have hb : b < s.heap.objs.size := Heap.lt_size e
    rw [PyProof.Rows.sortedHeap_old (Nat.ne_of_lt hb) (by rw [PyProof.Rows.size_push']; exact Nat.lt_succ_of_lt hb)]
    exact Heap.get?_push_of_some _ e
  · rw [List.pairwise_map]
    refine h2.imp fun {u v} huv p r hp hr => ?_
    obtain ⟨t, et, ht⟩ := hp.raw I
    obtain ⟨t', et', ht'⟩ := hr.raw I
    have eu := bkV_ref et
    have ev := bkV_ref et'
    rw [eu, ev, ht.rd, ht'.rd] at huv
    exact huv
def rSortL (K : PySem.W.Frag) : List V → Hp → VK → Prop := fun vs H Q => ∃ (a : Addr) (xs : List V), vs = [V.ref a] ∧ SqL K H a xs ∧ xs.length < 64 ∧ (∀ x ∈ xs, ∃ p, TI K H x p) ∧ Wish K xs H Q
theorem cr_sortL : CallR X (.builtin "sorted") (rSortL X.K) := by
  intro pins s σ H vs us Q I r h
  obtain ⟨a, xs, rfl, hs, h64, hx, q⟩ := h
  obtain ⟨its, rv, hl, hz⟩ := I.list hs
  rw [Vals.ref1 r]
  have h64' : its.length < 64 := by rw [← rv.length]; exact h64
  refine Calls.call_function_entry PyProof.Rows.kind_sorted PyProof.Rows.plain_sorted PyProof.Rows.entry_sorted (PyProof.Rows.args_sorted1 _) ?_
  unfold Builtin.«sorted»
  refine wpAny_bind (m := checkCount "sorted" 1 1 _) (wpAny_pure ?_)
  refine wpAny_bind (PyProof.Rows.collect_list hl.isList ?_ (by rw [sizeLine_eq]; omega))
  have I1 : Inv X pins σ H { s with heap := (s.heap.push (PyProof.Rows.seqObj "list" #[] 0)).update s.heap.objs.size (Obj.mapSeq (· ++ its.toArray)) } := I.kept (t' := s.toks) fun b o e => by
    rw [Heap.get?_update_ne _ _ _ _ (Nat.ne_of_lt (Heap.lt_size e))]
    exact Heap.get?_push_of_some _ e
  refine wpAny_bind (wpAny_newList ?_ (by rw [sizeLine_eq]; omega))
  refine wpAny_bind (wpAny_holding (sorted_end (s := { s with heap := (s.heap.push (PyProof.Rows.seqObj "list" #[] 0)).update s.heap.objs.size (Obj.mapSeq (· ++ its.toArray)) }) h64' (raws I1 rv hx).2.2 fun out h1 h2 => ?_))
  exact wpAny_pure ⟨_, rfl, laid_sorted I1 rv h64' hx q h1 h2⟩
def rSortD (K : PySem.W.Frag) : List V → Hp → VK → Prop := fun vs H Q => ∃ (d : Addr) (kvs : List (List Key × V)), vs = [V.ref d] ∧ Rd H d (.dT kvs) ∧ kvs.length < 64 ∧ ∀ bs, IsKeys H kvs bs → (∀ x ∈ bs.map V.ref, ∃ p, TI K H x p) ∧ Wish K (bs.map V.ref) H Q
theorem cr_sortD (hc : X.calm = true) : CallR X (.builtin "sorted") (rSortD X.K) := by
  intro pins s σ H vs us Q I r h
  obtain ⟨d, kvs, rfl, hd, h64, q⟩ := h
  rw [Vals.ref1 r]
  obtain ⟨z, hs, ks, pr, o, es, ep, ho, hx, hdt, he, hn⟩ := (show ObjOk X.prog X.w H s.heap d (.dT kvs) from hd.ok I.hok)
  have l1 : es.size = ks.length := size_of_entries he
  have l2 : kvs.length = ks.length := Paired.length pr
  refine Calls.call_function_entry PyProof.Rows.kind_sorted PyProof.Rows.plain_sorted PyProof.Rows.entry_sorted (PyProof.Rows.args_sorted1 _) ?_
  unfold Builtin.«sorted»
  refine wpAny_bind (m := checkCount "sorted" 1 1 _) (wpAny_pure ?_)
  refine wpAny_bind (PySem.W.kdu_collect (A := X.A.in1) (kdl_raw hs hx hdt) (I.ok.hd hc) ho (by omega) fun h' tk acc' kp it => ?_)
  have ea : acc'.toList = ks.map fun x => Value.ref x.2.1 := by
    have hl : acc'.toList.length = ks.length := by rw [Array.length_toList, it.1]; exact l1
    apply List.ext_getElem?
    intro j
    rw [List.getElem?_map]
    cases hj : acc'.toList[j]? with
    | none =>
      have h1 := List.getElem?_eq_none_iff.mp hj
      rw [List.getElem?_eq_none (by omega)]
      all_goals rfl
    | some v =>
      obtain ⟨en, hen, hv⟩ := it.2 j v (by rw [← Array.getElem?_toList]; exact hj)
      have qe := entry_at he j
      rw [hen] at qe
      cases hb : ks[j]? with
      | none =>
        rw [hb] at qe
        exact nomatch (show some en = none from qe)
      | some b =>
        rw [hb] at qe
        have e2 : en = entryOfKey (tupleKind (mixKind X.prog X.w)) b := Option.some.inj qe
        rw [hv, e2]
        all_goals rfl
  have eb : acc'.toList = (ks.map fun x => x.2.1).map Value.ref := by rw [ea, List.map_map]; all_goals rfl
  have rv : Vals ((ks.map fun x => x.2.1).map V.ref) acc'.toList := by rw [eb]; exact vals_refs _
  obtain ⟨hx, q⟩ := q _ (isKeys_of pr)
  have h64' : acc'.toList.length < 64 := by rw [eb, List.length_map, List.length_map]; omega
  have I1 : Inv X pins σ H { s with heap := h', toks := tk } := I.kept kp
  refine wpAny_bind (wpAny_newList ?_ (by rw [sizeLine_eq]; omega))
  refine wpAny_bind (wpAny_holding (sorted_end (s := { s with heap := h', toks := tk }) h64' (raws I1 rv hx).2.2 fun out h1 h2 => ?_))
  exact wpAny_pure ⟨_, rfl, laid_sorted I1 rv h64' hx q h1 h2⟩
end
end Px.SI
namespace Px
open PySem L2 SI
/-! ### as data -/
def siOf : D → Option SN
  | .tup [.str x, .int n] => some (x, n)
  | _ => none
def siL : List D → Option (List SN)
  | [] => some []
  | d :: ds => (siOf d).bind fun p => (siL ds).bind fun l => some (p :: l)
def siD (p : SN) : D := .tup [.str p.1, .int p.2]
theorem siOf_inv {d : D} {p : SN} (h : siOf d = some p) : d = siD p := by
  unfold siOf at h
  split at h
  · cases h; rfl
  · cases h
theorem siL_inv : ∀ {ds : List D} {l : List SN}, siL ds = some l → ds = l.map siD
  | [], l, h => by cases h; rfl
  | d :: ds, l, h => by
    simp only [siL] at h
    obtain ⟨p, h1, h⟩ := bnd h
    obtain ⟨l', h2, h⟩ := bnd h
    cases h
    rw [siOf_inv h1, siL_inv h2]; rfl
theorem siL_map : ∀ (l : List SN), siL (l.map siD) = some l
  | [] => rfl
  | p :: l => by simp only [List.map_cons, siL, siL_map l]; rfl
def sortT? (ds : List D) : Option D := (siL ds).bind fun l => if l.length < 64 ∧ l.Nodup then some (.lst ((sortSI l).map siD)) else none
@[simp] def gSortT : D → Option D
  | .lst ds => sortT? ds
  | _ => none
@[simp] def gSortTD : D → Option D
  | .dT ks _ => sortT? (ks.map keyTD)
  | _ => none
section
variable {K : PySem.W.Frag} {B : Bs} {s : S} {σ : St} {H0 H : Hp}
theorem rep_si {p : SN} {v : V} (h : Rep K H0 (siD p) v) : ∃ a, v = .ref a ∧ H0 a = some (.tup [.str p.1, .int p.2]) := by
  unfold siD at h
  simp only [Rep] at h
  obtain ⟨a, xs, rfl, l, h⟩ := h
  obtain ⟨x1, r1, rfl, e1, l⟩ := l.of_cons
  obtain ⟨x2, r2, rfl, e2, l⟩ := l.of_cons
  rw [l.of_nil] at h
  simp only [Rep] at e1 e2
  subst e1 e2
  rcases h with h | h
  · exact ⟨a, rfl, h⟩
  · have := h.2; simp [allI, isI] at this
theorem RepL.perm {ds : List D} {xs ys : List V} (hp : ys.Perm xs) : ∀ {ds : List D}, RepL K H0 ds xs → ∃ es, es.Perm ds ∧ RepL K H0 es ys := by
  induction hp with
  | nil => intro ds h; exact ⟨ds, .refl _, h⟩
  | cons x _ ih =>
    intro ds h
    cases ds with
    | nil => have := h.of_nil; cases this
    | cons d ds =>
      obtain ⟨x', r, e, h1, h2⟩ := h.of_cons
      cases e
      obtain ⟨es, p, l⟩ := ih h2
      exact ⟨d :: es, p.cons d, .cons h1 l⟩
  | swap x y l =>
    intro ds h
    cases ds with
    | nil => have := h.of_nil; cases this
    | cons d ds =>
      obtain ⟨x', r, e, h1, h2⟩ := h.of_cons
      cases e
      cases ds with
      | nil => have := h2.of_nil; cases this
      | cons d2 ds =>
        obtain ⟨x', r, e, h3, h4⟩ := h2.of_cons
        cases e
        exact ⟨d2 :: d :: ds, .swap d d2 ds, .cons h3 (.cons h1 h4)⟩
  | trans _ _ ih1 ih2 =>
    intro ds h
    obtain ⟨es, p, l⟩ := ih2 h
    obtain ⟨fs, p2, l2⟩ := ih1 l
    exact ⟨fs, p2.trans p, l2⟩
theorem si_list : ∀ {es : List D} {l : List SN}, es.Perm (l.map siD) → ∃ a : List SN, es = a.map siD ∧ a.Perm l := fun {es l} h => by
  have inj : ∀ p q : SN, siD p = siD q → p = q := fun p q e => by
    unfold siD at e
    injection e with e
    injection e with e1 e2
    injection e1 with e1
    injection e2 with e2 _
    injection e2 with e2
    exact Prod.ext e1 e2
  have all : ∀ es : List D, (∀ d ∈ es, ∃ p, d = siD p) → ∃ a : List SN, es = a.map siD := by
    intro es
    induction es with
    | nil => exact fun _ => ⟨[], rfl⟩
    | cons d es ih =>
      intro hd
      obtain ⟨p, e⟩ := hd d (.head _)
      obtain ⟨a, e2⟩ := ih fun x hx => hd x (.tail _ hx)
      exact ⟨p :: a, by rw [e, e2]; rfl⟩
  obtain ⟨a, e⟩ := all es fun d hd => by
    obtain ⟨p, _, e⟩ := List.mem_map.mp (h.mem_iff.mp hd)
    exact ⟨p, e.symm⟩
  refine ⟨a, e, ?_⟩
  rw [e] at h
  have h2 : ((a.map siD).map siOf).Perm ((l.map siD).map siOf) := h.map siOf
  rw [List.map_map, List.map_map] at h2
  have h3 := h2.filterMap id
  have z : ∀ k : List SN, (k.map (siOf ∘ siD)).filterMap id = k := by
    intro k
    induction k with
    | nil => rfl
    | cons p k ih => rw [List.map_cons, List.filterMap_cons]; show p :: _ = _; rw [ih]
  rwa [z, z] at h3
theorem wish_of {l : List SN} {xs : List V} (hx : Ex H0 H) (r : RepL K H0 (l.map siD) xs) (nd : l.Nodup) {Q : VK} (h : ∀ ys q, RepL K H0 ((sortSI l).map siD) ys → H q = none → Q (.ref q) (upd H q (.lst ys))) : (∀ x ∈ xs, ∃ p, TI K H x p) ∧ Wish K xs H Q := by
  have one : ∀ {k : List SN} {ys : List V}, RepL K H0 (k.map siD) ys → ∀ (i : Nat) (y : V), ys[i]? = some y → ∃ p, k[i]? = some p ∧ TI K H y p := by
    intro k ys r i y hy
    obtain ⟨d, hd, hr⟩ := r.getV hy
    rw [List.getElem?_map] at hd
    obtain ⟨p, hp, rfl⟩ := Option.map_eq_some_iff.mp hd
    obtain ⟨a, rfl, ha⟩ := rep_si hr
    exact ⟨p, hp, a, rfl, .of (hx _ _ ha)⟩
  refine ⟨fun x hm => ?_, fun ys q hp hs hq => ?_⟩
  · obtain ⟨i, hi⟩ := List.getElem?_of_mem hm
    obtain ⟨p, _, h⟩ := one r i x hi
    exact ⟨p, h⟩
  · obtain ⟨es, pe, re⟩ := RepL.perm (ds := []) hp r
    obtain ⟨a, rfl, pa⟩ := si_list pe
    have ea : a = sortSI l := sort_is pa nd (by
      rw [List.pairwise_iff_getElem] at hs ⊢
      intro i j hi hj hij
      have le := re.len
      rw [List.length_map] at le
      obtain ⟨p, hp, tp⟩ := one re i ys[i] (List.getElem?_eq_getElem (by omega))
      obtain ⟨r, hr, tr⟩ := one re j ys[j] (List.getElem?_eq_getElem (by omega))
      rw [List.getElem?_eq_getElem hi] at hp
      rw [List.getElem?_eq_getElem hj] at hr
      cases hp; cases hr
      exact hs i j (by omega) (by omega) hij _ _ tp tr)
    rw [ea] at re
    exact h ys q re hq
theorem cao_sortT : CaO K (rSortL K) gSortT := fun B s σ H0 H q d d' x Q R r1 g1 e k => by
  cases d with
  | lst ds =>
    obtain ⟨l, el, e2⟩ := bnd (show (siL ds).bind _ = some d' from e)
    split at e2
    · next h64 =>
      cases e2
      have := siL_inv el
      subst this
      obtain ⟨a, xs, rfl, rl, h⟩ := r1.lst R g1
      obtain ⟨w1, w2⟩ := wish_of (K := K) (H := H) (Q := Q) R.h0 rl h64.2 fun ys t ry ht => k t _ (R.laidO ht) (R.ownNew (o := .lst ys) ht ⟨ys, rfl, ry⟩)
      exact ⟨a, xs, rfl, .of h, by rw [rl.len, List.length_map]; exact h64.1, w1, w2⟩
    · cases e2
  | _ => cases e
end
section
variable {X : Cx} {B : Bs} {a : Expr} {pos p : Pos} {pa : FP}
theorem io_sortT (hg : Gl X "sorted") (hm : X.mg "sorted" = none) (ha : PE X a (tP X.K B pa)) (he : starEach [a] X.env = (false, eval a X.env) :: starEach [] X.env := by rfl) (hpl : (backTo pos (starEach [] X.env)).any (·.1) = false := by rfl) :
    PE X (.Call (.Name "sorted" p) [a] [] pos) (tO X.K B (eB1 gSortT pa)) := io_b1 (pe_callB cr_sortL hg hm (by decide +kernel) (pa_cons ha pa_nil he) (by decide) (by decide) he hpl) cao_sortT
theorem io_sortTD (hc : X.calm = true) (hg : Gl X "sorted") (hm : X.mg "sorted" = none) (ha : PE X a (tP X.K B pa)) (he : starEach [a] X.env = (false, eval a X.env) :: starEach [] X.env := by rfl) (hpl : (backTo pos (starEach [] X.env)).any (·.1) = false := by rfl) :
    PE X (.Call (.Name "sorted" p) [a] [] pos) (tO X.K B (eB1 gSortTD pa)) := (pe_callB (cr_sortD hc) hg hm (by decide +kernel) (pa_cons ha pa_nil he) (by decide) (by decide) he hpl).pxw fun σ H Q q => by
  obtain ⟨s, H0, d, s', R, ev, k⟩ := q
  obtain ⟨⟨p1, s1⟩, e1, ev1⟩ := bnd ev
  obtain ⟨d1, g1, ev2⟩ := bnd ev1
  obtain ⟨d', e3, ev3⟩ := bnd ev2
  cases ev3
  refine ⟨s, H0, p1, s1, R, e1, fun x H1 H' R1 x1 r1 => ?_⟩
  cases d1 with
  | dT ks ds =>
    obtain ⟨l, el, e2⟩ := bnd (show (siL (ks.map keyTD)).bind _ = some _ from e3)
    split at e2
    · next h64 =>
      cases e2
      have ek := siL_inv el
      obtain ⟨t, xs, rfl, rl, hl, rd⟩ := r1.dT R1 g1
      have lk : ks.length = l.length := by have := congrArg List.length ek; simpa using this
      refine ⟨t, ks.zip xs, rfl, rd, by rw [List.length_zip, lk]; have := h64.1; omega, fun bs hk => ?_⟩
      obtain ⟨H2, R2, x2, l2⟩ := Rel.thaws ks xs bs H1 R1 (hl.trans rl.len.symm) hk
      rw [ek] at l2
      exact wish_of (K := X.K) (H := H') (Q := Q) R2.h0 l2 h64.2 fun ys u ry hu => k u H2 _ (R2.laidO hu) (x1.trans x2) (R2.ownNew (o := .lst ys) hu ⟨ys, rfl, ry⟩)
    · cases e2
  | _ => cases e3
end
end Px

set_option Elab.async false
set_option linter.all false
set_option maxRecDepth 100000
set_option maxHeartbeats 1000000
/-! Px20: xs.index(y) of texts; a comprehension of two fors -/
namespace Px
open PySem L2
section
variable {X : Cx} {B : Bs} {a b c e tg : Expr} {pos p apos cpos : Pos} {fa fb fc f : F} {K : PySem.W.Frag} {σ : St} {H : Hp}
def strs? : List D → Option (List Str)
  | [] => some []
  | .str x :: ds => (strs? ds).bind fun l => some (x :: l)
  | _ => none
theorem strs_map : ∀ l : List Str, strs? (l.map D.str) = some l
  | [] => rfl
  | x :: l => by simp only [List.map_cons, strs?, strs_map l]; rfl
theorem strs_inv : ∀ {ds : List D} {l : List Str}, strs? ds = some l → ds = l.map D.str
  | [], l, h => by cases h; rfl
  | d :: ds, l, h => by
    cases d with
    | str x =>
      simp only [strs?] at h
      obtain ⟨l', h1, h⟩ := bnd h
      cases h
      rw [strs_inv h1]; rfl
    | _ => cases h
theorem RepL.strs {H0 : Hp} : ∀ {l : List Str} {xs : List V}, RepL K H0 (l.map D.str) xs → xs = l.map V.str
  | [], xs, h => h.of_nil
  | x :: l, xs, h => by
    obtain ⟨y, r, rfl, h1, h2⟩ := h.of_cons
    simp only [Rep] at h1
    rw [h1, RepL.strs h2]; rfl
@[simp] def gIdx (d e : D) : Option D := match d, e with
  | .lst ds, .str x => (strs? ds).bind fun l => (l.findIdx? fun y => y == x).bind fun j => some (.int j)
  | _, _ => none
@[simp] def eIndex (fa fb : F) : F := fun s => (fa s).bind fun a => (fb a.2).bind fun b => match a.1 with
  | .lst ds => (gIdx (.lst ds) b.1).bind fun d => some (d, b.2)
  | _ => none
theorem ie_index (ha : PE X a (tF X.K B fa)) (hb : PE X b (tF X.K B fb)) (hst : starEach [b] X.env = (false, eval b X.env) :: starEach [] X.env := by rfl)
    (hbase : attributeBase a "index" X.env (eval a X.env) = eval a X.env := by rfl)
    (hfew : ((backTo cpos (starEach [b] X.env)).all (fun x => !x.1) && (backToKw cpos (keywordEach [] X.env)).all (fun x => x.1.isSome) && decide ([b].length + ([] : List Keyword).length + (if ([] : List Keyword).isEmpty then 0 else 1) < 30)) = true := by rfl)
    (hline : (apos.endLine == cpos.line) = true := by rfl) (hplain : (backTo cpos (starEach [] X.env)).any (·.1) = false := by rfl) :
    PE X (.Call (.Attribute a "index" apos) [b] [] cpos) (tF X.K B (eIndex fa fb)) :=
  (pe_bm PySem.F.plainAttrs_list PySem.F.slot_list_index PySem.F.type_list_index mt_index ha (pa_cons hb pa_nil hst) hbase hfew hline hst hplain).pxw fun σ H Q q => by
  obtain ⟨s, H0, d, s', R, ev, k⟩ := q
  obtain ⟨⟨d1, s1⟩, e1, ev1⟩ := bnd ev
  obtain ⟨⟨d2, s2⟩, e3, ev2⟩ := bnd ev1
  cases d1 with
  | lst ds =>
    obtain ⟨d3, e4, ev3⟩ := bnd (show (gIdx (.lst ds) d2).bind _ = some (d, s') from ev2)
    cases ev3
    cases d2 with
    | str x =>
      obtain ⟨l, e5, e6⟩ := bnd (show (strs? ds).bind _ = some d from e4)
      obtain ⟨j, e7, e8⟩ := bnd e6
      cases e8
      have ed := strs_inv e5
      subst ed
      refine ⟨s, H0, .lst (l.map D.str), s1, R, e1, fun v H1 H' R1 x1 r1 => ?_⟩
      simp only [Rep] at r1
      obtain ⟨q, vs, rfl, lv, hq⟩ := r1
      have ev := lv.strs
      subst ev
      refine ⟨.inl ⟨rfl, _, .of (R1.h0 _ _ hq)⟩, s1, H1, .str x, _, R1, e3, fun w H2 H2' R2 x2 r2 => ?_⟩
      simp only [Rep] at r2
      subst r2
      rw [List.findIdx?_eq_some_iff_getElem] at e7
      obtain ⟨hj, ej, hno⟩ := e7
      refine ⟨q, l.map V.str, .str x, j, .str x, rfl, rfl, .of (R2.h0 _ _ (x2 _ _ hq)), rfl, ?_, ?_, ?_, fun m z' hm hz => ?_, k (.int j) H2 H2' R2 (x1.trans x2) (by simp only [Rep])⟩
      · rw [List.all_eq_true]
        intro y hy
        obtain ⟨z, _, rfl⟩ := List.mem_map.mp hy
        rfl
      · rw [List.getElem?_map, List.getElem?_eq_getElem hj]
        have : l[j] = x := by simpa using ej
        rw [this]; rfl
      · show (x == x) = true
        exact beq_self_eq_true _
      · rw [List.getElem?_map] at hz
        obtain ⟨y, hy, rfl⟩ := Option.map_eq_some_iff.mp hz
        have hml : m < l.length := by omega
        rw [List.getElem?_eq_getElem hml] at hy
        cases hy
        have := hno m hm
        show (l[m] == x) = false
        simpa using this
    | _ => cases e4
  | _ => cases ev2
/-! ### two fors -/
theorem wipe_wipe {σ : St} {vs vs1 : List Nat} (h : ∀ i ∈ vs1, i ∈ vs) : L2.wipe (L2.wipe σ vs1) vs = L2.wipe σ vs := by
  refine List.ext_getElem? fun i => ?_
  by_cases z : i ∈ vs
  · by_cases hi : i < σ.length
    · rw [wipe_get z hi, wipe_get z (by rw [wipe_length]; exact hi)]
    · rw [List.getElem?_eq_none (by rw [wipe_length, wipe_length]; omega), List.getElem?_eq_none (by rw [wipe_length]; omega)]
  · rw [wipe_out z, wipe_out z, wipe_out (fun k => z (h i k))]
@[simp] def comp2D (g : FG) (fi1 : FI) (g1 : FG) (fe : F) (vs vs1 : List Nat) : List D → S → List D → Option (List D × S)
  | [], s, acc => some (acc, s)
  | d :: ds, s, acc => (g d s).bind fun s1 => (fi1 s1).bind fun a => (compD g1 bYes fe vs1 a.1 (wipeS a.2 vs1) acc).bind fun r => comp2D g fi1 g1 fe vs vs1 ds (wipeS r.2 vs) r.1
@[simp] def eLc2 (fi : FI) (g : FG) (fi1 : FI) (g1 : FG) (fe : F) (vs vs1 : List Nat) : F := fun s => (fi s).bind fun a => if noOwn a.2 vs then (comp2D g fi1 g1 fe vs vs1 a.1 (wipeS a.2 vs) []).bind fun r => some (.lst r.1, restS a.2 r.2 vs) else none
theorem rd_lc2 {K : PySem.W.Frag} {fi fi1 : FI} {ts ts1 : List Nat} {g g1 : FG} {fe : F} {vs vs1 : List Nat} {σ : St} {H : Hp} {Q : VK} (hts : ∀ i ∈ ts, i ∈ vs) (hts1 : ∀ i ∈ ts1, i ∈ vs1) (h1v : ∀ i ∈ vs1, i ∈ vs) (q : tO K B (eLc2 fi g fi1 g1 fe vs vs1) σ H Q) :
    tLc2 (tI K B fi) (fun v σ H Q => ∃ B, tG K B ts g v σ H Q) (fun σ H Q => ∃ B, tT K B bYes σ H Q) (fun σ H Q => ∃ B, tI K B fi1 σ H Q) (fun v σ H Q => ∃ B, tG K B ts1 g1 v σ H Q) (fun σ H Q => ∃ B, tT K B bYes σ H Q) (fun σ H Q => ∃ B, tF K B fe σ H Q) vs vs1 σ H Q := by
  obtain ⟨s, H0, r, s', R, ev, k⟩ := q
  obtain ⟨⟨ds, s1⟩, e1, ev1⟩ := bnd ev
  dsimp only at ev1
  split at ev1
  · next hno =>
    have hv := noOwn_inv hno
    obtain ⟨⟨out, sf⟩, e2, ev2⟩ := bnd ev1
    cases ev2
    refine ⟨s, H0, ds, s1, R, e1, fun J H1 H' R1 x1 ok D hD => ?_⟩
    refine ⟨fun i m H => i + m = ds.length ∧ ∃ s2 H2 acc xs, Rel K B s2 (L2.wipe σ vs) H2 H ∧ Ex H1 H2 ∧ OwnAt K B s2 (L2.wipe σ vs) H2 H D (.lst acc) ∧ H D = some (.lst xs) ∧ RepL K H2 acc xs ∧ comp2D g fi1 g1 fe vs vs1 (ds.drop i) s2 acc = some (out, sf),
      ⟨ds.length, by omega, wipeS s1 vs, H1, [], [], (R1.laidO hD).wipe vs, Ex.refl _, (R1.ownNew (o := .lst []) (d := .lst []) hD ⟨[], rfl, .nil⟩).wipe vs, upd_same, .nil, by rw [List.drop_zero]; exact e2⟩, fun i m H hW => ?_⟩
    obtain ⟨hm, s2, H2, acc, xs, R2, x2, w2, hD2, l2, hc⟩ := hW
    cases hd : ds[i]? with
    | none =>
      have hi : ds.length ≤ i := by simpa using hd
      rw [List.drop_eq_nil_of_le hi] at hc
      cases hc
      refine .inl ⟨(ok i H2 H x2 R2.h0).2 (by omega), k D H2 H (R1.rest hv x2 R2) (x1.trans x2) (OwnAt.rest (Ha := H1) (Hb := H') hv w2)⟩
    | some d =>
      have hi : i < ds.length := (List.getElem?_eq_some_iff.mp hd).1
      rw [List.drop_eq_getElem_cons hi, (List.getElem?_eq_some_iff.mp hd).2] at hc
      obtain ⟨s3, e3, hc1⟩ := bnd hc
      obtain ⟨⟨es, s4⟩, e4, hc2⟩ := bnd hc1
      dsimp only at hc2
      obtain ⟨hgo, hy⟩ := (ok i H2 H x2 R2.h0).1 d hd
      refine .inr ⟨hgo, fun H' => i + 1 + (m - 1) = ds.length ∧ ∃ s2 H2 acc xs, Rel K B s2 (L2.wipe σ vs) H2 H' ∧ Ex H1 H2 ∧ OwnAt K B s2 (L2.wipe σ vs) H2 H' D (.lst acc) ∧ H' D = some (.lst xs) ∧ RepL K H2 acc xs ∧ comp2D g fi1 g1 fe vs vs1 (ds.drop (i + 1)) s2 acc = some (out, sf),
        fun H' hN => ⟨m - 1, by omega, hN⟩, fun x Hy hyx => ?_⟩
      have key : ∃ H3, Rel K B s2 (L2.wipe σ vs) H3 Hy ∧ Ex H2 H3 ∧ Rep K H3 d x ∧ OwnAt K B s2 (L2.wipe σ vs) H3 Hy D (.lst acc) ∧ Hy D = some (.lst xs) := by
        rcases hy x Hy hyx with ⟨rfl, r⟩ | ⟨T, o, hT, rfl, r⟩
        · exact ⟨H2, R2, Ex.refl _, r, w2, hD2⟩
        · have ne : D ≠ T := ne_of_none hD2 hT
          refine ⟨_, R2.laid hT, Ex.new (R2.fresh0 hT), r, ⟨by rw [upd_ne ne]; exact w2.z, w2.e, w2.b, ⟨_, by rw [upd_ne ne]; exact hD2, xs, rfl, l2.up (Ex.new (R2.fresh0 hT))⟩, w2.ne⟩, by rw [upd_ne ne]; exact hD2⟩
      obtain ⟨H3, R3, x3, r3, w3, hD3⟩ := key
      have zE : B.hE D = none := w3.e
      have zb : B.hb D = none := w3.b
      have z0 : B.h0 D = none := R3.z0.back w3.z
      refine ⟨B.pin D (.lst xs), s2, H3, d, s3, R3.pin w3 hD3, r3, e3, fun σ4 H4 H4' R4 x4 k4 => ⟨k4.wipe hts, ?_⟩⟩
      refine ⟨B.pin D (.lst xs), s3, H4, true, s3, R4, rfl, fun H5 H5' R5 x5 => ?_⟩
      refine iteT ?_
      refine ⟨B.pin D (.lst xs), s3, H5, es, s4, R5, e4, fun J1 H6 H6' R6 x6 ok1 => ?_⟩
      have x26 : Ex H2 H6 := ((x3.trans x4).trans x5).trans x6
      have x16 : Ex H1 H6 := x2.trans x26
      obtain ⟨R7, w7, hD7⟩ := R6.unpin zE zb z0 (d := .lst acc) ⟨xs, rfl, l2.up x26⟩
      refine ⟨fun j n H => j + n = es.length ∧ ∃ s2 H2 acc xs, Rel K B s2 (L2.wipe σ4 vs1) H2 H ∧ Ex H6 H2 ∧ OwnAt K B s2 (L2.wipe σ4 vs1) H2 H D (.lst acc) ∧ H D = some (.lst xs) ∧ RepL K H2 acc xs ∧ (compD g1 bYes fe vs1 (es.drop j) s2 acc).bind (fun r => comp2D g fi1 g1 fe vs vs1 (ds.drop (i + 1)) (wipeS r.2 vs) r.1) = some (out, sf),
        ⟨es.length, by omega, wipeS s4 vs1, H6, acc, xs, R7.wipe vs1, Ex.refl _, w7.wipe vs1, hD7, l2.up x26, by rw [List.drop_zero]; exact hc2⟩, fun j n Hj hWj => ?_⟩
      obtain ⟨hn, t2, G2, ac, ys, S2, y2, v2, hE2, m2, hcj⟩ := hWj
      cases he : es[j]? with
      | none =>
        have hj : es.length ≤ j := by simpa using he
        rw [List.drop_eq_nil_of_le hj] at hcj
        refine .inl ⟨(ok1 j G2 Hj y2 S2.h0).2 (by omega), by omega, wipeS t2 vs, G2, ac, ys, ?_, x16.trans y2, ?_, hE2, m2, hcj⟩
        · have := S2.wipe vs; rw [wipe_wipe h1v, k4.wipe hts] at this; exact this
        · have := v2.wipe vs; rw [wipe_wipe h1v, k4.wipe hts] at this; exact this
      | some d1 =>
        have hj : j < es.length := (List.getElem?_eq_some_iff.mp he).1
        rw [List.drop_eq_getElem_cons hj, (List.getElem?_eq_some_iff.mp he).2] at hcj
        obtain ⟨⟨out1, sf1⟩, hcj0, hcj9⟩ := bnd hcj
        obtain ⟨t3, f3, hcj1⟩ := bnd hcj0
        obtain ⟨hgo1, hy1⟩ := (ok1 j G2 Hj y2 S2.h0).1 d1 he
        refine .inr ⟨hgo1, fun H' => j + 1 + (n - 1) = es.length ∧ ∃ s2 H2 acc xs, Rel K B s2 (L2.wipe σ4 vs1) H2 H' ∧ Ex H6 H2 ∧ OwnAt K B s2 (L2.wipe σ4 vs1) H2 H' D (.lst acc) ∧ H' D = some (.lst xs) ∧ RepL K H2 acc xs ∧ (compD g1 bYes fe vs1 (es.drop (j + 1)) s2 acc).bind (fun r => comp2D g fi1 g1 fe vs vs1 (ds.drop (i + 1)) (wipeS r.2 vs) r.1) = some (out, sf),
          fun H' hN => ⟨n - 1, by omega, hN⟩, fun x1' Hz hzx => ?_⟩
        have key1 : ∃ G3, Rel K B t2 (L2.wipe σ4 vs1) G3 Hz ∧ Ex G2 G3 ∧ Rep K G3 d1 x1' ∧ OwnAt K B t2 (L2.wipe σ4 vs1) G3 Hz D (.lst ac) ∧ Hz D = some (.lst ys) := by
          rcases hy1 x1' Hz hzx with ⟨rfl, r⟩ | ⟨T, o, hT, rfl, r⟩
          · exact ⟨G2, S2, Ex.refl _, r, v2, hE2⟩
          · have ne : D ≠ T := ne_of_none hE2 hT
            refine ⟨_, S2.laid hT, Ex.new (S2.fresh0 hT), r, ⟨by rw [upd_ne ne]; exact v2.z, v2.e, v2.b, ⟨_, by rw [upd_ne ne]; exact hE2, ys, rfl, m2.up (Ex.new (S2.fresh0 hT))⟩, v2.ne⟩, by rw [upd_ne ne]; exact hE2⟩
        obtain ⟨G3, S3, y3, r3', v3, hE3⟩ := key1
        refine ⟨B.pin D (.lst ys), t2, G3, d1, t3, S3.pin v3 hE3, r3', f3, fun σ5 G4 G4' S4 y4 k5 => ⟨k5.wipe hts1, ?_⟩⟩
        refine ⟨B.pin D (.lst ys), t3, G4, true, t3, S4, rfl, fun G5 G5' S5 y5 => ?_⟩
        have y25 : Ex G2 G5 := (y3.trans y4).trans y5
        refine iteT ?_
        obtain ⟨⟨re, t5⟩, f5, hcj3⟩ := bnd (show (fe t3).bind _ = some (out1, sf1) from hcj1)
        dsimp only at hcj3
        split at hcj3
        · next hsm =>
          refine ⟨B.pin D (.lst ys), t3, G5, re, t5, S5, f5, fun y G6 G6' S6 y6 r6 => ?_⟩
          have l6 := m2.up (y25.trans y6)
          obtain ⟨S7, v7, hE7⟩ := S6.unpin v3.e v3.b (S3.z0.back v3.z) (d := .lst ac) ⟨ys, rfl, l6⟩
          obtain ⟨S8, v8⟩ := S7.grow v7 (o' := .lst (ys ++ [y])) (d' := .lst (ac ++ [re])) ⟨_, rfl, l6.append (.cons r6 .nil)⟩
          refine ⟨ys, hE7, by rw [l6.len]; exact small_lt hsm, by omega, wipeS t5 vs1, G6, ac ++ [re], ys ++ [y], ?_, y2.trans (y25.trans y6), ?_, upd_same, l6.append (.cons r6 .nil), ?_⟩
          · have := S8.wipe vs1; rw [k5.wipe hts1] at this; exact this
          · have := v8.wipe vs1; rw [k5.wipe hts1] at this; exact this
          · rw [hcj3]; exact hcj9
        · cases hcj3
  · cases ev1
theorem io_lc2 {elt iter tg1 iter1 : Expr} {scope : Scope} {own : List (Str × Nat)} {vs1 : List Nat} {fi fi1 : FI} {ts ts1 : List Nat} {g g1 : FG} {fe : F} (hc : X.calm = true) (hN : X.N.Nodup) (hi : PI X tg iter (tI X.K B fi)) (ok : BlkOk X.N X.env.scope scope own)
    (hg : ∀ (B : Bs) (s : Shared) (H : Hp) (C : Addr) (cl : List (Str × Addr)) (fp : List Addr), PG (X.blk s H scope (compEnvC scope cl C X.env) fp) tg (tG X.K B ts g))
    (hi1 : ∀ (B : Bs) (s : Shared) (H : Hp) (C : Addr) (cl : List (Str × Addr)) (fp : List Addr), PI (X.blk s H scope (compEnvC scope cl C X.env) fp) tg1 iter1 (tI X.K B fi1))
    (hg1 : ∀ (B : Bs) (s : Shared) (H : Hp) (C : Addr) (cl : List (Str × Addr)) (fp : List Addr), PG (X.blk s H scope (compEnvC scope cl C X.env) fp) tg1 (tG X.K B ts1 g1))
    (he : ∀ (B : Bs) (s : Shared) (H : Hp) (C : Addr) (cl : List (Str × Addr)) (fp : List Addr), PE (X.blk s H scope (compEnvC scope cl C X.env) fp) elt (tF X.K B fe)) (hts : ∀ i ∈ ts, i ∈ own.map (·.2) := by decide) (hts1 : ∀ i ∈ ts1, i ∈ vs1 := by decide) (h1v : ∀ i ∈ vs1, i ∈ own.map (·.2) := by decide)
    (hs : ∀ x, foldedSetIterable iter X.env x = pure x := by intro _; rfl) (hs1 : ∀ env x, foldedSetIterable iter1 env x = pure x := by intro _ _; rfl) : PE X (.ListComp elt [⟨tg, iter, [], 0⟩, ⟨tg1, iter1, [], 0⟩] scope pos) (tO X.K B (eLc2 fi g fi1 g1 fe (own.map (·.2)) vs1)) :=
  (pe_lc2 hc hN hi ok h1v (g := fun v σ H Q => ∃ B, tG X.K B ts g v σ H Q) (tt := fun σ H Q => ∃ B, tT X.K B bYes σ H Q) (wi1 := fun σ H Q => ∃ B, tI X.K B fi1 σ H Q) (g1 := fun v σ H Q => ∃ B, tG X.K B ts1 g1 v σ H Q) (tt1 := fun σ H Q => ∃ B, tT X.K B bYes σ H Q) (te := fun σ H Q => ∃ B, tF X.K B fe σ H Q)
    (fun s H C cl fp => ⟨fun pins s' σ H' v u Q I r ⟨B, q⟩ => (hg B s H C cl fp).run pins s' σ H' v u Q I r q⟩)
    (fun s H C cl fp => ⟨fun pins s' σ H' Q I ⟨B, q⟩ => its_nil.run pins s' σ H' Q I q⟩)
    (fun s H C cl fp => ⟨fun pins s' σ H' Q I ⟨B, q⟩ => (hi1 B s H C cl fp).run pins s' σ H' Q I q⟩)
    (fun s H C cl fp => ⟨fun pins s' σ H' v u Q I r ⟨B, q⟩ => (hg1 B s H C cl fp).run pins s' σ H' v u Q I r q⟩)
    (fun s H C cl fp => ⟨fun pins s' σ H' Q I ⟨B, q⟩ => its_nil.run pins s' σ H' Q I q⟩)
    (fun s H C cl fp => ⟨fun pins s' σ H' Q I ⟨B, q⟩ => (he B s H C cl fp).run pins s' σ H' Q I q⟩) hs hs1).pxw fun σ H Q q => rd_lc2 hts hts1 h1v q
end
end Px

set_option Elab.async false
set_option linter.all false
set_option maxRecDepth 100000
set_option maxHeartbeats 4000000
namespace Px.S
open PySem L2 Px
def c_MOST_RATE : D := .int 100
def c_MOST_RAIN : D := .int 100000
def f__law_bag : FS :=
  (sSeq (sSet 2 (eC (.int 0)))
    (sSeq (sIf (bT (eLt (eVar 1) (eB1 gLen (pVar 0)))) (sSet 2 (eB1 gAbs (pE (eIx (pVar 0) (eVar 1))))) sNil)
    (sSeq (sIf (bT (eLt (eVar 2) (ePow (eC (.int 10)) (eC (.int 18))))) (sRetO (eLst (aCons (eC (.int 0)) (aCons (eAdd (eC (.int 1)) (eMod (eAdd (eMul (eVar 2) (eC (.int 7919))) (eMul (eC (.int 104729)) (eVar 1))) (eC (.int 2147483646)))) aNil)))) sNil)
    (sRetO (eLst (aCons (eVar 2) (aCons (eAdd (eC (.int 1)) (eMod (eAdd (eVar 2) (eVar 1)) (eC (.int 2147483646)))) aNil)))))))
def F__law_bag : FnD := runF 3 f__law_bag
def f__law_take : FS :=
  (sSeq (sIf (bT (eGt (eIx (pVar 0) (eC (.int 0))) (eC (.int 0)))) (sSeq (sSet 2 (eMod (eIx (pVar 0) (eC (.int 0))) (eVar 1)))
    (sSeq (sLPut 0 (eC (.int 0)) (eDiv (eIx (pVar 0) (eC (.int 0))) (eVar 1)))
    (sRet (eVar 2)))) sNil)
    (sSeq (sLPut 0 (eC (.int 1)) (eMod (eMul (eIx (pVar 0) (eC (.int 1))) (eC (.int 48271))) (eC (.int 2147483647))))
    (sRet (eMod (eDiv (eMod (eMul (eIx (pVar 0) (eC (.int 1))) (eIx (pVar 0) (eC (.int 1)))) (eC (.int 2147483629))) (eC (.int 64))) (eVar 1)))))
def F__law_take : FnB := runB 3 f__law_take
def f__law_of : FS :=
  (sRet (eIx (pVar 1) (eCallB F__law_take 0 (aCons (eB1 gLen (pVar 1)) aNil))))
def F__law_of : FnB := runB 2 f__law_of
def L__law_tubs_1 : FS :=
  (sSeq (sSet 11 (eAdd (eC (.int 1)) (eCallB F__law_take 0 (aCons (eIx (pE (eLst (aCons (eC (.int 4)) (aCons (eC (.int 100)) aNil)))) (eCallB F__law_take 0 (aCons (eC (.int 2)) aNil))) aNil))))
    (sApp 9 (eTup (aCons (eVar 10) (aCons (eVar 11) (aCons (eCallB F__law_of 0 (aCons (eOp gCatL (eOp gCatL (eLst (aCons (eC (.str "")) aNil)) (eSl (pVar 2) (oSome (eAdd (eVar 4) (eC (.int 1)))) oNone)) (eSl (pVar 2) (oSome (eAdd (eVar 4) (eC (.int 1)))) oNone)) aNil)) aNil))))))
def L__law_tubs_2 : FS :=
  (sDPut 6 (eCallB F__law_take 0 (aCons (eVar 7) aNil)) (eC (.bl true)))
def L__law_tubs_3 : FS :=
  (sSeq (sSetO 6 eDNewK)
    (sSeq (sSet 7 (eIx (pE (eLst (aCons (eC (.int 4)) (aCons (eC (.int 12)) (aCons (eC (.int 1001)) aNil))))) (eCallB F__law_take 0 (aCons (eC (.int 3)) aNil))))
    (sSeq (sFor (iRng1 (eCallB F__law_take 0 (aCons (eC (.int 4)) aNil))) (hName 8) L__law_tubs_2)
    (sSeq (sSetO 9 (eLst aNil))
    (sSeq (sFor (iSeq (eB1 gSortedD (pVar 6))) (hName 10) L__law_tubs_1)
    (sApp 3 (eTup (aCons (eVar 5) (aCons (eAdd (eC (.int 1)) (eCallB F__law_take 0 (aCons (eIx (pE (eLst (aCons (eC (.int 3)) (aCons (eC (.int 30)) aNil)))) (eCallB F__law_take 0 (aCons (eC (.int 2)) aNil))) aNil))) (aCons (eB1 gTuple (pVar 9)) aNil))))))))))
def f__law_tubs : FS :=
  (sSeq (sSet 2 (eSl (pE (eCallB F__law_of 0 (aCons (eLst (aCons (eLst (aCons (eC (.str "ann")) (aCons (eC (.str "bo")) (aCons (eC (.str "cy")) aNil)))) (aCons (eLst (aCons (eC (.str "cy")) (aCons (eC (.str "ann")) (aCons (eC (.str "bo")) aNil)))) aNil))) aNil))) oNone (oSome (eAdd (eC (.int 1)) (eCallB F__law_take 0 (aCons (eVar 1) aNil))))))
    (sSeq (sSetO 3 (eLst aNil))
    (sSeq (sFor (iEnum (eVar 2)) (hTup (hCons (hName 4) (hCons (hName 5) hNil))) L__law_tubs_3)
    (sRet (eB1 gTuple (pVar 3))))))
def F__law_tubs : FnB := runB 12 f__law_tubs
def L__law_rain_1 : FS :=
  (sSeq (sSet 7 (eAdd (eVar 7) (eIx (pVar 8) (eC (.int 1)))))
    (sApp 6 (eVar 7)))
def L__law_rain_2 : FS :=
  (sSeq (sParO 6 7 (eLst (aCons (eC (.int 0)) aNil)) (.int 0))
    (sSeq (sFor (iSeq (eVar 5)) (hName 8) L__law_rain_1)
    (sApp 2 (eIx (pE (eLst (aCons (eCallB F__law_of 0 (aCons (eVar 6) aNil)) (aCons (eCallB F__law_take 0 (aCons (eC (.int 8)) aNil)) (aCons (eCallB F__law_take 0 (aCons (eC (.int 200)) aNil)) (aCons (eC (.int 0)) aNil)))))) (eCallB F__law_take 0 (aCons (eC (.int 4)) aNil))))))
def f__law_rain : FS :=
  (sSeq (sSetO 2 (eLst aNil))
    (sSeq (sFor (iSeq (eVar 1)) (hTup (hCons (hName 3) (hCons (hName 4) (hCons (hName 5) hNil)))) L__law_rain_2)
    (sRet (eB1 gTuple (pVar 2)))))
def F__law_rain : FnB := runB 9 f__law_rain
def L__law_ends_1 : FS :=
  (sSeq (sDPut 3 (eTup (aCons (eVar 4) (aCons (eVar 8) aNil))) (eMin (eVar 9) (eVar 7)))
    (sSeq (sSet 7 (eSub (eVar 7) (eMin (eVar 9) (eVar 7))))
    (sIf (bT (eOpP gNe (pVar 10) (pE (eC (.str ""))))) (sDPut 2 (eVar 10) (eAdd (eGet (pVar 2) (eVar 10)) (eGet (pVar 3) (eTup (aCons (eVar 4) (aCons (eVar 8) aNil)))))) sNil)))
def L__law_ends_2 : FS :=
  (sSeq (sSet 7 (eGet (pVar 2) (eVar 4)))
    (sFor (iSeq (eVar 6)) (hTup (hCons (hName 8) (hCons (hName 9) (hCons (hName 10) hNil)))) L__law_ends_1))
def f__law_ends : FS :=
  (sSeq (sSetO 2 (eB1 gDictP (pE (eLc (iZip (eVar 0) (eVar 1)) (hTup (hCons (hName 11) (hCons (hName 9) hNil))) bYes (eTup (aCons (eIx (pVar 11) (eC (.int 0))) (aCons (eVar 9) aNil))) [11, 9]))))
    (sSeq (sSetO 3 eDNewT)
    (sSeq (sFor (iSeq (eVar 0)) (hTup (hCons (hName 4) (hCons (hName 5) (hCons (hName 6) hNil)))) L__law_ends_2)
    (sRet (eTup (aCons (eLc (iSeq (eVar 0)) (hName 11) bYes (eGet (pVar 2) (eIx (pVar 11) (eC (.int 0)))) [11]) (aCons (eVar 3) aNil)))))))
def F__law_ends : FnD := runF 12 f__law_ends
def f_spot : FS :=
  (sRet (eIndex (eLc (iSeq (eVar 0)) (hName 2) bYes (eIx (pVar 2) (eC (.int 0))) [2]) (eVar 1)))
def F_spot : FnD := runF 3 f_spot
def L_rest_of_1 : FS :=
  (sSeq (sIf (bT (eOpP gEq (pVar 3) (pE (eC (.int 0))))) (sRet (eTup (aCons (eVar 2) (aCons (eVar 4) aNil)))) sNil)
    (sSeq (sIf (bT (eLt (eVar 3) (eVar 5))) (sRet (eTup (aCons (eVar 4) (aCons (eVar 4) aNil)))) sNil)
    (sPar 2 3 (eVar 4) (eSub (eVar 3) (eVar 5)))))
def f_rest_of : FS :=
  (sSeq (sPar 2 3 (eC (.int 0)) (eVar 1))
    (sSeq (sFor (iSeq (eVar 0)) (hTup (hCons (hName 4) (hCons (hName 5) (hCons (hName 6) hNil)))) L_rest_of_1)
    (sRet (eIf (bT (eOpP gEq (pVar 3) (pE (eC (.int 0))))) (eTup (aCons (eVar 2) (aCons (eC .non) aNil))) (eTup (aCons (eC (.str "rises")) aNil))))))
def F_rest_of : FnD := runF 7 f_rest_of
def L_ends_of_1 : FS :=
  (sSeq (sDPut 3 (eTup (aCons (eVar 4) (aCons (eVar 8) aNil))) (eMin (eVar 9) (eVar 7)))
    (sSeq (sAug (fun i j => i - j) 7 (eGet (pVar 3) (eTup (aCons (eVar 4) (aCons (eVar 8) aNil)))))
    (sIf (bT (eOpP gNe (pVar 10) (pE (eC (.str ""))))) (sDAug (fun i j => i + j) 2 (eVar 10) (eGet (pVar 3) (eTup (aCons (eVar 4) (aCons (eVar 8) aNil))))) sNil)))
def L_ends_of_2 : FS :=
  (sSeq (sSet 7 (eGet (pVar 2) (eVar 4)))
    (sFor (iSeq (eVar 6)) (hTup (hCons (hName 8) (hCons (hName 9) (hCons (hName 10) hNil)))) L_ends_of_1))
def f_ends_of : FS :=
  (sSeq (sSetO 2 (eDc (iZip (eVar 0) (eVar 1)) (hTup (hCons (hName 11) (hCons (hName 9) hNil))) bYes (eIx (pVar 11) (eC (.int 0))) (eVar 9) [11, 9]))
    (sSeq (sSetO 3 eDNewT)
    (sSeq (sFor (iSeq (eVar 0)) (hTup (hCons (hName 4) (hCons (hName 5) (hCons (hName 6) hNil)))) L_ends_of_2)
    (sRet (eTup (aCons (eVar 2) (aCons (eVar 3) aNil)))))))
def F_ends_of : FnD := runF 12 f_ends_of
def f_comes : FS :=
  (sSeq (sSet 2 (eIx (pE (eCall F_ends_of (aCons (eVar 0) (aCons (eVar 1) aNil)))) (eC (.int 0))))
    (sRet (eB1 gTuple (pE (eLc (iSeq (eVar 0)) (hName 3) bYes (eGet (pVar 2) (eIx (pVar 3) (eC (.int 0)))) [3])))))
def F_comes : FnD := runF 4 f_comes
def f_rests : FS :=
  (sRetO (eLc (iZip (eVar 0) (eCall F_comes (aCons (eVar 0) (aCons (eVar 1) aNil)))) (hTup (hCons (hName 2) (hCons (hName 3) hNil))) bYes (eCall F_rest_of (aCons (eIx (pVar 2) (eC (.int 2))) (aCons (eVar 3) aNil))) [2, 3]))
def F_rests : FnD := runF 4 f_rests
def f_does : FS :=
  (sSeq (sSet 4 (eIx (pE (eCall F_rests (aCons (eVar 0) (aCons (eVar 1) aNil)))) (eCall F_spot (aCons (eVar 0) (aCons (eVar 2) aNil)))))
    (sRet (eOrV (eOpP gEq (pVar 4) (pE (eTup (aCons (eC (.str "rises")) aNil)))) (eGe (eIx (pVar 4) (eC (.int 0))) (eVar 3)))))
def F_does : FnD := runF 5 f_does
def L_least_rain_1 : FS :=
  (sSeq (sSet 8 (eDiv (eAdd (eVar 6) (eVar 7)) (eC (.int 2))))
    (sIf (bT (eCall F_does (aCons (eVar 0) (aCons (eOp gCatT (eOp gCatT (eSl (pVar 1) oNone (oSome (eVar 5))) (eTup (aCons (eVar 8) aNil))) (eSl (pVar 1) (oSome (eAdd (eVar 5) (eC (.int 1)))) oNone)) (aCons (eVar 3) (aCons (eVar 4) aNil)))))) (sSet 7 (eVar 8)) (sSet 6 (eAdd (eVar 8) (eC (.int 1))))))
def f_least_rain : FS :=
  (sSeq (sSet 5 (eCall F_spot (aCons (eVar 0) (aCons (eVar 2) aNil))))
    (sSeq (sPar 6 7 (eC (.int 0)) (eC c_MOST_RAIN))
    (sSeq (sIf (bNot (bT (eCall F_does (aCons (eVar 0) (aCons (eOp gCatT (eOp gCatT (eSl (pVar 1) oNone (oSome (eVar 5))) (eTup (aCons (eVar 7) aNil))) (eSl (pVar 1) (oSome (eAdd (eVar 5) (eC (.int 1)))) oNone)) (aCons (eVar 3) (aCons (eVar 4) aNil))))))) (sRet (eC .non)) sNil)
    (sSeq (sWhile (fun _ => 100) (bT (eLt (eVar 6) (eVar 7))) L_least_rain_1)
    (sRet (eVar 6))))))
def F_least_rain : FnD := runF 9 f_least_rain
def f__law_within : FS :=
  (sRet (eAndV (eB1 (gIsi "int") (pVar 0)) (eAndV (eNotV (eB1 (gIsi "bool") (pVar 0))) (eChain (fun i j => decide (i ≤ j)) (fun i j => decide (i ≤ j)) (eVar 1) (eVar 0) (eVar 2)))))
def F__law_within : FnD := runF 3 f__law_within
def L__law_rest_1 : FS :=
  (sSeq (sIf (bT (eOpP gEq (pVar 5) (pVar 1))) (sSeq (sSet 6 (eIf (bT (eOpP gEq (pVar 4) (pE (eC (.int 0))))) (eC (.int 0)) (eIx (pE (eIx (pVar 0) (eSub (eVar 4) (eC (.int 1))))) (eC (.int 0)))))
    (sRet (eTup (aCons (eVar 6) (aCons (eIf (bT (eLt (eVar 4) (eB1 gLen (pVar 0)))) (eIx (pE (eIx (pVar 0) (eVar 4))) (eC (.int 0))) (eC .non)) aNil))))) sNil)
    (sIf (bT (eChain (fun i j => decide (i < j)) (fun i j => decide (i < j)) (eVar 5) (eVar 1) (eIx (pVar 2) (eAdd (eVar 4) (eC (.int 1)))))) (sRet (eTup (aCons (eIx (pE (eIx (pVar 0) (eVar 4))) (eC (.int 0))) (aCons (eIx (pE (eIx (pVar 0) (eVar 4))) (eC (.int 0))) aNil)))) sNil))
def L__law_rest_2 : FS :=
  (sApp 2 (eAdd (eIx (pVar 2) (eUn gNeg (eC (.int 1)))) (eIx (pVar 3) (eC (.int 1)))))
def f__law_rest : FS :=
  (sSeq (sSetO 2 (eLst (aCons (eC (.int 0)) aNil)))
    (sSeq (sFor (iSeq (eVar 0)) (hName 3) L__law_rest_2)
    (sSeq (sIf (bT (eGt (eVar 1) (eIx (pVar 2) (eUn gNeg (eC (.int 1)))))) (sRet (eTup (aCons (eC (.str "rises")) aNil))) sNil)
    (sSeq (sFor (iEnum (eVar 2)) (hTup (hCons (hName 4) (hCons (hName 5) hNil))) L__law_rest_1)
    (sRet (eC .non))))))
def F__law_rest : FnD := runF 7 f__law_rest
def f__law_stands_so : FS :=
  (sSeq (sSet 4 (eCall F__law_rest (aCons (eIx (pE (eIx (pVar 0) (eVar 2))) (eC (.int 2))) (aCons (eIx (pE (eIx (pE (eCall F__law_ends (aCons (eVar 0) (aCons (eVar 1) aNil)))) (eC (.int 0)))) (eVar 2)) aNil))))
    (sRet (eOrV (eOpP gEq (pVar 4) (pE (eTup (aCons (eC (.str "rises")) aNil)))) (eGe (eIx (pVar 4) (eC (.int 0))) (eVar 3)))))
def F__law_stands_so : FnD := runF 5 f__law_stands_so
def f__law_least_so : FS :=
  (sSeq (sSet 5 (eCall F_least_rain (aCons (eVar 0) (aCons (eVar 1) (aCons (eIx (pE (eIx (pVar 0) (eVar 2))) (eC (.int 0))) (aCons (eIx (pE (eIx (pVar 0) (eVar 3))) (eC (.int 0))) (aCons (eVar 4) aNil)))))))
    (sSeq (sPar 6 7 (eSl (pVar 1) oNone (oSome (eVar 2))) (eSl (pVar 1) (oSome (eAdd (eVar 2) (eC (.int 1)))) oNone))
    (sSeq (sIf (bT (eIsN false (pVar 5))) (sRet (eNotV (eCall F__law_stands_so (aCons (eVar 0) (aCons (eOp gCatT (eOp gCatT (eVar 6) (eTup (aCons (eC (.int 100000)) aNil))) (eVar 7)) (aCons (eVar 3) (aCons (eVar 4) aNil))))))) sNil)
    (sSeq (sIf (bNot (bT (eCall F__law_within (aCons (eVar 5) (aCons (eC (.int 0)) (aCons (eC (.int 100000)) aNil)))))) (sRet (eC (.bl false))) sNil)
    (sSeq (sIf (bNot (bT (eCall F__law_stands_so (aCons (eVar 0) (aCons (eOp gCatT (eOp gCatT (eVar 6) (eTup (aCons (eVar 5) aNil))) (eVar 7)) (aCons (eVar 3) (aCons (eVar 4) aNil))))))) (sRet (eC (.bl false))) sNil)
    (sSeq (sIf (bT (eOpP gEq (pVar 5) (pE (eC (.int 0))))) (sRet (eC (.bl true))) sNil)
    (sRet (eNotV (eCall F__law_stands_so (aCons (eVar 0) (aCons (eOp gCatT (eOp gCatT (eVar 6) (eTup (aCons (eSub (eVar 5) (eC (.int 1))) aNil))) (eVar 7)) (aCons (eVar 3) (aCons (eVar 4) aNil)))))))))))))
def F__law_least_so : FnD := runF 8 f__law_least_so
def f_holes_of : FS :=
  (sRet (eLc2 (iSeq (eVar 0)) (hName 1) (iSeq (eIx (pVar 1) (eC (.int 2)))) (hName 2) (eTup (aCons (eIx (pVar 1) (eC (.int 0))) (aCons (eIx (pVar 2) (eC (.int 0))) aNil))) [1, 2] [2]))
def F_holes_of : FnD := runF 3 f_holes_of
def L_lots_1 (G_ : FnD) : FS :=
  (sSet 2 (eOp gCatL (eVar 2) (eLc (iSeq (eCall G_ (aCons (eSl (pVar 0) (oSome (eAdd (eVar 3) (eC (.int 1)))) oNone) (aCons (eSub (eVar 1) (eC (.int 1))) aNil)))) (hName 5) bYes (eOp gCatT (eTup (aCons (eVar 4) aNil)) (eVar 5)) [5])))
def f_lots (G_ : FnD) : FS :=
  (sSeq (sIf (bT (eOpP gEq (pVar 1) (pE (eC (.int 0))))) (sRet (eLst (aCons (eTup aNil) aNil))) sNil)
    (sSeq (sSetO 2 (eLst aNil))
    (sSeq (sFor (iEnum (eVar 0)) (hTup (hCons (hName 3) (hCons (hName 4) hNil))) (L_lots_1 G_))
    (sRet (eVar 2)))))
def F_lots : Nat → FnD
  | 0 => fun _ => none
  | n + 1 => runF 6 (f_lots (F_lots n))
def L_without_1 : FS :=
  (sApp 2 (eTup (aCons (eVar 3) (aCons (eVar 4) (aCons (eB1 gTuple (pE (eLc (iSeq (eVar 5)) (hName 6) (bT (eOpP (gInQ true) (pE (eTup (aCons (eVar 3) (aCons (eIx (pVar 6) (eC (.int 0))) aNil)))) (pVar 1))) (eVar 6) [6]))) aNil)))))
def f_without : FS :=
  (sSeq (sSetO 2 (eLst aNil))
    (sSeq (sFor (iSeq (eVar 0)) (hTup (hCons (hName 3) (hCons (hName 4) (hCons (hName 5) hNil)))) L_without_1)
    (sRet (eB1 gTuple (pVar 2)))))
def F_without : FnD := runF 7 f_without
def L_fewest_plugs_1 : FS :=
  (sIf (bT (eGe (eIx (pE (eCall F_comes (aCons (eCall F_without (aCons (eVar 0) (aCons (eVar 6) aNil))) (aCons (eVar 1) aNil)))) (eCall F_spot (aCons (eVar 0) (aCons (eVar 2) aNil)))) (eVar 3))) (sRet (eVar 6)) sNil)
def L_fewest_plugs_2 : FS :=
  (sFor (iSeq (eCall (F_lots 12) (aCons (eVar 4) (aCons (eVar 5) aNil)))) (hName 6) L_fewest_plugs_1)
def f_fewest_plugs : FS :=
  (sSeq (sSet 4 (eB1 gSortT (pE (eCall F_holes_of (aCons (eVar 0) aNil)))))
    (sSeq (sFor (iRng1 (eAdd (eB1 gLen (pVar 4)) (eC (.int 1)))) (hName 5) L_fewest_plugs_2)
    (sRet (eC .non))))
def F_fewest_plugs : FnD := runF 7 f_fewest_plugs
def L__law_lots_1 (G_ : FnD) : FS :=
  (sSet 2 (eOp gCatL (eVar 2) (eLc (iSeq (eCall G_ (aCons (eSl (pVar 0) (oSome (eAdd (eVar 3) (eC (.int 1)))) oNone) (aCons (eSub (eVar 1) (eC (.int 1))) aNil)))) (hName 5) bYes (eOp gCatT (eTup (aCons (eVar 4) aNil)) (eVar 5)) [5])))
def f__law_lots (G_ : FnD) : FS :=
  (sSeq (sIf (bT (eOpP gEq (pVar 1) (pE (eC (.int 0))))) (sRet (eLst (aCons (eTup aNil) aNil))) sNil)
    (sSeq (sSetO 2 (eLst aNil))
    (sSeq (sFor (iEnum (eVar 0)) (hTup (hCons (hName 3) (hCons (hName 4) hNil))) (L__law_lots_1 G_))
    (sRet (eVar 2)))))
def F__law_lots : Nat → FnD
  | 0 => fun _ => none
  | n + 1 => runF 6 (f__law_lots (F__law_lots n))
def L__law_plugged_1 : FS :=
  (sApp 2 (eTup (aCons (eVar 3) (aCons (eVar 4) (aCons (eB1 gTuple (pE (eLc (iSeq (eVar 5)) (hName 6) (bT (eOpP (gInQ true) (pE (eTup (aCons (eVar 3) (aCons (eIx (pVar 6) (eC (.int 0))) aNil)))) (pVar 1))) (eVar 6) [6]))) aNil)))))
def f__law_plugged : FS :=
  (sSeq (sSetO 2 (eLst aNil))
    (sSeq (sFor (iSeq (eVar 0)) (hTup (hCons (hName 3) (hCons (hName 4) (hCons (hName 5) hNil)))) L__law_plugged_1)
    (sRet (eB1 gTuple (pVar 2)))))
def F__law_plugged : FnD := runF 7 f__law_plugged
def L__law_plugs_1 : FS :=
  (sIf (bT (eGe (eIx (pE (eIx (pE (eCall F__law_ends (aCons (eCall F__law_plugged (aCons (eVar 0) (aCons (eVar 9) aNil))) (aCons (eVar 1) aNil)))) (eC (.int 0)))) (eVar 2)) (eVar 3))) (sRet (eVar 9)) sNil)
def L__law_plugs_2 : FS :=
  (sFor (iSeq (eCall (F__law_lots 12) (aCons (eVar 4) (aCons (eVar 8) aNil)))) (hName 9) L__law_plugs_1)
def L__law_plugs_3 : FS :=
  (sSet 4 (eOp gCatL (eVar 4) (eLc (iSeq (eVar 7)) (hName 10) bYes (eTup (aCons (eVar 5) (aCons (eIx (pVar 10) (eC (.int 0))) aNil))) [10])))
def f__law_plugs : FS :=
  (sSeq (sSetO 4 (eLst aNil))
    (sSeq (sFor (iSeq (eVar 0)) (hTup (hCons (hName 5) (hCons (hName 6) (hCons (hName 7) hNil)))) L__law_plugs_3)
    (sSeq (sSet 4 (eB1 gSortT (pVar 4)))
    (sSeq (sFor (iRng1 (eAdd (eB1 gLen (pVar 4)) (eC (.int 1)))) (hName 8) L__law_plugs_2)
    (sRet (eC .non))))))
def F__law_plugs : FnD := runF 11 f__law_plugs
def L_with_rate_1 : FS :=
  (sSeq (sSetO 7 (eLc (iSeq (eVar 6)) (hName 8) bYes (eIf (bT (eOpP gEq (pE (eTup (aCons (eVar 4) (aCons (eIx (pVar 8) (eC (.int 0))) aNil)))) (pVar 1))) (eTup (aCons (eIx (pVar 8) (eC (.int 0))) (aCons (eVar 2) (aCons (eIx (pVar 8) (eC (.int 2))) aNil)))) (eVar 8)) [8]))
    (sApp 3 (eTup (aCons (eVar 4) (aCons (eVar 5) (aCons (eB1 gTuple (pVar 7)) aNil))))))
def f_with_rate : FS :=
  (sSeq (sSetO 3 (eLst aNil))
    (sSeq (sFor (iSeq (eVar 0)) (hTup (hCons (hName 4) (hCons (hName 5) (hCons (hName 6) hNil)))) L_with_rate_1)
    (sRet (eB1 gTuple (pVar 3)))))
def F_with_rate : FnD := runF 9 f_with_rate
def L_rates_by_1 : FS :=
  (sIf (bT (eOpP gEq (pE (eGet (pE (eIx (pE (eCall F_ends_of (aCons (eCall F_with_rate (aCons (eVar 0) (aCons (eVar 2) (aCons (eVar 6) aNil)))) (aCons (eVar 1) aNil)))) (eC (.int 1)))) (eVar 3))) (pVar 4))) (sApp 5 (eVar 6)) sNil)
def f_rates_by : FS :=
  (sSeq (sSetO 5 (eLst aNil))
    (sSeq (sFor (iRng2 (eC (.int 1)) (eAdd (eC c_MOST_RATE) (eC (.int 1)))) (hName 6) L_rates_by_1)
    (sRetO (eMove 5))))
def F_rates_by : FnD := runF 7 f_rates_by
def L__law_rated_1 : FS :=
  (sApp 7 (eTup (aCons (eVar 8) (aCons (eIf (bT (eOpP gEq (pE (eTup (aCons (eVar 4) (aCons (eVar 8) aNil)))) (pVar 1))) (eVar 2) (eVar 9)) (aCons (eVar 10) aNil)))))
def L__law_rated_2 : FS :=
  (sSeq (sSetO 7 (eLst aNil))
    (sSeq (sFor (iSeq (eVar 6)) (hTup (hCons (hName 8) (hCons (hName 9) (hCons (hName 10) hNil)))) L__law_rated_1)
    (sApp 3 (eTup (aCons (eVar 4) (aCons (eVar 5) (aCons (eB1 gTuple (pVar 7)) aNil)))))))
def f__law_rated : FS :=
  (sSeq (sSetO 3 (eLst aNil))
    (sSeq (sFor (iSeq (eVar 0)) (hTup (hCons (hName 4) (hCons (hName 5) (hCons (hName 6) hNil)))) L__law_rated_2)
    (sRet (eB1 gTuple (pVar 3)))))
def F__law_rated : FnD := runF 11 f__law_rated
def L_law_1 : FS :=
  (sIf (bT (eOpP gEq (pE (eGet (pE (eIx (pE (eCall F__law_ends (aCons (eCall F__law_rated (aCons (eVar 3) (aCons (eVar 13) (aCons (eVar 16) aNil)))) (aCons (eVar 4) aNil)))) (eC (.int 1)))) (eVar 14))) (pVar 11))) (sApp 15 (eVar 16)) sNil)
def L_law_2 : FS :=
  (sSeq (sSet 14 (eCallB F__law_of 2 (aCons (eVar 12) aNil)))
    (sSeq (sSet 11 (eMin (eC (.int 100)) (eMax (eC (.int 0)) (eSub (eAdd (eGet (pVar 6) (eVar 14)) (eCallB F__law_take 2 (aCons (eC (.int 3)) aNil))) (eC (.int 1))))))
    (sSeq (sSetO 15 (eLst aNil))
    (sSeq (sFor (iRng2 (eC (.int 1)) (eC (.int 101))) (hName 16) L_law_1)
    (sIf (bT (eOpP gNe (pE (eCall F_rates_by (aCons (eVar 3) (aCons (eVar 4) (aCons (eVar 13) (aCons (eVar 14) (aCons (eVar 11) aNil))))))) (pVar 15))) (sRet (eC (.bl false))) sNil)))))
def L_law_3 : FS :=
  (sSeq (sPar 8 9 (eCallB F__law_take 2 (aCons (eB1 gLen (pVar 3)) aNil)) (eCallB F__law_take 2 (aCons (eB1 gLen (pVar 3)) aNil)))
    (sSeq (sSet 10 (eCallB F__law_of 2 (aCons (eOp gCatL (eOp gCatL (eLst (aCons (eCallB F__law_take 2 (aCons (eC (.int 12)) aNil)) aNil)) (eLc (iSeq (eIx (pE (eIx (pVar 3) (eVar 9))) (eC (.int 2)))) (hName 17) bYes (eIx (pVar 17) (eC (.int 0))) [17])) (eLst (aCons (eC (.int 1000)) aNil))) aNil)))
    (sSeq (sIf (bNot (bT (eCall F__law_least_so (aCons (eVar 3) (aCons (eVar 4) (aCons (eVar 8) (aCons (eVar 9) (aCons (eVar 10) aNil)))))))) (sRet (eC (.bl false))) sNil)
    (sSeq (sSet 11 (eMax (eC (.int 0)) (eSub (eAdd (eIx (pVar 5) (eVar 9)) (eCallB F__law_take 2 (aCons (eC (.int 12)) aNil))) (eC (.int 2)))))
    (sIf (bT (eOpP gNe (pE (eCall F_fewest_plugs (aCons (eVar 3) (aCons (eVar 4) (aCons (eIx (pE (eIx (pVar 3) (eVar 9))) (eC (.int 0))) (aCons (eVar 11) aNil)))))) (pE (eCall F__law_plugs (aCons (eVar 3) (aCons (eVar 4) (aCons (eVar 9) (aCons (eVar 11) aNil)))))))) (sRet (eC (.bl false))) sNil)))))
def L_law_4 : FS :=
  (sSeq (sSetO 2 (eCallO F__law_bag (aCons (eVar 0) (aCons (eVar 1) aNil))))
    (sSeq (sSet 3 (eCallB F__law_tubs 2 (aCons (eC (.int 3)) aNil)))
    (sSeq (sSet 4 (eCallB F__law_rain 2 (aCons (eVar 3) aNil)))
    (sSeq (sAsg (eCall F__law_ends (aCons (eVar 3) (aCons (eVar 4) aNil))) (hTup (hCons (hName 5) (hCons (hName 6) hNil))))
    (sSeq (sFor (iRng1 (eC (.int 4))) (hName 7) L_law_3)
    (sSeq (sSet 12 (eB1 gSortTD (pVar 6)))
    (sFor (iSeq (eSl (pVar 12) oNone (oSome (eC (.int 3))))) (hName 13) L_law_2)))))))
def f_law : FS :=
  (sSeq (sFor (iRng1 (eAdd (eC (.int 1)) (eMin (eB1 gLen (pVar 0)) (eC (.int 5))))) (hName 1) L_law_4)
    (sRet (eC (.bl true))))
def F_law : FnD := runF 18 f_law
end Px.S

set_option Elab.async false
set_option linter.all false
set_option maxRecDepth 100000
set_option maxHeartbeats 4000000
namespace Px.S
open PySem L2 Px
def topS (i : Nat) : Stmt := PySem.Challenge.pw_holetubs_k08_asked_backward.main.body.getD i (.Pass ⟨0, 0, 0, 0⟩)
structure Bt (K : PySem.W.Frag) (mg : Str → Option Value) : Prop where
  abs_ : mg "abs" = none
  bool_ : mg "bool" = none
  dict_ : mg "dict" = none
  enumerate_ : mg "enumerate" = none
  int_ : mg "int" = none
  isinstance_ : mg "isinstance" = none
  len_ : mg "len" = none
  max_ : mg "max" = none
  min_ : mg "min" = none
  range_ : mg "range" = none
  sorted_ : mg "sorted" = none
  tuple_ : mg "tuple" = none
  zip_ : mg "zip" = none
  g_MOST_RAIN : GlobC K mg "MOST_RAIN" c_MOST_RAIN
  g_MOST_RATE : GlobC K mg "MOST_RATE" c_MOST_RATE
section
variable {P : Program} {w : World} {K : PySem.W.Frag} {mg : Str → Option Value} {base : Heap}
abbrev s__law_bag : Stmt := topS 19
abbrev N__law_bag : List Str := ["script", "k", "cell"]
theorem sc__law_bag : FnScope N__law_bag ["script", "k"] (defScope s__law_bag) := ⟨rfl, rfl, rfl, by decide +kernel, rfl, by decide +kernel, by decide +kernel⟩
theorem ok__law_bag {f : Addr} {fd : FuncData} (F : Fun K "_law_bag" "_law_bag" s__law_bag f fd) (Z : Bt K mg)  : FnOk P w K mg base CX0 1 f fd ["script", "k"] (spF K 2 F__law_bag) :=
  fn_okF F sc__law_bag fun cdv A outer s H E B hr =>
    have hu := hu_of hr
    (iss_cons (is_set (i := 2) sc__law_bag.nd rfl (.inl rfl) ie_int)
    (iss_cons (is_if (it_lt (ie_var 1 (pv 1)) (ie_len (by rfl) Z.len_ (ip_var 0 (pv 0)))) (iss_one (is_set (i := 2) sc__law_bag.nd rfl (.inl rfl) (ie_abs (by rfl) Z.abs_ (ip_of (ie_ix (ip_var 0 (pv 0)) (ie_var 1 (pv 1))))))) iss_nil)
    (iss_cons (is_if (it_lt (ie_var 2 (pv 2)) (ie_pow ie_int ie_int)) (iss_one (is_retO (io_lst (ia_cons ie_int (ia_cons (ie_add ie_int (ie_mod (ie_add (ie_mul (ie_var 2 (pv 2)) ie_int) (ie_mul ie_int (ie_var 1 (pv 1)))) ie_int)) ia_nil))))) iss_nil)
    (iss_one (is_retO (io_lst (ia_cons (ie_var 2 (pv 2)) (ia_cons (ie_add ie_int (ie_mod (ie_add (ie_var 2 (pv 2)) (ie_var 1 (pv 1))) ie_int)) ia_nil))))))))
abbrev s__law_take : Stmt := topS 20
abbrev N__law_take : List Str := ["bag", "many", "found"]
theorem sc__law_take : FnScope N__law_take ["bag", "many"] (defScope s__law_take) := ⟨rfl, rfl, rfl, by decide +kernel, rfl, by decide +kernel, by decide +kernel⟩
theorem ok__law_take {f : Addr} {fd : FuncData} (F : Fun K "_law_take" "_law_take" s__law_take f fd) (Z : Bt K mg)  : FnOk P w K mg base CX0 1 f fd ["bag", "many"] (spB K 1 F__law_take) :=
  fn_okB F sc__law_take rfl fun cdv A outer s H E B hr =>
    have hu := hu_of hr
    (iss_cons (is_if (it_gt (ie_ix (ip_var 0 (pv 0)) ie_int) ie_int) (iss_cons (is_set (i := 2) sc__law_take.nd rfl (.inl rfl) (ie_mod (ie_ix (ip_var 0 (pv 0)) ie_int) (ie_var 1 (pv 1))))
    (iss_cons (is_lput (pv 0) ie_int (ie_fdiv (ie_ix (ip_var 0 (pv 0)) ie_int) (ie_var 1 (pv 1))))
    (iss_one (is_ret (ie_var 2 (pv 2)))))) iss_nil)
    (iss_cons (is_lput (pv 0) ie_int (ie_mod (ie_mul (ie_ix (ip_var 0 (pv 0)) ie_int) ie_int) ie_int))
    (iss_one (is_ret (ie_mod (ie_fdiv (ie_mod (ie_mul (ie_ix (ip_var 0 (pv 0)) ie_int) (ie_ix (ip_var 0 (pv 0)) ie_int)) ie_int) ie_int) (ie_var 1 (pv 1)))))))
abbrev s__law_of : Stmt := topS 21
abbrev N__law_of : List Str := ["bag", "some"]
theorem sc__law_of : FnScope N__law_of ["bag", "some"] (defScope s__law_of) := ⟨rfl, rfl, rfl, by decide +kernel, rfl, by decide +kernel, by decide +kernel⟩
theorem ok__law_of {f : Addr} {fd : FuncData} (F : Fun K "_law_of" "_law_of" s__law_of f fd) (Z : Bt K mg) (h__law_take : HasFn P w K mg base 1 "_law_take" (spB K 1 F__law_take)) : FnOk P w K mg base CX0 2 f fd ["bag", "some"] (spB K 1 F__law_of) :=
  fn_okB F sc__law_of rfl fun cdv A outer s H E B hr =>
    have hu := hu_of hr
    (iss_one (is_ret (ie_ix (ip_var 1 (pv 1)) (ie_callB h__law_take (hr.mono (by decide)) (by rfl) (pv 0) (ia_cons (ie_len (by rfl) Z.len_ (ip_var 1 (pv 1))) ia_nil) (la_cons la_nil)))))
abbrev s__law_tubs : Stmt := topS 23
abbrev N__law_tubs : List Str := ["bag", "most", "names", "found", "at", "name", "levels", "wide", "turn", "holes", "level", "rate"]
theorem sc__law_tubs : FnScope N__law_tubs ["bag", "most"] (defScope s__law_tubs) := ⟨rfl, rfl, rfl, by decide +kernel, rfl, by decide +kernel, by decide +kernel⟩
theorem ok__law_tubs {f : Addr} {fd : FuncData} (F : Fun K "_law_tubs" "_law_tubs" s__law_tubs f fd) (Z : Bt K mg) (h__law_of : HasFn P w K mg base 2 "_law_of" (spB K 1 F__law_of)) (h__law_take : HasFn P w K mg base 1 "_law_take" (spB K 1 F__law_take)) : FnOk P w K mg base CX0 3 f fd ["bag", "most"] (spB K 1 F__law_tubs) :=
  fn_okB F sc__law_tubs rfl fun cdv A outer s H E B hr =>
    have hu := hu_of hr
    (iss_cons (is_set (i := 2) sc__law_tubs.nd rfl (.inl rfl) (ie_sl (ip_of (ie_callB h__law_of (hr.mono (by decide)) (by rfl) (pv 0) (ia_cons (ie_own (io_lst (ia_cons (ie_own (io_lst (ia_cons ie_str (ia_cons ie_str (ia_cons ie_str ia_nil))))) (ia_cons (ie_own (io_lst (ia_cons ie_str (ia_cons ie_str (ia_cons ie_str ia_nil))))) ia_nil)))) ia_nil) (la_cons la_nil))) iq_none (iq_some (ie_add ie_int (ie_callB h__law_take (hr.mono (by decide)) (by rfl) (pv 0) (ia_cons (ie_var 1 (pv 1)) ia_nil) (la_cons la_nil))))))
    (iss_cons (is_setO (i := 3) sc__law_tubs.nd rfl (.inl rfl) (io_lst ia_nil))
    (iss_cons (is_for PassesOwn.never rfl (ii_enum (by rfl) Z.enumerate_ (ie_var 2 (pv 2))) (ig_tup rfl (igs_cons (ig_name sc__law_tubs.nd rfl (.inl rfl)) (igs_cons (ig_name sc__law_tubs.nd rfl (.inl rfl)) igs_nil)) (ln_cons (ln_cons ln_nil))) (iss_cons (is_setO (i := 6) sc__law_tubs.nd rfl (.inl rfl) io_dnewK)
    (iss_cons (is_set (i := 7) sc__law_tubs.nd rfl (.inl rfl) (ie_ix (ip_of (ie_own (io_lst (ia_cons ie_int (ia_cons ie_int (ia_cons ie_int ia_nil)))))) (ie_callB h__law_take (hr.mono (by decide)) (by rfl) (pv 0) (ia_cons ie_int ia_nil) (la_cons la_nil))))
    (iss_cons (is_for PassesOwn.never rfl (ii_range1 (by rfl) Z.range_ (ie_callB h__law_take (hr.mono (by decide)) (by rfl) (pv 0) (ia_cons ie_int ia_nil) (la_cons la_nil))) (ig_name sc__law_tubs.nd rfl (.inl rfl)) (iss_one (is_dput hu (pv 6) (ie_callB h__law_take (hr.mono (by decide)) (by rfl) (pv 0) (ia_cons (ie_var 7 (pv 7)) ia_nil) (la_cons la_nil)) ie_bl)))
    (iss_cons (is_setO (i := 9) sc__law_tubs.nd rfl (.inl rfl) (io_lst ia_nil))
    (iss_cons (is_for PassesOwn.never rfl (ii_seq (ie_own (io_sortedD rfl (by rfl) Z.sorted_ (ip_var 6 (pv 6))))) (ig_name sc__law_tubs.nd rfl (.inl rfl)) (iss_cons (is_set (i := 11) sc__law_tubs.nd rfl (.inl rfl) (ie_add ie_int (ie_callB h__law_take (hr.mono (by decide)) (by rfl) (pv 0) (ia_cons (ie_ix (ip_of (ie_own (io_lst (ia_cons ie_int (ia_cons ie_int ia_nil))))) (ie_callB h__law_take (hr.mono (by decide)) (by rfl) (pv 0) (ia_cons ie_int ia_nil) (la_cons la_nil))) ia_nil) (la_cons la_nil))))
    (iss_one (is_app (pv 9) (ie_tup (ia_cons (ie_var 10 (pv 10)) (ia_cons (ie_var 11 (pv 11)) (ia_cons (ie_callB h__law_of (hr.mono (by decide)) (by rfl) (pv 0) (ia_cons (ie_own (io_catL (ie_own (io_catL (ie_own (io_lst (ia_cons ie_str ia_nil))) (ie_sl (ip_var 2 (pv 2)) (iq_some (ie_add (ie_var 4 (pv 4)) ie_int)) iq_none))) (ie_sl (ip_var 2 (pv 2)) (iq_some (ie_add (ie_var 4 (pv 4)) ie_int)) iq_none))) ia_nil) (la_cons la_nil)) ia_nil))))))))
    (iss_one (is_app (pv 3) (ie_tup (ia_cons (ie_var 5 (pv 5)) (ia_cons (ie_add ie_int (ie_callB h__law_take (hr.mono (by decide)) (by rfl) (pv 0) (ia_cons (ie_ix (ip_of (ie_own (io_lst (ia_cons ie_int (ia_cons ie_int ia_nil))))) (ie_callB h__law_take (hr.mono (by decide)) (by rfl) (pv 0) (ia_cons ie_int ia_nil) (la_cons la_nil))) ia_nil) (la_cons la_nil))) (ia_cons (ie_tuple (by rfl) Z.tuple_ (ip_var 9 (pv 9))) ia_nil))))))))))))
    (iss_one (is_ret (ie_tuple (by rfl) Z.tuple_ (ip_var 3 (pv 3))))))))
abbrev s__law_rain : Stmt := topS 24
abbrev N__law_rain : List Str := ["bag", "tubs", "found", "name", "ground", "holes", "sums", "total", "hole"]
theorem sc__law_rain : FnScope N__law_rain ["bag", "tubs"] (defScope s__law_rain) := ⟨rfl, rfl, rfl, by decide +kernel, rfl, by decide +kernel, by decide +kernel⟩
theorem ok__law_rain {f : Addr} {fd : FuncData} (F : Fun K "_law_rain" "_law_rain" s__law_rain f fd) (Z : Bt K mg) (h__law_take : HasFn P w K mg base 1 "_law_take" (spB K 1 F__law_take)) (h__law_of : HasFn P w K mg base 2 "_law_of" (spB K 1 F__law_of)) : FnOk P w K mg base CX0 3 f fd ["bag", "tubs"] (spB K 1 F__law_rain) :=
  fn_okB F sc__law_rain rfl fun cdv A outer s H E B hr =>
    have hu := hu_of hr
    (iss_cons (is_setO (i := 2) sc__law_rain.nd rfl (.inl rfl) (io_lst ia_nil))
    (iss_cons (is_for PassesOwn.never rfl (ii_seq (ie_var 1 (pv 1))) (ig_tup rfl (igs_cons (ig_name sc__law_rain.nd rfl (.inl rfl)) (igs_cons (ig_name sc__law_rain.nd rfl (.inl rfl)) (igs_cons (ig_name sc__law_rain.nd rfl (.inl rfl)) igs_nil))) (ln_cons (ln_cons (ln_cons ln_nil)))) (iss_cons (is_parO (i := 6) (j := 7) rfl sc__law_rain.nd rfl rfl (by decide) rfl rfl (io_lst (ia_cons ie_int ia_nil)) pe_int (fun _ => by simp only [Rep]))
    (iss_cons (is_for PassesOwn.never rfl (ii_seq (ie_var 5 (pv 5))) (ig_name sc__law_rain.nd rfl (.inl rfl)) (iss_cons (is_set (i := 7) sc__law_rain.nd rfl (.inl rfl) (ie_add (ie_var 7 (pv 7)) (ie_ix (ip_var 8 (pv 8)) ie_int)))
    (iss_one (is_app (pv 6) (ie_var 7 (pv 7))))))
    (iss_one (is_app (pv 2) (ie_ix (ip_of (ie_own (io_lst (ia_cons (ie_callB h__law_of (hr.mono (by decide)) (by rfl) (pv 0) (ia_cons (ie_var 6 (pv 6)) ia_nil) (la_cons la_nil)) (ia_cons (ie_callB h__law_take (hr.mono (by decide)) (by rfl) (pv 0) (ia_cons ie_int ia_nil) (la_cons la_nil)) (ia_cons (ie_callB h__law_take (hr.mono (by decide)) (by rfl) (pv 0) (ia_cons ie_int ia_nil) (la_cons la_nil)) (ia_cons ie_int ia_nil))))))) (ie_callB h__law_take (hr.mono (by decide)) (by rfl) (pv 0) (ia_cons ie_int ia_nil) (la_cons la_nil))))))))
    (iss_one (is_ret (ie_tuple (by rfl) Z.tuple_ (ip_var 2 (pv 2)))))))
abbrev s__law_ends : Stmt := topS 25
abbrev N__law_ends : List Str := ["tubs", "rain", "coming", "lets", "name", "ground", "holes", "left", "level", "rate", "into", "tub"]
theorem sc__law_ends : FnScope N__law_ends ["tubs", "rain"] (defScope s__law_ends) := ⟨rfl, rfl, rfl, by decide +kernel, rfl, by decide +kernel, by decide +kernel⟩
theorem ok__law_ends {f : Addr} {fd : FuncData} (F : Fun K "_law_ends" "_law_ends" s__law_ends f fd) (Z : Bt K mg)  : FnOk P w K mg base CX0 1 f fd ["tubs", "rain"] (spF K 2 F__law_ends) :=
  fn_okF F sc__law_ends fun cdv A outer s H E B hr =>
    have hu := hu_of hr
    (iss_cons (is_setO (i := 2) sc__law_ends.nd rfl (.inr rfl) (io_dictP rfl (by rfl) Z.dict_ (ip_of (ie_own (io_lc (own := [("tub", 11), ("rate", 9)]) rfl sc__law_ends.nd (ii_zip (by rfl) Z.zip_ (ie_var 0 (pv 0)) (ie_var 1 (pv 1))) (blkOk_by (N := N__law_ends) (sc := defScope s__law_ends) (by decide +kernel)) (fun _ _ _ _ _ _ => (ig_tup rfl (igs_cons (ig_name sc__law_ends.nd rfl (.inl rfl)) (igs_cons (ig_name sc__law_ends.nd rfl (.inl rfl)) igs_nil)) (ln_cons (ln_cons ln_nil)))) (fun _ _ _ _ _ _ => its_nil) (fun _ _ _ _ _ _ => (ie_tup (ia_cons (ie_ix (ip_var 11 (pv 11)) ie_int) (ia_cons (ie_var 9 (pv 9)) ia_nil)))))))))
    (iss_cons (is_setO (i := 3) sc__law_ends.nd rfl (.inl rfl) io_dnewT)
    (iss_cons (is_for PassesOwn.never rfl (ii_seq (ie_var 0 (pv 0))) (ig_tup rfl (igs_cons (ig_name sc__law_ends.nd rfl (.inl rfl)) (igs_cons (ig_name sc__law_ends.nd rfl (.inl rfl)) (igs_cons (ig_name sc__law_ends.nd rfl (.inl rfl)) igs_nil))) (ln_cons (ln_cons (ln_cons ln_nil)))) (iss_cons (is_set (i := 7) sc__law_ends.nd rfl (.inl rfl) (ie_get hu (ip_var 2 (pv 2)) (ie_var 4 (pv 4))))
    (iss_one (is_for PassesOwn.never rfl (ii_seq (ie_var 6 (pv 6))) (ig_tup rfl (igs_cons (ig_name sc__law_ends.nd rfl (.inl rfl)) (igs_cons (ig_name sc__law_ends.nd rfl (.inl rfl)) (igs_cons (ig_name sc__law_ends.nd rfl (.inl rfl)) igs_nil))) (ln_cons (ln_cons (ln_cons ln_nil)))) (iss_cons (is_dput hu (pv 3) (ie_tup (ia_cons (ie_var 4 (pv 4)) (ia_cons (ie_var 8 (pv 8)) ia_nil))) (ie_min rfl (by rfl) Z.min_ (ie_var 9 (pv 9)) (ie_var 7 (pv 7))))
    (iss_cons (is_set (i := 7) sc__law_ends.nd rfl (.inl rfl) (ie_sub (ie_var 7 (pv 7)) (ie_min rfl (by rfl) Z.min_ (ie_var 9 (pv 9)) (ie_var 7 (pv 7)))))
    (iss_one (is_if (it_ne hr.units (ip_var 10 (pv 10)) (ip_of ie_str)) (iss_one (is_dput hu (pv 2) (ie_var 10 (pv 10)) (ie_add (ie_get hu (ip_var 2 (pv 2)) (ie_var 10 (pv 10))) (ie_get hu (ip_var 3 (pv 3)) (ie_tup (ia_cons (ie_var 4 (pv 4)) (ia_cons (ie_var 8 (pv 8)) ia_nil))))))) iss_nil))))))))
    (iss_one (is_ret (ie_tup (ia_cons (ie_own (io_lc (own := [("tub", 11)]) rfl sc__law_ends.nd (ii_seq (ie_var 0 (pv 0))) (blkOk_by (N := N__law_ends) (sc := defScope s__law_ends) (by decide +kernel)) (fun _ _ _ _ _ _ => (ig_name sc__law_ends.nd rfl (.inl rfl))) (fun _ _ _ _ _ _ => its_nil) (fun _ _ _ _ _ _ => (ie_get hu (ip_var 2 (pv 2)) (ie_ix (ip_var 11 (pv 11)) ie_int))))) (ia_cons (ie_var 3 (pv 3)) ia_nil))))))))
abbrev s_spot : Stmt := topS 10
abbrev N_spot : List Str := ["tubs", "name", "tub"]
theorem sc_spot : FnScope N_spot ["tubs", "name"] (defScope s_spot) := ⟨rfl, rfl, rfl, by decide +kernel, rfl, by decide +kernel, by decide +kernel⟩
theorem ok_spot {f : Addr} {fd : FuncData} (F : Fun K "spot" "spot" s_spot f fd) (Z : Bt K mg)  : FnOk P w K mg base CX0 1 f fd ["tubs", "name"] (spF K 2 F_spot) :=
  fn_okF F sc_spot fun cdv A outer s H E B hr =>
    have hu := hu_of hr
    (iss_one (is_ret (ie_index (ie_own (io_lc (own := [("tub", 2)]) rfl sc_spot.nd (ii_seq (ie_var 0 (pv 0))) (blkOk_by (N := N_spot) (sc := defScope s_spot) (by decide +kernel)) (fun _ _ _ _ _ _ => (ig_name sc_spot.nd rfl (.inl rfl))) (fun _ _ _ _ _ _ => its_nil) (fun _ _ _ _ _ _ => (ie_ix (ip_var 2 (pv 2)) ie_int)))) (ie_var 1 (pv 1)))))
abbrev s_rest_of : Stmt := topS 3
abbrev N_rest_of : List Str := ["holes", "much", "low", "left", "height", "rate", "into"]
theorem sc_rest_of : FnScope N_rest_of ["holes", "much"] (defScope s_rest_of) := ⟨rfl, rfl, rfl, by decide +kernel, rfl, by decide +kernel, by decide +kernel⟩
theorem ok_rest_of {f : Addr} {fd : FuncData} (F : Fun K "rest_of" "rest_of" s_rest_of f fd) (Z : Bt K mg)  : FnOk P w K mg base CX0 1 f fd ["holes", "much"] (spF K 2 F_rest_of) :=
  fn_okF F sc_rest_of fun cdv A outer s H E B hr =>
    have hu := hu_of hr
    (iss_cons (is_par (i := 2) (j := 3) rfl sc_rest_of.nd rfl rfl (by decide) rfl rfl ie_int (ie_var 1 (pv 1)))
    (iss_cons (is_for PassesOwn.never rfl (ii_seq (ie_var 0 (pv 0))) (ig_tup rfl (igs_cons (ig_name sc_rest_of.nd rfl (.inl rfl)) (igs_cons (ig_name sc_rest_of.nd rfl (.inl rfl)) (igs_cons (ig_name sc_rest_of.nd rfl (.inl rfl)) igs_nil))) (ln_cons (ln_cons (ln_cons ln_nil)))) (iss_cons (is_if (it_eq hr.units (ip_var 3 (pv 3)) (ip_of ie_int)) (iss_one (is_ret (ie_tup (ia_cons (ie_var 2 (pv 2)) (ia_cons (ie_var 4 (pv 4)) ia_nil))))) iss_nil)
    (iss_cons (is_if (it_lt (ie_var 3 (pv 3)) (ie_var 5 (pv 5))) (iss_one (is_ret (ie_tup (ia_cons (ie_var 4 (pv 4)) (ia_cons (ie_var 4 (pv 4)) ia_nil))))) iss_nil)
    (iss_one (is_par (i := 2) (j := 3) rfl sc_rest_of.nd rfl rfl (by decide) rfl rfl (ie_var 4 (pv 4)) (ie_sub (ie_var 3 (pv 3)) (ie_var 5 (pv 5))))))))
    (iss_one (is_ret (ie_if (it_eq hr.units (ip_var 3 (pv 3)) (ip_of ie_int)) (ie_tup (ia_cons (ie_var 2 (pv 2)) (ia_cons ie_non ia_nil))) (ie_tup (ia_cons ie_str ia_nil)))))))
abbrev s_ends_of : Stmt := topS 1
abbrev N_ends_of : List Str := ["tubs", "rain", "comes", "lets", "name", "ground", "holes", "left", "height", "rate", "into", "tub"]
theorem sc_ends_of : FnScope N_ends_of ["tubs", "rain"] (defScope s_ends_of) := ⟨rfl, rfl, rfl, by decide +kernel, rfl, by decide +kernel, by decide +kernel⟩
theorem ok_ends_of {f : Addr} {fd : FuncData} (F : Fun K "ends_of" "ends_of" s_ends_of f fd) (Z : Bt K mg)  : FnOk P w K mg base CX0 1 f fd ["tubs", "rain"] (spF K 2 F_ends_of) :=
  fn_okF F sc_ends_of fun cdv A outer s H E B hr =>
    have hu := hu_of hr
    (iss_cons (is_setDc (i := 2) (own := [("tub", 11), ("rate", 9)]) rfl sc_ends_of.nd rfl rfl (sw_trueD rfl rfl rfl (by decide +kernel)) (ii_zip (by rfl) Z.zip_ (ie_var 0 (pv 0)) (ie_var 1 (pv 1))) (blkOk_by (N := N_ends_of) (sc := defScope s_ends_of) (by decide +kernel)) (fun _ _ _ _ _ _ => (ig_tup rfl (igs_cons (ig_name sc_ends_of.nd rfl (.inl rfl)) (igs_cons (ig_name sc_ends_of.nd rfl (.inl rfl)) igs_nil)) (ln_cons (ln_cons ln_nil)))) (fun _ _ _ _ _ _ => its_nil) (fun _ _ _ _ _ _ => (ie_ix (ip_var 11 (pv 11)) ie_int)) (fun _ _ _ _ _ _ => (ie_var 9 (pv 9))))
    (iss_cons (is_setO (i := 3) sc_ends_of.nd rfl (.inl rfl) io_dnewT)
    (iss_cons (is_for PassesOwn.never rfl (ii_seq (ie_var 0 (pv 0))) (ig_tup rfl (igs_cons (ig_name sc_ends_of.nd rfl (.inl rfl)) (igs_cons (ig_name sc_ends_of.nd rfl (.inl rfl)) (igs_cons (ig_name sc_ends_of.nd rfl (.inl rfl)) igs_nil))) (ln_cons (ln_cons (ln_cons ln_nil)))) (iss_cons (is_set (i := 7) sc_ends_of.nd rfl (.inl rfl) (ie_get hu (ip_var 2 (pv 2)) (ie_var 4 (pv 4))))
    (iss_one (is_for PassesOwn.never rfl (ii_seq (ie_var 6 (pv 6))) (ig_tup rfl (igs_cons (ig_name sc_ends_of.nd rfl (.inl rfl)) (igs_cons (ig_name sc_ends_of.nd rfl (.inl rfl)) (igs_cons (ig_name sc_ends_of.nd rfl (.inl rfl)) igs_nil))) (ln_cons (ln_cons (ln_cons ln_nil)))) (iss_cons (is_dput hu (pv 3) (ie_tup (ia_cons (ie_var 4 (pv 4)) (ia_cons (ie_var 8 (pv 8)) ia_nil))) (ie_min rfl (by rfl) Z.min_ (ie_var 9 (pv 9)) (ie_var 7 (pv 7))))
    (iss_cons (is_aug ip_sub sc_ends_of.nd rfl (.inl rfl) (ie_get hu (ip_var 3 (pv 3)) (ie_tup (ia_cons (ie_var 4 (pv 4)) (ia_cons (ie_var 8 (pv 8)) ia_nil)))))
    (iss_one (is_if (it_ne hr.units (ip_var 10 (pv 10)) (ip_of ie_str)) (iss_one (is_daug (fun _ _ _ _ q => ⟨_, _, rfl, rfl, q⟩) in_add hu (pv 2) (ie_var 10 (pv 10)) (ie_get hu (ip_var 3 (pv 3)) (ie_tup (ia_cons (ie_var 4 (pv 4)) (ia_cons (ie_var 8 (pv 8)) ia_nil)))))) iss_nil))))))))
    (iss_one (is_ret (ie_tup (ia_cons (ie_var 2 (pv 2)) (ia_cons (ie_var 3 (pv 3)) ia_nil))))))))
abbrev s_comes : Stmt := topS 2
abbrev N_comes : List Str := ["tubs", "rain", "found", "tub"]
theorem sc_comes : FnScope N_comes ["tubs", "rain"] (defScope s_comes) := ⟨rfl, rfl, rfl, by decide +kernel, rfl, by decide +kernel, by decide +kernel⟩
theorem ok_comes {f : Addr} {fd : FuncData} (F : Fun K "comes" "comes" s_comes f fd) (Z : Bt K mg) (h_ends_of : HasFn P w K mg base 1 "ends_of" (spF K 2 F_ends_of)) : FnOk P w K mg base CX0 2 f fd ["tubs", "rain"] (spF K 2 F_comes) :=
  fn_okF F sc_comes fun cdv A outer s H E B hr =>
    have hu := hu_of hr
    (iss_cons (is_set (i := 2) sc_comes.nd rfl (.inr rfl) (ie_ix (ip_of (ie_call h_ends_of (hr.mono (by decide)) (by rfl) rfl (ia_cons (ie_var 0 (pv 0)) (ia_cons (ie_var 1 (pv 1)) ia_nil)) (la_cons (la_cons la_nil)))) ie_int))
    (iss_one (is_ret (ie_tuple (by rfl) Z.tuple_ (ip_of (ie_own (io_lc (own := [("tub", 3)]) rfl sc_comes.nd (ii_seq (ie_var 0 (pv 0))) (blkOk_by (N := N_comes) (sc := defScope s_comes) (by decide +kernel)) (fun _ _ _ _ _ _ => (ig_name sc_comes.nd rfl (.inl rfl))) (fun _ _ _ _ _ _ => its_nil) (fun _ _ _ _ _ _ => (ie_get hu (ip_var 2 (pv 2)) (ie_ix (ip_var 3 (pv 3)) ie_int))))))))))
abbrev s_rests : Stmt := topS 4
abbrev N_rests : List Str := ["tubs", "rain", "tub", "much"]
theorem sc_rests : FnScope N_rests ["tubs", "rain"] (defScope s_rests) := ⟨rfl, rfl, rfl, by decide +kernel, rfl, by decide +kernel, by decide +kernel⟩
theorem ok_rests {f : Addr} {fd : FuncData} (F : Fun K "rests" "rests" s_rests f fd) (Z : Bt K mg) (h_rest_of : HasFn P w K mg base 1 "rest_of" (spF K 2 F_rest_of)) (h_comes : HasFn P w K mg base 2 "comes" (spF K 2 F_comes)) : FnOk P w K mg base CX0 3 f fd ["tubs", "rain"] (spF K 2 F_rests) :=
  fn_okF F sc_rests fun cdv A outer s H E B hr =>
    have hu := hu_of hr
    (iss_one (is_retO (io_lc (own := [("tub", 2), ("much", 3)]) rfl sc_rests.nd (ii_zip (by rfl) Z.zip_ (ie_var 0 (pv 0)) (ie_call h_comes (hr.mono (by decide)) (by rfl) rfl (ia_cons (ie_var 0 (pv 0)) (ia_cons (ie_var 1 (pv 1)) ia_nil)) (la_cons (la_cons la_nil)))) (blkOk_by (N := N_rests) (sc := defScope s_rests) (by decide +kernel)) (fun _ _ _ _ _ _ => (ig_tup rfl (igs_cons (ig_name sc_rests.nd rfl (.inl rfl)) (igs_cons (ig_name sc_rests.nd rfl (.inl rfl)) igs_nil)) (ln_cons (ln_cons ln_nil)))) (fun _ _ _ _ _ _ => its_nil) (fun _ _ _ _ _ _ => (ie_call h_rest_of (hr.mono (by decide)) (by rfl) rfl (ia_cons (ie_ix (ip_var 2 (pv 2)) ie_int) (ia_cons (ie_var 3 (pv 3)) ia_nil)) (la_cons (la_cons la_nil)))))))
abbrev s_does : Stmt := topS 11
abbrev N_does : List Str := ["tubs", "rain", "other", "height", "found"]
theorem sc_does : FnScope N_does ["tubs", "rain", "other", "height"] (defScope s_does) := ⟨rfl, rfl, rfl, by decide +kernel, rfl, by decide +kernel, by decide +kernel⟩
theorem ok_does {f : Addr} {fd : FuncData} (F : Fun K "does" "does" s_does f fd) (Z : Bt K mg) (h_rests : HasFn P w K mg base 3 "rests" (spF K 2 F_rests)) (h_spot : HasFn P w K mg base 1 "spot" (spF K 2 F_spot)) : FnOk P w K mg base CX0 4 f fd ["tubs", "rain", "other", "height"] (spF K 4 F_does) :=
  fn_okF F sc_does fun cdv A outer s H E B hr =>
    have hu := hu_of hr
    (iss_cons (is_set (i := 4) sc_does.nd rfl (.inl rfl) (ie_ix (ip_of (ie_call h_rests (hr.mono (by decide)) (by rfl) rfl (ia_cons (ie_var 0 (pv 0)) (ia_cons (ie_var 1 (pv 1)) ia_nil)) (la_cons (la_cons la_nil)))) (ie_call h_spot (hr.mono (by decide)) (by rfl) rfl (ia_cons (ie_var 0 (pv 0)) (ia_cons (ie_var 2 (pv 2)) ia_nil)) (la_cons (la_cons la_nil)))))
    (iss_one (is_ret (ie_or (ie_eq hr.units (ip_var 4 (pv 4)) (ip_of (ie_tup (ia_cons ie_str ia_nil)))) (ie_one (ie_ge (ie_ix (ip_var 4 (pv 4)) ie_int) (ie_var 3 (pv 3))))))))
abbrev s_least_rain : Stmt := topS 12
abbrev N_least_rain : List Str := ["tubs", "rain", "name", "other", "height", "at", "low", "high", "middle"]
theorem sc_least_rain : FnScope N_least_rain ["tubs", "rain", "name", "other", "height"] (defScope s_least_rain) := ⟨rfl, rfl, rfl, by decide +kernel, rfl, by decide +kernel, by decide +kernel⟩
theorem ok_least_rain {f : Addr} {fd : FuncData} (F : Fun K "least_rain" "least_rain" s_least_rain f fd) (Z : Bt K mg) (h_spot : HasFn P w K mg base 1 "spot" (spF K 2 F_spot)) (h_does : HasFn P w K mg base 4 "does" (spF K 4 F_does)) : FnOk P w K mg base CX0 5 f fd ["tubs", "rain", "name", "other", "height"] (spF K 5 F_least_rain) :=
  fn_okF F sc_least_rain fun cdv A outer s H E B hr =>
    have hu := hu_of hr
    (iss_cons (is_set (i := 5) sc_least_rain.nd rfl (.inl rfl) (ie_call h_spot (hr.mono (by decide)) (by rfl) rfl (ia_cons (ie_var 0 (pv 0)) (ia_cons (ie_var 2 (pv 2)) ia_nil)) (la_cons (la_cons la_nil))))
    (iss_cons (is_par (i := 6) (j := 7) rfl sc_least_rain.nd rfl rfl (by decide) rfl rfl ie_int (ie_glob Z.g_MOST_RAIN (by rfl)))
    (iss_cons (is_if (it_not (it_val (ie_call h_does (hr.mono (by decide)) (by rfl) rfl (ia_cons (ie_var 0 (pv 0)) (ia_cons (ie_catT (ie_catT (ie_sl (ip_var 1 (pv 1)) iq_none (iq_some (ie_var 5 (pv 5)))) (ie_tup (ia_cons (ie_var 7 (pv 7)) ia_nil))) (ie_sl (ip_var 1 (pv 1)) (iq_some (ie_add (ie_var 5 (pv 5)) ie_int)) iq_none)) (ia_cons (ie_var 3 (pv 3)) (ia_cons (ie_var 4 (pv 4)) ia_nil)))) (la_cons (la_cons (la_cons (la_cons la_nil))))))) (iss_one (is_ret ie_non)) iss_nil)
    (iss_cons (is_while PassesOwn.never (it_lt (ie_var 6 (pv 6)) (ie_var 7 (pv 7))) (iss_cons (is_set (i := 8) sc_least_rain.nd rfl (.inl rfl) (ie_fdiv (ie_add (ie_var 6 (pv 6)) (ie_var 7 (pv 7))) ie_int))
    (iss_one (is_if (it_val (ie_call h_does (hr.mono (by decide)) (by rfl) rfl (ia_cons (ie_var 0 (pv 0)) (ia_cons (ie_catT (ie_catT (ie_sl (ip_var 1 (pv 1)) iq_none (iq_some (ie_var 5 (pv 5)))) (ie_tup (ia_cons (ie_var 8 (pv 8)) ia_nil))) (ie_sl (ip_var 1 (pv 1)) (iq_some (ie_add (ie_var 5 (pv 5)) ie_int)) iq_none)) (ia_cons (ie_var 3 (pv 3)) (ia_cons (ie_var 4 (pv 4)) ia_nil)))) (la_cons (la_cons (la_cons (la_cons la_nil)))))) (iss_one (is_set (i := 7) sc_least_rain.nd rfl (.inl rfl) (ie_var 8 (pv 8)))) (iss_one (is_set (i := 6) sc_least_rain.nd rfl (.inl rfl) (ie_add (ie_var 8 (pv 8)) ie_int)))))))
    (iss_one (is_ret (ie_var 6 (pv 6))))))))
abbrev s__law_within : Stmt := topS 22
abbrev N__law_within : List Str := ["thing", "least", "most"]
theorem sc__law_within : FnScope N__law_within ["thing", "least", "most"] (defScope s__law_within) := ⟨rfl, rfl, rfl, by decide +kernel, rfl, by decide +kernel, by decide +kernel⟩
theorem ok__law_within {f : Addr} {fd : FuncData} (F : Fun K "_law_within" "_law_within" s__law_within f fd) (Z : Bt K mg)  : FnOk P w K mg base CX0 1 f fd ["thing", "least", "most"] (spF K 3 F__law_within) :=
  fn_okF F sc__law_within fun cdv A outer s H E B hr =>
    have hu := hu_of hr
    (iss_one (is_ret (ie_and (ie_isi (T := "int") (by decide +kernel) (by rfl) Z.isinstance_ (by rfl) Z.int_ (ip_var 0 (pv 0))) (ie_and (ie_not (ie_isi (T := "bool") (by decide +kernel) (by rfl) Z.isinstance_ (by rfl) Z.bool_ (ip_var 0 (pv 0)))) (ie_one (ie_lele (ie_var 1 (pv 1)) (ie_var 0 (pv 0)) (ie_var 2 (pv 2))))))))
abbrev s__law_rest : Stmt := topS 26
abbrev N__law_rest : List Str := ["holes", "much", "sums", "hole", "at", "total", "low"]
theorem sc__law_rest : FnScope N__law_rest ["holes", "much"] (defScope s__law_rest) := ⟨rfl, rfl, rfl, by decide +kernel, rfl, by decide +kernel, by decide +kernel⟩
theorem ok__law_rest {f : Addr} {fd : FuncData} (F : Fun K "_law_rest" "_law_rest" s__law_rest f fd) (Z : Bt K mg)  : FnOk P w K mg base CX0 1 f fd ["holes", "much"] (spF K 2 F__law_rest) :=
  fn_okF F sc__law_rest fun cdv A outer s H E B hr =>
    have hu := hu_of hr
    (iss_cons (is_setO (i := 2) sc__law_rest.nd rfl (.inl rfl) (io_lst (ia_cons ie_int ia_nil)))
    (iss_cons (is_for PassesOwn.never rfl (ii_seq (ie_var 0 (pv 0))) (ig_name sc__law_rest.nd rfl (.inl rfl)) (iss_one (is_app (pv 2) (ie_add (ie_ix (ip_var 2 (pv 2)) (ie_neg ie_int)) (ie_ix (ip_var 3 (pv 3)) ie_int)))))
    (iss_cons (is_if (it_gt (ie_var 1 (pv 1)) (ie_ix (ip_var 2 (pv 2)) (ie_neg ie_int))) (iss_one (is_ret (ie_tup (ia_cons ie_str ia_nil)))) iss_nil)
    (iss_cons (is_for PassesOwn.never rfl (ii_enum (by rfl) Z.enumerate_ (ie_var 2 (pv 2))) (ig_tup rfl (igs_cons (ig_name sc__law_rest.nd rfl (.inl rfl)) (igs_cons (ig_name sc__law_rest.nd rfl (.inl rfl)) igs_nil)) (ln_cons (ln_cons ln_nil))) (iss_cons (is_if (it_eq hr.units (ip_var 5 (pv 5)) (ip_var 1 (pv 1))) (iss_cons (is_set (i := 6) sc__law_rest.nd rfl (.inl rfl) (ie_if (it_eq hr.units (ip_var 4 (pv 4)) (ip_of ie_int)) ie_int (ie_ix (ip_of (ie_ix (ip_var 0 (pv 0)) (ie_sub (ie_var 4 (pv 4)) ie_int))) ie_int)))
    (iss_one (is_ret (ie_tup (ia_cons (ie_var 6 (pv 6)) (ia_cons (ie_if (it_lt (ie_var 4 (pv 4)) (ie_len (by rfl) Z.len_ (ip_var 0 (pv 0)))) (ie_ix (ip_of (ie_ix (ip_var 0 (pv 0)) (ie_var 4 (pv 4)))) ie_int) ie_non) ia_nil)))))) iss_nil)
    (iss_one (is_if (it_ltlt (ie_var 5 (pv 5)) (ie_var 1 (pv 1)) (ie_ix (ip_var 2 (pv 2)) (ie_add (ie_var 4 (pv 4)) ie_int))) (iss_one (is_ret (ie_tup (ia_cons (ie_ix (ip_of (ie_ix (ip_var 0 (pv 0)) (ie_var 4 (pv 4)))) ie_int) (ia_cons (ie_ix (ip_of (ie_ix (ip_var 0 (pv 0)) (ie_var 4 (pv 4)))) ie_int) ia_nil))))) iss_nil))))
    (iss_one (is_ret ie_non))))))
abbrev s__law_stands_so : Stmt := topS 27
abbrev N__law_stands_so : List Str := ["tubs", "rain", "at", "level", "rest"]
theorem sc__law_stands_so : FnScope N__law_stands_so ["tubs", "rain", "at", "level"] (defScope s__law_stands_so) := ⟨rfl, rfl, rfl, by decide +kernel, rfl, by decide +kernel, by decide +kernel⟩
theorem ok__law_stands_so {f : Addr} {fd : FuncData} (F : Fun K "_law_stands_so" "_law_stands_so" s__law_stands_so f fd) (Z : Bt K mg) (h__law_rest : HasFn P w K mg base 1 "_law_rest" (spF K 2 F__law_rest)) (h__law_ends : HasFn P w K mg base 1 "_law_ends" (spF K 2 F__law_ends)) : FnOk P w K mg base CX0 2 f fd ["tubs", "rain", "at", "level"] (spF K 4 F__law_stands_so) :=
  fn_okF F sc__law_stands_so fun cdv A outer s H E B hr =>
    have hu := hu_of hr
    (iss_cons (is_set (i := 4) sc__law_stands_so.nd rfl (.inl rfl) (ie_call h__law_rest (hr.mono (by decide)) (by rfl) rfl (ia_cons (ie_ix (ip_of (ie_ix (ip_var 0 (pv 0)) (ie_var 2 (pv 2)))) ie_int) (ia_cons (ie_ix (ip_of (ie_ix (ip_of (ie_call h__law_ends (hr.mono (by decide)) (by rfl) rfl (ia_cons (ie_var 0 (pv 0)) (ia_cons (ie_var 1 (pv 1)) ia_nil)) (la_cons (la_cons la_nil)))) ie_int)) (ie_var 2 (pv 2))) ia_nil)) (la_cons (la_cons la_nil))))
    (iss_one (is_ret (ie_or (ie_eq hr.units (ip_var 4 (pv 4)) (ip_of (ie_tup (ia_cons ie_str ia_nil)))) (ie_one (ie_ge (ie_ix (ip_var 4 (pv 4)) ie_int) (ie_var 3 (pv 3))))))))
abbrev s__law_least_so : Stmt := topS 28
abbrev N__law_least_so : List Str := ["tubs", "rain", "one", "other", "level", "told", "ahead", "behind"]
theorem sc__law_least_so : FnScope N__law_least_so ["tubs", "rain", "one", "other", "level"] (defScope s__law_least_so) := ⟨rfl, rfl, rfl, by decide +kernel, rfl, by decide +kernel, by decide +kernel⟩
theorem ok__law_least_so {f : Addr} {fd : FuncData} (F : Fun K "_law_least_so" "_law_least_so" s__law_least_so f fd) (Z : Bt K mg) (h_least_rain : HasFn P w K mg base 5 "least_rain" (spF K 5 F_least_rain)) (h__law_within : HasFn P w K mg base 1 "_law_within" (spF K 3 F__law_within)) (h__law_stands_so : HasFn P w K mg base 2 "_law_stands_so" (spF K 4 F__law_stands_so)) : FnOk P w K mg base CX0 6 f fd ["tubs", "rain", "one", "other", "level"] (spF K 5 F__law_least_so) :=
  fn_okF F sc__law_least_so fun cdv A outer s H E B hr =>
    have hu := hu_of hr
    (iss_cons (is_set (i := 5) sc__law_least_so.nd rfl (.inl rfl) (ie_call h_least_rain (hr.mono (by decide)) (by rfl) rfl (ia_cons (ie_var 0 (pv 0)) (ia_cons (ie_var 1 (pv 1)) (ia_cons (ie_ix (ip_of (ie_ix (ip_var 0 (pv 0)) (ie_var 2 (pv 2)))) ie_int) (ia_cons (ie_ix (ip_of (ie_ix (ip_var 0 (pv 0)) (ie_var 3 (pv 3)))) ie_int) (ia_cons (ie_var 4 (pv 4)) ia_nil))))) (la_cons (la_cons (la_cons (la_cons (la_cons la_nil)))))))
    (iss_cons (is_par (i := 6) (j := 7) rfl sc__law_least_so.nd rfl rfl (by decide) rfl rfl (ie_sl (ip_var 1 (pv 1)) iq_none (iq_some (ie_var 2 (pv 2)))) (ie_sl (ip_var 1 (pv 1)) (iq_some (ie_add (ie_var 2 (pv 2)) ie_int)) iq_none))
    (iss_cons (is_if (it_isN (ip_var 5 (pv 5))) (iss_one (is_ret (ie_not (ie_call h__law_stands_so (hr.mono (by decide)) (by rfl) rfl (ia_cons (ie_var 0 (pv 0)) (ia_cons (ie_catT (ie_catT (ie_var 6 (pv 6)) (ie_tup (ia_cons ie_int ia_nil))) (ie_var 7 (pv 7))) (ia_cons (ie_var 3 (pv 3)) (ia_cons (ie_var 4 (pv 4)) ia_nil)))) (la_cons (la_cons (la_cons (la_cons la_nil)))))))) iss_nil)
    (iss_cons (is_if (it_not (it_val (ie_call h__law_within (hr.mono (by decide)) (by rfl) rfl (ia_cons (ie_var 5 (pv 5)) (ia_cons ie_int (ia_cons ie_int ia_nil))) (la_cons (la_cons (la_cons la_nil)))))) (iss_one (is_ret ie_bl)) iss_nil)
    (iss_cons (is_if (it_not (it_val (ie_call h__law_stands_so (hr.mono (by decide)) (by rfl) rfl (ia_cons (ie_var 0 (pv 0)) (ia_cons (ie_catT (ie_catT (ie_var 6 (pv 6)) (ie_tup (ia_cons (ie_var 5 (pv 5)) ia_nil))) (ie_var 7 (pv 7))) (ia_cons (ie_var 3 (pv 3)) (ia_cons (ie_var 4 (pv 4)) ia_nil)))) (la_cons (la_cons (la_cons (la_cons la_nil))))))) (iss_one (is_ret ie_bl)) iss_nil)
    (iss_cons (is_if (it_eq hr.units (ip_var 5 (pv 5)) (ip_of ie_int)) (iss_one (is_ret ie_bl)) iss_nil)
    (iss_one (is_ret (ie_not (ie_call h__law_stands_so (hr.mono (by decide)) (by rfl) rfl (ia_cons (ie_var 0 (pv 0)) (ia_cons (ie_catT (ie_catT (ie_var 6 (pv 6)) (ie_tup (ia_cons (ie_sub (ie_var 5 (pv 5)) ie_int) ia_nil))) (ie_var 7 (pv 7))) (ia_cons (ie_var 3 (pv 3)) (ia_cons (ie_var 4 (pv 4)) ia_nil)))) (la_cons (la_cons (la_cons (la_cons la_nil))))))))))))))
abbrev s_holes_of : Stmt := topS 7
abbrev N_holes_of : List Str := ["tubs", "tub", "hole"]
theorem sc_holes_of : FnScope N_holes_of ["tubs"] (defScope s_holes_of) := ⟨rfl, rfl, rfl, by decide +kernel, rfl, by decide +kernel, by decide +kernel⟩
theorem ok_holes_of {f : Addr} {fd : FuncData} (F : Fun K "holes_of" "holes_of" s_holes_of f fd) (Z : Bt K mg)  : FnOk P w K mg base CX0 1 f fd ["tubs"] (spF K 1 F_holes_of) :=
  fn_okF F sc_holes_of fun cdv A outer s H E B hr =>
    have hu := hu_of hr
    (iss_one (is_ret (ie_own (io_lc2 (own := [("tub", 1), ("hole", 2)]) (vs1 := [2]) rfl sc_holes_of.nd (ii_seq (ie_var 0 (pv 0))) (blkOk_by (N := N_holes_of) (sc := defScope s_holes_of) (by decide +kernel)) (fun _ _ _ _ _ _ => (ig_name sc_holes_of.nd rfl (.inl rfl))) (fun _ _ _ _ _ _ => (ii_seq (ie_ix (ip_var 1 (pv 1)) ie_int))) (fun _ _ _ _ _ _ => (ig_name sc_holes_of.nd rfl (.inl rfl))) (fun _ _ _ _ _ _ => (ie_tup (ia_cons (ie_ix (ip_var 1 (pv 1)) ie_int) (ia_cons (ie_ix (ip_var 2 (pv 2)) ie_int) ia_nil))))))))
abbrev s_lots : Stmt := topS 16
abbrev N_lots : List Str := ["some", "many", "found", "at", "one", "lot"]
theorem sc_lots : FnScope N_lots ["some", "many"] (defScope s_lots) := ⟨rfl, rfl, rfl, by decide +kernel, rfl, by decide +kernel, by decide +kernel⟩
theorem ok_lots {f : Addr} {fd : FuncData} (F : Fun K "lots" "lots" s_lots f fd) (Z : Bt K mg) (hm : mg "lots" = some (.ref f)) (hk : PySem.W.keepIn K (.ref f) = true) (hbd : Binds K fd ["some", "many"] []) : ∀ n, FnOk P w K mg base CX0 n f fd ["some", "many"] (spF K 2 (F_lots n))
  | 0 => ⟨fun vs H Q E h => by obtain ⟨_, _, _, _, hl, _⟩ := h; exact hl, fun A outer s H args us vs Q E _ _ _ _ h => by obtain ⟨_, _, _, _, _, _, _, hG, _⟩ := h; cases hG⟩
  | n + 1 => by
    have h_lots : HasFn P w K mg base n "lots" (spF K 2 (F_lots n)) := ⟨f, fd, _, ok_lots F Z hm hk hbd n, hm, hk, hbd⟩
    exact fn_okF (fs := f_lots (F_lots n)) F sc_lots fun cdv A outer s H E B hr =>
      have hu := hu_of hr
      (iss_cons (is_if (it_eq hr.units (ip_var 1 (pv 1)) (ip_of ie_int)) (iss_one (is_ret (ie_own (io_lst (ia_cons (ie_tup ia_nil) ia_nil))))) iss_nil)
    (iss_cons (is_setO (i := 2) sc_lots.nd rfl (.inl rfl) (io_lst ia_nil))
    (iss_cons (is_for PassesOwn.never rfl (ii_enum (by rfl) Z.enumerate_ (ie_var 0 (pv 0))) (ig_tup rfl (igs_cons (ig_name sc_lots.nd rfl (.inl rfl)) (igs_cons (ig_name sc_lots.nd rfl (.inr rfl)) igs_nil)) (ln_cons (ln_cons ln_nil))) (iss_one (is_set (i := 2) sc_lots.nd rfl (.inl rfl) (ie_own (io_catL (ie_var 2 (pv 2)) (ie_own (io_lc (own := [("lot", 5)]) rfl sc_lots.nd (ii_seq (ie_call h_lots hr (by rfl) rfl (ia_cons (ie_sl (ip_var 0 (pv 0)) (iq_some (ie_add (ie_var 3 (pv 3)) ie_int)) iq_none) (ia_cons (ie_sub (ie_var 1 (pv 1)) ie_int) ia_nil)) (la_cons (la_cons la_nil)))) (blkOk_by (N := N_lots) (sc := defScope s_lots) (by decide +kernel)) (fun _ _ _ _ _ _ => (ig_name sc_lots.nd rfl (.inl rfl))) (fun _ _ _ _ _ _ => its_nil) (fun _ _ _ _ _ _ => (ie_catT (ie_tup (ia_cons (ie_var 4 (pv 4)) ia_nil)) (ie_var 5 (pv 5)))))))))))
    (iss_one (is_ret (ie_var 2 (pv 2)))))))
abbrev s_without : Stmt := topS 15
abbrev N_without : List Str := ["tubs", "plugs", "found", "name", "ground", "holes", "hole"]
theorem sc_without : FnScope N_without ["tubs", "plugs"] (defScope s_without) := ⟨rfl, rfl, rfl, by decide +kernel, rfl, by decide +kernel, by decide +kernel⟩
theorem ok_without {f : Addr} {fd : FuncData} (F : Fun K "without" "without" s_without f fd) (Z : Bt K mg)  : FnOk P w K mg base CX0 1 f fd ["tubs", "plugs"] (spF K 2 F_without) :=
  fn_okF F sc_without fun cdv A outer s H E B hr =>
    have hu := hu_of hr
    (iss_cons (is_setO (i := 2) sc_without.nd rfl (.inl rfl) (io_lst ia_nil))
    (iss_cons (is_for PassesOwn.never rfl (ii_seq (ie_var 0 (pv 0))) (ig_tup rfl (igs_cons (ig_name sc_without.nd rfl (.inr rfl)) (igs_cons (ig_name sc_without.nd rfl (.inl rfl)) (igs_cons (ig_name sc_without.nd rfl (.inl rfl)) igs_nil))) (ln_cons (ln_cons (ln_cons ln_nil)))) (iss_one (is_app (pv 2) (ie_tup (ia_cons (ie_var 3 (pv 3)) (ia_cons (ie_var 4 (pv 4)) (ia_cons (ie_tuple (by rfl) Z.tuple_ (ip_of (ie_own (io_lc (own := [("hole", 6)]) rfl sc_without.nd (ii_seq (ie_var 5 (pv 5))) (blkOk_by (N := N_without) (sc := defScope s_without) (by decide +kernel)) (fun _ _ _ _ _ _ => (ig_name sc_without.nd rfl (.inl rfl))) (fun _ _ _ _ _ _ => (its_one (it_inQn hr.units (ip_of (ie_tup (ia_cons (ie_var 3 (pv 3)) (ia_cons (ie_ix (ip_var 6 (pv 6)) ie_int) ia_nil)))) (ip_var 1 (pv 1))))) (fun _ _ _ _ _ _ => (ie_var 6 (pv 6))))))) ia_nil)))))))
    (iss_one (is_ret (ie_tuple (by rfl) Z.tuple_ (ip_var 2 (pv 2)))))))
abbrev s_fewest_plugs : Stmt := topS 17
abbrev N_fewest_plugs : List Str := ["tubs", "rain", "name", "much", "every", "many", "lot"]
theorem sc_fewest_plugs : FnScope N_fewest_plugs ["tubs", "rain", "name", "much"] (defScope s_fewest_plugs) := ⟨rfl, rfl, rfl, by decide +kernel, rfl, by decide +kernel, by decide +kernel⟩
theorem ok_fewest_plugs {f : Addr} {fd : FuncData} (F : Fun K "fewest_plugs" "fewest_plugs" s_fewest_plugs f fd) (Z : Bt K mg) (h_holes_of : HasFn P w K mg base 1 "holes_of" (spF K 1 F_holes_of)) (h_lots : HasFn P w K mg base 12 "lots" (spF K 2 (F_lots 12))) (h_comes : HasFn P w K mg base 2 "comes" (spF K 2 F_comes)) (h_spot : HasFn P w K mg base 1 "spot" (spF K 2 F_spot)) (h_without : HasFn P w K mg base 1 "without" (spF K 2 F_without)) : FnOk P w K mg base CX0 13 f fd ["tubs", "rain", "name", "much"] (spF K 4 F_fewest_plugs) :=
  fn_okF F sc_fewest_plugs fun cdv A outer s H E B hr =>
    have hu := hu_of hr
    (iss_cons (is_set (i := 4) sc_fewest_plugs.nd rfl (.inl rfl) (ie_own (io_sortT (by rfl) Z.sorted_ (ip_of (ie_call h_holes_of (hr.mono (by decide)) (by rfl) rfl (ia_cons (ie_var 0 (pv 0)) ia_nil) (la_cons la_nil))))))
    (iss_cons (is_for PassesOwn.never rfl (ii_range1 (by rfl) Z.range_ (ie_add (ie_len (by rfl) Z.len_ (ip_var 4 (pv 4))) ie_int)) (ig_name sc_fewest_plugs.nd rfl (.inl rfl)) (iss_one (is_for PassesOwn.never rfl (ii_seq (ie_call h_lots (hr.mono (by decide)) (by rfl) rfl (ia_cons (ie_var 4 (pv 4)) (ia_cons (ie_var 5 (pv 5)) ia_nil)) (la_cons (la_cons la_nil)))) (ig_name sc_fewest_plugs.nd rfl (.inl rfl)) (iss_one (is_if (it_ge (ie_ix (ip_of (ie_call h_comes (hr.mono (by decide)) (by rfl) rfl (ia_cons (ie_call h_without (hr.mono (by decide)) (by rfl) rfl (ia_cons (ie_var 0 (pv 0)) (ia_cons (ie_var 6 (pv 6)) ia_nil)) (la_cons (la_cons la_nil))) (ia_cons (ie_var 1 (pv 1)) ia_nil)) (la_cons (la_cons la_nil)))) (ie_call h_spot (hr.mono (by decide)) (by rfl) rfl (ia_cons (ie_var 0 (pv 0)) (ia_cons (ie_var 2 (pv 2)) ia_nil)) (la_cons (la_cons la_nil)))) (ie_var 3 (pv 3))) (iss_one (is_ret (ie_var 6 (pv 6)))) iss_nil)))))
    (iss_one (is_ret ie_non))))
abbrev s__law_lots : Stmt := topS 31
abbrev N__law_lots : List Str := ["some", "many", "found", "at", "one", "lot"]
theorem sc__law_lots : FnScope N__law_lots ["some", "many"] (defScope s__law_lots) := ⟨rfl, rfl, rfl, by decide +kernel, rfl, by decide +kernel, by decide +kernel⟩
theorem ok__law_lots {f : Addr} {fd : FuncData} (F : Fun K "_law_lots" "_law_lots" s__law_lots f fd) (Z : Bt K mg) (hm : mg "_law_lots" = some (.ref f)) (hk : PySem.W.keepIn K (.ref f) = true) (hbd : Binds K fd ["some", "many"] []) : ∀ n, FnOk P w K mg base CX0 n f fd ["some", "many"] (spF K 2 (F__law_lots n))
  | 0 => ⟨fun vs H Q E h => by obtain ⟨_, _, _, _, hl, _⟩ := h; exact hl, fun A outer s H args us vs Q E _ _ _ _ h => by obtain ⟨_, _, _, _, _, _, _, hG, _⟩ := h; cases hG⟩
  | n + 1 => by
    have h__law_lots : HasFn P w K mg base n "_law_lots" (spF K 2 (F__law_lots n)) := ⟨f, fd, _, ok__law_lots F Z hm hk hbd n, hm, hk, hbd⟩
    exact fn_okF (fs := f__law_lots (F__law_lots n)) F sc__law_lots fun cdv A outer s H E B hr =>
      have hu := hu_of hr
      (iss_cons (is_if (it_eq hr.units (ip_var 1 (pv 1)) (ip_of ie_int)) (iss_one (is_ret (ie_own (io_lst (ia_cons (ie_tup ia_nil) ia_nil))))) iss_nil)
    (iss_cons (is_setO (i := 2) sc__law_lots.nd rfl (.inl rfl) (io_lst ia_nil))
    (iss_cons (is_for PassesOwn.never rfl (ii_enum (by rfl) Z.enumerate_ (ie_var 0 (pv 0))) (ig_tup rfl (igs_cons (ig_name sc__law_lots.nd rfl (.inl rfl)) (igs_cons (ig_name sc__law_lots.nd rfl (.inr rfl)) igs_nil)) (ln_cons (ln_cons ln_nil))) (iss_one (is_set (i := 2) sc__law_lots.nd rfl (.inl rfl) (ie_own (io_catL (ie_var 2 (pv 2)) (ie_own (io_lc (own := [("lot", 5)]) rfl sc__law_lots.nd (ii_seq (ie_call h__law_lots hr (by rfl) rfl (ia_cons (ie_sl (ip_var 0 (pv 0)) (iq_some (ie_add (ie_var 3 (pv 3)) ie_int)) iq_none) (ia_cons (ie_sub (ie_var 1 (pv 1)) ie_int) ia_nil)) (la_cons (la_cons la_nil)))) (blkOk_by (N := N__law_lots) (sc := defScope s__law_lots) (by decide +kernel)) (fun _ _ _ _ _ _ => (ig_name sc__law_lots.nd rfl (.inl rfl))) (fun _ _ _ _ _ _ => its_nil) (fun _ _ _ _ _ _ => (ie_catT (ie_tup (ia_cons (ie_var 4 (pv 4)) ia_nil)) (ie_var 5 (pv 5)))))))))))
    (iss_one (is_ret (ie_var 2 (pv 2)))))))
abbrev s__law_plugged : Stmt := topS 30
abbrev N__law_plugged : List Str := ["tubs", "lot", "found", "name", "ground", "holes", "hole"]
theorem sc__law_plugged : FnScope N__law_plugged ["tubs", "lot"] (defScope s__law_plugged) := ⟨rfl, rfl, rfl, by decide +kernel, rfl, by decide +kernel, by decide +kernel⟩
theorem ok__law_plugged {f : Addr} {fd : FuncData} (F : Fun K "_law_plugged" "_law_plugged" s__law_plugged f fd) (Z : Bt K mg)  : FnOk P w K mg base CX0 1 f fd ["tubs", "lot"] (spF K 2 F__law_plugged) :=
  fn_okF F sc__law_plugged fun cdv A outer s H E B hr =>
    have hu := hu_of hr
    (iss_cons (is_setO (i := 2) sc__law_plugged.nd rfl (.inl rfl) (io_lst ia_nil))
    (iss_cons (is_for PassesOwn.never rfl (ii_seq (ie_var 0 (pv 0))) (ig_tup rfl (igs_cons (ig_name sc__law_plugged.nd rfl (.inr rfl)) (igs_cons (ig_name sc__law_plugged.nd rfl (.inl rfl)) (igs_cons (ig_name sc__law_plugged.nd rfl (.inl rfl)) igs_nil))) (ln_cons (ln_cons (ln_cons ln_nil)))) (iss_one (is_app (pv 2) (ie_tup (ia_cons (ie_var 3 (pv 3)) (ia_cons (ie_var 4 (pv 4)) (ia_cons (ie_tuple (by rfl) Z.tuple_ (ip_of (ie_own (io_lc (own := [("hole", 6)]) rfl sc__law_plugged.nd (ii_seq (ie_var 5 (pv 5))) (blkOk_by (N := N__law_plugged) (sc := defScope s__law_plugged) (by decide +kernel)) (fun _ _ _ _ _ _ => (ig_name sc__law_plugged.nd rfl (.inl rfl))) (fun _ _ _ _ _ _ => (its_one (it_inQn hr.units (ip_of (ie_tup (ia_cons (ie_var 3 (pv 3)) (ia_cons (ie_ix (ip_var 6 (pv 6)) ie_int) ia_nil)))) (ip_var 1 (pv 1))))) (fun _ _ _ _ _ _ => (ie_var 6 (pv 6))))))) ia_nil)))))))
    (iss_one (is_ret (ie_tuple (by rfl) Z.tuple_ (ip_var 2 (pv 2)))))))
abbrev s__law_plugs : Stmt := topS 32
abbrev N__law_plugs : List Str := ["tubs", "rain", "at", "much", "keys", "name", "ground", "holes", "many", "lot", "hole"]
theorem sc__law_plugs : FnScope N__law_plugs ["tubs", "rain", "at", "much"] (defScope s__law_plugs) := ⟨rfl, rfl, rfl, by decide +kernel, rfl, by decide +kernel, by decide +kernel⟩
theorem ok__law_plugs {f : Addr} {fd : FuncData} (F : Fun K "_law_plugs" "_law_plugs" s__law_plugs f fd) (Z : Bt K mg) (h__law_lots : HasFn P w K mg base 12 "_law_lots" (spF K 2 (F__law_lots 12))) (h__law_ends : HasFn P w K mg base 1 "_law_ends" (spF K 2 F__law_ends)) (h__law_plugged : HasFn P w K mg base 1 "_law_plugged" (spF K 2 F__law_plugged)) : FnOk P w K mg base CX0 13 f fd ["tubs", "rain", "at", "much"] (spF K 4 F__law_plugs) :=
  fn_okF F sc__law_plugs fun cdv A outer s H E B hr =>
    have hu := hu_of hr
    (iss_cons (is_setO (i := 4) sc__law_plugs.nd rfl (.inl rfl) (io_lst ia_nil))
    (iss_cons (is_for PassesOwn.never rfl (ii_seq (ie_var 0 (pv 0))) (ig_tup rfl (igs_cons (ig_name sc__law_plugs.nd rfl (.inr rfl)) (igs_cons (ig_name sc__law_plugs.nd rfl (.inl rfl)) (igs_cons (ig_name sc__law_plugs.nd rfl (.inl rfl)) igs_nil))) (ln_cons (ln_cons (ln_cons ln_nil)))) (iss_one (is_set (i := 4) sc__law_plugs.nd rfl (.inl rfl) (ie_own (io_catL (ie_var 4 (pv 4)) (ie_own (io_lc (own := [("hole", 10)]) rfl sc__law_plugs.nd (ii_seq (ie_var 7 (pv 7))) (blkOk_by (N := N__law_plugs) (sc := defScope s__law_plugs) (by decide +kernel)) (fun _ _ _ _ _ _ => (ig_name sc__law_plugs.nd rfl (.inl rfl))) (fun _ _ _ _ _ _ => its_nil) (fun _ _ _ _ _ _ => (ie_tup (ia_cons (ie_var 5 (pv 5)) (ia_cons (ie_ix (ip_var 10 (pv 10)) ie_int) ia_nil)))))))))))
    (iss_cons (is_set (i := 4) sc__law_plugs.nd rfl (.inl rfl) (ie_own (io_sortT (by rfl) Z.sorted_ (ip_var 4 (pv 4)))))
    (iss_cons (is_for PassesOwn.never rfl (ii_range1 (by rfl) Z.range_ (ie_add (ie_len (by rfl) Z.len_ (ip_var 4 (pv 4))) ie_int)) (ig_name sc__law_plugs.nd rfl (.inl rfl)) (iss_one (is_for PassesOwn.never rfl (ii_seq (ie_call h__law_lots (hr.mono (by decide)) (by rfl) rfl (ia_cons (ie_var 4 (pv 4)) (ia_cons (ie_var 8 (pv 8)) ia_nil)) (la_cons (la_cons la_nil)))) (ig_name sc__law_plugs.nd rfl (.inl rfl)) (iss_one (is_if (it_ge (ie_ix (ip_of (ie_ix (ip_of (ie_call h__law_ends (hr.mono (by decide)) (by rfl) rfl (ia_cons (ie_call h__law_plugged (hr.mono (by decide)) (by rfl) rfl (ia_cons (ie_var 0 (pv 0)) (ia_cons (ie_var 9 (pv 9)) ia_nil)) (la_cons (la_cons la_nil))) (ia_cons (ie_var 1 (pv 1)) ia_nil)) (la_cons (la_cons la_nil)))) ie_int)) (ie_var 2 (pv 2))) (ie_var 3 (pv 3))) (iss_one (is_ret (ie_var 9 (pv 9)))) iss_nil)))))
    (iss_one (is_ret ie_non))))))
abbrev s_with_rate : Stmt := topS 13
abbrev N_with_rate : List Str := ["tubs", "hole", "rate", "found", "name", "ground", "holes", "some", "one"]
theorem sc_with_rate : FnScope N_with_rate ["tubs", "hole", "rate"] (defScope s_with_rate) := ⟨rfl, rfl, rfl, by decide +kernel, rfl, by decide +kernel, by decide +kernel⟩
theorem ok_with_rate {f : Addr} {fd : FuncData} (F : Fun K "with_rate" "with_rate" s_with_rate f fd) (Z : Bt K mg)  : FnOk P w K mg base CX0 1 f fd ["tubs", "hole", "rate"] (spF K 3 F_with_rate) :=
  fn_okF F sc_with_rate fun cdv A outer s H E B hr =>
    have hu := hu_of hr
    (iss_cons (is_setO (i := 3) sc_with_rate.nd rfl (.inl rfl) (io_lst ia_nil))
    (iss_cons (is_for PassesOwn.never rfl (ii_seq (ie_var 0 (pv 0))) (ig_tup rfl (igs_cons (ig_name sc_with_rate.nd rfl (.inr rfl)) (igs_cons (ig_name sc_with_rate.nd rfl (.inl rfl)) (igs_cons (ig_name sc_with_rate.nd rfl (.inl rfl)) igs_nil))) (ln_cons (ln_cons (ln_cons ln_nil)))) (iss_cons (is_setLc (own := [("one", 8)]) rfl sc_with_rate.nd rfl rfl (sw_true rfl rfl rfl (by decide +kernel)) (ii_seq (ie_var 6 (pv 6))) (blkOk_by (N := N_with_rate) (sc := defScope s_with_rate) (by decide +kernel)) (fun _ _ _ _ _ _ => (ig_name sc_with_rate.nd rfl (.inl rfl))) (fun _ _ _ _ _ _ => its_nil) (fun _ _ _ _ _ _ => (ie_if (it_eq hr.units (ip_of (ie_tup (ia_cons (ie_var 4 (pv 4)) (ia_cons (ie_ix (ip_var 8 (pv 8)) ie_int) ia_nil)))) (ip_var 1 (pv 1))) (ie_tup (ia_cons (ie_ix (ip_var 8 (pv 8)) ie_int) (ia_cons (ie_var 2 (pv 2)) (ia_cons (ie_ix (ip_var 8 (pv 8)) ie_int) ia_nil)))) (ie_var 8 (pv 8)))))
    (iss_one (is_app (pv 3) (ie_tup (ia_cons (ie_var 4 (pv 4)) (ia_cons (ie_var 5 (pv 5)) (ia_cons (ie_tuple (by rfl) Z.tuple_ (ip_var 7 (pv 7))) ia_nil))))))))
    (iss_one (is_ret (ie_tuple (by rfl) Z.tuple_ (ip_var 3 (pv 3)))))))
abbrev s_rates_by : Stmt := topS 14
abbrev N_rates_by : List Str := ["tubs", "rain", "hole", "another", "lets", "found", "rate"]
theorem sc_rates_by : FnScope N_rates_by ["tubs", "rain", "hole", "another", "lets"] (defScope s_rates_by) := ⟨rfl, rfl, rfl, by decide +kernel, rfl, by decide +kernel, by decide +kernel⟩
theorem ok_rates_by {f : Addr} {fd : FuncData} (F : Fun K "rates_by" "rates_by" s_rates_by f fd) (Z : Bt K mg) (h_ends_of : HasFn P w K mg base 1 "ends_of" (spF K 2 F_ends_of)) (h_with_rate : HasFn P w K mg base 1 "with_rate" (spF K 3 F_with_rate)) : FnOk P w K mg base CX0 2 f fd ["tubs", "rain", "hole", "another", "lets"] (spF K 5 F_rates_by) :=
  fn_okF F sc_rates_by fun cdv A outer s H E B hr =>
    have hu := hu_of hr
    (iss_cons (is_setO (i := 5) sc_rates_by.nd rfl (.inl rfl) (io_lst ia_nil))
    (iss_cons (is_for PassesOwn.never rfl (ii_range2 (by rfl) Z.range_ ie_int (ie_add (ie_glob Z.g_MOST_RATE (by rfl)) ie_int)) (ig_name sc_rates_by.nd rfl (.inl rfl)) (iss_one (is_if (it_eq hr.units (ip_of (ie_get hu (ip_of (ie_ix (ip_of (ie_call h_ends_of (hr.mono (by decide)) (by rfl) rfl (ia_cons (ie_call h_with_rate (hr.mono (by decide)) (by rfl) rfl (ia_cons (ie_var 0 (pv 0)) (ia_cons (ie_var 2 (pv 2)) (ia_cons (ie_var 6 (pv 6)) ia_nil))) (la_cons (la_cons (la_cons la_nil)))) (ia_cons (ie_var 1 (pv 1)) ia_nil)) (la_cons (la_cons la_nil)))) ie_int)) (ie_var 3 (pv 3)))) (ip_var 4 (pv 4))) (iss_one (is_app (pv 5) (ie_var 6 (pv 6)))) iss_nil)))
    (iss_one (is_retO (io_move 5 (pv 5))))))
abbrev s__law_rated : Stmt := topS 29
abbrev N__law_rated : List Str := ["tubs", "key", "rate", "found", "name", "ground", "holes", "some", "level", "old", "into"]
theorem sc__law_rated : FnScope N__law_rated ["tubs", "key", "rate"] (defScope s__law_rated) := ⟨rfl, rfl, rfl, by decide +kernel, rfl, by decide +kernel, by decide +kernel⟩
theorem ok__law_rated {f : Addr} {fd : FuncData} (F : Fun K "_law_rated" "_law_rated" s__law_rated f fd) (Z : Bt K mg)  : FnOk P w K mg base CX0 1 f fd ["tubs", "key", "rate"] (spF K 3 F__law_rated) :=
  fn_okF F sc__law_rated fun cdv A outer s H E B hr =>
    have hu := hu_of hr
    (iss_cons (is_setO (i := 3) sc__law_rated.nd rfl (.inl rfl) (io_lst ia_nil))
    (iss_cons (is_for PassesOwn.never rfl (ii_seq (ie_var 0 (pv 0))) (ig_tup rfl (igs_cons (ig_name sc__law_rated.nd rfl (.inl rfl)) (igs_cons (ig_name sc__law_rated.nd rfl (.inl rfl)) (igs_cons (ig_name sc__law_rated.nd rfl (.inl rfl)) igs_nil))) (ln_cons (ln_cons (ln_cons ln_nil)))) (iss_cons (is_setO (i := 7) sc__law_rated.nd rfl (.inl rfl) (io_lst ia_nil))
    (iss_cons (is_for PassesOwn.never rfl (ii_seq (ie_var 6 (pv 6))) (ig_tup rfl (igs_cons (ig_name sc__law_rated.nd rfl (.inl rfl)) (igs_cons (ig_name sc__law_rated.nd rfl (.inl rfl)) (igs_cons (ig_name sc__law_rated.nd rfl (.inl rfl)) igs_nil))) (ln_cons (ln_cons (ln_cons ln_nil)))) (iss_one (is_app (pv 7) (ie_tup (ia_cons (ie_var 8 (pv 8)) (ia_cons (ie_if (it_eq hr.units (ip_of (ie_tup (ia_cons (ie_var 4 (pv 4)) (ia_cons (ie_var 8 (pv 8)) ia_nil)))) (ip_var 1 (pv 1))) (ie_var 2 (pv 2)) (ie_var 9 (pv 9))) (ia_cons (ie_var 10 (pv 10)) ia_nil)))))))
    (iss_one (is_app (pv 3) (ie_tup (ia_cons (ie_var 4 (pv 4)) (ia_cons (ie_var 5 (pv 5)) (ia_cons (ie_tuple (by rfl) Z.tuple_ (ip_var 7 (pv 7))) ia_nil)))))))))
    (iss_one (is_ret (ie_tuple (by rfl) Z.tuple_ (ip_var 3 (pv 3)))))))
abbrev s_law : Stmt := topS 33
abbrev N_law : List Str := ["script", "k", "bag", "tubs", "rain", "coming", "lets", "turn", "one", "other", "level", "much", "keys", "key", "another", "due", "rate", "hole"]
theorem sc_law : FnScope N_law ["script"] (defScope s_law) := ⟨rfl, rfl, rfl, by decide +kernel, rfl, by decide +kernel, by decide +kernel⟩
theorem ok_law {f : Addr} {fd : FuncData} (F : Fun K "law" "law" s_law f fd) (Z : Bt K mg) (h__law_bag : HasFn P w K mg base 1 "_law_bag" (spF K 2 F__law_bag)) (h__law_tubs : HasFn P w K mg base 3 "_law_tubs" (spB K 1 F__law_tubs)) (h__law_rain : HasFn P w K mg base 3 "_law_rain" (spB K 1 F__law_rain)) (h__law_ends : HasFn P w K mg base 1 "_law_ends" (spF K 2 F__law_ends)) (h__law_of : HasFn P w K mg base 2 "_law_of" (spB K 1 F__law_of)) (h__law_take : HasFn P w K mg base 1 "_law_take" (spB K 1 F__law_take)) (h__law_least_so : HasFn P w K mg base 6 "_law_least_so" (spF K 5 F__law_least_so)) (h_fewest_plugs : HasFn P w K mg base 13 "fewest_plugs" (spF K 4 F_fewest_plugs)) (h__law_plugs : HasFn P w K mg base 13 "_law_plugs" (spF K 4 F__law_plugs)) (h_rates_by : HasFn P w K mg base 2 "rates_by" (spF K 5 F_rates_by)) (h__law_rated : HasFn P w K mg base 1 "_law_rated" (spF K 3 F__law_rated)) : FnOk P w K mg base CX0 14 f fd ["script"] (spF K 1 F_law) :=
  fn_okF F sc_law fun cdv A outer s H E B hr =>
    have hu := hu_of hr
    (iss_cons (is_for PassesOwn.never rfl (ii_range1 (by rfl) Z.range_ (ie_add ie_int (ie_min rfl (by rfl) Z.min_ (ie_len (by rfl) Z.len_ (ip_var 0 (pv 0))) ie_int))) (ig_name sc_law.nd rfl (.inl rfl)) (iss_cons (is_setO (i := 2) sc_law.nd rfl (.inl rfl) (io_call h__law_bag (hr.mono (by decide)) (by rfl) rfl (ia_cons (ie_var 0 (pv 0)) (ia_cons (ie_var 1 (pv 1)) ia_nil)) (la_cons (la_cons la_nil))))
    (iss_cons (is_set (i := 3) sc_law.nd rfl (.inl rfl) (ie_callB h__law_tubs (hr.mono (by decide)) (by rfl) (pv 2) (ia_cons ie_int ia_nil) (la_cons la_nil)))
    (iss_cons (is_set (i := 4) sc_law.nd rfl (.inl rfl) (ie_callB h__law_rain (hr.mono (by decide)) (by rfl) (pv 2) (ia_cons (ie_var 3 (pv 3)) ia_nil) (la_cons la_nil)))
    (iss_cons (is_asg (ie_call h__law_ends (hr.mono (by decide)) (by rfl) rfl (ia_cons (ie_var 3 (pv 3)) (ia_cons (ie_var 4 (pv 4)) ia_nil)) (la_cons (la_cons la_nil))) (ig_tup rfl (igs_cons (ig_name sc_law.nd rfl (.inl rfl)) (igs_cons (ig_name sc_law.nd rfl (.inl rfl)) igs_nil)) (ln_cons (ln_cons ln_nil))))
    (iss_cons (is_for PassesOwn.never rfl (ii_range1 (by rfl) Z.range_ ie_int) (ig_name sc_law.nd rfl (.inl rfl)) (iss_cons (is_par (i := 8) (j := 9) rfl sc_law.nd rfl rfl (by decide) rfl rfl (ie_callB h__law_take (hr.mono (by decide)) (by rfl) (pv 2) (ia_cons (ie_len (by rfl) Z.len_ (ip_var 3 (pv 3))) ia_nil) (la_cons la_nil)) (ie_callB h__law_take (hr.mono (by decide)) (by rfl) (pv 2) (ia_cons (ie_len (by rfl) Z.len_ (ip_var 3 (pv 3))) ia_nil) (la_cons la_nil)))
    (iss_cons (is_set (i := 10) sc_law.nd rfl (.inl rfl) (ie_callB h__law_of (hr.mono (by decide)) (by rfl) (pv 2) (ia_cons (ie_own (io_catL (ie_own (io_catL (ie_own (io_lst (ia_cons (ie_callB h__law_take (hr.mono (by decide)) (by rfl) (pv 2) (ia_cons ie_int ia_nil) (la_cons la_nil)) ia_nil))) (ie_own (io_lc (own := [("hole", 17)]) rfl sc_law.nd (ii_seq (ie_ix (ip_of (ie_ix (ip_var 3 (pv 3)) (ie_var 9 (pv 9)))) ie_int)) (blkOk_by (N := N_law) (sc := defScope s_law) (by decide +kernel)) (fun _ _ _ _ _ _ => (ig_name sc_law.nd rfl (.inl rfl))) (fun _ _ _ _ _ _ => its_nil) (fun _ _ _ _ _ _ => (ie_ix (ip_var 17 (pv 17)) ie_int)))))) (ie_own (io_lst (ia_cons ie_int ia_nil))))) ia_nil) (la_cons la_nil)))
    (iss_cons (is_if (it_not (it_val (ie_call h__law_least_so (hr.mono (by decide)) (by rfl) rfl (ia_cons (ie_var 3 (pv 3)) (ia_cons (ie_var 4 (pv 4)) (ia_cons (ie_var 8 (pv 8)) (ia_cons (ie_var 9 (pv 9)) (ia_cons (ie_var 10 (pv 10)) ia_nil))))) (la_cons (la_cons (la_cons (la_cons (la_cons la_nil)))))))) (iss_one (is_ret ie_bl)) iss_nil)
    (iss_cons (is_set (i := 11) sc_law.nd rfl (.inl rfl) (ie_max rfl (by rfl) Z.max_ ie_int (ie_sub (ie_add (ie_ix (ip_var 5 (pv 5)) (ie_var 9 (pv 9))) (ie_callB h__law_take (hr.mono (by decide)) (by rfl) (pv 2) (ia_cons ie_int ia_nil) (la_cons la_nil))) ie_int)))
    (iss_one (is_if (it_ne hr.units (ip_of (ie_call h_fewest_plugs (hr.mono (by decide)) (by rfl) rfl (ia_cons (ie_var 3 (pv 3)) (ia_cons (ie_var 4 (pv 4)) (ia_cons (ie_ix (ip_of (ie_ix (ip_var 3 (pv 3)) (ie_var 9 (pv 9)))) ie_int) (ia_cons (ie_var 11 (pv 11)) ia_nil)))) (la_cons (la_cons (la_cons (la_cons la_nil)))))) (ip_of (ie_call h__law_plugs (hr.mono (by decide)) (by rfl) rfl (ia_cons (ie_var 3 (pv 3)) (ia_cons (ie_var 4 (pv 4)) (ia_cons (ie_var 9 (pv 9)) (ia_cons (ie_var 11 (pv 11)) ia_nil)))) (la_cons (la_cons (la_cons (la_cons la_nil))))))) (iss_one (is_ret ie_bl)) iss_nil)))))))
    (iss_cons (is_set (i := 12) sc_law.nd rfl (.inl rfl) (ie_own (io_sortTD rfl (by rfl) Z.sorted_ (ip_var 6 (pv 6)))))
    (iss_one (is_for PassesOwn.never rfl (ii_seq (ie_sl (ip_var 12 (pv 12)) iq_none (iq_some ie_int))) (ig_name sc_law.nd rfl (.inl rfl)) (iss_cons (is_set (i := 14) sc_law.nd rfl (.inl rfl) (ie_callB h__law_of (hr.mono (by decide)) (by rfl) (pv 2) (ia_cons (ie_var 12 (pv 12)) ia_nil) (la_cons la_nil)))
    (iss_cons (is_set (i := 11) sc_law.nd rfl (.inl rfl) (ie_min rfl (by rfl) Z.min_ ie_int (ie_max rfl (by rfl) Z.max_ ie_int (ie_sub (ie_add (ie_get hu (ip_var 6 (pv 6)) (ie_var 14 (pv 14))) (ie_callB h__law_take (hr.mono (by decide)) (by rfl) (pv 2) (ia_cons ie_int ia_nil) (la_cons la_nil))) ie_int))))
    (iss_cons (is_setO (i := 15) sc_law.nd rfl (.inl rfl) (io_lst ia_nil))
    (iss_cons (is_for PassesOwn.never rfl (ii_range2 (by rfl) Z.range_ ie_int ie_int) (ig_name sc_law.nd rfl (.inl rfl)) (iss_one (is_if (it_eq hr.units (ip_of (ie_get hu (ip_of (ie_ix (ip_of (ie_call h__law_ends (hr.mono (by decide)) (by rfl) rfl (ia_cons (ie_call h__law_rated (hr.mono (by decide)) (by rfl) rfl (ia_cons (ie_var 3 (pv 3)) (ia_cons (ie_var 13 (pv 13)) (ia_cons (ie_var 16 (pv 16)) ia_nil))) (la_cons (la_cons (la_cons la_nil)))) (ia_cons (ie_var 4 (pv 4)) ia_nil)) (la_cons (la_cons la_nil)))) ie_int)) (ie_var 14 (pv 14)))) (ip_var 11 (pv 11))) (iss_one (is_app (pv 15) (ie_var 16 (pv 16)))) iss_nil)))
    (iss_one (is_if (it_ne hr.units (ip_of (ie_call h_rates_by (hr.mono (by decide)) (by rfl) rfl (ia_cons (ie_var 3 (pv 3)) (ia_cons (ie_var 4 (pv 4)) (ia_cons (ie_var 13 (pv 13)) (ia_cons (ie_var 14 (pv 14)) (ia_cons (ie_var 11 (pv 11)) ia_nil))))) (la_cons (la_cons (la_cons (la_cons (la_cons la_nil))))))) (ip_var 15 (pv 15))) (iss_one (is_ret ie_bl)) iss_nil)))))))))))))))
    (iss_one (is_ret ie_bl)))
end
end Px.S

set_option Elab.async false
set_option linter.all false
set_option maxRecDepth 100000
set_option maxHeartbeats 4000000
/-! MTool: tools over the abstract functions -/
namespace Px
open PySem L2
theorem loop_inv {g : FG} {fb : FS} (P : Nat → S → Prop) : ∀ (ds : List D) (k : Nat) (s : S), P k s → (∀ i d s, ds[i]? = some d → P (k + i) s → ∃ s1 s2, g d s = some s1 ∧ fb s1 = some (.nx s2) ∧ P (k + i + 1) s2) → ∃ s', loopD g fb ds s = some (.nx s') ∧ P (k + ds.length) s'
  | [], k, s, h0, _ => ⟨s, by simp, by simpa using h0⟩
  | d :: ds, k, s, h0, hs => by
    obtain ⟨s1, s2, e1, e2, h1⟩ := hs 0 d s rfl h0
    obtain ⟨s', e3, h3⟩ := loop_inv P ds (k + 1) s2 (by simpa using h1) fun i d s hi hp => by
      have := hs (i + 1) d s (by simpa using hi) (by rw [show k + (i + 1) = k + 1 + i by omega]; exact hp)
      rw [show k + (i + 1) + 1 = k + 1 + i + 1 by omega] at this
      exact this
    exact ⟨s', by simp [e1, e2, e3], by rw [List.length_cons, show k + (ds.length + 1) = k + 1 + ds.length by omega]; exact h3⟩
theorem loop_inv0 {g : FG} {fb : FS} (P : Nat → S → Prop) (ds : List D) (s : S) (h0 : P 0 s) (hs : ∀ i d s, ds[i]? = some d → P i s → ∃ s1 s2, g d s = some s1 ∧ fb s1 = some (.nx s2) ∧ P (i + 1) s2) : ∃ s', loopD g fb ds s = some (.nx s') ∧ P ds.length s' := by
  obtain ⟨s', e, h⟩ := loop_inv P ds 0 s h0 fun i d s hi hp => by simpa using hs i d s hi (by simpa using hp)
  exact ⟨s', e, by simpa using h⟩
@[simp] theorem ge0 {α : Type} (a : α) (l : List α) : (a :: l)[0]? = some a := rfl
theorem small_of {n : Nat} (h : n ≤ 10000000) : small n = true := decide_eq_true h
theorem log2_lt {i : Int} {n : Nat} (h : i.natAbs < 2 ^ n) (h0 : 0 < n) : i.natAbs.log2 < n := by
  by_cases z : i.natAbs = 0
  · rw [z]; simpa using h0
  · exact (Nat.log2_lt z).mpr h
theorem atI_mem {α : Type} {l : List α} {r : Int} (h0 : 0 ≤ r) (h1 : r < l.length) : ∃ d, d ∈ l ∧ atI l r = some d := by
  have hr : r.toNat < l.length := by omega
  refine ⟨l[r.toNat], List.getElem_mem _, ?_⟩
  simp [atI, ixN, h0, h1, hr]
/-- keys of a dict of ints -/
def ksI (ns : List Int) : List Key := ns.map Sum.inl
theorem putD_keys {ns : List Int} {ds : List D} {n : Int} {d : D} (hl : ns.length = ds.length) : ∃ ns' ds', putD (ksI ns) ds (Sum.inl n) d = (ksI ns', ds') ∧ ns'.length = ds'.length ∧ ns'.length ≤ ns.length + 1 ∧ (ns.Nodup → ns'.Nodup) ∧ ∀ m, m ∈ ns' ↔ m ∈ ns ∨ m = n := by
  unfold putD
  by_cases h : n ∈ ns
  · have h' : (Sum.inl n : Key) ∈ ksI ns := List.mem_map.mpr ⟨n, h, rfl⟩
    rw [if_pos h']
    refine ⟨ns, _, rfl, by simp [ksI, hl], by omega, id, fun m => ⟨.inl, fun z => ?_⟩⟩
    rcases z with z | z
    · exact z
    · rw [z]; exact h
  · have h' : ¬ (Sum.inl n : Key) ∈ ksI ns := fun z => by
      obtain ⟨m, hm, e⟩ := List.mem_map.mp z
      cases e
      exact h hm
    rw [if_neg h']
    refine ⟨ns ++ [n], ds ++ [d], by simp [ksI], by simp [hl], by simp, fun nd => ?_, fun m => by simp⟩
    rw [List.nodup_append]
    refine ⟨nd, by simp, fun a ha b hb => ?_⟩
    have : b = n := by simpa using hb
    rw [this]
    exact fun z => h (z ▸ ha)
theorem sortI_lt {l : List Int} (h : l.Nodup) : (sortI l).Pairwise (· < ·) := by
  have h1 := sortI_sorted l
  have h2 : (sortI l).Nodup := (sortI_perm l).nodup_iff.mpr h
  exact (h1.and h2).imp fun ⟨x, y⟩ => by omega
theorem putD_length {κ : Type} [DecidableEq κ] {ks : List κ} {ds : List D} {k : κ} {d : D} (h : ks.length = ds.length) : (putD ks ds k d).1.length = (putD ks ds k d).2.length := putD_len h
theorem mem_two {α : Type} {d x y : α} (h : d ∈ [x, y]) : d = x ∨ d = y := by simpa using h
theorem mem_three {α : Type} {d x y z : α} (h : d ∈ [x, y, z]) : d = x ∨ d = y ∨ d = z := by simpa using h
theorem cut_str (nm : List Str) (k : Nat) : cutD (nm.map D.str) (some ((k : Int) + 1)) none = (nm.drop (k + 1)).map D.str := by
  unfold cutD
  rw [show ((k : Int) + 1) = ((k + 1 : Nat) : Int) by omega, HT.sIx_nat, HT.sIx_none, List.length_map, List.map_drop]
  by_cases h : k + 1 ≤ nm.length
  · rw [Nat.min_eq_left h, List.take_of_length_le (by simp)]
  · rw [Nat.min_eq_right (by omega), List.drop_eq_nil_of_le (by simp), List.drop_eq_nil_of_le (by simp; omega)]; simp
theorem seq_nx {f g : FS} {s s1 : S} (h : f s = some (.nx s1)) : sSeq f g s = g s1 := by simp only [sSeq, h, Option.bind_some]
theorem for_of {fi : FI} {g : FG} {fb : FS} {s s1 : S} {ds : List D} (h : fi s = some (ds, s1)) : sFor fi g fb s = loopD g fb ds s1 := by simp only [sFor, h, Option.bind_some]
theorem loop_cons {g : FG} {fb : FS} {d : D} {ds : List D} {s s1 s2 : S} (h1 : g d s = some s1) (h2 : fb s1 = some (.nx s2)) : loopD g fb (d :: ds) s = loopD g fb ds s2 := by simp only [loopD, h1, h2, Option.bind_some]
theorem loop_ret {g : FG} {fb : FS} {d r : D} {o : Bool} {ds : List D} {s s1 s2 : S} (h1 : g d s = some s1) (h2 : fb s1 = some (.ret o r s2)) : loopD g fb (d :: ds) s = some (.ret o r s2) := by simp only [loopD, h1, h2, Option.bind_some]
theorem rng_length (lo : Int) (n : Nat) : (rng lo n).length = n := by simp [rng]
theorem rng_get {lo : Int} {n i : Nat} {d : D} (h : (rng lo n)[i]? = some d) : d = .int (lo + (i : Nat)) ∧ i < n := by
  unfold rng at h
  rw [List.getElem?_map] at h
  by_cases z : i < n
  · simp [z] at h; exact ⟨h.symm, z⟩
  · simp [z] at h
theorem cut_take (ds : List D) (r : Nat) : cutD ds none (some ((r : Int))) = ds.take r := by
  unfold cutD
  rw [HT.sIx_nat, HT.sIx_none]
  simp
theorem enumD_length : ∀ (n : Nat) (ds : List D), (enumD n ds).length = ds.length
  | _, [] => rfl
  | n, d :: ds => by simp [enumD, enumD_length (n + 1) ds]
/-! ### equality of data -/
/-- plain, at most so deep -/
def Pl (n : Nat) (d : D) : Prop := d.py.plain = true ∧ d.py.depth ≤ n
theorem Pl.int {n : Nat} (i : Int) : Pl n (.int i) := ⟨rfl, by simp [D.py, PyData.depth]⟩
theorem Pl.str {n : Nat} (x : Str) : Pl n (.str x) := ⟨rfl, by simp [D.py, PyData.depth]⟩
theorem Pl.non {n : Nat} : Pl n .non := ⟨rfl, by simp [D.py, PyData.depth]⟩
theorem Pl.bl {n : Nat} (b : Bool) : Pl n (.bl b) := ⟨rfl, by simp [D.py, PyData.depth]⟩
theorem pl_all {n : Nat} : ∀ {ds : List D}, (∀ d ∈ ds, Pl n d) → PyData.plainAll (pys ds) = true ∧ PyData.depthAll (pys ds) ≤ n
  | [], _ => ⟨rfl, by simp [pys, PyData.depthAll]⟩
  | d :: ds, h => by
    obtain ⟨h1, h2⟩ := h d (.head _)
    obtain ⟨h3, h4⟩ := pl_all (ds := ds) fun x hx => h x (.tail _ hx)
    refine ⟨by simp [pys, PyData.plainAll, h1, h3], ?_⟩
    simp only [pys, PyData.depthAll]
    omega
theorem Pl.tup {n : Nat} {ds : List D} (h : ∀ d ∈ ds, Pl n d) : Pl (n + 1) (.tup ds) := by
  obtain ⟨h1, h2⟩ := pl_all h
  refine ⟨by simp only [D.py, PyData.plain]; exact h1, ?_⟩
  simp only [D.py, PyData.depth]
  omega
theorem Pl.lst {n : Nat} {ds : List D} (h : ∀ d ∈ ds, Pl n d) : Pl (n + 1) (.lst ds) := by
  obtain ⟨h1, h2⟩ := pl_all h
  refine ⟨by simp only [D.py, PyData.plain]; exact h1, ?_⟩
  simp only [D.py, PyData.depth]
  omega
theorem Pl.le {n m : Nat} {d : D} (h : Pl n d) (hm : n ≤ m) : Pl m d := ⟨h.1, Nat.le_trans h.2 hm⟩
theorem Pl.ok {n : Nat} {d : D} (h : Pl n d) (hn : n ≤ 64 := by decide) : okD d = true := by
  unfold okD
  rw [h.1, decide_eq_true (Nat.le_trans h.2 hn)]; rfl
mutual
theorem eqv_refl : ∀ d : PyData, d.plain = true → PyData.eqv d d = true
  | .none, _ => by simp [PyData.eqv]
  | .bool _, _ => by simp [PyData.eqv]
  | .int _, _ => by simp [PyData.eqv]
  | .str _, _ => by simp [PyData.eqv]
  | .list xs, h => by simp only [PyData.eqv]; exact eqv_refls xs (by simpa [PyData.plain] using h)
  | .tuple xs, h => by simp only [PyData.eqv]; exact eqv_refls xs (by simpa [PyData.plain] using h)
  | .dict _, h => by simp [PyData.plain] at h
theorem eqv_refls : ∀ xs : List PyData, PyData.plainAll xs = true → PyData.eqvAll xs xs = true
  | [], _ => by simp [PyData.eqvAll]
  | x :: xs, h => by
    have h' : x.plain = true ∧ PyData.plainAll xs = true := by simpa [PyData.plainAll] using h
    simp [PyData.eqvAll, eqv_refl x h'.1, eqv_refls xs h'.2]
end
theorem Pl.eq {n : Nat} {d : D} (h : Pl n d) : eqD d d = true := eqv_refl _ h.1
@[simp] theorem okD_int (i : Int) : okD (.int i) = true := (Pl.int (n := 0) i).ok
@[simp] theorem okD_str (x : Str) : okD (.str x) = true := (Pl.str (n := 0) x).ok
@[simp] theorem okD_non : okD .non = true := (Pl.non (n := 0)).ok
@[simp] theorem okD_bl (b : Bool) : okD (.bl b) = true := (Pl.bl (n := 0) b).ok
@[simp] theorem eqD_int (i j : Int) : eqD (.int i) (.int j) = decide (i = j) := by
  simp only [eqD, D.py, PyData.eqv]; rfl
@[simp] theorem eqD_str (i j : Str) : eqD (.str i) (.str j) = decide (i = j) := by
  simp only [eqD, D.py, PyData.eqv]
  by_cases h : i = j
  · subst h; simp
  · simp [h]
theorem Pl.ints {n : Nat} (ns : List Int) : ∀ d ∈ ns.map D.int, Pl n d := fun d h => by
  obtain ⟨i, _, rfl⟩ := List.mem_map.mp h
  exact .int i
theorem mem_four {α : Type} {d x y z w : α} (h : d ∈ [x, y, z, w]) : d = x ∨ d = y ∨ d = z ∨ d = w := by simpa using h
theorem mem_ints {d : D} {ns : List Int} (h : d ∈ ns.map D.int) : ∃ n ∈ ns, d = .int n := by
  obtain ⟨n, hn, e⟩ := List.mem_map.mp h
  exact ⟨n, hn, e.symm⟩
@[simp] theorem small_0 : small 0 = true := by decide
@[simp] theorem small_1 : small 1 = true := by decide
@[simp] theorem small_2 : small 2 = true := by decide
@[simp] theorem small_3 : small 3 = true := by decide
@[simp] theorem small_4 : small 4 = true := by decide
@[simp] theorem small_5 : small 5 = true := by decide
@[simp] theorem small_6 : small 6 = true := by decide
@[simp] theorem small_7 : small 7 = true := by decide
@[simp] theorem small_8 : small 8 = true := by decide
@[simp] theorem small_9 : small 9 = true := by decide
@[simp] theorem small_10 : small 10 = true := by decide
@[simp] theorem small_11 : small 11 = true := by decide
@[simp] theorem small_12 : small 12 = true := by decide
theorem rng1_of {f : F} {s s1 : S} {m : Nat} (h1 : f s = some (.int m, s1)) (hm : m < 1000000) : iRng1 f s = some (rng 0 m, s1) := by
  have c : cRng (m : Int) = true := cRng_of (by omega) (by omega)
  simp only [iRng1, h1, Option.bind_some, c, if_true, Int.toNat_natCast]
theorem call_one {G : FnD} {fa : F} {s s1 : S} {d1 : D} {r : Bool × D} (h1 : fa s = some (d1, s1)) (h : G [d1] = some r) : eCall G (aCons fa aNil) s = some (r.2, s1) := by
  simp only [eCall, aCons, aNil, h1, h, Option.bind_some]
theorem call_two {G : FnD} {fa fb : F} {s s1 s2 : S} {d1 d2 : D} {r : Bool × D} (h1 : fa s = some (d1, s1)) (h2 : fb s1 = some (d2, s2)) (h : G [d1, d2] = some r) : eCall G (aCons fa (aCons fb aNil)) s = some (r.2, s2) := by
  simp only [eCall, aCons, aNil, h1, h2, h, Option.bind_some]
theorem call_three {G : FnD} {fa fb fc : F} {s s1 s2 s3 : S} {d1 d2 d3 : D} {r : Bool × D} (h1 : fa s = some (d1, s1)) (h2 : fb s1 = some (d2, s2)) (h3 : fc s2 = some (d3, s3)) (h : G [d1, d2, d3] = some r) : eCall G (aCons fa (aCons fb (aCons fc aNil))) s = some (r.2, s3) := by
  simp only [eCall, aCons, aNil, h1, h2, h3, h, Option.bind_some]
theorem set_of {f : F} {i : Nat} {s s1 : S} {d : D} (h : f s = some (d, s1)) : sSet i f s = some (.nx (s1.set i (some (.sh, d)))) := by simp only [sSet, h, Option.bind_some]
theorem setO_of {f : F} {i : Nat} {s s1 : S} {d : D} (h : f s = some (d, s1)) : sSetO i f s = some (.nx (s1.set i (some (.ow, d)))) := by simp only [sSetO, h, Option.bind_some]
theorem ret_of {f : F} {s s1 : S} {d : D} (h : f s = some (d, s1)) : sRet f s = some (.ret false d s1) := by simp only [sRet, h, Option.bind_some]
theorem if_yes {t : TB} {f g : FS} {s s1 : S} (h : t s = some (true, s1)) : sIf t f g s = f s1 := by simp only [sIf, h, Option.bind_some, if_true]
theorem if_no {t : TB} {f g : FS} {s s1 : S} (h : t s = some (false, s1)) : sIf t f g s = g s1 := by simp only [sIf, h, Option.bind_some, Bool.false_eq_true, if_false]
/-! ### comprehensions -/
theorem comp_map {α : Type} {g : FG} {t : TB} {fe : F} {vs : List Nat} {s : S} (e f : α → D) : ∀ (as : List α) (acc : List D), acc.length + as.length ≤ 1000000 → (∀ a ∈ as, ∃ s1 s2 s3, g (e a) s = some s1 ∧ t s1 = some (true, s2) ∧ fe s2 = some (f a, s3) ∧ wipeS s3 vs = s) →
    compD g t fe vs (as.map e) s acc = some (acc ++ as.map f, s)
  | [], acc, _, _ => by simp
  | a :: as, acc, hl, h => by
    obtain ⟨s1, s2, s3, h1, h2, h3, h4⟩ := h a (.head _)
    rw [List.length_cons] at hl
    have ih := comp_map (g := g) (t := t) (fe := fe) (vs := vs) (s := s) e f as (acc ++ [f a]) (by simp; omega) fun x hx => h x (.tail _ hx)
    simp only [List.map_cons, compD, h1, h2, h3, Option.bind_some, h4, if_true, small_of (show acc.length ≤ 10000000 by omega), ih]
    simp
theorem comp_filter {α : Type} {g : FG} {t : TB} {fe : F} {vs : List Nat} {s : S} (e f : α → D) (p : α → Bool) : ∀ (as : List α) (acc : List D), acc.length + as.length ≤ 1000000 → (∀ a ∈ as, ∃ s1 s2, g (e a) s = some s1 ∧ t s1 = some (p a, s2) ∧ (p a = true → ∃ s3, fe s2 = some (f a, s3) ∧ wipeS s3 vs = s) ∧ (p a = false → wipeS s2 vs = s)) →
    compD g t fe vs (as.map e) s acc = some (acc ++ (as.filter p).map f, s)
  | [], acc, _, _ => by simp
  | a :: as, acc, hl, h => by
    obtain ⟨s1, s2, h1, h2, h3, h4⟩ := h a (.head _)
    rw [List.length_cons] at hl
    cases hp : p a with
    | true =>
      obtain ⟨s3, h5, h6⟩ := h3 hp
      have ih := comp_filter (g := g) (t := t) (fe := fe) (vs := vs) (s := s) e f p as (acc ++ [f a]) (by simp; omega) fun x hx => h x (.tail _ hx)
      simp only [List.map_cons, compD, h1, h2, h5, Option.bind_some, h6, if_true, small_of (show acc.length ≤ 10000000 by omega), ih, hp]
      simp [hp]
    | false =>
      have ih := comp_filter (g := g) (t := t) (fe := fe) (vs := vs) (s := s) e f p as acc (by omega) fun x hx => h x (.tail _ hx)
      simp only [List.map_cons, compD, h1, h2, Option.bind_some, h4 hp, if_false, ih, hp]
      simp [hp]
theorem zipD_map {α β : Type} (e : α → D) (f : β → D) : ∀ (as : List α) (bs : List β), zipD (as.map e) (bs.map f) = (as.zip bs).map fun p => .tup [e p.1, f p.2]
  | [], bs => by simp
  | a :: as, [] => by simp
  | a :: as, b :: bs => by
    have ih := zipD_map e f as bs
    simp only [zipD] at ih ⊢
    simp [ih]
/-! ### dicts -/
theorem look_put_same {κ : Type} [DecidableEq κ] {k : κ} {d : D} : ∀ {ks : List κ} {ds : List D}, ks.length = ds.length → look (putD ks ds k d).1 (putD ks ds k d).2 k = some d := by
  intro ks ds hl
  unfold putD
  by_cases h : k ∈ ks
  · rw [if_pos h]
    induction ks generalizing ds with
    | nil => cases h
    | cons k' ks ih =>
      cases ds with
      | nil => simp at hl
      | cons d' ds =>
        by_cases z : k' = k
        · simp [z]
        · have hk : k ∈ ks := by
            rcases List.mem_cons.mp h with q | q
            · exact absurd q.symm z
            · exact q
          have := ih (by simpa using hl) hk
          simpa [z] using this
  · rw [if_neg h]
    induction ks generalizing ds with
    | nil =>
      cases ds with
      | nil => simp
      | cons _ _ => simp at hl
    | cons k' ks ih =>
      cases ds with
      | nil => simp at hl
      | cons d' ds =>
        have z : ¬ k' = k := fun e => h (by rw [e]; exact .head _)
        have := ih (by simpa using hl) (fun q => h (.tail _ q))
        simpa [z] using this
theorem look_put_ne {κ : Type} [DecidableEq κ] {k j : κ} {d : D} (hn : j ≠ k) : ∀ {ks : List κ} {ds : List D}, ks.length = ds.length → look (putD ks ds k d).1 (putD ks ds k d).2 j = look ks ds j := by
  intro ks ds hl
  unfold putD
  by_cases h : k ∈ ks
  · rw [if_pos h]
    clear h
    induction ks generalizing ds with
    | nil => cases ds <;> simp
    | cons k' ks ih =>
      cases ds with
      | nil => simp at hl
      | cons d' ds =>
        have := ih (ds := ds) (by simpa using hl)
        by_cases z : k' = j
        · subst z; simp [hn]
        · simpa [z] using this
  · rw [if_neg h]
    clear h
    induction ks generalizing ds with
    | nil =>
      cases ds with
      | nil => simp [Ne.symm hn]
      | cons _ _ => simp at hl
    | cons k' ks ih =>
      cases ds with
      | nil => simp at hl
      | cons d' ds =>
        have := ih (ds := ds) (by simpa using hl)
        by_cases z : k' = j
        · simp [z]
        · simpa [z] using this
theorem putD_new {κ : Type} [DecidableEq κ] {k : κ} {d : D} {ks : List κ} {ds : List D} (h : k ∉ ks) : putD ks ds k d = (ks ++ [k], ds ++ [d]) := by unfold putD; rw [if_neg h]
theorem putD_fst_le {κ : Type} [DecidableEq κ] {k : κ} {d : D} {ks : List κ} {ds : List D} : (putD ks ds k d).1.length ≤ ks.length + 1 := by
  unfold putD
  split
  · simp
  · simp
/-- text keys, ints -/
def ksS (ns : List Str) : List Key := ns.map Sum.inr
def lookI : List Str → List Int → Str → Int
  | n :: ns, c :: cs, x => if n = x then c else lookI ns cs x
  | _, _, _ => 0
def setI (ns : List Str) (cs : List Int) (x : Str) (v : Int) : List Int := List.zipWith (fun n c => if n = x then v else c) ns cs
theorem look_ksS {x : Str} : ∀ {ns : List Str} {cs : List Int}, ns.length = cs.length → x ∈ ns → look (ksS ns) (cs.map D.int) (Sum.inr x) = some (.int (lookI ns cs x))
  | [], _, _, h => by cases h
  | n :: ns, [], h, _ => by simp at h
  | n :: ns, c :: cs, hl, h => by
    by_cases z : n = x
    · subst z; simp [ksS, lookI]
    · have hx : x ∈ ns := by
        rcases List.mem_cons.mp h with q | q
        · exact absurd q.symm z
        · exact q
      have := look_ksS (cs := cs) (by simpa using hl) hx
      simpa [ksS, lookI, z] using this
theorem put_ksS {x : Str} {v : Int} {ns : List Str} {cs : List Int} (h : x ∈ ns) : putD (ksS ns) (cs.map D.int) (Sum.inr x) (.int v) = (ksS ns, (setI ns cs x v).map D.int) := by
  unfold putD
  rw [if_pos (show (Sum.inr x : Key) ∈ ksS ns from List.mem_map.mpr ⟨x, h, rfl⟩)]
  congr 1
  clear h
  induction ns generalizing cs with
  | nil => simp [ksS, setI]
  | cons n ns ih =>
    cases cs with
    | nil => simp [ksS, setI]
    | cons c cs =>
      have := ih (cs := cs)
      simp only [ksS, setI] at this ⊢
      by_cases z : n = x
      · subst z; simp [this]
      · simp [z, this]
theorem setI_length (ns : List Str) (cs : List Int) (x : Str) (v : Int) (h : ns.length = cs.length) : (setI ns cs x v).length = cs.length := by simp [setI, h]
theorem dcomp_new {α : Type} {g : FG} {t : TB} {fk fv : F} {vs : List Nat} {s : S} (e : α → D) (k : α → Str) (f : α → D) : ∀ (as : List α) (ks : List Str) (acc : List D), ks.length + as.length ≤ 1000000 → (ks ++ as.map k).Nodup → (∀ a ∈ as, ∃ s1 s2 s3 s4, g (e a) s = some s1 ∧ t s1 = some (true, s2) ∧ fk s2 = some (.str (k a), s3) ∧ fv s3 = some (f a, s4) ∧ wipeS s4 vs = s) →
    dcompD g t fk fv vs (as.map e) s (ksS ks) acc = some ((ksS (ks ++ as.map k), acc ++ as.map f), s)
  | [], ks, acc, _, _, _ => by simp
  | a :: as, ks, acc, hl, nd, h => by
    obtain ⟨s1, s2, s3, s4, h1, h2, h3, h4, h5⟩ := h a (.head _)
    rw [List.length_cons] at hl
    have hn : (Sum.inr (k a) : Key) ∉ ksS ks := fun z => by
      obtain ⟨y, hy, e⟩ := List.mem_map.mp z
      cases e
      rw [List.map_cons, List.nodup_append] at nd
      exact nd.2.2 _ hy _ (.head _) rfl
    have hk : ksS ks ++ [Sum.inr (k a)] = ksS (ks ++ [k a]) := by simp [ksS]
    have ih := dcomp_new (g := g) (t := t) (fk := fk) (fv := fv) (vs := vs) (s := s) e k f as (ks ++ [k a]) (acc ++ [f a]) (by simp; omega) (by simpa using nd) fun x hx => h x (.tail _ hx)
    simp only [List.map_cons, dcompD, h1, h2, h3, h4, Option.bind_some, h5, if_true, key?, small_of (show (ksS ks).length ≤ 10000000 by simp [ksS]; omega), putD_new hn, hk, ih]
    simp
theorem pairs_map {α : Type} (k : α → Str) (f : α → D) : ∀ (as : List α), pairs? (as.map fun a => .tup [.str (k a), f a]) = some (as.map fun a => (Sum.inr (k a), f a))
  | [] => rfl
  | a :: as => by simp [pairs_map k f as]
theorem merge_new {α : Type} (k : α → Str) (f : α → D) : ∀ (as : List α) (ks : List Str) (acc : List D), (ks ++ as.map k).Nodup → mergeD (ksS ks, acc) (as.map fun a => (Sum.inr (k a), f a)) = (ksS (ks ++ as.map k), acc ++ as.map f)
  | [], ks, acc, _ => by simp
  | a :: as, ks, acc, nd => by
    have hn : (Sum.inr (k a) : Key) ∉ ksS ks := fun z => by
      obtain ⟨y, hy, e⟩ := List.mem_map.mp z
      cases e
      rw [List.map_cons, List.nodup_append] at nd
      exact nd.2.2 _ hy _ (.head _) rfl
    have hk : ksS ks ++ [Sum.inr (k a)] = ksS (ks ++ [k a]) := by simp [ksS]
    have ih := merge_new k f as (ks ++ [k a]) (acc ++ [f a]) (by simpa using nd)
    simp only [List.map_cons, mergeD, putD_new hn, hk, ih]
    simp
end Px

set_option Elab.async false
set_option linter.all false
set_option maxRecDepth 100000
set_option maxHeartbeats 4000000
/-! MBag: the law's own drawing functions -/
namespace Px.S
open PySem L2 Px
/-! ### loops -/
/-! ### the bag -/
def bagD (a b : Int) : D := .lst [.int a, .int b]
structure BagOk (a b : Int) : Prop where
  a0 : 0 ≤ a
  b0 : 0 ≤ b
  b1 : b < 2147483648
theorem take_ok {a b m : Int} (ok : BagOk a b) (hm : 0 < m) (hm2 : m < 1073741824) : ∃ r a' b', F__law_take (bagD a b) [.int m] = some (false, .int r, bagD a' b') ∧ BagOk a' b' ∧ 0 ≤ r ∧ r < m := by
  have l1 : m.natAbs.log2 < 9000 := Nat.lt_of_lt_of_le (log2_lt (n := 30) (by omega) (by omega)) (by omega)
  by_cases ha : 0 < a
  · refine ⟨a % m, a / m, b, ?_, ⟨Int.ediv_nonneg (by omega) (by omega), ok.b0, ok.b1⟩, Int.emod_nonneg _ (by omega), Int.emod_lt_of_pos _ hm⟩
    simp [F__law_take, f__law_take, bagD, atI, ixN, cDiv, ha, hm, l1]
  · have h1 : 0 ≤ b * 48271 % 2147483647 := Int.emod_nonneg _ (by omega)
    have h2 : b * 48271 % 2147483647 < 2147483647 := Int.emod_lt_of_pos _ (by omega)
    have l2 : b.natAbs.log2 < 31 := log2_lt (by have := ok.b0; have := ok.b1; omega) (by omega)
    have l3 : (b * 48271 % 2147483647).natAbs.log2 < 31 := log2_lt (by omega) (by omega)
    have l4 : (48271 : Int).natAbs.log2 < 16 := log2_lt (by decide) (by omega)
    have l5 : (64 : Int).natAbs.log2 < 7 := log2_lt (by decide) (by omega)
    refine ⟨b * 48271 % 2147483647 * (b * 48271 % 2147483647) % 2147483629 / 64 % m, a, b * 48271 % 2147483647, ?_, ⟨ok.a0, h1, by omega⟩, Int.emod_nonneg _ (by omega), Int.emod_lt_of_pos _ hm⟩
    have c1 : cMul b 48271 = true := decide_eq_true (by omega)
    have c2 : cMul (b * 48271 % 2147483647) (b * 48271 % 2147483647) = true := decide_eq_true (by omega)
    simp [F__law_take, f__law_take, bagD, atI, ixN, cDiv, ha, hm, c1, c2]
    have c3 : Nat.log2 64 < 9000 := by decide
    simp [c3, hm]
theorem of_ok {a b : Int} (ok : BagOk a b) (ds : List D) (h0 : ds ≠ []) (h1 : ds.length < 1000) : ∃ d a' b', F__law_of (bagD a b) [.lst ds] = some (false, d, bagD a' b') ∧ BagOk a' b' ∧ d ∈ ds := by
  have hp : 0 < ds.length := List.length_pos_iff.mpr h0
  obtain ⟨r, a', b', e, ok', h2, h3⟩ := take_ok (m := ds.length) ok (by omega) (by omega)
  have hr : r.toNat < ds.length := by omega
  refine ⟨ds[r.toNat], a', b', ?_, ok', List.getElem_mem _⟩
  simp [F__law_of, f__law_of, e, atI, ixN, h2, h3, hr]
/-! ### tubs -/
abbrev LD := List (List Key) × List D
abbrev Hole := Int × Int × Str
abbrev Tub := Str × Int × List Hole
def hD (h : Hole) : D := .tup [.int h.1, .int h.2.1, .str h.2.2]
def hK (name : Str) (h : Hole) : List Key := [.inr name, .inl h.1]
def tD (t : Tub) : D := .tup [.str t.1, .int t.2.1, .tup (t.2.2.map hD)]
def tubsD (ts : List Tub) : D := .tup (ts.map tD)
structure HoleOk (later : List Str) (h : Hole) : Prop where
  h0 : 0 ≤ h.1
  h1 : h.1 ≤ 1000
  r0 : 1 ≤ h.2.1
  r1 : h.2.1 ≤ 100
  into : h.2.2 = "" ∨ h.2.2 ∈ later
structure TubOk (later : List Str) (t : Tub) : Prop where
  g0 : 1 ≤ t.2.1
  g1 : t.2.1 ≤ 1000
  few : t.2.2.length ≤ 3
  rising : (t.2.2.map (·.1)).Pairwise (· < ·)
  holes : ∀ h ∈ t.2.2, HoleOk later h
structure TubsOk (ts : List Tub) : Prop where
  few : ts.length ≤ 3
  some : ts ≠ []
  nd : (ts.map (·.1)).Nodup
  ne : ∀ t ∈ ts, t.1 ≠ ""
  tub : ∀ (j : Nat) t, ts[j]? = Option.some t → TubOk ((ts.map (·.1)).drop (j + 1)) t
def stT (a b : Int) (nm : List Str) (fd : List D) (v4 v5 v6 v7 v8 v9 v10 v11 : Option Sl) : S :=
  [some (.rf, bagD a b), some (.sh, .int 3), some (.sh, .lst (nm.map D.str)), some (.ow, .lst fd), v4, v5, v6, v7, v8, v9, v10, v11]
theorem levels_turn {a b w : Int} {nm : List Str} {fd : List D} {v4 v5 v8 v9 v10 v11 : Option Sl} {ns : List Int} {ds : List D} (ok : BagOk a b) (hw : 0 < w) (hw2 : w ≤ 1001) (hl : ns.length = ds.length) (hs : ns.length ≤ 10) :
    ∃ a' b' ns' ds', L__law_tubs_2 (stT a b nm fd v4 v5 (some (.ow, .dK (ksI ns) ds)) (some (.sh, .int w)) v8 v9 v10 v11) = some (.nx (stT a' b' nm fd v4 v5 (some (.ow, .dK (ksI ns') ds')) (some (.sh, .int w)) v8 v9 v10 v11)) ∧
      BagOk a' b' ∧ ns'.length = ds'.length ∧ ns'.length ≤ ns.length + 1 ∧ (ns.Nodup → ns'.Nodup) ∧ ∀ m, m ∈ ns' → m ∈ ns ∨ (0 ≤ m ∧ m < w) := by
  obtain ⟨r, a', b', e, ok', h0, h1⟩ := take_ok (m := w) ok hw (by omega)
  obtain ⟨ns', ds', ep, g1, g2, g3, g4⟩ := putD_keys (n := r) (d := .bl true) hl
  refine ⟨a', b', ns', ds', ?_, ok', g1, g2, g3, fun m hm => ?_⟩
  · have hl' : (ksI ns).length = ds.length := by simp [ksI, hl]
    simp (disch := omega) [L__law_tubs_2, stT, e, hl', small_of, ep]
  · rcases (g4 m).mp hm with z | z
    · exact .inl z
    · subst z; exact .inr ⟨h0, h1⟩
theorem hole_turn {a b l : Int} {k : Nat} {nm : List Str} {fd : List D} {v5 v6 v7 v8 v11 : Option Sl} {hs : List Hole} (ok : BagOk a b) (hn : nm.length ≤ 3) (hh : hs.length ≤ 3) (hl0 : 0 ≤ l) (hl1 : l ≤ 1000) :
    ∃ a' b' h v11', L__law_tubs_1 (stT a b nm fd (some (.sh, .int k)) v5 v6 v7 v8 (some (.ow, .lst (hs.map hD))) (some (.sh, .int l)) v11) = some (.nx (stT a' b' nm fd (some (.sh, .int k)) v5 v6 v7 v8 (some (.ow, .lst ((hs ++ [h]).map hD))) (some (.sh, .int l)) v11')) ∧
      BagOk a' b' ∧ h.1 = l ∧ HoleOk (nm.drop (k + 1)) h := by
  obtain ⟨r1, a1, b1, e1, ok1, h10, h11⟩ := take_ok (m := 2) ok (by omega) (by omega)
  obtain ⟨d, hd, ed⟩ := atI_mem (l := [D.int 4, D.int 100]) h10 (by simpa using h11)
  obtain ⟨w, rfl, hw⟩ : ∃ w, d = .int w ∧ (w = 4 ∨ w = 100) := by
    rcases mem_two hd with rfl | rfl
    · exact ⟨4, rfl, .inl rfl⟩
    · exact ⟨100, rfl, .inr rfl⟩
  obtain ⟨r2, a2, b2, e2, ok2, h20, h21⟩ := take_ok (m := w) ok1 (by omega) (by omega)
  obtain ⟨d3, a3, b3, e3, ok3, hd3⟩ := of_ok ok2 (.str "" :: ((nm.drop (k + 1)).map D.str ++ (nm.drop (k + 1)).map D.str)) (by simp) (by simp; omega)
  obtain ⟨i, rfl, hi⟩ : ∃ i, d3 = .str i ∧ (i = "" ∨ i ∈ nm.drop (k + 1)) := by
    rcases List.mem_cons.mp hd3 with z | z
    · exact ⟨_, z, .inl rfl⟩
    · rcases List.mem_append.mp z with z | z <;> (obtain ⟨i, hi, e⟩ := List.mem_map.mp z; exact ⟨i, e.symm, .inr hi⟩)
  refine ⟨a3, b3, (l, 1 + r2, i), some (.sh, .int (1 + r2)), ?_, ok3, rfl, hl0, hl1, by show 1 ≤ 1 + r2; omega, by show 1 + r2 ≤ 100; omega, hi⟩
  simp only [List.map_drop] at e3
  simp (disch := omega) [L__law_tubs_1, stT, e1, ed, e2, cut_str, e3, small_of, hD]
theorem levels_loop {a b w : Int} {nm : List Str} {fd : List D} {v4 v5 v8 v9 v10 v11 : Option Sl} (n : Nat) (hn : n ≤ 3) (ok : BagOk a b) (hw : 0 < w) (hw2 : w ≤ 1001) :
    ∃ a' b' ns ds v8', loopD (hName 8) L__law_tubs_2 (rng 0 n) (stT a b nm fd v4 v5 (some (.ow, .dK [] [])) (some (.sh, .int w)) v8 v9 v10 v11) = some (.nx (stT a' b' nm fd v4 v5 (some (.ow, .dK (ksI ns) ds)) (some (.sh, .int w)) v8' v9 v10 v11)) ∧
      BagOk a' b' ∧ ns.length = ds.length ∧ ns.length ≤ 3 ∧ ns.Nodup ∧ ∀ m ∈ ns, 0 ≤ m ∧ m < w := by
  obtain ⟨s', e, a', b', ns, ds, v8', rfl, h1, h2, h3, h4, h5⟩ := loop_inv0 (g := hName 8) (fb := L__law_tubs_2) (fun i s => ∃ a' b' ns ds v8', s = stT a' b' nm fd v4 v5 (some (.ow, .dK (ksI ns) ds)) (some (.sh, .int w)) v8' v9 v10 v11 ∧ BagOk a' b' ∧ ns.length = ds.length ∧ ns.length ≤ i ∧ ns.Nodup ∧ ∀ m ∈ ns, 0 ≤ m ∧ m < w) (rng 0 n) (stT a b nm fd v4 v5 (some (.ow, .dK [] [])) (some (.sh, .int w)) v8 v9 v10 v11)
    ⟨a, b, [], [], v8, rfl, ok, rfl, Nat.le_refl _, .nil, by simp⟩ fun i d s hi ⟨a1, b1, ns, ds, v, hs, ok1, l1, l2, nd, hm⟩ => by
      subst hs
      have hi2 := (rng_get hi).2
      obtain ⟨a2, b2, ns2, ds2, e2, ok2, l3, l4, l5, l6⟩ := levels_turn (nm := nm) (fd := fd) (v4 := v4) (v5 := v5) (v8 := some (.sh, d)) (v9 := v9) (v10 := v10) (v11 := v11) ok1 hw hw2 l1 (by omega)
      exact ⟨_, _, rfl, e2, a2, b2, ns2, ds2, _, rfl, ok2, l3, by omega, l5 nd, fun m hm2 => (l6 m hm2).elim (hm m) id⟩
  rw [rng_length] at h3
  exact ⟨a', b', ns, ds, v8', e, h1, h2, by omega, h4, h5⟩
theorem holes_loop {k : Nat} {nm : List Str} {fd : List D} {v5 v6 v7 v8 : Option Sl} (hn : nm.length ≤ 3) : ∀ (ls : List Int) (hs : List Hole) (a b : Int) (v10 v11 : Option Sl), BagOk a b → hs.length + ls.length ≤ 3 → (∀ l ∈ ls, 0 ≤ l ∧ l ≤ 1000) → (∀ h ∈ hs, HoleOk (nm.drop (k + 1)) h) →
    ∃ (a' b' : Int) (hs' : List Hole) (v10' v11' : Option Sl), loopD (hName 10) L__law_tubs_1 (ls.map D.int) (stT a b nm fd (some (.sh, .int k)) v5 v6 v7 v8 (some (.ow, .lst (hs.map hD))) v10 v11) = some (.nx (stT a' b' nm fd (some (.sh, .int k)) v5 v6 v7 v8 (some (.ow, .lst (hs'.map hD))) v10' v11')) ∧
      BagOk a' b' ∧ hs'.map (·.1) = hs.map (·.1) ++ ls ∧ ∀ h ∈ hs', HoleOk (nm.drop (k + 1)) h
  | [], hs, a, b, v10, v11, ok, _, _, hh => ⟨a, b, hs, v10, v11, rfl, ok, by simp, hh⟩
  | l :: ls, hs, a, b, v10, v11, ok, hl, hr, hh => by
    rw [List.length_cons] at hl
    obtain ⟨a1, b1, h, v11', e1, ok1, e2, ho⟩ := hole_turn (l := l) (k := k) (nm := nm) (fd := fd) (v5 := v5) (v6 := v6) (v7 := v7) (v8 := v8) (v11 := v11) (hs := hs) ok hn (by omega) (hr l (.head _)).1 (hr l (.head _)).2
    obtain ⟨a2, b2, hs2, v10', v11'', e3, ok2, e4, ho2⟩ := holes_loop hn ls (hs ++ [h]) a1 b1 (some (.sh, .int l)) v11' ok1 (by simp; omega) (fun x hx => hr x (.tail _ hx)) (fun x hx => by
      rcases List.mem_append.mp hx with z | z
      · exact hh x z
      · have : x = h := by simpa using z
        subst this; exact ho)
    refine ⟨a2, b2, hs2, v10', v11'', ?_, ok2, by rw [e4]; simp [e2], ho2⟩
    rw [List.map_cons]
    have e0 : hName 10 (.int l) (stT a b nm fd (some (.sh, .int k)) v5 v6 v7 v8 (some (.ow, .lst (hs.map hD))) v10 v11) = some (stT a b nm fd (some (.sh, .int k)) v5 v6 v7 v8 (some (.ow, .lst (hs.map hD))) (some (.sh, .int l)) v11) := rfl
    exact (loop_cons e0 e1).trans e3
theorem tub_turn {a b : Int} {k : Nat} {x : Str} {nm : List Str} {fd : List D} {v6 v7 v8 v9 v10 v11 : Option Sl} (ok : BagOk a b) (hn : nm.length ≤ 3) (hf : fd.length ≤ 3) :
    ∃ a' b' t v6' v7' v8' v9' v10' v11', L__law_tubs_3 (stT a b nm fd (some (.sh, .int k)) (some (.sh, .str x)) v6 v7 v8 v9 v10 v11) = some (.nx (stT a' b' nm (fd ++ [tD t]) (some (.sh, .int k)) (some (.sh, .str x)) v6' v7' v8' v9' v10' v11')) ∧
      BagOk a' b' ∧ t.1 = x ∧ TubOk (nm.drop (k + 1)) t := by
  obtain ⟨r1, a1, b1, e1, ok1, h10, h11⟩ := take_ok (m := 3) ok (by omega) (by omega)
  obtain ⟨d, hd, ed⟩ := atI_mem (l := [D.int 4, D.int 12, D.int 1001]) h10 (by simpa using h11)
  obtain ⟨w, rfl, hw⟩ : ∃ w, d = .int w ∧ (w = 4 ∨ w = 12 ∨ w = 1001) := by
    rcases mem_three hd with rfl | rfl | rfl
    · exact ⟨4, rfl, .inl rfl⟩
    · exact ⟨12, rfl, .inr (.inl rfl)⟩
    · exact ⟨1001, rfl, .inr (.inr rfl)⟩
  obtain ⟨r2, a2, b2, e2, ok2, h20, h21⟩ := take_ok (m := 4) ok1 (by omega) (by omega)
  obtain ⟨a3, b3, ns, ds, v8', e3, ok3, l1, l2, nd, hm⟩ := levels_loop (nm := nm) (fd := fd) (v4 := some (.sh, .int k)) (v5 := some (.sh, .str x)) (v8 := v8) (v9 := v9) (v10 := v10) (v11 := v11) (w := w) r2.toNat (by omega) ok2 (by omega) (by omega)
  obtain ⟨a4, b4, hs, v10', v11', e4, ok4, e5, ho⟩ := holes_loop (k := k) (nm := nm) (fd := fd) (v5 := some (.sh, .str x)) (v6 := some (.ow, .dK (ksI ns) ds)) (v7 := some (.sh, .int w)) (v8 := v8') hn (sortI ns) [] a3 b3 v10 v11 ok3 (by rw [(sortI_perm ns).length_eq]; simpa using l2) (fun l hl => by
    have := hm l ((sortI_perm ns).mem_iff.mp hl)
    omega) (by simp)
  obtain ⟨r5, a5, b5, e6, ok5, h50, h51⟩ := take_ok (m := 2) ok4 (by omega) (by omega)
  obtain ⟨d, hd, ed5⟩ := atI_mem (l := [D.int 3, D.int 30]) h50 (by simpa using h51)
  obtain ⟨w5, rfl, hw5⟩ : ∃ w, d = .int w ∧ (w = 3 ∨ w = 30) := by
    rcases mem_two hd with rfl | rfl
    · exact ⟨3, rfl, .inl rfl⟩
    · exact ⟨30, rfl, .inr rfl⟩
  obtain ⟨r6, a6, b6, e7, ok6, h60, h61⟩ := take_ok (m := w5) ok5 (by omega) (by omega)
  have lh : hs.length = ns.length := by
    have := congrArg List.length e5
    simpa [(sortI_perm ns).length_eq] using this
  refine ⟨a6, b6, (x, 1 + r6, hs), some (.ow, .dK (ksI ns) ds), some (.sh, .int w), v8', some (.ow, .lst (hs.map hD)), v10', v11', ?_, ok6, rfl, ⟨by show 1 ≤ 1 + r6; omega, by show 1 + r6 ≤ 1000; omega, by show hs.length ≤ 3; omega, by show (hs.map (·.1)).Pairwise (· < ·); rw [e5]; simpa using sortI_lt nd, ho⟩⟩
  unfold L__law_tubs_3
  have q1 : sSetO 6 eDNewK (stT a b nm fd (some (.sh, .int k)) (some (.sh, .str x)) v6 v7 v8 v9 v10 v11) = some (.nx (stT a b nm fd (some (.sh, .int k)) (some (.sh, .str x)) (some (.ow, .dK [] [])) v7 v8 v9 v10 v11)) := rfl
  rw [seq_nx q1]
  have q2 : sSet 7 (eIx (pE (eLst (aCons (eC (.int 4)) (aCons (eC (.int 12)) (aCons (eC (.int 1001)) aNil))))) (eCallB F__law_take 0 (aCons (eC (.int 3)) aNil))) (stT a b nm fd (some (.sh, .int k)) (some (.sh, .str x)) (some (.ow, .dK [] [])) v7 v8 v9 v10 v11) = some (.nx (stT a1 b1 nm fd (some (.sh, .int k)) (some (.sh, .str x)) (some (.ow, .dK [] [])) (some (.sh, .int w)) v8 v9 v10 v11)) := by
    simp (disch := omega) [stT, e1, ed, small_of]
  rw [seq_nx q2]
  have q3 : iRng1 (eCallB F__law_take 0 (aCons (eC (.int 4)) aNil)) (stT a1 b1 nm fd (some (.sh, .int k)) (some (.sh, .str x)) (some (.ow, .dK [] [])) (some (.sh, .int w)) v8 v9 v10 v11) = some (rng 0 r2.toNat, stT a2 b2 nm fd (some (.sh, .int k)) (some (.sh, .str x)) (some (.ow, .dK [] [])) (some (.sh, .int w)) v8 v9 v10 v11) := by
    have c : cRng r2 = true := cRng_of (by omega) (by omega)
    simp [stT, e2, c]
  rw [seq_nx ((for_of q3).trans e3)]
  have q4 : sSetO 9 (eLst aNil) (stT a3 b3 nm fd (some (.sh, .int k)) (some (.sh, .str x)) (some (.ow, .dK (ksI ns) ds)) (some (.sh, .int w)) v8' v9 v10 v11) = some (.nx (stT a3 b3 nm fd (some (.sh, .int k)) (some (.sh, .str x)) (some (.ow, .dK (ksI ns) ds)) (some (.sh, .int w)) v8' (some (.ow, .lst [])) v10 v11)) := by
    simp (disch := omega) [stT, small_of]
  rw [seq_nx q4]
  have q5 : iSeq (eB1 gSortedD (pVar 6)) (stT a3 b3 nm fd (some (.sh, .int k)) (some (.sh, .str x)) (some (.ow, .dK (ksI ns) ds)) (some (.sh, .int w)) v8' (some (.ow, .lst [])) v10 v11) = some ((sortI ns).map D.int, stT a3 b3 nm fd (some (.sh, .int k)) (some (.sh, .str x)) (some (.ow, .dK (ksI ns) ds)) (some (.sh, .int w)) v8' (some (.ow, .lst [])) v10 v11) := by
    have : ns.length < 64 := by omega
    simp [stT, ksI, kints_map, this]
  rw [seq_nx ((for_of q5).trans e4)]
  simp (disch := omega) [stT, e6, ed5, e7, small_of, tD, List.length_map]
def Named (x : Str) : Prop := x = "ann" ∨ x = "bo" ∨ x = "cy"
theorem tubs_ok2 {a b : Int} (ok : BagOk a b) : ∃ ts a' b', F__law_tubs (bagD a b) [.int 3] = some (false, tubsD ts, bagD a' b') ∧ BagOk a' b' ∧ TubsOk ts ∧ ∀ t ∈ ts, Named t.1 := by
  obtain ⟨d, a1, b1, e1, ok1, hd⟩ := of_ok ok [.lst [.str "ann", .str "bo", .str "cy"], .lst [.str "cy", .str "ann", .str "bo"]] (by simp) (by simp)
  obtain ⟨r, a2, b2, e2, ok2, h20, h21⟩ := take_ok (m := 3) ok1 (by omega) (by omega)
  obtain ⟨nm0, rfl, hl, nd, ne, nn⟩ : ∃ nm : List Str, d = .lst (nm.map D.str) ∧ nm.length = 3 ∧ nm.Nodup ∧ (∀ x ∈ nm, x ≠ "") ∧ ∀ x ∈ nm, Named x := by
    rcases mem_two hd with rfl | rfl
    · exact ⟨["ann", "bo", "cy"], rfl, rfl, by decide, by decide, by simp [Named]⟩
    · exact ⟨["cy", "ann", "bo"], rfl, rfl, by decide, by decide, by simp [Named]⟩
  have hn : (nm0.take (r.toNat + 1)).length = r.toNat + 1 := by rw [List.length_take, hl]; omega
  have nd2 : (nm0.take (r.toNat + 1)).Nodup := nd.sublist (List.take_sublist _ _)
  have ne2 : ∀ x ∈ nm0.take (r.toNat + 1), x ≠ "" := fun x hx => ne x (List.mem_of_mem_take hx)
  have nn2 : ∀ x ∈ nm0.take (r.toNat + 1), Named x := fun x hx => nn x (List.mem_of_mem_take hx)
  have hcut : cutD (nm0.map D.str) none (some (1 + r)) = (nm0.take (r.toNat + 1)).map D.str := by
    rw [show 1 + r = ((r.toNat + 1 : Nat) : Int) by omega, cut_take, List.map_take]
  generalize nm0.take (r.toNat + 1) = nm at hn nd2 ne2 nn2 hcut
  obtain ⟨s', e, a', b', ts, v4, v5, v6, v7, v8, v9, v10, v11, rfl, ok', h1, h2, h3⟩ := loop_inv0 (g := hTup (hCons (hName 4) (hCons (hName 5) hNil))) (fb := L__law_tubs_3)
    (fun i s => ∃ (a' b' : Int) (ts : List Tub) (v4 v5 v6 v7 v8 v9 v10 v11 : Option Sl), s = stT a' b' nm (ts.map tD) v4 v5 v6 v7 v8 v9 v10 v11 ∧ BagOk a' b' ∧ ts.length = i ∧ ts.map (·.1) = nm.take i ∧ ∀ (j : Nat) t, ts[j]? = some t → TubOk (nm.drop (j + 1)) t)
    (enumD 0 (nm.map D.str)) (stT a2 b2 nm [] none none none none none none none none)
    ⟨a2, b2, [], _, _, _, _, _, _, _, _, rfl, ok2, rfl, rfl, by simp⟩ fun i d s hi ⟨a3, b3, ts, v4, v5, v6, v7, v8, v9, v10, v11, hs, ok3, l1, l2, l3⟩ => by
      subst hs
      obtain ⟨x, hx, rfl⟩ := enumD_get hi
      rw [List.getElem?_map] at hx
      have hi2 : i < nm.length := by
        by_cases z : i < nm.length
        · exact z
        · simp [z] at hx
      have hxe : x = .str nm[i] := by simp [hi2] at hx; exact hx.symm
      subst hxe
      obtain ⟨a4, b4, t, v6', v7', v8', v9', v10', v11', e4, ok4, et, ht⟩ := tub_turn (k := i) (x := nm[i]) (nm := nm) (fd := ts.map tD) (v6 := v6) (v7 := v7) (v8 := v8) (v9 := v9) (v10 := v10) (v11 := v11) ok3 (by omega) (by simp; omega)
      refine ⟨_, _, ?_, e4, a4, b4, ts ++ [t], _, _, _, _, _, _, _, _, by rw [List.map_append]; rfl, ok4, by simp [l1], ?_, fun j u hj => ?_⟩
      · simp [stT]
      · rw [List.map_append, l2, List.take_add_one]
        simp [et, hi2]
      · by_cases z : j < ts.length
        · rw [List.getElem?_append_left z] at hj
          exact l3 j u hj
        · rw [List.getElem?_append_right (by omega)] at hj
          have hj2 : j - ts.length = 0 := by
            by_cases y : j - ts.length = 0
            · exact y
            · have : ([t] : List Tub)[j - ts.length]? = none := by simp; omega
              rw [this] at hj; cases hj
          rw [hj2] at hj
          simp at hj
          subst hj
          rw [show j = i by omega]
          exact ht
  rw [enumD_length, List.length_map] at h1 h2
  rw [List.take_of_length_le (Nat.le_refl _)] at h2
  refine ⟨ts, a', b', ?_, ok', ⟨by omega, by intro z; rw [z] at h1; simp at h1; omega, by rw [h2]; exact nd2, fun t ht => ne2 _ (by rw [← h2]; exact List.mem_map.mpr ⟨t, ht, rfl⟩), fun j t hj => by rw [h2]; exact h3 j t hj⟩, fun t ht => nn2 _ (by rw [← h2]; exact List.mem_map.mpr ⟨t, ht, rfl⟩)⟩
  have q1 : sSet 2 (eSl (pE (eCallB F__law_of 0 (aCons (eLst (aCons (eLst (aCons (eC (.str "ann")) (aCons (eC (.str "bo")) (aCons (eC (.str "cy")) aNil)))) (aCons (eLst (aCons (eC (.str "cy")) (aCons (eC (.str "ann")) (aCons (eC (.str "bo")) aNil)))) aNil))) aNil))) oNone (oSome (eAdd (eC (.int 1)) (eCallB F__law_take 0 (aCons (eVar 1) aNil))))) (initB 12 (bagD a b) [.int 3]) = some (.nx [some (.rf, bagD a2 b2), some (.sh, .int 3), some (.sh, .lst (nm.map D.str)), none, none, none, none, none, none, none, none, none]) := by
    simp (disch := omega) [small_of, e1, e2, hcut, List.replicate]
  have q2 : sSetO 3 (eLst aNil) [some (.rf, bagD a2 b2), some (.sh, .int 3), some (.sh, .lst (nm.map D.str)), none, none, none, none, none, none, none, none, none] = some (.nx (stT a2 b2 nm [] none none none none none none none none)) := by
    simp (disch := omega) [stT, small_of]
  have q3 : iEnum (eVar 2) (stT a2 b2 nm [] none none none none none none none none) = some (enumD 0 (nm.map D.str), stT a2 b2 nm [] none none none none none none none none) := by
    simp [stT]
  unfold F__law_tubs f__law_tubs
  simp only [runB]
  rw [seq_nx q1, seq_nx q2, seq_nx ((for_of q3).trans e)]
  have hts : ts.length ≤ 3 := by omega
  simp (disch := omega) [stT, small_of, tubsD]
theorem tubs_ok {a b : Int} (ok : BagOk a b) : ∃ ts a' b', F__law_tubs (bagD a b) [.int 3] = some (false, tubsD ts, bagD a' b') ∧ BagOk a' b' ∧ TubsOk ts := by
  obtain ⟨ts, a', b', e, ok', h, _⟩ := tubs_ok2 ok
  exact ⟨ts, a', b', e, ok', h⟩
end Px.S

set_option Elab.async false
set_option linter.all false
set_option maxRecDepth 100000
set_option maxHeartbeats 4000000
/-! MRain: the law's rain -/
namespace Px.S
open PySem L2 Px
def stR (a b : Int) (ts : List Tub) (fd : List D) (v3 v4 v5 v6 v7 v8 : Option Sl) : S := [some (.rf, bagD a b), some (.sh, tubsD ts), some (.ow, .lst fd), v3, v4, v5, v6, v7, v8]
theorem sums_loop {a b : Int} {ts : List Tub} {fd : List D} {v3 v4 v5 : Option Sl} : ∀ (hs : List Hole) (ss : List Int) (t : Int) (v8 : Option Sl), ss.length + hs.length ≤ 10 →
    (∀ h ∈ hs, 1 ≤ h.2.1 ∧ h.2.1 ≤ 100) → (∀ x ∈ ss, 0 ≤ x ∧ x ≤ 300) → 0 ≤ t → t + 100 * hs.length ≤ 300 →
    ∃ (ss' : List Int) (t' : Int) (v8' : Option Sl), loopD (hName 8) L__law_rain_1 (hs.map hD) (stR a b ts fd v3 v4 v5 (some (.ow, .lst (ss.map D.int))) (some (.sh, .int t)) v8) = some (.nx (stR a b ts fd v3 v4 v5 (some (.ow, .lst (ss'.map D.int))) (some (.sh, .int t')) v8')) ∧
      ss'.length = ss.length + hs.length ∧ ∀ x ∈ ss', 0 ≤ x ∧ x ≤ 300
  | [], ss, t, v8, _, _, h2, _, _ => ⟨ss, t, v8, rfl, by simp, h2⟩
  | h :: hs, ss, t, v8, h0, h1, h2, h3, h4 => by
    have hh := h1 h (.head _)
    rw [List.length_cons] at h0 h4
    obtain ⟨ss', t', v8', e, l, q⟩ := sums_loop (a := a) (b := b) (ts := ts) (fd := fd) (v3 := v3) (v4 := v4) (v5 := v5) hs (ss ++ [t + h.2.1]) (t + h.2.1) (some (.sh, hD h)) (by simp; omega) (fun x hx => h1 x (.tail _ hx)) (fun x hx => by
      rcases List.mem_append.mp hx with z | z
      · exact h2 x z
      · have : x = t + h.2.1 := by simpa using z
        omega) (by omega) (by omega)
    refine ⟨ss', t', v8', ?_, by rw [l]; simp; omega, q⟩
    rw [List.map_cons]
    refine (loop_cons rfl ?_).trans e
    have : ss.length ≤ 10 := by omega
    simp (disch := omega) [L__law_rain_1, stR, hD, atI, ixN, small_of]
theorem rain_turn {a b : Int} {ts : List Tub} {t : Tub} {later : List Str} {fd : List D} {v6 v7 v8 : Option Sl} (ok : BagOk a b) (ht : TubOk later t) (hf : fd.length ≤ 3) :
    ∃ (a' b' r : Int) (v6' v7' v8' : Option Sl), L__law_rain_2 (stR a b ts fd (some (.sh, .str t.1)) (some (.sh, .int t.2.1)) (some (.sh, .tup (t.2.2.map hD))) v6 v7 v8) = some (.nx (stR a' b' ts (fd ++ [.int r]) (some (.sh, .str t.1)) (some (.sh, .int t.2.1)) (some (.sh, .tup (t.2.2.map hD))) v6' v7' v8')) ∧
      BagOk a' b' ∧ 0 ≤ r ∧ r ≤ 300 := by
  have few := ht.few
  obtain ⟨ss, tt, v8', e1, l1, q1⟩ := sums_loop (a := a) (b := b) (ts := ts) (fd := fd) (v3 := some (.sh, .str t.1)) (v4 := some (.sh, .int t.2.1)) (v5 := some (.sh, .tup (t.2.2.map hD))) t.2.2 [0] 0 v8 (by simp; omega) (fun h hh => ⟨(ht.holes h hh).r0, (ht.holes h hh).r1⟩) (by simp) (by omega) (by omega)
  obtain ⟨d2, a2, b2, e2, ok2, hd2⟩ := of_ok ok (ss.map D.int) (by intro z; have := congrArg List.length z; simp [l1] at this) (by simp [l1]; omega)
  obtain ⟨n, hn, rfl⟩ := mem_ints hd2
  obtain ⟨r3, a3, b3, e3, ok3, h30, h31⟩ := take_ok (m := 8) ok2 (by omega) (by omega)
  obtain ⟨r4, a4, b4, e4, ok4, h40, h41⟩ := take_ok (m := 200) ok3 (by omega) (by omega)
  obtain ⟨r5, a5, b5, e5, ok5, h50, h51⟩ := take_ok (m := 4) ok4 (by omega) (by omega)
  obtain ⟨d, hd, ed⟩ := atI_mem (l := [D.int n, D.int r3, D.int r4, D.int 0]) h50 (by simpa using h51)
  obtain ⟨r, rfl, h0, h1⟩ : ∃ r, d = .int r ∧ 0 ≤ r ∧ r ≤ 300 := by
    have := q1 n hn
    rcases mem_four hd with rfl | rfl | rfl | rfl
    · exact ⟨_, rfl, this.1, this.2⟩
    · exact ⟨_, rfl, by omega, by omega⟩
    · exact ⟨_, rfl, by omega, by omega⟩
    · exact ⟨_, rfl, by omega, by omega⟩
  refine ⟨a5, b5, r, some (.sh, .lst (ss.map D.int)), some (.sh, .int tt), v8', ?_, ok5, h0, h1⟩
  unfold L__law_rain_2
  have p1 : sParO 6 7 (eLst (aCons (eC (.int 0)) aNil)) (.int 0) (stR a b ts fd (some (.sh, .str t.1)) (some (.sh, .int t.2.1)) (some (.sh, .tup (t.2.2.map hD))) v6 v7 v8) = some (.nx (stR a b ts fd (some (.sh, .str t.1)) (some (.sh, .int t.2.1)) (some (.sh, .tup (t.2.2.map hD))) (some (.ow, .lst ([0].map D.int))) (some (.sh, .int 0)) v8)) := by
    simp (disch := omega) [stR, small_of]
  have p2 : iSeq (eVar 5) (stR a b ts fd (some (.sh, .str t.1)) (some (.sh, .int t.2.1)) (some (.sh, .tup (t.2.2.map hD))) (some (.ow, .lst ([0].map D.int))) (some (.sh, .int 0)) v8) = some (t.2.2.map hD, stR a b ts fd (some (.sh, .str t.1)) (some (.sh, .int t.2.1)) (some (.sh, .tup (t.2.2.map hD))) (some (.ow, .lst ([0].map D.int))) (some (.sh, .int 0)) v8) := by
    simp [stR]
  rw [seq_nx p1, seq_nx ((for_of p2).trans e1)]
  simp (disch := omega) [stR, e2, e3, e4, e5, ed, small_of]
theorem rain_ok {a b : Int} {ts : List Tub} (ok : BagOk a b) (ht : TubsOk ts) : ∃ (rs : List Int) (a' b' : Int), F__law_rain (bagD a b) [tubsD ts] = some (false, .tup (rs.map D.int), bagD a' b') ∧ BagOk a' b' ∧ rs.length = ts.length ∧ ∀ r ∈ rs, 0 ≤ r ∧ r ≤ 300 := by
  have few := ht.few
  obtain ⟨s', e, a', b', rs, v3, v4, v5, v6, v7, v8, rfl, ok', h1, h2⟩ := loop_inv0 (g := hTup (hCons (hName 3) (hCons (hName 4) (hCons (hName 5) hNil)))) (fb := L__law_rain_2)
    (fun i s => ∃ (a' b' : Int) (rs : List Int) (v3 v4 v5 v6 v7 v8 : Option Sl), s = stR a' b' ts (rs.map D.int) v3 v4 v5 v6 v7 v8 ∧ BagOk a' b' ∧ rs.length = i ∧ ∀ r ∈ rs, 0 ≤ r ∧ r ≤ 300)
    (ts.map tD) (stR a b ts [] none none none none none none)
    ⟨a, b, [], _, _, _, _, _, _, rfl, ok, rfl, by simp⟩ fun i d s hi ⟨a3, b3, rs, v3, v4, v5, v6, v7, v8, hs, ok3, l1, l2⟩ => by
      subst hs
      rw [List.getElem?_map] at hi
      obtain ⟨t, ht1, rfl⟩ := Option.map_eq_some_iff.mp hi
      have hi2 := (List.getElem?_eq_some_iff.mp ht1).1
      obtain ⟨a4, b4, r, v6', v7', v8', e4, ok4, h0, h1⟩ := rain_turn (ts := ts) (fd := rs.map D.int) (v6 := v6) (v7 := v7) (v8 := v8) ok3 (ht.tub i t ht1) (by simp; omega)
      refine ⟨_, _, rfl, e4, a4, b4, rs ++ [r], _, _, _, _, _, _, by rw [List.map_append]; rfl, ok4, by simp [l1], fun x hx => ?_⟩
      rcases List.mem_append.mp hx with z | z
      · exact l2 x z
      · have : x = r := by simpa using z
        subst this; exact ⟨h0, h1⟩
  rw [List.length_map] at h1
  refine ⟨rs, a', b', ?_, ok', h1, h2⟩
  have q1 : sSetO 2 (eLst aNil) (initB 9 (bagD a b) [tubsD ts]) = some (.nx (stR a b ts [] none none none none none none)) := by
    simp (disch := omega) [small_of, stR, List.replicate]
  have q2 : iSeq (eVar 1) (stR a b ts [] none none none none none none) = some (ts.map tD, stR a b ts [] none none none none none none) := by
    simp [stR, tubsD]
  unfold F__law_rain f__law_rain
  simp only [runB]
  rw [seq_nx q1, seq_nx ((for_of q2).trans e)]
  have hts : rs.length ≤ 3 := by omega
  simp (disch := omega) [stR, small_of]
end Px.S

set_option Elab.async false
set_option linter.all false
set_option maxRecDepth 100000
set_option maxHeartbeats 4000000
/-! MEnds: what comes in the end; where a tub rests -/
namespace Px.S
open PySem L2 Px
def minI (i j : Int) : Int := if j < i then j else i
/-- through the holes of a tub -/
def holesP (nms : List Str) (name : Str) : List Hole → Int → List Int → LD → List Int × LD
  | [], _, cs, l => (cs, l)
  | h :: hs, left, cs, l => holesP nms name hs (left - minI h.2.1 left) (if h.2.2 = "" then cs else setI nms cs h.2.2 (lookI nms cs h.2.2 + minI h.2.1 left)) (putD l.1 l.2 (hK name h) (.int (minI h.2.1 left)))
def tubsP (nms : List Str) : List Tub → List Int → LD → List Int × LD
  | [], cs, l => (cs, l)
  | t :: ts, cs, l => tubsP nms ts (holesP nms t.1 t.2.2 (lookI nms cs t.1) cs l).1 (holesP nms t.1 t.2.2 (lookI nms cs t.1) cs l).2
def nmsOf (ts : List Tub) : List Str := ts.map (·.1)
def comesP (ts : List Tub) (rs : List Int) : List Int := (tubsP (nmsOf ts) ts rs ([], [])).1
def letsEP (ts : List Tub) (rs : List Int) : LD := (tubsP (nmsOf ts) ts rs ([], [])).2
def stE (ts : List Tub) (rd : D) (nms : List Str) (cs : List Int) (l : LD) (v4 v5 v6 v7 v8 v9 v10 v11 : Option Sl) : S :=
  [some (.sh, tubsD ts), some (.sh, rd), some (.ow, .dK (ksS nms) (cs.map D.int)), some (.ow, .dT l.1 l.2), v4, v5, v6, v7, v8, v9, v10, v11]
theorem ends_holes {ts : List Tub} {rd : D} {nms later : List Str} {name : Str} {v5 v6 v11 : Option Sl} (hsub : ∀ x ∈ later, x ∈ nms) : ∀ (hs : List Hole) (left : Int) (cs : List Int) (l : LD) (v8 v9 v10 : Option Sl), nms.length = cs.length → l.1.length = l.2.length → l.1.length + hs.length ≤ 1000 → (∀ h ∈ hs, HoleOk later h) → nms.length ≤ 3 →
    ∃ v7' v8' v9' v10', loopD (hTup (hCons (hName 8) (hCons (hName 9) (hCons (hName 10) hNil)))) L_ends_of_1 (hs.map hD) (stE ts rd nms cs l (some (.sh, .str name)) v5 v6 (some (.sh, .int left)) v8 v9 v10 v11) = some (.nx (stE ts rd nms (holesP nms name hs left cs l).1 (holesP nms name hs left cs l).2 (some (.sh, .str name)) v5 v6 v7' v8' v9' v10' v11)) ∧
      (holesP nms name hs left cs l).1.length = cs.length ∧ (holesP nms name hs left cs l).2.1.length = (holesP nms name hs left cs l).2.2.length ∧ (holesP nms name hs left cs l).2.1.length ≤ l.1.length + hs.length
  | [], left, cs, l, v8, v9, v10, h1, h2, h3, h4, h5 => ⟨_, _, _, _, rfl, rfl, h2, by simp [holesP]⟩
  | h :: hs, left, cs, l, v8, v9, v10, h1, h2, h3, h4, h5 => by
    rw [List.length_cons] at h3
    have hh := h4 h (.head _)
    have hp : (putD l.1 l.2 (hK name h) (.int (minI h.2.1 left))).1.length ≤ l.1.length + 1 := putD_fst_le
    have hlk := look_put_same (k := hK name h) (d := .int (minI h.2.1 left)) h2
    obtain ⟨v7', v8', v9', v10', e, q1, q2, q3⟩ := ends_holes (ts := ts) (rd := rd) (v5 := v5) (v6 := v6) (v11 := v11) hsub hs (left - minI h.2.1 left) (if h.2.2 = "" then cs else setI nms cs h.2.2 (lookI nms cs h.2.2 + minI h.2.1 left)) (putD l.1 l.2 (hK name h) (.int (minI h.2.1 left))) (some (.sh, .int h.1)) (some (.sh, .int h.2.1)) (some (.sh, .str h.2.2))
      (by split; exact h1; rw [setI_length _ _ _ _ h1]; exact h1) (putD_len h2) (by omega) (fun x hx => h4 x (.tail _ hx)) h5
    refine ⟨v7', v8', v9', v10', ?_, ?_, q2, by simp only [holesP, List.length_cons]; omega⟩
    · rw [List.map_cons]
      refine (loop_cons rfl ?_).trans e
      have hm : (if left < h.2.1 then left else h.2.1) = minI h.2.1 left := rfl
      have hk : ([.inr name, .inl h.1] : List Key) = hK name h := rfl
      have hs1 : small l.2.length = true := small_of (by omega)
      by_cases hz : h.2.2 = ""
      · simp [L_ends_of_1, stE, allI, isI, hm, hk, h2, hs1, hlk, putD_len h2, hz]
      · have hx : h.2.2 ∈ nms := hsub _ (hh.into.resolve_left hz)
        have hl1 : (ksS nms).length = cs.length := by simp [ksS, h1]
        have hs2 : small cs.length = true := small_of (by omega)
        simp [L_ends_of_1, stE, allI, isI, hm, hk, h2, hs1, hlk, putD_len h2, hz, hl1, look_ksS h1 hx, put_ksS hx, hs2]
    · simp only [holesP]; rw [q1]; split; rfl; rw [setI_length _ _ _ _ h1]
theorem ends_tubs {ts0 : List Tub} {rd : D} {nms : List Str} {v11 : Option Sl} (hn : nms.length ≤ 3) : ∀ (ts : List Tub) (cs : List Int) (l : LD) (v4 v5 v6 v7 v8 v9 v10 : Option Sl), nms.length = cs.length → l.1.length = l.2.length → l.1.length + 3 * ts.length ≤ 1000 →
    (∀ t ∈ ts, t.1 ∈ nms ∧ ∃ later : List Str, (∀ x ∈ later, x ∈ nms) ∧ TubOk later t) →
    ∃ v4' v5' v6' v7' v8' v9' v10', loopD (hTup (hCons (hName 4) (hCons (hName 5) (hCons (hName 6) hNil)))) L_ends_of_2 (ts.map tD) (stE ts0 rd nms cs l v4 v5 v6 v7 v8 v9 v10 v11) = some (.nx (stE ts0 rd nms (tubsP nms ts cs l).1 (tubsP nms ts cs l).2 v4' v5' v6' v7' v8' v9' v10' v11)) ∧
      (tubsP nms ts cs l).1.length = cs.length ∧ (tubsP nms ts cs l).2.1.length = (tubsP nms ts cs l).2.2.length ∧ (tubsP nms ts cs l).2.1.length ≤ l.1.length + 3 * ts.length
  | [], cs, l, _, _, _, _, _, _, _, h1, h2, h3, h4 => ⟨_, _, _, _, _, _, _, rfl, rfl, h2, by simp [tubsP]⟩
  | t :: ts, cs, l, v4, v5, v6, v7, v8, v9, v10, h1, h2, h3, h4 => by
    rw [List.length_cons] at h3
    obtain ⟨hx, later, hsub, ht⟩ := h4 t (.head _)
    have few := ht.few
    obtain ⟨v7', v8', v9', v10', e, q1, q2, q3⟩ := ends_holes (ts := ts0) (rd := rd) (name := t.1) (v5 := some (.sh, .int t.2.1)) (v6 := some (.sh, .tup (t.2.2.map hD))) (v11 := v11) hsub t.2.2 (lookI nms cs t.1) cs l v8 v9 v10 h1 h2 (by omega) ht.holes hn
    obtain ⟨w4, w5, w6, w7, w8, w9, w10, e2, p1, p2, p3⟩ := ends_tubs (ts0 := ts0) (rd := rd) (v11 := v11) hn ts _ _ (some (.sh, .str t.1)) (some (.sh, .int t.2.1)) (some (.sh, .tup (t.2.2.map hD))) v7' v8' v9' v10' (h1.trans q1.symm) q2 (by omega) fun x hx => h4 x (.tail _ hx)
    refine ⟨w4, w5, w6, w7, w8, w9, w10, ?_, ?_, p2, by simp only [tubsP, List.length_cons]; omega⟩
    · rw [List.map_cons]
      refine (loop_cons rfl ?_).trans e2
      have hl1 : (ksS nms).length = cs.length := by simp [ksS, h1]
      have p1 : sSet 7 (eGet (pVar 2) (eVar 4)) (stE ts0 rd nms cs l (some (.sh, .str t.1)) (some (.sh, .int t.2.1)) (some (.sh, .tup (t.2.2.map hD))) v7 v8 v9 v10 v11) = some (.nx (stE ts0 rd nms cs l (some (.sh, .str t.1)) (some (.sh, .int t.2.1)) (some (.sh, .tup (t.2.2.map hD))) (some (.sh, .int (lookI nms cs t.1))) v8 v9 v10 v11)) := by
        simp [stE, hl1, look_ksS h1 hx]
      have p2 : iSeq (eVar 6) (stE ts0 rd nms cs l (some (.sh, .str t.1)) (some (.sh, .int t.2.1)) (some (.sh, .tup (t.2.2.map hD))) (some (.sh, .int (lookI nms cs t.1))) v8 v9 v10 v11) = some (t.2.2.map hD, stE ts0 rd nms cs l (some (.sh, .str t.1)) (some (.sh, .int t.2.1)) (some (.sh, .tup (t.2.2.map hD))) (some (.sh, .int (lookI nms cs t.1))) v8 v9 v10 v11) := by
        simp [stE]
      show L_ends_of_2 (stE ts0 rd nms cs l (some (.sh, .str t.1)) (some (.sh, .int t.2.1)) (some (.sh, .tup (t.2.2.map hD))) v7 v8 v9 v10 v11) = _
      unfold L_ends_of_2
      rw [seq_nx p1, for_of p2, e]
    · simp only [tubsP]; rw [p1, q1]
theorem TubsOk.each {ts : List Tub} (ht : TubsOk ts) : ∀ t ∈ ts, t.1 ∈ nmsOf ts ∧ ∃ later : List Str, (∀ x ∈ later, x ∈ nmsOf ts) ∧ TubOk later t := fun t h => by
  obtain ⟨j, hj⟩ := List.getElem?_of_mem h
  exact ⟨List.mem_map.mpr ⟨t, h, rfl⟩, _, fun x hx => List.mem_of_mem_drop hx, ht.tub j t hj⟩
theorem zip_fst_map {ts : List Tub} {rs : List Int} (hl : rs.length = ts.length) : (ts.zip rs).map (fun p => p.1.1) = nmsOf ts := by
  unfold nmsOf
  rw [show (fun p : Tub × Int => p.1.1) = (fun t : Tub => t.1) ∘ Prod.fst from rfl, ← List.map_map, List.map_fst_zip (by omega)]
theorem zip_snd_map {ts : List Tub} {rs : List Int} (hl : rs.length = ts.length) : (ts.zip rs).map (fun p => D.int p.2) = rs.map D.int := by
  rw [show (fun p : Tub × Int => D.int p.2) = D.int ∘ Prod.snd from rfl, ← List.map_map, List.map_snd_zip (by omega)]
theorem ends_of_ok {ts : List Tub} {rs : List Int} (ht : TubsOk ts) (hl : rs.length = ts.length) :
    F_ends_of [tubsD ts, .tup (rs.map D.int)] = some (false, .tup [.dK (ksS (nmsOf ts)) ((comesP ts rs).map D.int), .dT (letsEP ts rs).1 (letsEP ts rs).2]) ∧ (comesP ts rs).length = ts.length ∧ (letsEP ts rs).1.length = (letsEP ts rs).2.length := by
  have few := ht.few
  have hn : (nmsOf ts).length = ts.length := by simp [nmsOf]
  obtain ⟨v4, v5, v6, v7, v8, v9, v10, e, q1, q2, q3⟩ := ends_tubs (ts0 := ts) (rd := .tup (rs.map D.int)) (nms := nmsOf ts) (v11 := none) (by omega) ts rs ([], []) none none none none none none none (by omega) rfl (by simp; omega) ht.each
  refine ⟨?_, by show (tubsP _ _ _ _).1.length = _; omega, q2⟩
  have dc : dcompD (hTup (hCons (hName 11) (hCons (hName 9) hNil))) bYes (eIx (pVar 11) (eC (.int 0))) (eVar 9) [11, 9] (zipD (ts.map tD) (rs.map D.int)) [some (.sh, tubsD ts), some (.sh, .tup (rs.map D.int)), none, none, none, none, none, none, none, none, none, none] (ksS []) [] = some ((ksS (nmsOf ts), rs.map D.int), [some (.sh, tubsD ts), some (.sh, .tup (rs.map D.int)), none, none, none, none, none, none, none, none, none, none]) := by
    rw [zipD_map tD D.int ts rs, dcomp_new (fun p => .tup [tD p.1, .int p.2]) (fun p => p.1.1) (fun p => .int p.2) (ts.zip rs) [] [] (by simp; omega) (by rw [List.nil_append, zip_fst_map hl]; exact ht.nd), List.nil_append, List.nil_append, zip_fst_map hl, zip_snd_map hl]
    intro p hp
    exact ⟨_, _, _, _, rfl, rfl, rfl, rfl, rfl⟩
  have p1 : sSetO 2 (eDc (iZip (eVar 0) (eVar 1)) (hTup (hCons (hName 11) (hCons (hName 9) hNil))) bYes (eIx (pVar 11) (eC (.int 0))) (eVar 9) [11, 9]) (init 12 [tubsD ts, .tup (rs.map D.int)]) = some (.nx [some (.sh, tubsD ts), some (.sh, .tup (rs.map D.int)), some (.ow, .dK (ksS (nmsOf ts)) (rs.map D.int)), none, none, none, none, none, none, none, none, none]) := by
    have : (ksS [] : List Key) = [] := rfl
    rw [this] at dc
    simp only [sSetO, eDc, iZip, eVar, init]
    simp [tubsD, List.replicate]
    simp [tubsD] at dc
    rw [dc]
    simp
  have p2 : sSetO 3 eDNewT [some (.sh, tubsD ts), some (.sh, .tup (rs.map D.int)), some (.ow, .dK (ksS (nmsOf ts)) (rs.map D.int)), none, none, none, none, none, none, none, none, none] = some (.nx (stE ts (.tup (rs.map D.int)) (nmsOf ts) rs ([], []) none none none none none none none none)) := rfl
  have p3 : iSeq (eVar 0) (stE ts (.tup (rs.map D.int)) (nmsOf ts) rs ([], []) none none none none none none none none) = some (ts.map tD, stE ts (.tup (rs.map D.int)) (nmsOf ts) rs ([], []) none none none none none none none none) := by
    simp [stE, tubsD]
  unfold F_ends_of f_ends_of
  simp only [runF]
  rw [seq_nx p1, seq_nx p2, seq_nx ((for_of p3).trans e)]
  simp [stE, comesP, letsEP]
theorem lends_holes {ts : List Tub} {rd : D} {nms later : List Str} {name : Str} {v5 v6 v11 : Option Sl} (hsub : ∀ x ∈ later, x ∈ nms) : ∀ (hs : List Hole) (left : Int) (cs : List Int) (l : LD) (v8 v9 v10 : Option Sl), nms.length = cs.length → l.1.length = l.2.length → l.1.length + hs.length ≤ 1000 → (∀ h ∈ hs, HoleOk later h) → nms.length ≤ 3 →
    ∃ v7' v8' v9' v10', loopD (hTup (hCons (hName 8) (hCons (hName 9) (hCons (hName 10) hNil)))) L__law_ends_1 (hs.map hD) (stE ts rd nms cs l (some (.sh, .str name)) v5 v6 (some (.sh, .int left)) v8 v9 v10 v11) = some (.nx (stE ts rd nms (holesP nms name hs left cs l).1 (holesP nms name hs left cs l).2 (some (.sh, .str name)) v5 v6 v7' v8' v9' v10' v11)) ∧
      (holesP nms name hs left cs l).1.length = cs.length ∧ (holesP nms name hs left cs l).2.1.length = (holesP nms name hs left cs l).2.2.length ∧ (holesP nms name hs left cs l).2.1.length ≤ l.1.length + hs.length
  | [], left, cs, l, v8, v9, v10, h1, h2, h3, h4, h5 => ⟨_, _, _, _, rfl, rfl, h2, by simp [holesP]⟩
  | h :: hs, left, cs, l, v8, v9, v10, h1, h2, h3, h4, h5 => by
    rw [List.length_cons] at h3
    have hh := h4 h (.head _)
    have hp : (putD l.1 l.2 (hK name h) (.int (minI h.2.1 left))).1.length ≤ l.1.length + 1 := putD_fst_le
    have hlk := look_put_same (k := hK name h) (d := .int (minI h.2.1 left)) h2
    obtain ⟨v7', v8', v9', v10', e, q1, q2, q3⟩ := lends_holes (ts := ts) (rd := rd) (v5 := v5) (v6 := v6) (v11 := v11) hsub hs (left - minI h.2.1 left) (if h.2.2 = "" then cs else setI nms cs h.2.2 (lookI nms cs h.2.2 + minI h.2.1 left)) (putD l.1 l.2 (hK name h) (.int (minI h.2.1 left))) (some (.sh, .int h.1)) (some (.sh, .int h.2.1)) (some (.sh, .str h.2.2))
      (by split; exact h1; rw [setI_length _ _ _ _ h1]; exact h1) (putD_len h2) (by omega) (fun x hx => h4 x (.tail _ hx)) h5
    refine ⟨v7', v8', v9', v10', ?_, ?_, q2, by simp only [holesP, List.length_cons]; omega⟩
    · rw [List.map_cons]
      refine (loop_cons rfl ?_).trans e
      have hm : (if left < h.2.1 then left else h.2.1) = minI h.2.1 left := rfl
      have hk : ([.inr name, .inl h.1] : List Key) = hK name h := rfl
      have hs1 : small l.2.length = true := small_of (by omega)
      by_cases hz : h.2.2 = ""
      · simp [L__law_ends_1, stE, allI, isI, hm, hk, h2, hs1, hlk, putD_len h2, hz]
      · have hx : h.2.2 ∈ nms := hsub _ (hh.into.resolve_left hz)
        have hl1 : (ksS nms).length = cs.length := by simp [ksS, h1]
        have hs2 : small cs.length = true := small_of (by omega)
        simp [L__law_ends_1, stE, allI, isI, hm, hk, h2, hs1, hlk, putD_len h2, hz, hl1, look_ksS h1 hx, put_ksS hx, hs2]
    · simp only [holesP]; rw [q1]; split; rfl; rw [setI_length _ _ _ _ h1]
theorem lends_tubs {ts0 : List Tub} {rd : D} {nms : List Str} {v11 : Option Sl} (hn : nms.length ≤ 3) : ∀ (ts : List Tub) (cs : List Int) (l : LD) (v4 v5 v6 v7 v8 v9 v10 : Option Sl), nms.length = cs.length → l.1.length = l.2.length → l.1.length + 3 * ts.length ≤ 1000 →
    (∀ t ∈ ts, t.1 ∈ nms ∧ ∃ later : List Str, (∀ x ∈ later, x ∈ nms) ∧ TubOk later t) →
    ∃ v4' v5' v6' v7' v8' v9' v10', loopD (hTup (hCons (hName 4) (hCons (hName 5) (hCons (hName 6) hNil)))) L__law_ends_2 (ts.map tD) (stE ts0 rd nms cs l v4 v5 v6 v7 v8 v9 v10 v11) = some (.nx (stE ts0 rd nms (tubsP nms ts cs l).1 (tubsP nms ts cs l).2 v4' v5' v6' v7' v8' v9' v10' v11)) ∧
      (tubsP nms ts cs l).1.length = cs.length ∧ (tubsP nms ts cs l).2.1.length = (tubsP nms ts cs l).2.2.length ∧ (tubsP nms ts cs l).2.1.length ≤ l.1.length + 3 * ts.length
  | [], cs, l, _, _, _, _, _, _, _, h1, h2, h3, h4 => ⟨_, _, _, _, _, _, _, rfl, rfl, h2, by simp [tubsP]⟩
  | t :: ts, cs, l, v4, v5, v6, v7, v8, v9, v10, h1, h2, h3, h4 => by
    rw [List.length_cons] at h3
    obtain ⟨hx, later, hsub, ht⟩ := h4 t (.head _)
    have few := ht.few
    obtain ⟨v7', v8', v9', v10', e, q1, q2, q3⟩ := lends_holes (ts := ts0) (rd := rd) (name := t.1) (v5 := some (.sh, .int t.2.1)) (v6 := some (.sh, .tup (t.2.2.map hD))) (v11 := v11) hsub t.2.2 (lookI nms cs t.1) cs l v8 v9 v10 h1 h2 (by omega) ht.holes hn
    obtain ⟨w4, w5, w6, w7, w8, w9, w10, e2, p1, p2, p3⟩ := lends_tubs (ts0 := ts0) (rd := rd) (v11 := v11) hn ts _ _ (some (.sh, .str t.1)) (some (.sh, .int t.2.1)) (some (.sh, .tup (t.2.2.map hD))) v7' v8' v9' v10' (h1.trans q1.symm) q2 (by omega) fun x hx => h4 x (.tail _ hx)
    refine ⟨w4, w5, w6, w7, w8, w9, w10, ?_, ?_, p2, by simp only [tubsP, List.length_cons]; omega⟩
    · rw [List.map_cons]
      refine (loop_cons rfl ?_).trans e2
      have hl1 : (ksS nms).length = cs.length := by simp [ksS, h1]
      have p1 : sSet 7 (eGet (pVar 2) (eVar 4)) (stE ts0 rd nms cs l (some (.sh, .str t.1)) (some (.sh, .int t.2.1)) (some (.sh, .tup (t.2.2.map hD))) v7 v8 v9 v10 v11) = some (.nx (stE ts0 rd nms cs l (some (.sh, .str t.1)) (some (.sh, .int t.2.1)) (some (.sh, .tup (t.2.2.map hD))) (some (.sh, .int (lookI nms cs t.1))) v8 v9 v10 v11)) := by
        simp [stE, hl1, look_ksS h1 hx]
      have p2 : iSeq (eVar 6) (stE ts0 rd nms cs l (some (.sh, .str t.1)) (some (.sh, .int t.2.1)) (some (.sh, .tup (t.2.2.map hD))) (some (.sh, .int (lookI nms cs t.1))) v8 v9 v10 v11) = some (t.2.2.map hD, stE ts0 rd nms cs l (some (.sh, .str t.1)) (some (.sh, .int t.2.1)) (some (.sh, .tup (t.2.2.map hD))) (some (.sh, .int (lookI nms cs t.1))) v8 v9 v10 v11) := by
        simp [stE]
      show L__law_ends_2 (stE ts0 rd nms cs l (some (.sh, .str t.1)) (some (.sh, .int t.2.1)) (some (.sh, .tup (t.2.2.map hD))) v7 v8 v9 v10 v11) = _
      unfold L__law_ends_2
      rw [seq_nx p1, for_of p2, e]
    · simp only [tubsP]; rw [p1, q1]
theorem lookI_mem {x : Str} {nms : List Str} {cs : List Int} (h1 : nms.length = cs.length) (hx : x ∈ nms) : look (ksS nms) (cs.map D.int) (.inr x) = some (.int (lookI nms cs x)) := look_ksS h1 hx
/-- what comes, tub by tub -/
def comeL (ts : List Tub) (rs : List Int) : List Int := ts.map fun t => lookI (nmsOf ts) (comesP ts rs) t.1
theorem lends_ok {ts : List Tub} {rs : List Int} (ht : TubsOk ts) (hl : rs.length = ts.length) :
    F__law_ends [tubsD ts, .tup (rs.map D.int)] = some (false, .tup [.lst ((comeL ts rs).map D.int), .dT (letsEP ts rs).1 (letsEP ts rs).2]) := by
  have few := ht.few
  have hn : (nmsOf ts).length = ts.length := by simp [nmsOf]
  obtain ⟨v4, v5, v6, v7, v8, v9, v10, e, q1, q2, q3⟩ := lends_tubs (ts0 := ts) (rd := .tup (rs.map D.int)) (nms := nmsOf ts) (v11 := none) (by omega) ts rs ([], []) none none none none none none none (by omega) rfl (by simp; omega) ht.each
  have dc : compD (hTup (hCons (hName 11) (hCons (hName 9) hNil))) bYes (eTup (aCons (eIx (pVar 11) (eC (.int 0))) (aCons (eVar 9) aNil))) [11, 9] (zipD (ts.map tD) (rs.map D.int)) [some (.sh, tubsD ts), some (.sh, .tup (rs.map D.int)), none, none, none, none, none, none, none, none, none, none] [] = some ((ts.zip rs).map fun p => .tup [.str p.1.1, .int p.2], [some (.sh, tubsD ts), some (.sh, .tup (rs.map D.int)), none, none, none, none, none, none, none, none, none, none]) := by
    rw [zipD_map tD D.int ts rs, comp_map (fun p => .tup [tD p.1, .int p.2]) (fun p => .tup [.str p.1.1, .int p.2]) (ts.zip rs) [] (by simp; omega), List.nil_append]
    intro p hp
    exact ⟨_, _, _, rfl, rfl, rfl, rfl⟩
  have p1 : sSetO 2 (eB1 gDictP (pE (eLc (iZip (eVar 0) (eVar 1)) (hTup (hCons (hName 11) (hCons (hName 9) hNil))) bYes (eTup (aCons (eIx (pVar 11) (eC (.int 0))) (aCons (eVar 9) aNil))) [11, 9]))) (init 12 [tubsD ts, .tup (rs.map D.int)]) = some (.nx [some (.sh, tubsD ts), some (.sh, .tup (rs.map D.int)), some (.ow, .dK (ksS (nmsOf ts)) (rs.map D.int)), none, none, none, none, none, none, none, none, none]) := by
    have hi : iZip (eVar 0) (eVar 1) (init 12 [tubsD ts, .tup (rs.map D.int)]) = some (zipD (ts.map tD) (rs.map D.int), [some (.sh, tubsD ts), some (.sh, .tup (rs.map D.int)), none, none, none, none, none, none, none, none, none, none]) := rfl
    have mg := merge_new (fun p : Tub × Int => p.1.1) (fun p => .int p.2) (ts.zip rs) [] [] (by rw [List.nil_append, zip_fst_map hl]; exact ht.nd)
    rw [List.nil_append, List.nil_append, zip_fst_map hl, zip_snd_map hl] at mg
    have mg' : mergeD ([], []) ((ts.zip rs).map fun p => (Sum.inr p.1.1, D.int p.2)) = (ksS (nmsOf ts), rs.map D.int) := mg
    have hp := pairs_map (fun p : Tub × Int => p.1.1) (fun p => .int p.2) (ts.zip rs)
    simp only [sSetO, eB1, pE, eLc, hi, Option.bind_some]
    rw [if_pos (by rfl)]
    simp only [wipeS, List.set_cons_succ, List.set_cons_zero, dc, Option.bind_some, PR.get, gDictP, hp, mg']
    rfl
  have p2 : sSetO 3 eDNewT [some (.sh, tubsD ts), some (.sh, .tup (rs.map D.int)), some (.ow, .dK (ksS (nmsOf ts)) (rs.map D.int)), none, none, none, none, none, none, none, none, none] = some (.nx (stE ts (.tup (rs.map D.int)) (nmsOf ts) rs ([], []) none none none none none none none none)) := rfl
  have p3 : iSeq (eVar 0) (stE ts (.tup (rs.map D.int)) (nmsOf ts) rs ([], []) none none none none none none none none) = some (ts.map tD, stE ts (.tup (rs.map D.int)) (nmsOf ts) rs ([], []) none none none none none none none none) := by
    simp [stE, tubsD]
  have hc : (comesP ts rs).length = ts.length := by show (tubsP _ _ _ _).1.length = _; omega
  have cc : compD (hName 11) bYes (eGet (pVar 2) (eIx (pVar 11) (eC (.int 0)))) [11] (ts.map tD) (stE ts (.tup (rs.map D.int)) (nmsOf ts) (comesP ts rs) (letsEP ts rs) v4 v5 v6 v7 v8 v9 v10 none) [] = some ((comeL ts rs).map D.int, stE ts (.tup (rs.map D.int)) (nmsOf ts) (comesP ts rs) (letsEP ts rs) v4 v5 v6 v7 v8 v9 v10 none) := by
    rw [comp_map tD (fun t => .int (lookI (nmsOf ts) (comesP ts rs) t.1)) ts [] (by simp; omega), List.nil_append, comeL, List.map_map]
    · rfl
    intro t h
    have hl1 : (ksS (nmsOf ts)).length = (comesP ts rs).length := by simp [ksS, hn, hc]
    have hx : t.1 ∈ nmsOf ts := List.mem_map.mpr ⟨t, h, rfl⟩
    refine ⟨_, _, stE ts (.tup (rs.map D.int)) (nmsOf ts) (comesP ts rs) (letsEP ts rs) v4 v5 v6 v7 v8 v9 v10 (some (.sh, tD t)), rfl, rfl, ?_, rfl⟩
    simp [stE, tD, atI, ixN, hl1, look_ksS (hn.trans hc.symm) hx]
  unfold F__law_ends f__law_ends
  simp only [runF]
  rw [seq_nx p1, seq_nx p2, seq_nx ((for_of p3).trans e)]
  have p4 : eLc (iSeq (eVar 0)) (hName 11) bYes (eGet (pVar 2) (eIx (pVar 11) (eC (.int 0)))) [11] (stE ts (.tup (rs.map D.int)) (nmsOf ts) (comesP ts rs) (letsEP ts rs) v4 v5 v6 v7 v8 v9 v10 none) = some (.lst ((comeL ts rs).map D.int), stE ts (.tup (rs.map D.int)) (nmsOf ts) (comesP ts rs) (letsEP ts rs) v4 v5 v6 v7 v8 v9 v10 none) := by
    have hi : iSeq (eVar 0) (stE ts (.tup (rs.map D.int)) (nmsOf ts) (comesP ts rs) (letsEP ts rs) v4 v5 v6 v7 v8 v9 v10 none) = some (ts.map tD, stE ts (.tup (rs.map D.int)) (nmsOf ts) (comesP ts rs) (letsEP ts rs) v4 v5 v6 v7 v8 v9 v10 none) := rfl
    have hw : wipeS (stE ts (.tup (rs.map D.int)) (nmsOf ts) (comesP ts rs) (letsEP ts rs) v4 v5 v6 v7 v8 v9 v10 none) [11] = stE ts (.tup (rs.map D.int)) (nmsOf ts) (comesP ts rs) (letsEP ts rs) v4 v5 v6 v7 v8 v9 v10 none := rfl
    simp only [eLc, hi, Option.bind_some]
    rw [if_pos (by rfl), hw, cc]
    rfl
  show (sRet (eTup (aCons (eLc (iSeq (eVar 0)) (hName 11) bYes (eGet (pVar 2) (eIx (pVar 11) (eC (.int 0)))) [11]) (aCons (eVar 3) aNil))) (stE ts (.tup (rs.map D.int)) (nmsOf ts) (comesP ts rs) (letsEP ts rs) v4 v5 v6 v7 v8 v9 v10 none)).bind _ = _
  simp only [sRet, eTup, aCons, p4, Option.bind_some, aNil]
  rfl
end Px.S

set_option Elab.async false
set_option linter.all false
set_option maxRecDepth 100000
set_option maxHeartbeats 4000000
/-! MRests: comes, rests, the law's rest -/
namespace Px.S
open PySem L2 Px
/-- where a tub rests -/
def restP : Int → Int → List Hole → D
  | low, left, [] => if left = 0 then .tup [.int low, .non] else .tup [.str "rises"]
  | low, left, h :: hs => if left = 0 then .tup [.int low, .int h.1] else if left < h.2.1 then .tup [.int h.1, .int h.1] else restP h.1 (left - h.2.1) hs
theorem rest_loop {hd : D} {m : Int} : ∀ (hs : List Hole) (low left : Int) (v4 v5 v6 : Option Sl), ∃ s',
    (sSeq (sFor (fun s => some (hs.map hD, s)) (hTup (hCons (hName 4) (hCons (hName 5) (hCons (hName 6) hNil)))) L_rest_of_1)
      (sRet (eIf (bT (eOpP gEq (pVar 3) (pE (eC (.int 0))))) (eTup (aCons (eVar 2) (aCons (eC .non) aNil))) (eTup (aCons (eC (.str "rises")) aNil)))))
      [some (.sh, hd), some (.sh, .int m), some (.sh, .int low), some (.sh, .int left), v4, v5, v6] = some (.ret false (restP low left hs) s')
  | [], low, left, v4, v5, v6 => by
    by_cases z : left = 0
    · simp [restP, z]
    · simp [restP, z]
  | h :: hs, low, left, v4, v5, v6 => by
    by_cases z : left = 0
    · refine ⟨[some (.sh, hd), some (.sh, .int m), some (.sh, .int low), some (.sh, .int left), some (.sh, .int h.1), some (.sh, .int h.2.1), some (.sh, .str h.2.2)], ?_⟩
      simp [restP, z, hD, L_rest_of_1]
    by_cases y : left < h.2.1
    · refine ⟨[some (.sh, hd), some (.sh, .int m), some (.sh, .int low), some (.sh, .int left), some (.sh, .int h.1), some (.sh, .int h.2.1), some (.sh, .str h.2.2)], ?_⟩
      simp [restP, z, hD, L_rest_of_1, y]
    · obtain ⟨s', e⟩ := rest_loop (hd := hd) (m := m) hs h.1 (left - h.2.1) (some (.sh, .int h.1)) (some (.sh, .int h.2.1)) (some (.sh, .str h.2.2))
      refine ⟨s', ?_⟩
      simp only [restP, if_neg z, if_neg y]
      rw [← e]
      simp only [sSeq, sFor, Option.bind_some, List.map_cons]
      rw [loop_cons (s1 := [some (.sh, hd), some (.sh, .int m), some (.sh, .int low), some (.sh, .int left), some (.sh, .int h.1), some (.sh, .int h.2.1), some (.sh, .str h.2.2)]) rfl]
      simp [L_rest_of_1, z, y]
theorem rest_of_ok (hs : List Hole) (m : Int) : F_rest_of [.tup (hs.map hD), .int m] = some (false, restP 0 m hs) := by
  obtain ⟨s', e⟩ := rest_loop (hd := .tup (hs.map hD)) (m := m) hs 0 m none none none
  unfold F_rest_of f_rest_of
  simp only [runF]
  have p1 : sPar 2 3 (eC (.int 0)) (eVar 1) (init 7 [.tup (hs.map hD), .int m]) = some (.nx [some (.sh, .tup (hs.map hD)), some (.sh, .int m), some (.sh, .int 0), some (.sh, .int m), none, none, none]) := rfl
  rw [seq_nx p1]
  have p2 : iSeq (eVar 0) [some (.sh, .tup (hs.map hD)), some (.sh, .int m), some (.sh, .int 0), some (.sh, .int m), none, none, none] = some (hs.map hD, [some (.sh, .tup (hs.map hD)), some (.sh, .int m), some (.sh, .int 0), some (.sh, .int m), none, none, none]) := rfl
  rw [show ∀ g, sSeq (sFor (iSeq (eVar 0)) (hTup (hCons (hName 4) (hCons (hName 5) (hCons (hName 6) hNil)))) L_rest_of_1) g [some (.sh, .tup (hs.map hD)), some (.sh, .int m), some (.sh, .int 0), some (.sh, .int m), none, none, none] = sSeq (sFor (fun s => some (hs.map hD, s)) (hTup (hCons (hName 4) (hCons (hName 5) (hCons (hName 6) hNil)))) L_rest_of_1) g [some (.sh, .tup (hs.map hD)), some (.sh, .int m), some (.sh, .int 0), some (.sh, .int m), none, none, none] from fun g => rfl, e]
  rfl
theorem comes_ok {ts : List Tub} {rs : List Int} (ht : TubsOk ts) (hl : rs.length = ts.length) : F_comes [tubsD ts, .tup (rs.map D.int)] = some (false, .tup ((comeL ts rs).map D.int)) := by
  have few := ht.few
  have hn : (nmsOf ts).length = ts.length := by simp [nmsOf]
  obtain ⟨e, hc, _⟩ := ends_of_ok ht hl
  have p1 : sSet 2 (eIx (pE (eCall F_ends_of (aCons (eVar 0) (aCons (eVar 1) aNil)))) (eC (.int 0))) (init 4 [tubsD ts, .tup (rs.map D.int)]) = some (.nx [some (.sh, tubsD ts), some (.sh, .tup (rs.map D.int)), some (.sh, .dK (ksS (nmsOf ts)) ((comesP ts rs).map D.int)), none]) := by
    simp [e, atI, ixN, List.replicate]
  have cc : compD (hName 3) bYes (eGet (pVar 2) (eIx (pVar 3) (eC (.int 0)))) [3] (ts.map tD) [some (.sh, tubsD ts), some (.sh, .tup (rs.map D.int)), some (.sh, .dK (ksS (nmsOf ts)) ((comesP ts rs).map D.int)), none] [] = some ((comeL ts rs).map D.int, [some (.sh, tubsD ts), some (.sh, .tup (rs.map D.int)), some (.sh, .dK (ksS (nmsOf ts)) ((comesP ts rs).map D.int)), none]) := by
    rw [comp_map tD (fun t => .int (lookI (nmsOf ts) (comesP ts rs) t.1)) ts [] (by simp; omega), List.nil_append, comeL, List.map_map]
    · rfl
    intro t h
    have hl1 : (ksS (nmsOf ts)).length = (comesP ts rs).length := by simp [ksS, hn, hc]
    have hx : t.1 ∈ nmsOf ts := List.mem_map.mpr ⟨t, h, rfl⟩
    refine ⟨_, _, [some (.sh, tubsD ts), some (.sh, .tup (rs.map D.int)), some (.sh, .dK (ksS (nmsOf ts)) ((comesP ts rs).map D.int)), some (.sh, tD t)], rfl, rfl, ?_, rfl⟩
    simp [tD, atI, ixN, hl1, look_ksS (hn.trans hc.symm) hx]
  have p4 : eLc (iSeq (eVar 0)) (hName 3) bYes (eGet (pVar 2) (eIx (pVar 3) (eC (.int 0)))) [3] [some (.sh, tubsD ts), some (.sh, .tup (rs.map D.int)), some (.sh, .dK (ksS (nmsOf ts)) ((comesP ts rs).map D.int)), none] = some (.lst ((comeL ts rs).map D.int), [some (.sh, tubsD ts), some (.sh, .tup (rs.map D.int)), some (.sh, .dK (ksS (nmsOf ts)) ((comesP ts rs).map D.int)), none]) := by
    have hi : iSeq (eVar 0) [some (.sh, tubsD ts), some (.sh, .tup (rs.map D.int)), some (.sh, .dK (ksS (nmsOf ts)) ((comesP ts rs).map D.int)), none] = some (ts.map tD, [some (.sh, tubsD ts), some (.sh, .tup (rs.map D.int)), some (.sh, .dK (ksS (nmsOf ts)) ((comesP ts rs).map D.int)), none]) := rfl
    simp only [eLc, hi, Option.bind_some]
    rw [if_pos (by rfl), show wipeS [some (.sh, tubsD ts), some (.sh, .tup (rs.map D.int)), some (.sh, .dK (ksS (nmsOf ts)) ((comesP ts rs).map D.int)), none] [3] = [some (.sh, tubsD ts), some (.sh, .tup (rs.map D.int)), some (.sh, .dK (ksS (nmsOf ts)) ((comesP ts rs).map D.int)), none] from rfl, cc]
    rfl
  unfold F_comes f_comes
  simp only [runF]
  rw [seq_nx p1]
  simp only [sRet, eB1, pE, p4, Option.bind_some, PR.get]
  have : (comeL ts rs).length = ts.length := by simp [comeL]
  simp (disch := omega) [small_of, this]
def restsL (ts : List Tub) (rs : List Int) : List D := (ts.zip (comeL ts rs)).map fun p => restP 0 p.2 p.1.2.2
theorem rests_ok {ts : List Tub} {rs : List Int} (ht : TubsOk ts) (hl : rs.length = ts.length) : F_rests [tubsD ts, .tup (rs.map D.int)] = some (true, .lst (restsL ts rs)) := by
  have few := ht.few
  have e := comes_ok ht hl
  have hi : iZip (eVar 0) (eCall F_comes (aCons (eVar 0) (aCons (eVar 1) aNil))) (init 4 [tubsD ts, .tup (rs.map D.int)]) = some (zipD (ts.map tD) ((comeL ts rs).map D.int), [some (.sh, tubsD ts), some (.sh, .tup (rs.map D.int)), none, none]) := by
    have h1 : eCall F_comes (aCons (eVar 0) (aCons (eVar 1) aNil)) [some (.sh, tubsD ts), some (.sh, .tup (rs.map D.int)), none, none] = some (.tup ((comeL ts rs).map D.int), [some (.sh, tubsD ts), some (.sh, .tup (rs.map D.int)), none, none]) := by
      simp [e]
    have h0 : eVar 0 (init 4 [tubsD ts, .tup (rs.map D.int)]) = some (tubsD ts, [some (.sh, tubsD ts), some (.sh, .tup (rs.map D.int)), none, none]) := rfl
    simp only [iZip, h0, h1, Option.bind_some]
    rfl
  have cc : compD (hTup (hCons (hName 2) (hCons (hName 3) hNil))) bYes (eCall F_rest_of (aCons (eIx (pVar 2) (eC (.int 2))) (aCons (eVar 3) aNil))) [2, 3] (zipD (ts.map tD) ((comeL ts rs).map D.int)) [some (.sh, tubsD ts), some (.sh, .tup (rs.map D.int)), none, none] [] = some (restsL ts rs, [some (.sh, tubsD ts), some (.sh, .tup (rs.map D.int)), none, none]) := by
    rw [zipD_map tD D.int, comp_map (fun p : Tub × Int => .tup [tD p.1, .int p.2]) (fun p => restP 0 p.2 p.1.2.2) (ts.zip (comeL ts rs)) [] (by simp; omega), List.nil_append]
    · rfl
    intro p hp
    refine ⟨_, _, [some (.sh, tubsD ts), some (.sh, .tup (rs.map D.int)), some (.sh, tD p.1), some (.sh, .int p.2)], rfl, rfl, ?_, rfl⟩
    simp [tD, atI, ixN, rest_of_ok]
  unfold F_rests f_rests
  simp only [runF, sRetO, eLc, hi, Option.bind_some]
  rw [if_pos (by rfl), show wipeS [some (.sh, tubsD ts), some (.sh, .tup (rs.map D.int)), none, none] [2, 3] = [some (.sh, tubsD ts), some (.sh, .tup (rs.map D.int)), none, none] from rfl, cc]
  rfl
end Px.S

set_option Elab.async false
set_option linter.all false
set_option maxRecDepth 100000
set_option maxHeartbeats 4000000
/-! MLawRest: the law's own rest by sums of rates -/
namespace Px.S
open PySem L2 Px
theorem atI_nat {α : Type} (l : List α) (n : Nat) : atI l (n : Int) = l[n]? := by
  unfold atI ixN
  rw [if_pos (by omega)]
  by_cases h : n < l.length
  · rw [if_pos (by omega)]; simp
  · rw [if_neg (by omega)]; simp; omega
theorem atI_last {α : Type} (l : List α) (a : α) : atI (l ++ [a]) (-1) = some a := by
  unfold atI ixN
  rw [if_neg (by omega), if_pos (by simp; omega)]
  simp
  rw [show (-1 + ((l.length : Int) + 1)).toNat = l.length by omega]
  simp
def sumsP : Int → List Hole → List Int
  | a, [] => [a]
  | a, h :: hs => a :: sumsP (a + h.2.1) hs
def totP : List Hole → Int
  | [] => 0
  | h :: hs => h.2.1 + totP hs
theorem sumsP_last : ∀ (a : Int) (hs : List Hole), ∃ l, sumsP a hs = l ++ [a + totP hs]
  | a, [] => ⟨[], by simp [sumsP, totP]⟩
  | a, h :: hs => by
    obtain ⟨l, e⟩ := sumsP_last (a + h.2.1) hs
    exact ⟨a :: l, by simp [sumsP, totP, e]; omega⟩
theorem sumsP_length : ∀ (a : Int) (hs : List Hole), (sumsP a hs).length = hs.length + 1
  | a, [] => rfl
  | a, h :: hs => by simp [sumsP, sumsP_length]
theorem totP_nn : ∀ {hs : List Hole}, (∀ h ∈ hs, 1 ≤ h.2.1) → 0 ≤ totP hs
  | [], _ => by simp [totP]
  | h :: hs, q => by
    have := q h (.head _)
    have := totP_nn (hs := hs) fun x hx => q x (.tail _ hx)
    simp only [totP]; omega
theorem rest_rises : ∀ {hs : List Hole} {low left : Int}, (∀ h ∈ hs, 1 ≤ h.2.1) → totP hs < left → restP low left hs = .tup [.str "rises"]
  | [], low, left, _, h => by
    simp only [totP] at h
    simp only [restP]; rw [if_neg (by omega)]
  | h :: hs, low, left, q, hl => by
    have h1 := q h (.head _)
    have h2 := totP_nn (hs := hs) fun x hx => q x (.tail _ hx)
    simp only [totP] at hl
    simp only [restP]
    rw [if_neg (by omega), if_neg (by omega)]
    exact rest_rises (fun x hx => q x (.tail _ hx)) (by omega)
def stLR (md : Md) (H : List Hole) (m : Int) (ss : List Int) (v3 v4 v5 v6 : Option Sl) : S := [some (.sh, .tup (H.map hD)), some (.sh, .int m), some (md, .lst (ss.map D.int)), v3, v4, v5, v6]
theorem lsums_loop {H : List Hole} {m : Int} : ∀ (hs : List Hole) (pre : List Int) (a : Int) (v3 : Option Sl), pre.length + hs.length ≤ 100 →
    ∃ v3', loopD (hName 3) L__law_rest_2 (hs.map hD) (stLR .ow H m (pre ++ [a]) v3 none none none) = some (.nx (stLR .ow H m (pre ++ sumsP a hs) v3' none none none))
  | [], pre, a, v3, _ => ⟨v3, rfl⟩
  | h :: hs, pre, a, v3, hl => by
    rw [List.length_cons] at hl
    obtain ⟨v3', e⟩ := lsums_loop (H := H) (m := m) hs (pre ++ [a]) (a + h.2.1) (some (.sh, hD h)) (by simp; omega)
    refine ⟨v3', ?_⟩
    rw [List.map_cons]
    have e' : stLR .ow H m (pre ++ [a] ++ sumsP (a + h.2.1) hs) v3' none none none = stLR .ow H m (pre ++ sumsP a (h :: hs)) v3' none none none := by simp [sumsP]
    rw [← e']
    refine (loop_cons rfl ?_).trans e
    have hlast : atI (pre.map D.int ++ [D.int a]) (-1) = some (.int a) := atI_last _ _
    simp (disch := omega) [L__law_rest_2, stLR, hD, hlast, small_of, show atI [D.int h.1, D.int h.2.1, D.str h.2.2] 1 = some (.int h.2.1) from rfl]
theorem lrest_loop {H : List Hole} {m : Int} {SS : List Int} {v3 : Option Sl} (hH : H.length ≤ 3) : ∀ (hs : List Hole) (k : Nat) (acc low : Int) (v4 v5 v6 : Option Sl), H.drop k = hs → SS.drop k = sumsP acc hs → (∀ h ∈ hs, 1 ≤ h.2.1) → acc ≤ m → m ≤ acc + totP hs →
    (low = if k = 0 then 0 else ((H[k - 1]?).map (·.1)).getD 0) → k ≤ H.length →
    ∃ s', loopD (hTup (hCons (hName 4) (hCons (hName 5) hNil))) L__law_rest_1 (enumD k ((sumsP acc hs).map D.int)) (stLR .sh H m SS v3 v4 v5 v6) = some (.ret false (restP low (m - acc) hs) s')
  | [], k, acc, low, v4, v5, v6, h1, h2, h3, h4, h5, h6, h7 => by
    simp only [totP] at h5
    have hm : m = acc := by omega
    have hk : H.length ≤ k := by simpa using h1
    have hk2 : k = H.length := by omega
    simp only [sumsP, List.map_cons, List.map_nil, enumD, restP]
    by_cases z : k = 0
    · refine ⟨stLR .sh H m SS v3 (some (.sh, .int k)) (some (.sh, .int acc)) (some (.sh, .int 0)), loop_ret rfl ?_⟩
      rw [if_pos z] at h6
      have hH0 : H = [] := List.eq_nil_of_length_eq_zero (by omega)
      subst hH0 z h6
      simp [L__law_rest_1, stLR, hm]
    · refine ⟨stLR .sh H m SS v3 (some (.sh, .int k)) (some (.sh, .int acc)) (some (.sh, .int low)), loop_ret rfl ?_⟩
      rw [if_neg z] at h6
      have hlt : k - 1 < H.length := by omega
      have hat : atI (H.map hD) ((k : Int) - 1) = some (hD H[k - 1]) := by
        rw [show (k : Int) - 1 = ((k - 1 : Nat) : Int) by omega, atI_nat]
        simp [hlt]
      rw [List.getElem?_eq_getElem hlt] at h6
      simp at h6
      have hz : ¬ (k : Int) = 0 := by omega
      have hlen : ¬ (k : Int) < (H.length : Int) := by omega
      have hh : atI [D.int H[k - 1].1, D.int H[k - 1].2.1, D.str H[k - 1].2.2] 0 = some (.int low) := by rw [h6]; rfl
      simp [L__law_rest_1, stLR, hm, hz, hat, hD, hlen, hh, z]
  | h :: hs, k, acc, low, v4, v5, v6, h1, h2, h3, h4, h5, h6, h7 => by
    have hr := h3 h (.head _)
    have hlt : k < H.length := by
      by_cases q : k < H.length
      · exact q
      · rw [List.drop_eq_nil_of_le (by omega)] at h1; cases h1
    have hk : H[k]? = some h := by
      have := congrArg (fun l => l[0]?) h1
      simpa using this
    have hatk : atI (H.map hD) (k : Int) = some (hD h) := by rw [atI_nat]; simp [hk]
    simp only [sumsP, List.map_cons, enumD, restP]
    by_cases z : m = acc
    · rw [if_pos (by omega)]
      by_cases y : k = 0
      · refine ⟨stLR .sh H m SS v3 (some (.sh, .int k)) (some (.sh, .int acc)) (some (.sh, .int 0)), loop_ret rfl ?_⟩
        rw [if_pos y] at h6
        subst y h6
        have hatk' : atI (H.map hD) 0 = some (hD h) := hatk
        have hlt' : (0 : Int) < (H.length : Int) := by omega
        simp [L__law_rest_1, stLR, z, hatk', hD, hlt, show atI [D.int h.1, D.int h.2.1, D.str h.2.2] 0 = some (.int h.1) from rfl]
      · refine ⟨stLR .sh H m SS v3 (some (.sh, .int k)) (some (.sh, .int acc)) (some (.sh, .int low)), loop_ret rfl ?_⟩
        rw [if_neg y] at h6
        have hlt1 : k - 1 < H.length := by omega
        have hat : atI (H.map hD) ((k : Int) - 1) = some (hD H[k - 1]) := by
          rw [show (k : Int) - 1 = ((k - 1 : Nat) : Int) by omega, atI_nat]
          simp [hlt1]
        rw [List.getElem?_eq_getElem hlt1] at h6
        simp at h6
        have hz : ¬ (k : Int) = 0 := by omega
        have hlen : (k : Int) < (H.length : Int) := by omega
        have hh : atI [D.int H[k - 1].1, D.int H[k - 1].2.1, D.str H[k - 1].2.2] 0 = some (.int low) := by rw [h6]; rfl
        simp [L__law_rest_1, stLR, z, y, hat, hatk, hD, hlt, hh, show atI [D.int h.1, D.int h.2.1, D.str h.2.2] 0 = some (.int h.1) from rfl]
    · rw [if_neg (by omega)]
      have hSS : atI (SS.map D.int) ((k : Int) + 1) = some (.int (acc + h.2.1)) := by
        rw [show (k : Int) + 1 = ((k + 1 : Nat) : Int) by omega, atI_nat]
        have := congrArg (fun l => l[1]?) h2
        simp only [List.getElem?_drop, sumsP] at this
        rw [List.getElem?_map, this]
        cases hs <;> simp [sumsP]
      have hz : ¬ acc = m := fun e => z e.symm
      have hlt2 : acc < m := by omega
      by_cases y : m - acc < h.2.1
      · rw [if_pos y]
        refine ⟨stLR .sh H m SS v3 (some (.sh, .int k)) (some (.sh, .int acc)) v6, loop_ret rfl ?_⟩
        have y2 : m < acc + h.2.1 := by omega
        simp [L__law_rest_1, stLR, hz, hlt2, hSS, y2, hatk, hD, show atI [D.int h.1, D.int h.2.1, D.str h.2.2] 0 = some (.int h.1) from rfl]
      · rw [if_neg y]
        have y2 : ¬ m < acc + h.2.1 := by omega
        obtain ⟨s', e⟩ := lrest_loop (m := m) (SS := SS) (v3 := v3) hH hs (k + 1) (acc + h.2.1) h.1 (some (.sh, .int k)) (some (.sh, .int acc)) v6 (by rw [← List.drop_drop, h1]; rfl) (by rw [← List.drop_drop, h2]; rfl) (fun x hx => h3 x (.tail _ hx)) (by omega) (by simp only [totP] at h5; omega) (by simp [hk]) (by omega)
        refine ⟨s', ?_⟩
        rw [show m - acc - h.2.1 = m - (acc + h.2.1) by omega, ← e]
        refine loop_cons rfl ?_
        simp [L__law_rest_1, stLR, hz, hlt2, hSS, y2]
theorem law_rest_ok {hs : List Hole} {m : Int} (hh : hs.length ≤ 3) (hr : ∀ h ∈ hs, 1 ≤ h.2.1) (hm : 0 ≤ m) : F__law_rest [.tup (hs.map hD), .int m] = some (false, restP 0 m hs) := by
  obtain ⟨v3, e⟩ := lsums_loop (H := hs) (m := m) hs [] 0 none (by simp; omega)
  rw [List.nil_append, List.nil_append] at e
  have p1 : sSetO 2 (eLst (aCons (eC (.int 0)) aNil)) (init 7 [.tup (hs.map hD), .int m]) = some (.nx (stLR .ow hs m [0] none none none none)) := rfl
  have p2 : iSeq (eVar 0) (stLR .ow hs m [0] none none none none) = some (hs.map hD, stLR .ow hs m [0] none none none none) := rfl
  unfold F__law_rest f__law_rest
  simp only [runF]
  rw [seq_nx p1, seq_nx ((for_of p2).trans e)]
  obtain ⟨l, el⟩ := sumsP_last 0 hs
  have hlast : atI ((sumsP 0 hs).map D.int) (-1) = some (.int (totP hs)) := by
    rw [el, List.map_append]
    simpa using atI_last (l.map D.int) (.int (0 + totP hs))
  by_cases z : totP hs < m
  · rw [rest_rises hr z]
    simp [stLR, hlast, z]
  · have p3 : sIf (bT (eGt (eVar 1) (eIx (pVar 2) (eUn gNeg (eC (.int 1)))))) (sRet (eTup (aCons (eC (.str "rises")) aNil))) sNil (stLR .ow hs m (sumsP 0 hs) v3 none none none) = some (.nx (stLR .ow hs m (sumsP 0 hs) v3 none none none)) := by
      simp [stLR, hlast, z]
    rw [seq_nx p3]
    obtain ⟨s', e2⟩ := lrest_loop (H := hs) (m := m) (SS := sumsP 0 hs) (v3 := v3) hh hs 0 0 0 none none none rfl rfl hr hm (by omega) (by simp) (by omega)
    have p4 : iEnum (eVar 2) (stLR .ow hs m (sumsP 0 hs) v3 none none none) = some (enumD 0 ((sumsP 0 hs).map D.int), stLR .sh hs m (sumsP 0 hs) v3 none none none) := rfl
    simp only [sSeq, sFor, p4, Option.bind_some, e2, Int.sub_zero]
end Px.S

set_option Elab.async false
set_option linter.all false
set_option maxRecDepth 100000
set_option maxHeartbeats 4000000
/-! MBag2: a new bag -/
namespace Px.S
open PySem L2 Px
theorem bag_new {c k : Int} (h0 : 0 ≤ c) (hk : 0 ≤ k) (hk2 : k < 1000) {v0 : Option Sl} :
    ∃ a b s', sSeq (sIf (bT (eLt (eVar 2) (ePow (eC (.int 10)) (eC (.int 18))))) (sRetO (eLst (aCons (eC (.int 0)) (aCons (eAdd (eC (.int 1)) (eMod (eAdd (eMul (eVar 2) (eC (.int 7919))) (eMul (eC (.int 104729)) (eVar 1))) (eC (.int 2147483646)))) aNil)))) sNil)
      (sRetO (eLst (aCons (eVar 2) (aCons (eAdd (eC (.int 1)) (eMod (eAdd (eVar 2) (eVar 1)) (eC (.int 2147483646)))) aNil)))) [v0, some (.sh, .int k), some (.sh, .int c)] = some (.ret true (bagD a b) s') ∧ BagOk a b := by
  have cp : cPow 10 18 = true := by decide
  have e10 : (10 : Int) ^ (18 : Int).toNat = 1000000000000000000 := by decide
  by_cases z : c < 1000000000000000000
  · refine ⟨0, 1 + (c * 7919 + 104729 * k) % 2147483646, [v0, some (.sh, .int k), some (.sh, .int c)], ?_, by omega, by omega, by omega⟩
    have l1 : c.natAbs.log2 < 60 := log2_lt (by omega) (by omega)
    have l2 : k.natAbs.log2 < 10 := log2_lt (by omega) (by omega)
    have l3 : (7919 : Int).natAbs.log2 < 13 := log2_lt (by decide) (by omega)
    have l4 : (104729 : Int).natAbs.log2 < 17 := log2_lt (by decide) (by omega)
    have c1 : cMul c 7919 = true := decide_eq_true (by omega)
    have c2 : cMul 104729 k = true := decide_eq_true (by omega)
    simp [cp, e10, z, c1, c2, bagD]
  · refine ⟨c, 1 + (c + k) % 2147483646, [v0, some (.sh, .int k), some (.sh, .int c)], ?_, by omega, by omega, by omega⟩
    simp [cp, e10, z, bagD]
theorem bag_ok (ns : List Int) (k : Nat) (hk : k < 1000) : ∃ a b, F__law_bag [.scr ns, .int k] = some (true, bagD a b) ∧ BagOk a b := by
  have p1 : sSet 2 (eC (.int 0)) (init 3 [.scr ns, .int k]) = some (.nx [some (.sh, .scr ns), some (.sh, .int k), some (.sh, .int 0)]) := rfl
  unfold F__law_bag f__law_bag
  simp only [runF]
  rw [seq_nx p1]
  by_cases z : k < ns.length
  · have p2 : sIf (bT (eLt (eVar 1) (eB1 gLen (pVar 0)))) (sSet 2 (eB1 gAbs (pE (eIx (pVar 0) (eVar 1))))) sNil [some (.sh, .scr ns), some (.sh, .int k), some (.sh, .int 0)] = some (.nx [some (.sh, .scr ns), some (.sh, .int k), some (.sh, .int ns[k].natAbs)]) := by
      have hat : atI ns (k : Int) = some ns[k] := by
        unfold atI ixN
        rw [if_pos (by omega), if_pos (by omega)]
        simp [z]
      simp [z, hat]
      split <;> omega
    rw [seq_nx p2]
    obtain ⟨a, b, s', e, ok⟩ := bag_new (c := (ns[k].natAbs : Int)) (k := k) (v0 := some (.sh, .scr ns)) (by omega) (by omega) (by omega)
    exact ⟨a, b, by rw [e]; rfl, ok⟩
  · have p2 : sIf (bT (eLt (eVar 1) (eB1 gLen (pVar 0)))) (sSet 2 (eB1 gAbs (pE (eIx (pVar 0) (eVar 1))))) sNil [some (.sh, .scr ns), some (.sh, .int k), some (.sh, .int 0)] = some (.nx [some (.sh, .scr ns), some (.sh, .int k), some (.sh, .int 0)]) := by
      simp [z]
    rw [seq_nx p2]
    obtain ⟨a, b, s', e, ok⟩ := bag_new (c := 0) (k := k) (v0 := some (.sh, .scr ns)) (by omega) (by omega) (by omega)
    exact ⟨a, b, by rw [e]; rfl, ok⟩
end Px.S

set_option Elab.async false
set_option linter.all false
set_option maxRecDepth 100000
set_option maxHeartbeats 4000000
/-! MK1: the least rain -/
namespace Px.S
open PySem L2 Px
theorem call4k {G : FnD} {fa fb fc fd : F} {s : S} {d1 d2 d3 d4 : D} {r : Bool × D} (h1 : fa s = some (d1, s)) (h2 : fb s = some (d2, s)) (h3 : fc s = some (d3, s)) (h4 : fd s = some (d4, s)) (h : G [d1, d2, d3, d4] = some r) : eCall G (aCons fa (aCons fb (aCons fc (aCons fd aNil)))) s = some (r.2, s) := by
  simp only [eCall, aCons, aNil, h1, h2, h3, h4, h, Option.bind_some]
theorem call5k {G : FnD} {fa fb fc fd fe : F} {s : S} {d1 d2 d3 d4 d5 : D} {r : Bool × D} (h1 : fa s = some (d1, s)) (h2 : fb s = some (d2, s)) (h3 : fc s = some (d3, s)) (h4 : fd s = some (d4, s)) (h5 : fe s = some (d5, s)) (h : G [d1, d2, d3, d4, d5] = some r) : eCall G (aCons fa (aCons fb (aCons fc (aCons fd (aCons fe aNil))))) s = some (r.2, s) := by
  simp only [eCall, aCons, aNil, h1, h2, h3, h4, h5, h, Option.bind_some]
theorem at_map {α : Type} (e : α → D) {l : List α} {i : Nat} {a : α} (h : l[i]? = some a) : atI (l.map e) (i : Int) = some (e a) := by
  rw [atI_nat, List.getElem?_map, h]; rfl
theorem cut_lo (ds : List D) (n : Nat) : cutD ds none (some (n : Int)) = ds.take n := by
  unfold cutD
  rw [HT.sIx_none, HT.sIx_nat, List.drop_zero, Nat.sub_zero]
  by_cases h : n ≤ ds.length
  · rw [Nat.min_eq_left h]
  · rw [Nat.min_eq_right (by omega), List.take_of_length_le (Nat.le_refl _), List.take_of_length_le (by omega)]
theorem cut_hi (ds : List D) (n : Nat) : cutD ds (some (n : Int)) none = ds.drop n := by
  unfold cutD
  rw [HT.sIx_none, HT.sIx_nat]
  by_cases h : n ≤ ds.length
  · rw [Nat.min_eq_left h, List.take_of_length_le (by simp)]
  · rw [Nat.min_eq_right (by omega), List.drop_eq_nil_of_le (Nat.le_refl _), List.drop_eq_nil_of_le (by omega)]; simp
theorem put_in (rs : List Int) (i : Nat) (x : Int) (hi : i < rs.length) : ((rs.map D.int).take i ++ [D.int x]) ++ (rs.map D.int).drop (i + 1) = (rs.set i x).map D.int := by
  rw [List.set_eq_take_append_cons_drop, if_pos hi, List.map_append, List.map_cons, List.map_take, List.map_drop]
  simp
theorem spot_ok {ts : List Tub} (ht : TubsOk ts) {i : Nat} {t : Tub} (hi : ts[i]? = some t) : F_spot [tubsD ts, .str t.1] = some (false, .int i) := by
  have few := ht.few
  let s0 : S := [some (.sh, tubsD ts), some (.sh, .str t.1), none]
  have cc : compD (hName 2) bYes (eIx (pVar 2) (eC (.int 0))) [2] (ts.map tD) s0 [] = some ((nmsOf ts).map D.str, s0) := by
    rw [comp_map tD (fun t => .str t.1) ts [] (by simp; omega), List.nil_append]
    · unfold nmsOf; rw [List.map_map]; rfl
    intro u _
    exact ⟨_, _, [some (.sh, tubsD ts), some (.sh, .str t.1), some (.sh, tD u)], rfl, rfl, rfl, rfl⟩
  have lc : eLc (iSeq (eVar 0)) (hName 2) bYes (eIx (pVar 2) (eC (.int 0))) [2] s0 = some (.lst ((nmsOf ts).map D.str), s0) := by
    have h0 : iSeq (eVar 0) s0 = some (ts.map tD, s0) := rfl
    simp only [eLc, h0, Option.bind_some]
    rw [if_pos (by rfl), show wipeS s0 [2] = s0 from rfl, cc]
    rfl
  have fx : (nmsOf ts).findIdx? (fun y => y == t.1) = some i := by
    rw [List.findIdx?_eq_some_iff_getElem]
    have hl := (List.getElem?_eq_some_iff.mp hi).1
    refine ⟨by simpa [nmsOf] using hl, ?_, fun j hj => ?_⟩
    · have e := (List.getElem?_eq_some_iff.mp hi).2
      simp [nmsOf, e]
    · have nd := ht.nd
      have hjl : j < ts.length := by omega
      have : ts[j].1 ≠ ts[i].1 := fun q => by
        have nd' : (ts.map (·.1)).Pairwise (· ≠ ·) := nd
        rw [List.pairwise_map, List.pairwise_iff_getElem] at nd'
        exact nd' j i hjl hl hj q
      have e := (List.getElem?_eq_some_iff.mp hi).2
      rw [e] at this
      simp [nmsOf, this]
  unfold F_spot f_spot
  simp only [runF]
  show (sRet _ s0).bind _ = _
  have hv : eVar 1 s0 = some (.str t.1, s0) := rfl
  simp only [sRet, eIndex, lc, hv, Option.bind_some, gIdx, strs_map, fx]
/-! ### standing at a height -/
def stB (lv : Int) : D → Bool
  | .tup (.int a :: _) => decide (a ≥ lv)
  | _ => true
def riK : D := .tup [.str "rises"]
inductive RestD : D → Prop
  | ri : RestD riK
  | non (a : Int) : RestD (.tup [.int a, .non])
  | two (a b : Int) : RestD (.tup [.int a, .int b])
theorem rest_d : ∀ (hs : List Hole) (low left : Int), RestD (restP low left hs)
  | [], low, left => by
    simp only [restP]; split
    · exact .non _
    · exact .ri
  | h :: hs, low, left => by
    simp only [restP]; split
    · exact .two _ _
    split
    · exact .two _ _
    · exact rest_d hs _ _
theorem or_ok {s : S} {d : D} {lv : Int} (hd : RestD d) (h4 : s[4]? = some (some (.sh, d))) (h3 : s[3]? = some (some (.sh, .int lv))) :
    eOrV (eOpP gEq (pVar 4) (pE (eTup (aCons (eC (.str "rises")) aNil)))) (eGe (eIx (pVar 4) (eC (.int 0))) (eVar 3)) s = some (.bl (stB lv d), s) := by
  have o2 : okD riK = true := (Pl.tup (n := 0) (ds := [.str "rises"]) (by simp; exact .str _)).ok
  unfold riK at o2
  cases hd with
  | ri =>
    have e : eqD (.tup [.str "rises"]) (.tup [.str "rises"]) = true := (Pl.tup (n := 0) (ds := [.str "rises"]) (by simp; exact .str _)).eq
    simp [h4, riK, o2, e, stB]
  | non a =>
    have o1 : okD (.tup [.int a, .non]) = true := (Pl.tup (n := 0) (ds := [.int a, .non]) (by simp; exact ⟨.int _, .non⟩)).ok
    have e : eqD (.tup [.int a, .non]) (.tup [.str "rises"]) = false := by simp [eqD, D.py, pys, PyData.eqv, PyData.eqvAll]
    have x0 : atI [D.int a, D.non] 0 = some (.int a) := rfl
    simp [h4, h3, o1, o2, e, x0, stB]
  | two a b =>
    have o1 : okD (.tup [.int a, .int b]) = true := (Pl.tup (n := 0) (ds := [.int a, .int b]) (by simp; exact ⟨.int _, .int _⟩)).ok
    have e : eqD (.tup [.int a, .int b]) (.tup [.str "rises"]) = false := by simp [eqD, D.py, pys, PyData.eqv, PyData.eqvAll]
    have x0 : atI [D.int a, D.int b] 0 = some (.int a) := rfl
    simp [h4, h3, o1, o2, e, x0, stB]
def cm (ts : List Tub) (rs : List Int) (t : Tub) : Int := lookI (nmsOf ts) (comesP ts rs) t.1
def P8 (ts : List Tub) (rs : List Int) (t : Tub) (lv : Int) : Bool := stB lv (restP 0 (cm ts rs t) t.2.2)
theorem come_get {ts : List Tub} {rs : List Int} {i : Nat} {t : Tub} (hi : ts[i]? = some t) : (comeL ts rs)[i]? = some (cm ts rs t) := by
  unfold comeL; rw [List.getElem?_map, hi]; rfl
theorem rests_get {ts : List Tub} {rs : List Int} {i : Nat} {t : Tub} (hi : ts[i]? = some t) : (restsL ts rs)[i]? = some (restP 0 (cm ts rs t) t.2.2) := by
  unfold restsL
  rw [List.getElem?_map, List.getElem?_zip_eq_some.mpr (show ts[i]? = some (t, cm ts rs t).1 ∧ (comeL ts rs)[i]? = some (t, cm ts rs t).2 from ⟨hi, come_get hi⟩)]
  rfl
theorem does_ok {ts : List Tub} {rs : List Int} (ht : TubsOk ts) (hl : rs.length = ts.length) {i : Nat} {t : Tub} (hi : ts[i]? = some t) (lv : Int) : F_does [tubsD ts, .tup (rs.map D.int), .str t.1, .int lv] = some (false, .bl (P8 ts rs t lv)) := by
  have e1 := rests_ok ht hl
  have e2 := spot_ok ht hi
  let s0 (v : Option Sl) : S := [some (.sh, tubsD ts), some (.sh, .tup (rs.map D.int)), some (.sh, .str t.1), some (.sh, .int lv), v]
  have m1 : eCall F_rests (aCons (eVar 0) (aCons (eVar 1) aNil)) (s0 none) = some (.lst (restsL ts rs), s0 none) := call_two rfl rfl e1
  have m2 : eCall F_spot (aCons (eVar 0) (aCons (eVar 2) aNil)) (s0 none) = some (.int i, s0 none) := call_two rfl rfl e2
  have p1 : sSet 4 (eIx (pE (eCall F_rests (aCons (eVar 0) (aCons (eVar 1) aNil)))) (eCall F_spot (aCons (eVar 0) (aCons (eVar 2) aNil)))) (s0 none) = some (.nx (s0 (some (.sh, restP 0 (cm ts rs t) t.2.2)))) := by
    refine (set_of (d := restP 0 (cm ts rs t) t.2.2) (s1 := s0 none) ?_).trans rfl
    have a : atI (restsL ts rs) (i : Int) = some (restP 0 (cm ts rs t) t.2.2) := by rw [atI_nat]; exact rests_get hi
    simp only [eIx, eOpP, pE, m1, m2, Option.bind_some, PR.get, gIx, a]
  unfold F_does f_does
  simp only [runF]
  show (sSeq _ _ (s0 none)).bind _ = _
  rw [seq_nx p1]
  simp only [sRet, or_ok (s := s0 (some (.sh, restP 0 (cm ts rs t) t.2.2))) (rest_d _ _ _) rfl rfl, Option.bind_some]
  rfl
theorem lookK_nn : ∀ {nms : List Str} {cs : List Int} {x : Str}, (∀ c ∈ cs, 0 ≤ c) → 0 ≤ lookI nms cs x
  | [], _, _, _ => by simp [lookI]
  | n :: nms, [], _, _ => by simp [lookI]
  | n :: nms, c :: cs, x, h => by
    simp only [lookI]; split
    · exact h c (.head _)
    · exact lookK_nn fun y hy => h y (.tail _ hy)
theorem setK_nn : ∀ {nms : List Str} {cs : List Int} {x : Str} {v : Int}, (∀ c ∈ cs, 0 ≤ c) → 0 ≤ v → ∀ c ∈ setI nms cs x v, 0 ≤ c
  | [], _, _, _, _, _ => by simp [setI]
  | n :: nms, [], _, _, _, _ => by simp [setI]
  | n :: nms, c :: cs, x, v, h, hv => by
    have ih := setK_nn (nms := nms) (cs := cs) (x := x) (v := v) (fun y hy => h y (.tail _ hy)) hv
    simp only [setI, List.zipWith_cons_cons] at ih ⊢
    intro y hy
    rcases List.mem_cons.mp hy with z | z
    · subst z; split; exact hv; exact h c (.head _)
    · exact ih y z
theorem minK_nn {i j : Int} (hi : 0 ≤ i) (hj : 0 ≤ j) : 0 ≤ minI i j ∧ minI i j ≤ j := by unfold minI; constructor <;> split <;> omega
theorem holesK_nn {nms : List Str} {name : Str} : ∀ {hs : List Hole} {left : Int} {cs : List Int} {l : LD}, (∀ h ∈ hs, 1 ≤ h.2.1) → 0 ≤ left → (∀ c ∈ cs, 0 ≤ c) → ∀ c ∈ (holesP nms name hs left cs l).1, 0 ≤ c
  | [], _, _, _, _, _, h => h
  | h :: hs, left, cs, l, hr, hl, hc => by
    have h1 := hr h (.head _)
    have h2 := minK_nn (i := h.2.1) (j := left) (by omega) hl
    simp only [holesP]
    refine holesK_nn (fun x hx => hr x (.tail _ hx)) (by omega) ?_
    split
    · exact hc
    · exact setK_nn hc (by have := lookK_nn (nms := nms) (x := h.2.2) hc; omega)
theorem tubsK_nn {nms : List Str} : ∀ {ts : List Tub} {cs : List Int} {l : LD}, (∀ t ∈ ts, ∀ h ∈ t.2.2, 1 ≤ h.2.1) → (∀ c ∈ cs, 0 ≤ c) → ∀ c ∈ (tubsP nms ts cs l).1, 0 ≤ c
  | [], _, _, _, h => h
  | t :: ts, cs, l, hr, hc => by
    simp only [tubsP]
    exact tubsK_nn (fun x hx => hr x (.tail _ hx)) (holesK_nn (hr t (.head _)) (lookK_nn hc) hc)
theorem TubsOk.ratesK {ts : List Tub} (ht : TubsOk ts) : ∀ t ∈ ts, t.2.2.length ≤ 3 ∧ ∀ h ∈ t.2.2, 1 ≤ h.2.1 := fun t h => by
  obtain ⟨_, later, _, ok⟩ := ht.each t h
  exact ⟨ok.few, fun x hx => (ok.holes x hx).r0⟩
theorem cm_nn {ts : List Tub} {rs : List Int} (ht : TubsOk ts) (h0 : ∀ r ∈ rs, 0 ≤ r) (t : Tub) : 0 ≤ cm ts rs t := lookK_nn (tubsK_nn (fun t h => (ht.ratesK t h).2) h0)
theorem stands_ok {ts : List Tub} {rs : List Int} (ht : TubsOk ts) (hl : rs.length = ts.length) (h0 : ∀ r ∈ rs, 0 ≤ r) {i : Nat} {t : Tub} (hi : ts[i]? = some t) (lv : Int) : F__law_stands_so [tubsD ts, .tup (rs.map D.int), .int i, .int lv] = some (false, .bl (P8 ts rs t lv)) := by
  have e1 := lends_ok ht hl
  have tk := ht.ratesK t (List.mem_of_getElem? hi)
  have e2 := law_rest_ok tk.1 tk.2 (cm_nn ht h0 t)
  let s0 (v : Option Sl) : S := [some (.sh, tubsD ts), some (.sh, .tup (rs.map D.int)), some (.sh, .int i), some (.sh, .int lv), v]
  have m1 : eCall F__law_ends (aCons (eVar 0) (aCons (eVar 1) aNil)) (s0 none) = some (.tup [.lst ((comeL ts rs).map D.int), .dT (letsEP ts rs).1 (letsEP ts rs).2], s0 none) := call_two rfl rfl e1
  have a0 : atI [D.lst ((comeL ts rs).map D.int), .dT (letsEP ts rs).1 (letsEP ts rs).2] 0 = some (.lst ((comeL ts rs).map D.int)) := rfl
  have a1 : atI ((comeL ts rs).map D.int) (i : Int) = some (.int (cm ts rs t)) := at_map D.int (come_get hi)
  have a2 : atI (ts.map tD) (i : Int) = some (tD t) := at_map tD hi
  have a3 : atI [D.str t.1, D.int t.2.1, D.tup (t.2.2.map hD)] 2 = some (.tup (t.2.2.map hD)) := rfl
  have m2 : eIx (pE (eIx (pE (eCall F__law_ends (aCons (eVar 0) (aCons (eVar 1) aNil)))) (eC (.int 0)))) (eVar 2) (s0 none) = some (.int (cm ts rs t), s0 none) := by
    have hv : eVar 2 (s0 none) = some (.int i, s0 none) := rfl
    simp only [eIx, eOpP, pE, m1, eC, Option.bind_some, PR.get, gIx, a0, hv, a1]
  have m3 : eIx (pE (eIx (pVar 0) (eVar 2))) (eC (.int 2)) (s0 none) = some (.tup (t.2.2.map hD), s0 none) := by
    simp [s0, tubsD, a2, tD, a3]
  have p1 := set_of (i := 4) (call_two m3 m2 e2)
  unfold F__law_stands_so f__law_stands_so
  simp only [runF]
  show (sSeq _ _ (s0 none)).bind _ = _
  rw [seq_nx p1]
  show (sRet _ (s0 (some (.sh, restP 0 (cm ts rs t) t.2.2)))).bind _ = _
  simp only [sRet, or_ok (s := s0 (some (.sh, restP 0 (cm ts rs t) t.2.2))) (rest_d _ _ _) rfl rfl, Option.bind_some]
  rfl
end Px.S

set_option Elab.async false
set_option linter.all false
set_option maxRecDepth 100000
set_option maxHeartbeats 4000000
/-! MK2: the least rain, whole -/
namespace Px.S
open PySem L2 Px
theorem cut_hi1 (ds : List D) (n : Nat) : cutD ds (some ((n : Int) + 1)) none = ds.drop (n + 1) := cut_hi ds (n + 1)
theorem with_ok {s : S} {rs : List Int} {i : Nat} {x : Int} (h3 : rs.length ≤ 3) (hi : i < rs.length) {fa fb fc : F} (ha : fa s = some (.tup ((rs.map D.int).take i), s)) (hb : fb s = some (.tup [.int x], s)) (hc : fc s = some (.tup ((rs.map D.int).drop (i + 1)), s)) :
    eOp gCatT (eOp gCatT fa fb) fc s = some (.tup ((rs.set i x).map D.int), s) := by
  have s1 : small ((List.take i (rs.map D.int)).length + [D.int x].length) = true := small_of (by simp; omega)
  have s2 : small ((List.take i (rs.map D.int) ++ [D.int x]).length + (List.drop (i + 1) (rs.map D.int)).length) = true := small_of (by simp; omega)
  simp only [eOp, ha, hb, hc, Option.bind_some, gCatT, s1, s2, if_true, put_in rs i x hi]
section
variable {ts : List Tub} {rs : List Int} {i : Nat} {t u : Tub} {lv : Int}
def st9 (ts : List Tub) (rs : List Int) (u t : Tub) (lv : Int) (i : Nat) (lo hi : Int) (v8 : Option Sl) : S :=
  [some (.sh, tubsD ts), some (.sh, .tup (rs.map D.int)), some (.sh, .str u.1), some (.sh, .str t.1), some (.sh, .int lv), some (.sh, .int i), some (.sh, .int lo), some (.sh, .int hi), v8]
theorem sl_lo {lo hi : Int} {v8 : Option Sl} (h3 : rs.length ≤ 3) : eSl (pVar 1) oNone (oSome (eVar 5)) (st9 ts rs u t lv i lo hi v8) = some (.tup ((rs.map D.int).take i), st9 ts rs u t lv i lo hi v8) := by
  have c := cut_lo (rs.map D.int) i
  have sm : small rs.length = true := small_of (by omega)
  simp [st9, c, sm]
theorem sl_hi {lo hi : Int} {v8 : Option Sl} (h3 : rs.length ≤ 3) : eSl (pVar 1) (oSome (eAdd (eVar 5) (eC (.int 1)))) oNone (st9 ts rs u t lv i lo hi v8) = some (.tup ((rs.map D.int).drop (i + 1)), st9 ts rs u t lv i lo hi v8) := by
  have c := cut_hi1 (rs.map D.int) i
  have sm : small rs.length = true := small_of (by omega)
  simp [st9, c, sm]
def Pr (ts : List Tub) (rs : List Int) (i : Nat) (t : Tub) (lv : Int) (x : Int) : Bool := P8 ts (rs.set i x) t lv
theorem asks {j : Nat} (ht : TubsOk ts) (hl : rs.length = ts.length) (hi : i < ts.length) (hj : ts[j]? = some t) {lo h : Int} {v8 : Option Sl} {x : Int} {fb : F} (hb : fb (st9 ts rs u t lv i lo h v8) = some (.tup [.int x], st9 ts rs u t lv i lo h v8)) :
    eCall F_does (aCons (eVar 0) (aCons (eOp gCatT (eOp gCatT (eSl (pVar 1) oNone (oSome (eVar 5))) fb) (eSl (pVar 1) (oSome (eAdd (eVar 5) (eC (.int 1)))) oNone)) (aCons (eVar 3) (aCons (eVar 4) aNil)))) (st9 ts rs u t lv i lo h v8) = some (.bl (Pr ts rs i t lv x), st9 ts rs u t lv i lo h v8) := by
  have few := ht.few
  exact call4k rfl (with_ok (by omega) (by omega) (sl_lo (by omega)) hb (sl_hi (by omega))) rfl rfl (does_ok ht (by simp [hl]) hj lv)
theorem least_loop {j : Nat} (ht : TubsOk ts) (hl : rs.length = ts.length) (hi : i < ts.length) (hj : ts[j]? = some t) : ∀ (n fuel : Nat) (lo hg : Int) (v8 : Option Sl), n < fuel → 0 ≤ lo → lo ≤ hg → hg ≤ 100000 → (hg - lo).toNat < 2 ^ n → Pr ts rs i t lv hg = true → (lo = 0 ∨ Pr ts rs i t lv (lo - 1) = false) →
    ∃ r v8', whileD (bT (eLt (eVar 6) (eVar 7))) L_least_rain_1 fuel (st9 ts rs u t lv i lo hg v8) = some (.nx (st9 ts rs u t lv i r r v8')) ∧ 0 ≤ r ∧ r ≤ 100000 ∧ Pr ts rs i t lv r = true ∧ (r = 0 ∨ Pr ts rs i t lv (r - 1) = false)
  | n, 0, lo, hg, v8, h, _, _, _, _, _, _ => by omega
  | n, fuel + 1, lo, hg, v8, hf, l0, l1, l2, hs, ph, pl => by
    by_cases e : lo = hg
    · subst e
      refine ⟨lo, v8, ?_, l0, l2, ph, pl⟩
      simp [whileD, st9]
    · cases n with
      | zero => simp at hs; omega
      | succ n =>
        have hlt : lo < hg := by omega
        have t1 : bT (eLt (eVar 6) (eVar 7)) (st9 ts rs u t lv i lo hg v8) = some (true, st9 ts rs u t lv i lo hg v8) := by simp [st9, hlt]
        have q2 : 2 ^ (n + 1) = 2 * 2 ^ n := by rw [Nat.pow_succ, Nat.mul_comm]
        rw [q2] at hs
        have m1 : lo ≤ (lo + hg) / 2 := by omega
        have m2 : (lo + hg) / 2 < hg := by omega
        let s1 : S := st9 ts rs u t lv i lo hg (some (.sh, .int ((lo + hg) / 2)))
        have p1 : sSet 8 (eDiv (eAdd (eVar 6) (eVar 7)) (eC (.int 2))) (st9 ts rs u t lv i lo hg v8) = some (.nx s1) := by
          have c : cDiv (lo + hg) 2 = true := by unfold cDiv; decide
          simp [st9, s1, c]
        have a1 := asks (u := u) (lv := lv) (lo := lo) (h := hg) (v8 := some (.sh, .int ((lo + hg) / 2))) (x := (lo + hg) / 2) (fb := eTup (aCons (eVar 8) aNil)) ht hl hi hj rfl
        cases q : Pr ts rs i t lv ((lo + hg) / 2) with
        | true =>
          rw [q] at a1
          obtain ⟨r, v8', ew, h1, h2, h3, h4⟩ := least_loop ht hl hi hj n fuel lo ((lo + hg) / 2) (some (.sh, .int ((lo + hg) / 2))) (by omega) l0 m1 (by omega) (by omega) q pl
          refine ⟨r, v8', ?_, h1, h2, h3, h4⟩
          have p2 : L_least_rain_1 (st9 ts rs u t lv i lo hg v8) = some (.nx (st9 ts rs u t lv i lo ((lo + hg) / 2) (some (.sh, .int ((lo + hg) / 2))))) := by
            unfold L_least_rain_1
            refine (seq_nx p1).trans ((if_yes (s1 := s1) ?_).trans rfl)
            simp only [bT, a1, s1, Option.bind_some]
          simp only [whileD, t1, p2, Option.bind_some, if_true]
          exact ew
        | false =>
          rw [q] at a1
          obtain ⟨r, v8', ew, h1, h2, h3, h4⟩ := least_loop ht hl hi hj n fuel ((lo + hg) / 2 + 1) hg (some (.sh, .int ((lo + hg) / 2))) (by omega) (by omega) (by omega) l2 (by omega) ph (.inr (by rw [Int.add_sub_cancel]; exact q))
          refine ⟨r, v8', ?_, h1, h2, h3, h4⟩
          have p2 : L_least_rain_1 (st9 ts rs u t lv i lo hg v8) = some (.nx (st9 ts rs u t lv i ((lo + hg) / 2 + 1) hg (some (.sh, .int ((lo + hg) / 2))))) := by
            unfold L_least_rain_1
            refine (seq_nx p1).trans ((if_no (s1 := s1) ?_).trans rfl)
            simp only [bT, a1, s1, Option.bind_some]
          simp only [whileD, t1, p2, Option.bind_some, if_true]
          exact ew
theorem least_ok {j : Nat} (ht : TubsOk ts) (hl : rs.length = ts.length) (hi : ts[i]? = some u) (hj : ts[j]? = some t) :
    ∃ d, F_least_rain [tubsD ts, .tup (rs.map D.int), .str u.1, .str t.1, .int lv] = some (false, d) ∧ ((d = .non ∧ Pr ts rs i t lv 100000 = false) ∨ ∃ r : Int, d = .int r ∧ 0 ≤ r ∧ r ≤ 100000 ∧ Pr ts rs i t lv r = true ∧ (r = 0 ∨ Pr ts rs i t lv (r - 1) = false)) := by
  have hil := (List.getElem?_eq_some_iff.mp hi).1
  have e1 := spot_ok ht hi
  let s0 : S := [some (.sh, tubsD ts), some (.sh, .tup (rs.map D.int)), some (.sh, .str u.1), some (.sh, .str t.1), some (.sh, .int lv), none, none, none, none]
  let s1 : S := [some (.sh, tubsD ts), some (.sh, .tup (rs.map D.int)), some (.sh, .str u.1), some (.sh, .str t.1), some (.sh, .int lv), some (.sh, .int i), none, none, none]
  have p1 : sSet 5 (eCall F_spot (aCons (eVar 0) (aCons (eVar 2) aNil))) s0 = some (.nx s1) := (set_of (call_two (s1 := s0) (s2 := s0) (d1 := tubsD ts) (d2 := .str u.1) rfl rfl e1)).trans rfl
  have p2 : sPar 6 7 (eC (.int 0)) (eC c_MOST_RAIN) s1 = some (.nx (st9 ts rs u t lv i 0 100000 none)) := rfl
  have a1 := asks (u := u) (lv := lv) (lo := 0) (h := 100000) (v8 := none) (x := 100000) (fb := eTup (aCons (eVar 7) aNil)) ht hl hil hj rfl
  unfold F_least_rain f_least_rain
  simp only [runF]
  show ∃ d, (sSeq _ _ s0).bind _ = _ ∧ _
  rw [seq_nx p1, seq_nx p2]
  cases q : Pr ts rs i t lv 100000 with
  | false =>
    rw [q] at a1
    refine ⟨.non, ?_, .inl ⟨rfl, rfl⟩⟩
    have p3 : sIf (bNot (bT (eCall F_does (aCons (eVar 0) (aCons (eOp gCatT (eOp gCatT (eSl (pVar 1) oNone (oSome (eVar 5))) (eTup (aCons (eVar 7) aNil))) (eSl (pVar 1) (oSome (eAdd (eVar 5) (eC (.int 1)))) oNone)) (aCons (eVar 3) (aCons (eVar 4) aNil))))))) (sRet (eC .non)) sNil (st9 ts rs u t lv i 0 100000 none) = some (.ret false .non (st9 ts rs u t lv i 0 100000 none)) := by
      refine (if_yes (s1 := st9 ts rs u t lv i 0 100000 none) ?_).trans rfl
      simp only [bNot, bT, a1, Option.bind_some]
      rfl
    simp only [sSeq, p3, Option.bind_some]
  | true =>
    rw [q] at a1
    have p3 : sIf (bNot (bT (eCall F_does (aCons (eVar 0) (aCons (eOp gCatT (eOp gCatT (eSl (pVar 1) oNone (oSome (eVar 5))) (eTup (aCons (eVar 7) aNil))) (eSl (pVar 1) (oSome (eAdd (eVar 5) (eC (.int 1)))) oNone)) (aCons (eVar 3) (aCons (eVar 4) aNil))))))) (sRet (eC .non)) sNil (st9 ts rs u t lv i 0 100000 none) = some (.nx (st9 ts rs u t lv i 0 100000 none)) := by
      refine (if_no (s1 := st9 ts rs u t lv i 0 100000 none) ?_).trans rfl
      simp only [bNot, bT, a1, Option.bind_some]
      rfl
    obtain ⟨r, v8', ew, h1, h2, h3, h4⟩ := least_loop (u := u) ht hl hil hj 17 100 0 100000 none (by omega) (by omega) (by omega) (by omega) (by decide) q (.inl rfl)
    refine ⟨.int r, ?_, .inr ⟨r, rfl, h1, h2, h3, h4⟩⟩
    have p4 : sWhile (fun _ => 100) (bT (eLt (eVar 6) (eVar 7))) L_least_rain_1 (st9 ts rs u t lv i 0 100000 none) = some (.nx (st9 ts rs u t lv i r r v8')) := ew
    rw [seq_nx p3, seq_nx p4]
    rfl
/-! ### the law's asking -/
def stS (ts : List Tub) (rs : List Int) (i j : Nat) (lv : Int) (v5 v6 v7 : Option Sl) : S :=
  [some (.sh, tubsD ts), some (.sh, .tup (rs.map D.int)), some (.sh, .int i), some (.sh, .int j), some (.sh, .int lv), v5, v6, v7]
theorem set_nn {x : Int} (h0 : ∀ r ∈ rs, 0 ≤ r) (hx : 0 ≤ x) : ∀ r ∈ rs.set i x, 0 ≤ r := fun r hr => by
  rcases List.mem_or_eq_of_mem_set hr with z | z
  · exact h0 r z
  · omega
theorem within8 (r : Int) (h0 : 0 ≤ r) (h1 : r ≤ 100000) : F__law_within [.int r, .int 0, .int 100000] = some (false, .bl true) := by
  simp [F__law_within, f__law_within, h0, h1]
theorem least_so {j : Nat} (ht : TubsOk ts) (hl : rs.length = ts.length) (h0 : ∀ r ∈ rs, 0 ≤ r) (hi : ts[i]? = some u) (hj : ts[j]? = some t) : F__law_least_so [tubsD ts, .tup (rs.map D.int), .int i, .int j, .int lv] = some (false, .bl true) := by
  have few := ht.few
  have hil := (List.getElem?_eq_some_iff.mp hi).1
  obtain ⟨d, e1, hd⟩ := least_ok (lv := lv) ht hl hi hj
  have ai : atI (ts.map tD) (i : Int) = some (tD u) := at_map tD hi
  have aj : atI (ts.map tD) (j : Int) = some (tD t) := at_map tD hj
  have n0 : ∀ w : Tub, atI [D.str w.1, D.int w.2.1, D.tup (w.2.2.map hD)] 0 = some (.str w.1) := fun w => rfl
  let s1 : S := stS ts rs i j lv (some (.sh, d)) none none
  let s2 : S := stS ts rs i j lv (some (.sh, d)) (some (.sh, .tup ((rs.map D.int).take i))) (some (.sh, .tup ((rs.map D.int).drop (i + 1))))
  have p1 : sSet 5 (eCall F_least_rain (aCons (eVar 0) (aCons (eVar 1) (aCons (eIx (pE (eIx (pVar 0) (eVar 2))) (eC (.int 0))) (aCons (eIx (pE (eIx (pVar 0) (eVar 3))) (eC (.int 0))) (aCons (eVar 4) aNil)))))) (stS ts rs i j lv none none none) = some (.nx s1) := by
    have m3 : eIx (pE (eIx (pVar 0) (eVar 2))) (eC (.int 0)) (stS ts rs i j lv none none none) = some (.str u.1, stS ts rs i j lv none none none) := by
      simp [stS, tubsD, ai, tD, n0]
    have m4 : eIx (pE (eIx (pVar 0) (eVar 3))) (eC (.int 0)) (stS ts rs i j lv none none none) = some (.str t.1, stS ts rs i j lv none none none) := by
      simp [stS, tubsD, aj, tD, n0]
    exact (set_of (call5k (s := stS ts rs i j lv none none none) (d1 := tubsD ts) (d2 := .tup (rs.map D.int)) (d5 := .int lv) rfl rfl m3 m4 rfl e1)).trans rfl
  have sm : small rs.length = true := small_of (by omega)
  have p2 : sPar 6 7 (eSl (pVar 1) oNone (oSome (eVar 2))) (eSl (pVar 1) (oSome (eAdd (eVar 2) (eC (.int 1)))) oNone) s1 = some (.nx s2) := by
    have c1 := cut_lo (rs.map D.int) i
    have c2 := cut_hi1 (rs.map D.int) i
    simp [s1, s2, stS, c1, c2, sm]
  have ask : ∀ (x : Int) (fb : F), 0 ≤ x → fb s2 = some (.tup [.int x], s2) → eCall F__law_stands_so (aCons (eVar 0) (aCons (eOp gCatT (eOp gCatT (eVar 6) fb) (eVar 7)) (aCons (eVar 3) (aCons (eVar 4) aNil)))) s2 = some (.bl (Pr ts rs i t lv x), s2) := fun x fb hx hb =>
    call4k rfl (with_ok (by omega) (by omega) rfl hb rfl) rfl rfl (stands_ok ht (by simp [hl]) (set_nn h0 hx) hj lv)
  unfold F__law_least_so f__law_least_so
  simp only [runF]
  show (sSeq _ _ (stS ts rs i j lv none none none)).bind _ = _
  rw [seq_nx p1, seq_nx p2]
  rcases hd with ⟨rfl, q⟩ | ⟨r, rfl, r0, r1, q, q1⟩
  · have a1 := ask 100000 (eTup (aCons (eC (.int 100000)) aNil)) (by omega) rfl
    rw [q] at a1
    have p3 : sIf (bT (eIsN false (pVar 5))) (sRet (eNotV (eCall F__law_stands_so (aCons (eVar 0) (aCons (eOp gCatT (eOp gCatT (eVar 6) (eTup (aCons (eC (.int 100000)) aNil))) (eVar 7)) (aCons (eVar 3) (aCons (eVar 4) aNil))))))) sNil s2 = some (.ret false (.bl true) s2) := by
      refine (if_yes (s1 := s2) (by simp [s2, stS])).trans ?_
      simp only [sRet, eNotV, bNot, bT, a1, Option.bind_some]
      rfl
    simp only [sSeq, p3, Option.bind_some]
  · have p3 : sIf (bT (eIsN false (pVar 5))) (sRet (eNotV (eCall F__law_stands_so (aCons (eVar 0) (aCons (eOp gCatT (eOp gCatT (eVar 6) (eTup (aCons (eC (.int 100000)) aNil))) (eVar 7)) (aCons (eVar 3) (aCons (eVar 4) aNil))))))) sNil s2 = some (.nx s2) := (if_no (s1 := s2) (by simp [s2, stS])).trans rfl
    have a1 := ask r (eTup (aCons (eVar 5) aNil)) r0 rfl
    rw [q] at a1
    have w1 : eCall F__law_within (aCons (eVar 5) (aCons (eC (.int 0)) (aCons (eC (.int 100000)) aNil))) s2 = some (.bl true, s2) := call_three rfl rfl rfl (within8 r r0 r1)
    have p4 : sIf (bNot (bT (eCall F__law_within (aCons (eVar 5) (aCons (eC (.int 0)) (aCons (eC (.int 100000)) aNil)))))) (sRet (eC (.bl false))) sNil s2 = some (.nx s2) := by
      refine (if_no (s1 := s2) ?_).trans rfl
      simp only [bNot, bT, w1, Option.bind_some]
      rfl
    have p5 : sIf (bNot (bT (eCall F__law_stands_so (aCons (eVar 0) (aCons (eOp gCatT (eOp gCatT (eVar 6) (eTup (aCons (eVar 5) aNil))) (eVar 7)) (aCons (eVar 3) (aCons (eVar 4) aNil))))))) (sRet (eC (.bl false))) sNil s2 = some (.nx s2) := by
      refine (if_no (s1 := s2) ?_).trans rfl
      simp only [bNot, bT, a1, Option.bind_some]
      rfl
    rw [seq_nx p3, seq_nx p4, seq_nx p5]
    have oi : ∀ z : Int, okD (.int z) = true := fun z => (Pl.int (n := 0) z).ok
    by_cases z : r = 0
    · have p6 : sIf (bT (eOpP gEq (pVar 5) (pE (eC (.int 0))))) (sRet (eC (.bl true))) sNil s2 = some (.ret false (.bl true) s2) := (if_yes (s1 := s2) (by simp [s2, stS, oi, z])).trans rfl
      simp only [sSeq, p6, Option.bind_some]
    · have p6 : sIf (bT (eOpP gEq (pVar 5) (pE (eC (.int 0))))) (sRet (eC (.bl true))) sNil s2 = some (.nx s2) := (if_no (s1 := s2) (by simp [s2, stS, oi, z])).trans rfl
      have a2 := ask (r - 1) (eTup (aCons (eSub (eVar 5) (eC (.int 1))) aNil)) (by omega) rfl
      rw [q1.resolve_left z] at a2
      rw [seq_nx p6]
      simp only [sRet, eNotV, bNot, bT, a2, Option.bind_some]
      rfl
end
end Px.S

set_option Elab.async false
set_option linter.all false
set_option maxRecDepth 100000
set_option maxHeartbeats 4000000
/-! MK3: holes by name and height; lots; tubs without some holes -/
namespace Px.S
open PySem L2 Px SI
def hSN (t : Tub) : List SN := t.2.2.map fun h => (t.1, h.1)
def allSN (ts : List Tub) : List SN := ts.flatMap hSN
theorem mem_allSN {ts : List Tub} {p : SN} : p ∈ allSN ts ↔ ∃ t ∈ ts, ∃ h ∈ t.2.2, p = (t.1, h.1) := by
  unfold allSN hSN
  rw [List.mem_flatMap]
  constructor
  · rintro ⟨t, ht, hp⟩
    obtain ⟨h, hh, e⟩ := List.mem_map.mp hp
    exact ⟨t, ht, h, hh, e.symm⟩
  · rintro ⟨t, ht, h, hh, e⟩
    exact ⟨t, ht, List.mem_map.mpr ⟨h, hh, e.symm⟩⟩
theorem allSN_nodup' : ∀ (ts : List Tub), (ts.map (·.1)).Nodup → (∀ t ∈ ts, (t.2.2.map (·.1)).Pairwise (· < ·)) → (allSN ts).Nodup
  | [], _, _ => by simp [allSN]
  | t :: ts, nd, hr => by
    rw [List.map_cons, List.nodup_cons] at nd
    have ih := allSN_nodup' ts nd.2 fun u hu => hr u (.tail _ hu)
    have e : allSN (t :: ts) = hSN t ++ allSN ts := by simp [allSN]
    rw [e, List.nodup_append]
    refine ⟨?_, ih, fun p hp q hq epq => ?_⟩
    · have r := hr t (.head _)
      rw [List.pairwise_map] at r
      show List.Pairwise _ _
      unfold hSN
      rw [List.pairwise_map]
      refine r.imp fun {a b} h q => ?_
      have : a.1 = b.1 := congrArg Prod.snd q
      omega
    · obtain ⟨h, _, e1⟩ := List.mem_map.mp hp
      obtain ⟨u, hu, h', _, e2⟩ := mem_allSN.mp hq
      have : t.1 = u.1 := by
        rw [← e1, e2] at epq
        exact (Prod.mk.inj epq).1
      exact nd.1 (by rw [this]; exact List.mem_map.mpr ⟨u, hu, rfl⟩)
theorem TubsOk.lv {ts : List Tub} (ht : TubsOk ts) : ∀ t ∈ ts, (t.2.2.map (·.1)).Pairwise (· < ·) := fun t h => by
  obtain ⟨_, _, _, ok⟩ := ht.each t h
  exact ok.rising
theorem allSN_nodup {ts : List Tub} (ht : TubsOk ts) : (allSN ts).Nodup := allSN_nodup' ts ht.nd ht.lv
theorem allSN_len' : ∀ (ts : List Tub), (∀ t ∈ ts, t.2.2.length ≤ 3) → (allSN ts).length ≤ 3 * ts.length
  | [], _ => by simp [allSN]
  | t :: ts, h => by
    have ih := allSN_len' ts fun u hu => h u (.tail _ hu)
    have e : allSN (t :: ts) = hSN t ++ allSN ts := by simp [allSN]
    have := h t (.head _)
    rw [e, List.length_append]
    simp only [hSN, List.length_map, List.length_cons]
    omega
theorem allSN_len {ts : List Tub} (ht : TubsOk ts) : (allSN ts).length ≤ 9 := by
  have := allSN_len' ts fun t h => (ht.ratesK t h).1
  have := ht.few
  omega
theorem sort_keys {ts : List Tub} (ht : TubsOk ts) : sortT? ((allSN ts).map siD) = some (.lst ((sortSI (allSN ts)).map siD)) := by
  unfold sortT?
  rw [siL_map, Option.bind_some, if_pos ⟨by have := allSN_len ht; omega, allSN_nodup ht⟩]
theorem keys_len {ts : List Tub} (ht : TubsOk ts) : (sortSI (allSN ts)).length ≤ 9 := by
  rw [(sort_perm _).length_eq]; exact allSN_len ht
/-! ### holes_of -/
theorem holes_comp {td : D} : ∀ (ts : List Tub) (acc : List D), acc.length + 3 * ts.length ≤ 1000 → (∀ t ∈ ts, t.2.2.length ≤ 3) →
    comp2D (hName 1) (iSeq (eIx (pVar 1) (eC (.int 2)))) (hName 2) (eTup (aCons (eIx (pVar 1) (eC (.int 0))) (aCons (eIx (pVar 2) (eC (.int 0))) aNil))) [1, 2] [2] (ts.map tD) [some (.sh, td), none, none] acc = some (acc ++ (allSN ts).map siD, [some (.sh, td), none, none])
  | [], acc, _, _ => by simp [allSN]
  | t :: ts, acc, hl, hf => by
    have h3 := hf t (.head _)
    rw [List.length_cons] at hl
    have ih := holes_comp (td := td) ts (acc ++ (hSN t).map siD) (by simp [hSN]; omega) fun u hu => hf u (.tail _ hu)
    have x0 : ∀ w : Tub, atI [D.str w.1, D.int w.2.1, D.tup (w.2.2.map hD)] 0 = some (.str w.1) := fun w => rfl
    have x2 : ∀ w : Tub, atI [D.str w.1, D.int w.2.1, D.tup (w.2.2.map hD)] 2 = some (.tup (w.2.2.map hD)) := fun w => rfl
    have g1 : hName 1 (tD t) [some (.sh, td), none, none] = some [some (.sh, td), some (.sh, tD t), none] := rfl
    have i1 : iSeq (eIx (pVar 1) (eC (.int 2))) [some (.sh, td), some (.sh, tD t), none] = some (t.2.2.map hD, [some (.sh, td), some (.sh, tD t), none]) := by
      simp [tD, x2]
    have cc : compD (hName 2) bYes (eTup (aCons (eIx (pVar 1) (eC (.int 0))) (aCons (eIx (pVar 2) (eC (.int 0))) aNil))) [2] (t.2.2.map hD) [some (.sh, td), some (.sh, tD t), none] acc = some (acc ++ (hSN t).map siD, [some (.sh, td), some (.sh, tD t), none]) := by
      rw [comp_map hD (fun h => siD (t.1, h.1)) t.2.2 acc (by omega)]
      · unfold hSN; rw [List.map_map]; rfl
      intro h _
      have y0 : atI [D.int h.1, D.int h.2.1, D.str h.2.2] 0 = some (.int h.1) := rfl
      refine ⟨[some (.sh, td), some (.sh, tD t), some (.sh, hD h)], _, [some (.sh, td), some (.sh, tD t), some (.sh, hD h)], rfl, rfl, ?_, rfl⟩
      simp [tD, hD, x0, y0, siD]
    have e : allSN (t :: ts) = hSN t ++ allSN ts := by simp [allSN]
    simp only [List.map_cons, comp2D, g1, i1, Option.bind_some]
    rw [show wipeS [some (.sh, td), some (.sh, tD t), none] [2] = [some (.sh, td), some (.sh, tD t), none] from rfl, cc, Option.bind_some, e, List.map_append, ← List.append_assoc]
    exact ih
theorem holes_ok {ts : List Tub} (ht : TubsOk ts) : F_holes_of [tubsD ts] = some (false, .lst ((allSN ts).map siD)) := by
  have few := ht.few
  have cc := holes_comp (td := tubsD ts) ts [] (by simp; omega) fun t h => (ht.ratesK t h).1
  have hi : iSeq (eVar 0) [some (.sh, tubsD ts), none, none] = some (ts.map tD, [some (.sh, tubsD ts), none, none]) := rfl
  unfold F_holes_of f_holes_of
  simp only [runF]
  show (sRet _ [some (.sh, tubsD ts), none, none]).bind _ = _
  simp only [sRet, eLc2, hi, Option.bind_some]
  rw [if_pos (by rfl), show wipeS [some (.sh, tubsD ts), none, none] [1, 2] = [some (.sh, tubsD ts), none, none] from rfl, cc]
  rfl
/-! ### lots -/
def lotsP {α : Type} : Nat → List α → List (List α)
  | 0, _ => [[]]
  | _ + 1, [] => []
  | m + 1, x :: l => (lotsP m l).map (x :: ·) ++ lotsP (m + 1) l
theorem lotsP_len {α : Type} : ∀ (l : List α) (m : Nat), (lotsP m l).length ≤ 2 ^ l.length
  | [], 0 => by simp [lotsP]
  | [], m + 1 => by simp [lotsP]
  | x :: l, 0 => by
    have : 1 ≤ 2 ^ (x :: l).length := Nat.one_le_two_pow
    simpa [lotsP] using this
  | x :: l, m + 1 => by
    have h1 := lotsP_len l m
    have h2 := lotsP_len l (m + 1)
    simp only [lotsP, List.length_append, List.length_map, List.length_cons]
    rw [Nat.pow_succ]
    omega
theorem lotsP_each {α : Type} : ∀ (l : List α) (m : Nat), ∀ x ∈ lotsP m l, x.length = m
  | [], 0, x, h => by
    have : x = [] := by simpa [lotsP] using h
    subst this; rfl
  | [], m + 1, x, h => by simp [lotsP] at h
  | y :: l, 0, x, h => by
    have : x = [] := by simpa [lotsP] using h
    subst this; rfl
  | y :: l, m + 1, x, h => by
    simp only [lotsP, List.mem_append, List.mem_map] at h
    rcases h with ⟨z, hz, e⟩ | h
    · rw [← e, List.length_cons, lotsP_each l m z hz]
    · exact lotsP_each l (m + 1) x h
def lotD (lot : List SN) : D := .tup (lot.map siD)
def stLo (l : List SN) (m : Int) (md : Md) (fd : List D) (v3 v4 : Option Sl) : S := [some (.sh, .lst (l.map siD)), some (.sh, .int m), some (md, .lst fd), v3, v4, none]
theorem lots_turn {f : Nat} {l us : List SN} {x : SN} {m k : Nat} {md : Md} {acc : List (List SN)} (hmd : md = .ow ∨ md = .sh) (hk : l.drop k = x :: us) (hm : m ≤ 100) (hl : l.length ≤ 100) (hs : acc.length + 2 ^ us.length ≤ 10000) (hr : F_lots f [.lst (us.map siD), .int m] = some (false, .lst ((lotsP m us).map lotD))) :
    L_lots_1 (F_lots f) (stLo l ((m + 1 : Nat) : Int) md (acc.map lotD) (some (.sh, .int k)) (some (.sh, siD x))) = some (.nx (stLo l ((m + 1 : Nat) : Int) .sh ((acc ++ (lotsP m us).map (x :: ·)).map lotD) (some (.sh, .int k)) (some (.sh, siD x)))) := by
  let s0 (md : Md) : S := stLo l ((m + 1 : Nat) : Int) md (acc.map lotD) (some (.sh, .int k)) (some (.sh, siD x))
  have hv : eVar 2 (s0 md) = some (.lst (acc.map lotD), s0 .sh) := by
    rcases hmd with q | q <;> subst q <;> rfl
  have ed : (l.map siD).drop (k + 1) = us.map siD := by
    rw [← List.map_drop, show l.drop (k + 1) = (l.drop k).drop 1 by rw [List.drop_drop], hk]; rfl
  have c := cut_hi1 (l.map siD) k
  rw [ed] at c
  have sm : small l.length = true := small_of (by omega)
  have m1 : eSl (pVar 0) (oSome (eAdd (eVar 3) (eC (.int 1)))) oNone (s0 .sh) = some (.lst (us.map siD), s0 .sh) := by
    simp [s0, stLo, c, sm]
  have m2 : eSub (eVar 1) (eC (.int 1)) (s0 .sh) = some (.int m, s0 .sh) := by
    have : ((m + 1 : Nat) : Int) - 1 = m := by omega
    simp [s0, stLo]
  have m3 : eCall (F_lots f) (aCons (eSl (pVar 0) (oSome (eAdd (eVar 3) (eC (.int 1)))) oNone) (aCons (eSub (eVar 1) (eC (.int 1))) aNil)) (s0 .sh) = some (.lst ((lotsP m us).map lotD), s0 .sh) := call_two m1 m2 hr
  have ll := lotsP_len us m
  have cc : compD (hName 5) bYes (eOp gCatT (eTup (aCons (eVar 4) aNil)) (eVar 5)) [5] ((lotsP m us).map lotD) (s0 .sh) [] = some (((lotsP m us).map (x :: ·)).map lotD, s0 .sh) := by
    rw [comp_map lotD (fun lot => lotD (x :: lot)) (lotsP m us) [] (by simp; omega), List.nil_append, List.map_map]
    · rfl
    intro lot hlot
    have le := lotsP_each us m lot hlot
    have sm : small (1 + lot.length) = true := small_of (by omega)
    refine ⟨(s0 .sh).set 5 (some (.sh, lotD lot)), _, (s0 .sh).set 5 (some (.sh, lotD lot)), rfl, rfl, ?_, rfl⟩
    simp [s0, stLo, lotD, sm]
  have lc : eLc (iSeq (eCall (F_lots f) (aCons (eSl (pVar 0) (oSome (eAdd (eVar 3) (eC (.int 1)))) oNone) (aCons (eSub (eVar 1) (eC (.int 1))) aNil)))) (hName 5) bYes (eOp gCatT (eTup (aCons (eVar 4) aNil)) (eVar 5)) [5] (s0 .sh) = some (.lst (((lotsP m us).map (x :: ·)).map lotD), s0 .sh) := by
    have hi : iSeq (eCall (F_lots f) (aCons (eSl (pVar 0) (oSome (eAdd (eVar 3) (eC (.int 1)))) oNone) (aCons (eSub (eVar 1) (eC (.int 1))) aNil))) (s0 .sh) = some ((lotsP m us).map lotD, s0 .sh) := by
      simp only [iSeq, m3, Option.bind_some]
    simp only [eLc, hi, Option.bind_some]
    rw [if_pos (by rfl), show wipeS (s0 .sh) [5] = s0 .sh from rfl, cc]
    rfl
  have sm2 : small ((acc.map lotD).length + (((lotsP m us).map (x :: ·)).map lotD).length) = true := small_of (by simp; omega)
  unfold L_lots_1
  refine (set_of (d := .lst (acc.map lotD ++ ((lotsP m us).map (x :: ·)).map lotD)) (s1 := s0 .sh) ?_).trans (by rw [← List.map_append]; rfl)
  show eOp gCatL _ _ (s0 md) = _
  simp only [eOp] at lc ⊢
  rw [hv, Option.bind_some, lc, Option.bind_some]
  simp only [gCatL, sm2, if_true, Option.bind_some]
theorem lots_loop {f : Nat} {l : List SN} {m : Nat} (hm : m ≤ 100) (hl : l.length ≤ 100) (hr : ∀ us : List SN, us.length ≤ 9 → F_lots f [.lst (us.map siD), .int m] = some (false, .lst ((lotsP m us).map lotD))) : ∀ (us : List SN) (k : Nat) (md : Md) (acc : List (List SN)) (v3 v4 : Option Sl), (md = .ow ∨ md = .sh) → l.drop k = us → us.length ≤ 9 → acc.length + 2 * 2 ^ us.length ≤ 10000 →
    ∃ md' w3 w4, (md' = .ow ∨ md' = .sh) ∧ loopD (hTup (hCons (hName 3) (hCons (hName 4) hNil))) (L_lots_1 (F_lots f)) (enumD k (us.map siD)) (stLo l ((m + 1 : Nat) : Int) md (acc.map lotD) v3 v4) = some (.nx (stLo l ((m + 1 : Nat) : Int) md' ((acc ++ lotsP (m + 1) us).map lotD) w3 w4))
  | [], k, md, acc, v3, v4, hmd, _, _, _ => ⟨md, v3, v4, hmd, by simp [lotsP]⟩
  | x :: us, k, md, acc, v3, v4, hmd, hk, h9, hs => by
    rw [List.length_cons, Nat.pow_succ] at hs
    rw [List.length_cons] at h9
    have ll := lotsP_len us m
    have t1 := lots_turn (acc := acc) hmd hk hm hl (by omega) (hr us (by omega))
    have hk2 : l.drop (k + 1) = us := by rw [show l.drop (k + 1) = (l.drop k).drop 1 by rw [List.drop_drop], hk]; rfl
    obtain ⟨md', w3, w4, hmd', e⟩ := lots_loop hm hl hr us (k + 1) .sh (acc ++ (lotsP m us).map (x :: ·)) (some (.sh, .int k)) (some (.sh, siD x)) (.inr rfl) hk2 (by omega) (by simp; omega)
    refine ⟨md', w3, w4, hmd', ?_⟩
    simp only [List.map_cons, enumD, lotsP, ← List.append_assoc]
    rw [← e]
    exact loop_cons rfl t1
theorem lots_ok : ∀ (m f : Nat) (l : List SN), m < f → m ≤ 100 → l.length ≤ 9 → F_lots f [.lst (l.map siD), .int m] = some (false, .lst ((lotsP m l).map lotD))
  | m, 0, l, h, _, _ => by omega
  | 0, f + 1, l, _, _, _ => by
    have oi : okD (.int 0) = true := (Pl.int (n := 0) _).ok
    unfold F_lots f_lots
    simp [oi, lotsP, lotD]
  | m + 1, f + 1, l, h, hm, h9 => by
    have oi : ∀ z : Int, okD (.int z) = true := fun z => (Pl.int (n := 0) z).ok
    have ne : ¬ (((m + 1 : Nat) : Int) = 0) := by omega
    have p1 : sIf (bT (eOpP gEq (pVar 1) (pE (eC (.int 0))))) (sRet (eLst (aCons (eTup aNil) aNil))) sNil [some (.sh, .lst (l.map siD)), some (.sh, .int ((m + 1 : Nat) : Int)), none, none, none, none] = some (.nx [some (.sh, .lst (l.map siD)), some (.sh, .int ((m + 1 : Nat) : Int)), none, none, none, none]) := by
      refine (if_no (s1 := [some (.sh, .lst (l.map siD)), some (.sh, .int ((m + 1 : Nat) : Int)), none, none, none, none]) ?_).trans rfl
      simp only [bT, eOpP, pVar, pE, eC, Option.bind_some, List.getElem?_cons_succ, List.getElem?_cons_zero, PR.get, gEq, oi, Bool.and_self, if_true, eqD_int, decide_eq_false ne]
    have p2 : sSetO 2 (eLst aNil) [some (.sh, .lst (l.map siD)), some (.sh, .int ((m + 1 : Nat) : Int)), none, none, none, none] = some (.nx (stLo l ((m + 1 : Nat) : Int) .ow (([] : List (List SN)).map lotD) none none)) := rfl
    have h512 : 2 ^ l.length ≤ 512 := Nat.le_trans (Nat.pow_le_pow_right (by omega) h9) (by decide)
    obtain ⟨md', w3, w4, hmd', e⟩ := lots_loop (f := f) (l := l) (m := m) (by omega) (by omega) (fun us hu => lots_ok m f us (by omega) (by omega) hu) l 0 .ow [] none none (.inl rfl) (by simp) h9 (by simp; omega)
    rw [List.nil_append] at e
    have p3 : iEnum (eVar 0) (stLo l ((m + 1 : Nat) : Int) .ow (([] : List (List SN)).map lotD) none none) = some (enumD 0 (l.map siD), stLo l ((m + 1 : Nat) : Int) .ow (([] : List (List SN)).map lotD) none none) := rfl
    show runF 6 (f_lots (F_lots f)) _ = _
    unfold f_lots
    simp only [runF]
    show (sSeq _ _ [some (.sh, .lst (l.map siD)), some (.sh, .int ((m + 1 : Nat) : Int)), none, none, none, none]).bind _ = _
    rw [seq_nx p1, seq_nx p2, seq_nx ((for_of p3).trans e)]
    rcases hmd' with q | q <;> subst q <;> rfl
theorem lots_eq : ∀ n, F__law_lots n = F_lots n
  | 0 => rfl
  | n + 1 => by
    show runF 6 (f__law_lots (F__law_lots n)) = runF 6 (f_lots (F_lots n))
    rw [lots_eq n]; rfl
theorem plugged_eq : F__law_plugged = F_without := rfl
end Px.S

set_option Elab.async false
set_option linter.all false
set_option maxRecDepth 100000
set_option maxHeartbeats 4000000
/-! MK4: tubs without some holes; the fewest plugs -/
namespace Px.S
open PySem L2 Px SI
def wo (lot : List SN) (t : Tub) : Tub := (t.1, t.2.1, t.2.2.filter fun h => !decide ((t.1, h.1) ∈ lot))
theorem eqD_si (p q : SN) : eqD (siD p) (siD q) = decide (p = q) := by
  have e : eqD (siD p) (siD q) = (eqD (.str p.1) (.str q.1) && eqD (.int p.2) (.int q.2)) := by
    simp [eqD, siD, D.py, pys, PyData.eqv, PyData.eqvAll]
  rw [e, eqD_str, eqD_int]
  by_cases h1 : p.1 = q.1
  · by_cases h2 : p.2 = q.2
    · rw [decide_eq_true h1, decide_eq_true h2, decide_eq_true (show p = q from Prod.ext h1 h2)]; rfl
    · rw [decide_eq_false h2, decide_eq_false (show ¬ p = q from fun z => h2 (by rw [z])), Bool.and_false]
  · rw [decide_eq_false h1, decide_eq_false (show ¬ p = q from fun z => h1 (by rw [z])), Bool.false_and]
theorem Pl.si {n : Nat} (p : SN) : Pl (n + 1) (siD p) := .tup (n := n) (by simp; exact ⟨.str _, .int _⟩)
theorem Pl.lot (lot : List SN) : Pl 2 (lotD lot) := .tup (n := 1) fun d hd => by
  obtain ⟨p, _, rfl⟩ := List.mem_map.mp hd
  exact Pl.si p
theorem any_lot (lot : List SN) (p : SN) : ((lot.map siD).any fun z => eqD z (siD p)) = decide (p ∈ lot) := by
  by_cases h : p ∈ lot
  · rw [decide_eq_true h, List.any_eq_true]
    exact ⟨siD p, List.mem_map.mpr ⟨p, h, rfl⟩, by rw [eqD_si]; simp⟩
  · rw [decide_eq_false h, List.any_eq_false]
    intro d hd
    obtain ⟨q, hq, rfl⟩ := List.mem_map.mp hd
    rw [eqD_si]
    simp only [decide_eq_true_eq]
    intro e
    exact h (by rw [← e]; exact hq)
def stW (ts : List Tub) (lot : List SN) (fd : List D) (v3 v4 v5 : Option Sl) : S := [some (.sh, tubsD ts), some (.sh, lotD lot), some (.ow, .lst fd), v3, v4, v5, none]
theorem wo_turn {ts : List Tub} {lot : List SN} {fd : List D} {t : Tub} (h3 : t.2.2.length ≤ 3) (hf : fd.length ≤ 10) :
    L_without_1 (stW ts lot fd (some (.sh, .str t.1)) (some (.sh, .int t.2.1)) (some (.sh, .tup (t.2.2.map hD)))) = some (.nx (stW ts lot (fd ++ [tD (wo lot t)]) (some (.sh, .str t.1)) (some (.sh, .int t.2.1)) (some (.sh, .tup (t.2.2.map hD))))) := by
  let s0 : S := stW ts lot fd (some (.sh, .str t.1)) (some (.sh, .int t.2.1)) (some (.sh, .tup (t.2.2.map hD)))
  have cc : compD (hName 6) (bT (eOpP (gInQ true) (pE (eTup (aCons (eVar 3) (aCons (eIx (pVar 6) (eC (.int 0))) aNil)))) (pVar 1))) (eVar 6) [6] (t.2.2.map hD) s0 [] = some ((wo lot t).2.2.map hD, s0) := by
    rw [comp_filter hD hD (fun h => !decide ((t.1, h.1) ∈ lot)) t.2.2 [] (by simp; omega), List.nil_append]
    · rfl
    intro h _
    let s1 : S := s0.set 6 (some (.sh, hD h))
    have y0 : atI [D.int h.1, D.int h.2.1, D.str h.2.2] 0 = some (.int h.1) := rfl
    have m1 : eTup (aCons (eVar 3) (aCons (eIx (pVar 6) (eC (.int 0))) aNil)) s1 = some (siD (t.1, h.1), s1) := by
      simp [s1, s0, stW, hD, y0, siD]
    have o1 := (Pl.si (n := 0) (t.1, h.1)).ok
    have o2 := (Pl.lot lot).ok
    have an := any_lot lot (t.1, h.1)
    refine ⟨s1, s1, rfl, ?_, fun _ => ⟨s1, rfl, rfl⟩, fun _ => rfl⟩
    have pv1 : pVar 1 s1 = some (.dat (lotD lot), s1) := rfl
    simp only [bT, eOpP, pE, m1, pv1, Option.bind_some, PR.get]
    unfold lotD at o2 ⊢
    simp only [gInQ, seq?, o1, o2, Bool.and_self, if_true, an, Option.bind_some]
  have lc : eLc (iSeq (eVar 5)) (hName 6) (bT (eOpP (gInQ true) (pE (eTup (aCons (eVar 3) (aCons (eIx (pVar 6) (eC (.int 0))) aNil)))) (pVar 1))) (eVar 6) [6] s0 = some (.lst ((wo lot t).2.2.map hD), s0) := by
    have hi : iSeq (eVar 5) s0 = some (t.2.2.map hD, s0) := rfl
    simp only [eLc, hi, Option.bind_some]
    rw [if_pos (by rfl), show wipeS s0 [6] = s0 from rfl, cc]
    rfl
  have wl : (wo lot t).2.2.length ≤ 3 := Nat.le_trans (List.length_filter_le _ _) h3
  have m1 : eB1 gTuple (pE (eLc (iSeq (eVar 5)) (hName 6) (bT (eOpP (gInQ true) (pE (eTup (aCons (eVar 3) (aCons (eIx (pVar 6) (eC (.int 0))) aNil)))) (pVar 1))) (eVar 6) [6])) s0 = some (.tup ((wo lot t).2.2.map hD), s0) := by
    simp only [eB1, pE, lc, Option.bind_some, PR.get]
    simp (disch := omega) [small_of]
  have m2 : eTup (aCons (eVar 3) (aCons (eVar 4) (aCons (eB1 gTuple (pE (eLc (iSeq (eVar 5)) (hName 6) (bT (eOpP (gInQ true) (pE (eTup (aCons (eVar 3) (aCons (eIx (pVar 6) (eC (.int 0))) aNil)))) (pVar 1))) (eVar 6) [6]))) aNil))) s0 = some (tD (wo lot t), s0) := by
    have h3' : eVar 3 s0 = some (.str t.1, s0) := rfl
    have h4' : eVar 4 s0 = some (.int t.2.1, s0) := rfl
    simp only [eTup, aCons, aNil, h3', h4', m1, Option.bind_some]
    rfl
  have sm : small fd.length = true := small_of (by omega)
  unfold L_without_1
  show sApp 2 _ s0 = _
  simp only [sApp, m2, Option.bind_some]
  simp [s0, stW, sm]
theorem without_ok {ts : List Tub} {lot : List SN} (h3 : ts.length ≤ 3) (hf : ∀ t ∈ ts, t.2.2.length ≤ 3) : F_without [tubsD ts, lotD lot] = some (false, tubsD (ts.map (wo lot))) := by
  obtain ⟨s', e, fd, v3, v4, v5, rfl, h1⟩ := loop_inv0 (g := hTup (hCons (hName 3) (hCons (hName 4) (hCons (hName 5) hNil)))) (fb := L_without_1) (fun i s => ∃ (fd : List D) (v3 v4 v5 : Option Sl), s = stW ts lot fd v3 v4 v5 ∧ fd = (ts.take i).map fun t => tD (wo lot t))
    (ts.map tD) (stW ts lot [] none none none) ⟨[], _, _, _, rfl, rfl⟩ fun i d s hi ⟨fd, v3, v4, v5, hs, hfd⟩ => by
      subst hs
      rw [List.getElem?_map] at hi
      obtain ⟨t, ht, rfl⟩ := Option.map_eq_some_iff.mp hi
      exact ⟨_, _, rfl, wo_turn (hf t (List.mem_of_getElem? ht)) (by rw [hfd]; simp; omega), fd ++ [tD (wo lot t)], _, _, _, rfl, by rw [hfd, List.take_add_one, ht]; simp⟩
  rw [List.length_map, List.take_of_length_le (Nat.le_refl _)] at h1
  have p1 : sSetO 2 (eLst aNil) (init 7 [tubsD ts, lotD lot]) = some (.nx (stW ts lot [] none none none)) := rfl
  unfold F_without f_without
  simp only [runF]
  rw [seq_nx p1, seq_nx ((for_of rfl).trans e)]
  simp (disch := omega) [stW, h1, tubsD, Function.comp_def, small_of]
theorem TubsOk.wo {ts : List Tub} (ht : TubsOk ts) (lot : List SN) : TubsOk (ts.map (wo lot)) := by
  have en : (ts.map (S.wo lot)).map (·.1) = ts.map (·.1) := by rw [List.map_map]; rfl
  refine ⟨by simpa using ht.few, by simpa using ht.some, by rw [en]; exact ht.nd, fun t h => ?_, fun j t hj => ?_⟩
  · obtain ⟨u, hu, rfl⟩ := List.mem_map.mp h
    exact ht.ne u hu
  · rw [List.getElem?_map] at hj
    obtain ⟨u, hu, rfl⟩ := Option.map_eq_some_iff.mp hj
    have b := ht.tub j u hu
    rw [en]
    refine ⟨b.g0, b.g1, Nat.le_trans (List.length_filter_le _ _) b.few, ?_, fun h hh => b.holes h (List.mem_filter.mp hh).1⟩
    have r := b.rising
    rw [List.pairwise_map] at r
    show ((u.2.2.filter _).map (·.1)).Pairwise (· < ·)
    rw [List.pairwise_map]
    exact r.sublist List.filter_sublist
/-! ### a first one that is found -/
theorem loop_find {α : Type} {g : FG} {fb : FS} (e : α → D) (p : α → Bool) (I : S → Prop) : ∀ (xs : List α) (s : S), I s → (∀ x ∈ xs, ∀ s, I s → ∃ s1, g (e x) s = some s1 ∧ ((p x = false ∧ ∃ s2, fb s1 = some (.nx s2) ∧ I s2) ∨ (p x = true ∧ ∃ s2, fb s1 = some (.ret false (e x) s2)))) →
    (∃ s', loopD g fb (xs.map e) s = some (.nx s') ∧ I s' ∧ xs.find? p = none) ∨ (∃ x s', loopD g fb (xs.map e) s = some (.ret false (e x) s') ∧ xs.find? p = some x)
  | [], s, h, _ => .inl ⟨s, rfl, h, rfl⟩
  | x :: xs, s, h, hs => by
    obtain ⟨s1, g1, ⟨hp, s2, e2, i2⟩ | ⟨hp, s2, e2⟩⟩ := hs x (.head _) s h
    · rw [List.map_cons, loop_cons g1 e2, List.find?_cons_of_neg (by rw [hp]; decide)]
      exact loop_find e p I xs s2 i2 fun y hy => hs y (.tail _ hy)
    · rw [List.map_cons, loop_ret g1 e2, List.find?_cons_of_pos hp]
      exact .inr ⟨x, s2, rfl, rfl⟩
theorem loop_find2 {α β : Type} {g : FG} {fb : FS} (e : α → D) (f : β → D) (q : α → List β) (p : β → Bool) (I : S → Prop) : ∀ (xs : List α) (s : S), I s → (∀ x ∈ xs, ∀ s, I s → ∃ s1, g (e x) s = some s1 ∧ ((∃ s2, fb s1 = some (.nx s2) ∧ I s2 ∧ (q x).find? p = none) ∨ (∃ y s2, fb s1 = some (.ret false (f y) s2) ∧ (q x).find? p = some y))) →
    (∃ s', loopD g fb (xs.map e) s = some (.nx s') ∧ I s' ∧ (xs.flatMap q).find? p = none) ∨ (∃ y s', loopD g fb (xs.map e) s = some (.ret false (f y) s') ∧ (xs.flatMap q).find? p = some y)
  | [], s, h, _ => .inl ⟨s, rfl, h, rfl⟩
  | x :: xs, s, h, hs => by
    obtain ⟨s1, g1, ⟨s2, e2, i2, n⟩ | ⟨y, s2, e2, n⟩⟩ := hs x (.head _) s h
    · rw [List.map_cons, loop_cons g1 e2, List.flatMap_cons, List.find?_append, n, Option.none_or]
      exact loop_find2 e f q p I xs s2 i2 fun y hy => hs y (.tail _ hy)
    · rw [List.map_cons, loop_ret g1 e2, List.flatMap_cons, List.find?_append, n]
      exact .inr ⟨y, s2, rfl, rfl⟩
/-- whether so much comes without a lot -/
def plug (ts : List Tub) (rs : List Int) (t : Tub) (much : Int) (lot : List SN) : Bool := decide (cm (ts.map (wo lot)) rs (wo lot t) ≥ much)
def resD : Option (List SN) → D
  | none => .non
  | some lot => lotD lot
def found8 (ts : List Tub) (rs : List Int) (t : Tub) (much : Int) : Option (List SN) := ((List.range ((sortSI (allSN ts)).length + 1)).flatMap fun m => lotsP m (sortSI (allSN ts))).find? (plug ts rs t much)
def mD (m : Nat) : D := .int (0 + (m : Nat))
theorem fewest_ok {ts : List Tub} {rs : List Int} {j : Nat} {t : Tub} {much : Int} (ht : TubsOk ts) (hl : rs.length = ts.length) (hj : ts[j]? = some t) : F_fewest_plugs [tubsD ts, .tup (rs.map D.int), .str t.1, .int much] = some (false, resD (found8 ts rs t much)) := by
  have few := ht.few
  have e1 := holes_ok ht
  have e2 := sort_keys ht
  have e3 := spot_ok ht hj
  have kl := keys_len ht
  generalize hk : sortSI (allSN ts) = ks at *
  let st (v5 v6 : Option Sl) : S := [some (.sh, tubsD ts), some (.sh, .tup (rs.map D.int)), some (.sh, .str t.1), some (.sh, .int much), some (.sh, .lst (ks.map siD)), v5, v6]
  let s0 : S := [some (.sh, tubsD ts), some (.sh, .tup (rs.map D.int)), some (.sh, .str t.1), some (.sh, .int much), none, none, none]
  have p1 : sSet 4 (eB1 gSortT (pE (eCall F_holes_of (aCons (eVar 0) aNil)))) s0 = some (.nx (st none none)) := by
    refine (set_of (d := .lst (ks.map siD)) (s1 := s0) ?_).trans rfl
    have m1 : eCall F_holes_of (aCons (eVar 0) aNil) s0 = some (.lst ((allSN ts).map siD), s0) := call_one rfl e1
    simp only [eB1, pE, m1, Option.bind_some, PR.get, gSortT, e2]
  have p2 : iRng1 (eAdd (eB1 gLen (pVar 4)) (eC (.int 1))) (st none none) = some ((List.range (ks.length + 1)).map mD, st none none) := by
    have := rng1_of (f := eAdd (eB1 gLen (pVar 4)) (eC (.int 1))) (s := st none none) (s1 := st none none) (m := ks.length + 1) (by simp [st]) (by omega)
    rw [this]; rfl
  have inner : ∀ (m : Nat) (lot : List SN) (s : S), (∃ v6, s = st (some (.sh, .int (m : Int))) v6) → ∃ s1, hName 6 (lotD lot) s = some s1 ∧ ((plug ts rs t much lot = false ∧ ∃ s2, L_fewest_plugs_1 s1 = some (.nx s2) ∧ ∃ v6, s2 = st (some (.sh, .int (m : Int))) v6) ∨ (plug ts rs t much lot = true ∧ ∃ s2, L_fewest_plugs_1 s1 = some (.ret false (lotD lot) s2))) := by
    rintro m lot s ⟨v6, rfl⟩
    let s1 : S := st (some (.sh, .int (m : Int))) (some (.sh, lotD lot))
    refine ⟨s1, rfl, ?_⟩
    have hw := ht.wo lot
    have m1 : eCall F_without (aCons (eVar 0) (aCons (eVar 6) aNil)) s1 = some (tubsD (ts.map (wo lot)), s1) := call_two rfl rfl (without_ok few fun t h => (ht.ratesK t h).1)
    have m2 : eCall F_comes (aCons (eCall F_without (aCons (eVar 0) (aCons (eVar 6) aNil))) (aCons (eVar 1) aNil)) s1 = some (.tup ((comeL (ts.map (wo lot)) rs).map D.int), s1) := call_two m1 rfl (comes_ok hw (by simp [hl]))
    have m3 : eCall F_spot (aCons (eVar 0) (aCons (eVar 2) aNil)) s1 = some (.int j, s1) := call_two rfl rfl e3
    have hj2 : (ts.map (wo lot))[j]? = some (wo lot t) := by rw [List.getElem?_map, hj]; rfl
    have a1 : atI ((comeL (ts.map (wo lot)) rs).map D.int) (j : Int) = some (.int (cm (ts.map (wo lot)) rs (wo lot t))) := at_map D.int (come_get hj2)
    have m4 : bT (eGe (eIx (pE (eCall F_comes (aCons (eCall F_without (aCons (eVar 0) (aCons (eVar 6) aNil))) (aCons (eVar 1) aNil)))) (eCall F_spot (aCons (eVar 0) (aCons (eVar 2) aNil)))) (eVar 3)) s1 = some (plug ts rs t much lot, s1) := by
      have m5 : eIx (pE (eCall F_comes (aCons (eCall F_without (aCons (eVar 0) (aCons (eVar 6) aNil))) (aCons (eVar 1) aNil)))) (eCall F_spot (aCons (eVar 0) (aCons (eVar 2) aNil))) s1 = some (.int (cm (ts.map (wo lot)) rs (wo lot t)), s1) := by
        simp only [eIx, eOpP, pE, m2, m3, Option.bind_some, PR.get, gIx, a1]
      have hv : eVar 3 s1 = some (.int much, s1) := rfl
      unfold bT eGe
      simp only [eOp, m5, hv, Option.bind_some]
      simp [plug]
    unfold L_fewest_plugs_1
    cases q : plug ts rs t much lot with
    | false => rw [q] at m4; exact .inl ⟨rfl, s1, (if_no m4).trans rfl, _, rfl⟩
    | true => rw [q] at m4; exact .inr ⟨rfl, s1, (if_yes m4).trans rfl⟩
  have outer := loop_find2 (g := hName 5) (fb := L_fewest_plugs_2) mD lotD (fun m => lotsP m ks) (plug ts rs t much) (fun s => ∃ v5 v6, s = st v5 v6) (List.range (ks.length + 1)) (st none none) ⟨_, _, rfl⟩ (by
    rintro m hm s ⟨v5, v6, rfl⟩
    have hm' : m < ks.length + 1 := List.mem_range.mp hm
    let s1 : S := st (some (.sh, .int (m : Int))) v6
    have g1 : hName 5 (mD m) (st v5 v6) = some s1 := by
      show some (st (some (.sh, .int (0 + (m : Int)))) v6) = some s1
      rw [Int.zero_add]
    refine ⟨s1, g1, ?_⟩
    have ml : eCall (F_lots 12) (aCons (eVar 4) (aCons (eVar 5) aNil)) s1 = some (.lst ((lotsP m ks).map lotD), s1) := call_two rfl rfl (lots_ok m 12 ks (by omega) (by omega) kl)
    have hi : iSeq (eCall (F_lots 12) (aCons (eVar 4) (aCons (eVar 5) aNil))) s1 = some ((lotsP m ks).map lotD, s1) := by
      simp only [iSeq, ml, Option.bind_some]
    unfold L_fewest_plugs_2
    rcases loop_find (g := hName 6) (fb := L_fewest_plugs_1) lotD (plug ts rs t much) (fun s => ∃ v6, s = st (some (.sh, .int (m : Int))) v6) (lotsP m ks) s1 ⟨_, rfl⟩ (fun lot _ s hs => inner m lot s hs) with ⟨s', e, ⟨w6, rfl⟩, n⟩ | ⟨x, s', e, n⟩
    · exact .inl ⟨_, (for_of hi).trans e, ⟨_, _, rfl⟩, n⟩
    · exact .inr ⟨x, s', (for_of hi).trans e, n⟩)
  unfold F_fewest_plugs f_fewest_plugs
  simp only [runF]
  show (sSeq _ _ s0).bind _ = _
  rw [seq_nx p1]
  have ef : found8 ts rs t much = ((List.range (ks.length + 1)).flatMap fun m => lotsP m ks).find? (plug ts rs t much) := by unfold found8; rw [hk]
  rcases outer with ⟨s', e, ⟨w5, w6, rfl⟩, n⟩ | ⟨x, s', e, n⟩
  · rw [seq_nx ((for_of p2).trans e), ef, n]
    rfl
  · have := (for_of (g := hName 5) (fb := L_fewest_plugs_2) p2).trans e
    rw [ef, n]
    simp only [sSeq, this, Option.bind_some, resD]
end Px.S

set_option Elab.async false
set_option linter.all false
set_option maxRecDepth 100000
set_option maxHeartbeats 4000000
/-! MK5: the law's plugs -/
namespace Px.S
open PySem L2 Px SI
theorem allSN_take {ts : List Tub} {i : Nat} {t : Tub} (h : ts[i]? = some t) : allSN (ts.take (i + 1)) = allSN (ts.take i) ++ hSN t := by
  rw [List.take_add_one, h]
  simp [allSN]
theorem plugged_ok {ts : List Tub} {lot : List SN} (h3 : ts.length ≤ 3) (hf : ∀ t ∈ ts, t.2.2.length ≤ 3) : F__law_plugged [tubsD ts, lotD lot] = some (false, tubsD (ts.map (wo lot))) := without_ok h3 hf
theorem law_lots_ok (m f : Nat) (l : List SN) (h1 : m < f) (h2 : m ≤ 100) (h3 : l.length ≤ 9) : F__law_lots f [.lst (l.map siD), .int m] = some (false, .lst ((lotsP m l).map lotD)) := by
  rw [lots_eq]; exact lots_ok m f l h1 h2 h3
theorem law_plugs_ok {ts : List Tub} {rs : List Int} {j : Nat} {t : Tub} {much : Int} (ht : TubsOk ts) (hl : rs.length = ts.length) (hj : ts[j]? = some t) : F__law_plugs [tubsD ts, .tup (rs.map D.int), .int j, .int much] = some (false, resD (found8 ts rs t much)) := by
  have few := ht.few
  have e2 := sort_keys ht
  have kl := keys_len ht
  have al := allSN_len ht
  let sk (md : Md) (fd : List D) (v5 v6 v7 v8 v9 : Option Sl) : S := [some (.sh, tubsD ts), some (.sh, .tup (rs.map D.int)), some (.sh, .int j), some (.sh, .int much), some (md, .lst fd), v5, v6, v7, v8, v9, none]
  -- the keys
  obtain ⟨s', pk, md, v5, v6, v7, hmd, rfl⟩ := loop_inv0 (g := hTup (hCons (hName 5) (hCons (hName 6) (hCons (hName 7) hNil)))) (fb := L__law_plugs_3) (fun i s => ∃ (md : Md) (v5 v6 v7 : Option Sl), (md = .ow ∨ md = .sh) ∧ s = sk md ((allSN (ts.take i)).map siD) v5 v6 v7 none none)
    (ts.map tD) (sk .ow [] none none none none none) ⟨.ow, _, _, _, .inl rfl, rfl⟩ fun i d s hi ⟨md, v5, v6, v7, hmd, hs⟩ => by
      subst hs
      rw [List.getElem?_map] at hi
      obtain ⟨u, hu, rfl⟩ := Option.map_eq_some_iff.mp hi
      have h3 := (ht.ratesK u (List.mem_of_getElem? hu)).1
      let s0 (md : Md) : S := sk md ((allSN (ts.take i)).map siD) (some (.sh, .str u.1)) (some (.sh, .int u.2.1)) (some (.sh, .tup (u.2.2.map hD))) none none
      have hv : eVar 4 (s0 md) = some (.lst ((allSN (ts.take i)).map siD), s0 .sh) := by
        rcases hmd with q | q <;> subst q <;> rfl
      have cc : compD (hName 10) bYes (eTup (aCons (eVar 5) (aCons (eIx (pVar 10) (eC (.int 0))) aNil))) [10] (u.2.2.map hD) (s0 .sh) [] = some ((hSN u).map siD, s0 .sh) := by
        rw [comp_map hD (fun h => siD (u.1, h.1)) u.2.2 [] (by simp; omega), List.nil_append]
        · unfold hSN; rw [List.map_map]; rfl
        intro h _
        have y0 : atI [D.int h.1, D.int h.2.1, D.str h.2.2] 0 = some (.int h.1) := rfl
        refine ⟨(s0 .sh).set 10 (some (.sh, hD h)), _, (s0 .sh).set 10 (some (.sh, hD h)), rfl, rfl, ?_, rfl⟩
        simp [s0, sk, hD, y0, siD]
      have lc : eLc (iSeq (eVar 7)) (hName 10) bYes (eTup (aCons (eVar 5) (aCons (eIx (pVar 10) (eC (.int 0))) aNil))) [10] (s0 .sh) = some (.lst ((hSN u).map siD), s0 .sh) := by
        have hi : iSeq (eVar 7) (s0 .sh) = some (u.2.2.map hD, s0 .sh) := rfl
        simp only [eLc, hi, Option.bind_some]
        rw [if_pos (by rfl), show wipeS (s0 .sh) [10] = s0 .sh from rfl, cc]
        rfl
      have ll : (allSN (ts.take i)).length ≤ 9 := by
        have := allSN_len' (ts.take i) fun t h => (ht.ratesK t (List.mem_of_mem_take h)).1
        have : (ts.take i).length ≤ ts.length := by simp; omega
        omega
      have sm2 : small (((allSN (ts.take i)).map siD).length + ((hSN u).map siD).length) = true := small_of (by simp [hSN]; omega)
      refine ⟨s0 md, s0 .sh |>.set 4 (some (.sh, .lst ((allSN (ts.take (i + 1))).map siD))), rfl, ?_, .sh, _, _, _, .inr rfl, rfl⟩
      unfold L__law_plugs_3
      refine (set_of (d := .lst ((allSN (ts.take (i + 1))).map siD)) (s1 := s0 .sh) ?_)
      rw [allSN_take hu, List.map_append]
      simp only [eOp] at lc ⊢
      rw [hv, Option.bind_some, lc, Option.bind_some]
      simp only [gCatL, sm2, if_true, Option.bind_some]
  rw [List.length_map, List.take_of_length_le (Nat.le_refl _)] at pk
  generalize hk : sortSI (allSN ts) = ks at *
  have p0 : sSetO 4 (eLst aNil) (init 11 [tubsD ts, .tup (rs.map D.int), .int j, .int much]) = some (.nx (sk .ow [] none none none none none)) := rfl
  let st (v8 v9 : Option Sl) : S := sk .sh (ks.map siD) v5 v6 v7 v8 v9
  have p1 : sSet 4 (eB1 gSortT (pVar 4)) (sk md ((allSN ts).map siD) v5 v6 v7 none none) = some (.nx (st none none)) := by
    refine (set_of (d := .lst (ks.map siD)) (s1 := sk md ((allSN ts).map siD) v5 v6 v7 none none) ?_).trans rfl
    rcases hmd with q | q <;> subst q <;> simp [sk, e2]
  have p2 : iRng1 (eAdd (eB1 gLen (pVar 4)) (eC (.int 1))) (st none none) = some ((List.range (ks.length + 1)).map mD, st none none) := by
    have := rng1_of (f := eAdd (eB1 gLen (pVar 4)) (eC (.int 1))) (s := st none none) (s1 := st none none) (m := ks.length + 1) (by simp [st, sk]) (by omega)
    rw [this]; rfl
  have inner : ∀ (m : Nat) (lot : List SN) (s : S), (∃ v9, s = st (some (.sh, .int (m : Int))) v9) → ∃ s1, hName 9 (lotD lot) s = some s1 ∧ ((plug ts rs t much lot = false ∧ ∃ s2, L__law_plugs_1 s1 = some (.nx s2) ∧ ∃ v9, s2 = st (some (.sh, .int (m : Int))) v9) ∨ (plug ts rs t much lot = true ∧ ∃ s2, L__law_plugs_1 s1 = some (.ret false (lotD lot) s2))) := by
    rintro m lot s ⟨v9, rfl⟩
    let s1 : S := st (some (.sh, .int (m : Int))) (some (.sh, lotD lot))
    refine ⟨s1, rfl, ?_⟩
    have hw := ht.wo lot
    have m1 : eCall F__law_plugged (aCons (eVar 0) (aCons (eVar 9) aNil)) s1 = some (tubsD (ts.map (wo lot)), s1) := call_two rfl rfl (plugged_ok few fun t h => (ht.ratesK t h).1)
    have m2 : eCall F__law_ends (aCons (eCall F__law_plugged (aCons (eVar 0) (aCons (eVar 9) aNil))) (aCons (eVar 1) aNil)) s1 = some (.tup [.lst ((comeL (ts.map (wo lot)) rs).map D.int), .dT (letsEP (ts.map (wo lot)) rs).1 (letsEP (ts.map (wo lot)) rs).2], s1) := call_two m1 rfl (lends_ok hw (by simp [hl]))
    have hj2 : (ts.map (wo lot))[j]? = some (wo lot t) := by rw [List.getElem?_map, hj]; rfl
    have a0 : atI [D.lst ((comeL (ts.map (wo lot)) rs).map D.int), .dT (letsEP (ts.map (wo lot)) rs).1 (letsEP (ts.map (wo lot)) rs).2] 0 = some (.lst ((comeL (ts.map (wo lot)) rs).map D.int)) := rfl
    have a1 : atI ((comeL (ts.map (wo lot)) rs).map D.int) (j : Int) = some (.int (cm (ts.map (wo lot)) rs (wo lot t))) := at_map D.int (come_get hj2)
    have m4 : bT (eGe (eIx (pE (eIx (pE (eCall F__law_ends (aCons (eCall F__law_plugged (aCons (eVar 0) (aCons (eVar 9) aNil))) (aCons (eVar 1) aNil)))) (eC (.int 0)))) (eVar 2)) (eVar 3)) s1 = some (plug ts rs t much lot, s1) := by
      have hv2 : eVar 2 s1 = some (.int j, s1) := rfl
      have m5 : eIx (pE (eIx (pE (eCall F__law_ends (aCons (eCall F__law_plugged (aCons (eVar 0) (aCons (eVar 9) aNil))) (aCons (eVar 1) aNil)))) (eC (.int 0)))) (eVar 2) s1 = some (.int (cm (ts.map (wo lot)) rs (wo lot t)), s1) := by
        simp only [eIx, eOpP, pE, m2, eC, hv2, Option.bind_some, PR.get, gIx, a0, a1]
      have hv : eVar 3 s1 = some (.int much, s1) := rfl
      unfold bT eGe
      simp only [eOp, m5, hv, Option.bind_some]
      simp [plug]
    unfold L__law_plugs_1
    cases q : plug ts rs t much lot with
    | false => rw [q] at m4; exact .inl ⟨rfl, s1, (if_no m4).trans rfl, _, rfl⟩
    | true => rw [q] at m4; exact .inr ⟨rfl, s1, (if_yes m4).trans rfl⟩
  have outer := loop_find2 (g := hName 8) (fb := L__law_plugs_2) mD lotD (fun m => lotsP m ks) (plug ts rs t much) (fun s => ∃ v8 v9, s = st v8 v9) (List.range (ks.length + 1)) (st none none) ⟨_, _, rfl⟩ (by
    rintro m hm s ⟨v8, v9, rfl⟩
    have hm' : m < ks.length + 1 := List.mem_range.mp hm
    let s1 : S := st (some (.sh, .int (m : Int))) v9
    have g1 : hName 8 (mD m) (st v8 v9) = some s1 := by
      show some (st (some (.sh, .int (0 + (m : Int)))) v9) = some s1
      rw [Int.zero_add]
    refine ⟨s1, g1, ?_⟩
    have ml : eCall (F__law_lots 12) (aCons (eVar 4) (aCons (eVar 8) aNil)) s1 = some (.lst ((lotsP m ks).map lotD), s1) := call_two rfl rfl (law_lots_ok m 12 ks (by omega) (by omega) kl)
    have hi : iSeq (eCall (F__law_lots 12) (aCons (eVar 4) (aCons (eVar 8) aNil))) s1 = some ((lotsP m ks).map lotD, s1) := by
      simp only [iSeq, ml, Option.bind_some]
    unfold L__law_plugs_2
    rcases loop_find (g := hName 9) (fb := L__law_plugs_1) lotD (plug ts rs t much) (fun s => ∃ v9, s = st (some (.sh, .int (m : Int))) v9) (lotsP m ks) s1 ⟨_, rfl⟩ (fun lot _ s hs => inner m lot s hs) with ⟨s', e, ⟨w6, rfl⟩, n⟩ | ⟨x, s', e, n⟩
    · exact .inl ⟨_, (for_of hi).trans e, ⟨_, _, rfl⟩, n⟩
    · exact .inr ⟨x, s', (for_of hi).trans e, n⟩)
  unfold F__law_plugs f__law_plugs
  simp only [runF]
  rw [seq_nx p0, seq_nx ((for_of rfl).trans pk), seq_nx p1]
  have ef : found8 ts rs t much = ((List.range (ks.length + 1)).flatMap fun m => lotsP m ks).find? (plug ts rs t much) := by unfold found8; rw [hk]
  rcases outer with ⟨s', e, ⟨w5, w6, rfl⟩, n⟩ | ⟨x, s', e, n⟩
  · rw [seq_nx ((for_of p2).trans e), ef, n]
    rfl
  · have := (for_of (g := hName 8) (fb := L__law_plugs_2) p2).trans e
    rw [ef, n]
    simp only [sSeq, this, Option.bind_some, resD]
theorem Pl.res (o : Option (List SN)) : Pl 2 (resD o) := by
  cases o with
  | none => exact .non
  | some lot => exact Pl.lot lot
/-! ### what each hole lets, by its key -/
def kSN (p : SN) : List Key := [.inr p.1, .inl p.2]
theorem kSN_inj {p q : SN} (h : kSN p = kSN q) : p = q := by
  unfold kSN at h
  injection h with h1 h2
  injection h1 with h1
  injection h2 with h2 _
  injection h2 with h2
  exact Prod.ext h1 h2
theorem holes_keys {nms : List Str} {name : Str} : ∀ (hs : List Hole) (left : Int) (cs : List Int) (K : List SN) (vs : List Int), K.length = vs.length → (K ++ hs.map fun h => (name, h.1)).Nodup →
    ∃ us : List Int, us.length = hs.length ∧ (holesP nms name hs left cs (K.map kSN, vs.map D.int)).2 = ((K ++ hs.map fun h => (name, h.1)).map kSN, (vs ++ us).map D.int)
  | [], left, cs, K, vs, _, _ => ⟨[], rfl, by simp [holesP]⟩
  | h :: hs, left, cs, K, vs, hl, nd => by
    have hn : hK name h ∉ K.map kSN := fun q => by
      obtain ⟨p, hp, e⟩ := List.mem_map.mp q
      have e2 : p = (name, h.1) := kSN_inj e
      rw [List.nodup_append] at nd
      exact nd.2.2 p hp (name, h.1) (List.mem_map.mpr ⟨h, .head _, rfl⟩) e2
    have pn := putD_new (d := .int (minI h.2.1 left)) (ds := vs.map D.int) hn
    have nd2 : ((K ++ [(name, h.1)]) ++ hs.map fun h => (name, h.1)).Nodup := by simpa using nd
    obtain ⟨us, hu, e⟩ := holes_keys (nms := nms) (name := name) hs (left - minI h.2.1 left) (if h.2.2 = "" then cs else setI nms cs h.2.2 (lookI nms cs h.2.2 + minI h.2.1 left)) (K ++ [(name, h.1)]) (vs ++ [minI h.2.1 left]) (by simp [hl]) nd2
    refine ⟨minI h.2.1 left :: us, by simp [hu], ?_⟩
    simp only [holesP]
    rw [pn]
    have e0 : (K.map kSN ++ [hK name h], vs.map D.int ++ [D.int (minI h.2.1 left)]) = (((K ++ [(name, h.1)]).map kSN, (vs ++ [minI h.2.1 left]).map D.int) : LD) := by
      simp [kSN, hK]
    rw [e0, e]
    simp
theorem tubs_keys {nms : List Str} : ∀ (ts : List Tub) (cs : List Int) (K : List SN) (vs : List Int), K.length = vs.length → (K ++ allSN ts).Nodup →
    ∃ us : List Int, us.length = (allSN ts).length ∧ (tubsP nms ts cs (K.map kSN, vs.map D.int)).2 = ((K ++ allSN ts).map kSN, (vs ++ us).map D.int)
  | [], cs, K, vs, _, _ => ⟨[], rfl, by simp [tubsP, allSN]⟩
  | t :: ts, cs, K, vs, hl, nd => by
    have e : allSN (t :: ts) = hSN t ++ allSN ts := by simp [allSN]
    rw [e] at nd ⊢
    have nd1 : (K ++ hSN t).Nodup := by
      rw [← List.append_assoc] at nd
      exact (List.nodup_append.mp nd).1
    obtain ⟨us, hu, e1⟩ := holes_keys (nms := nms) (name := t.1) t.2.2 (lookI nms cs t.1) cs K vs hl nd1
    obtain ⟨ws, hw, e2⟩ := tubs_keys (nms := nms) ts (holesP nms t.1 t.2.2 (lookI nms cs t.1) cs (K.map kSN, vs.map D.int)).1 (K ++ hSN t) (vs ++ us) (by simp [hl, hu, hSN]) (by rw [List.append_assoc]; exact nd)
    refine ⟨us ++ ws, by simp [hu, hw, hSN], ?_⟩
    simp only [tubsP]
    rw [e1]
    unfold hSN at e2 ⊢
    rw [e2]
    simp
theorem lets_keys {ts : List Tub} (ht : TubsOk ts) (rs : List Int) : ∃ us : List Int, us.length = (allSN ts).length ∧ letsEP ts rs = ((allSN ts).map kSN, us.map D.int) := by
  obtain ⟨us, hu, e⟩ := tubs_keys (nms := nmsOf ts) ts rs [] [] rfl (by simpa using allSN_nodup ht)
  exact ⟨us, hu, by simpa [letsEP] using e⟩
theorem look_some : ∀ (K : List SN) (us : List Int) (p : SN), us.length = K.length → p ∈ K → ∃ v : Int, look (K.map kSN) (us.map D.int) (kSN p) = some (.int v)
  | [], us, p, _, h => by cases h
  | q :: K, [], p, hl, _ => by simp at hl
  | q :: K, u :: us, p, hl, h => by
    by_cases z : q = p
    · subst z
      exact ⟨u, by simp⟩
    · have hk : kSN q ≠ kSN p := fun e => z (kSN_inj e)
      rcases List.mem_cons.mp h with e | h
      · exact absurd e.symm z
      · obtain ⟨v, e⟩ := look_some K us p (by simpa using hl) h
        exact ⟨v, by simpa [hk] using e⟩
theorem lets_look {ts : List Tub} (ht : TubsOk ts) (rs : List Int) {p : SN} (hp : p ∈ allSN ts) : ∃ v : Int, look (letsEP ts rs).1 (letsEP ts rs).2 (kSN p) = some (.int v) := by
  obtain ⟨us, hu, e⟩ := lets_keys ht rs
  rw [e]
  exact look_some _ _ _ hu hp
end Px.S

set_option Elab.async false
set_option linter.all false
set_option maxRecDepth 100000
set_option maxHeartbeats 4000000
/-! MK6: tubs with another rate; rates by what a hole lets -/
namespace Px.S
open PySem L2 Px SI
def rtH (nm : Str) (key : SN) (r : Int) (h : Hole) : Hole := (h.1, (if (nm, h.1) = key then r else h.2.1), h.2.2)
def rt (key : SN) (r : Int) (t : Tub) : Tub := (t.1, t.2.1, t.2.2.map (rtH t.1 key r))
theorem TubsOk.rt {ts : List Tub} (ht : TubsOk ts) {key : SN} {r : Int} (r0 : 1 ≤ r) (r1 : r ≤ 100) : TubsOk (ts.map (rt key r)) := by
  have en : (ts.map (S.rt key r)).map (·.1) = ts.map (·.1) := by rw [List.map_map]; rfl
  refine ⟨by simpa using ht.few, by simpa using ht.some, by rw [en]; exact ht.nd, fun t h => ?_, fun j t hj => ?_⟩
  · obtain ⟨u, hu, rfl⟩ := List.mem_map.mp h
    exact ht.ne u hu
  · rw [List.getElem?_map] at hj
    obtain ⟨u, hu, rfl⟩ := Option.map_eq_some_iff.mp hj
    have b := ht.tub j u hu
    rw [en]
    refine ⟨b.g0, b.g1, ?_, ?_, fun h hh => ?_⟩
    · show (u.2.2.map _).length ≤ 3
      rw [List.length_map]; exact b.few
    · have rr := b.rising
      show ((u.2.2.map (rtH u.1 key r)).map fun h : Hole => h.1).Pairwise (· < ·)
      rw [List.map_map]
      exact rr
    · obtain ⟨g, hg, rfl⟩ := List.mem_map.mp hh
      have z := b.holes g hg
      refine ⟨z.h0, z.h1, ?_, ?_, z.into⟩
      · show 1 ≤ (if (u.1, g.1) = key then r else g.2.1)
        split
        · exact r0
        · exact z.r0
      · show (if (u.1, g.1) = key then r else g.2.1) ≤ 100
        split
        · exact r1
        · exact z.r1
theorem allSN_rt (ts : List Tub) (key : SN) (r : Int) : allSN (ts.map (rt key r)) = allSN ts := by
  unfold allSN
  rw [List.flatMap_map]
  congr 1
  funext t
  show ((t.2.2.map (rtH t.1 key r)).map fun h => (t.1, h.1)) = _
  rw [List.map_map]
  rfl
theorem keyq {s : S} {p key : SN} {f : F} {i : Nat} (h1 : f s = some (siD p, s)) (h2 : s[i]? = some (some (.sh, siD key))) : bT (eOpP gEq (pE f) (pVar i)) s = some (decide (p = key), s) := by
  have o1 := (Pl.si (n := 0) p).ok
  have o2 := (Pl.si (n := 0) key).ok
  simp [h1, h2, o1, o2, eqD_si]
def stRr (ts : List Tub) (key : SN) (r : Int) (fd : List D) (v4 v5 v6 v7 : Option Sl) : S := [some (.sh, tubsD ts), some (.sh, siD key), some (.sh, .int r), some (.ow, .lst fd), v4, v5, v6, v7, none]
theorem rate_turn {ts : List Tub} {key : SN} {r : Int} {fd : List D} {t : Tub} {v7 : Option Sl} (h3 : t.2.2.length ≤ 3) (hf : fd.length ≤ 10) :
    ∃ w7, L_with_rate_1 (stRr ts key r fd (some (.sh, .str t.1)) (some (.sh, .int t.2.1)) (some (.sh, .tup (t.2.2.map hD))) v7) = some (.nx (stRr ts key r (fd ++ [tD (rt key r t)]) (some (.sh, .str t.1)) (some (.sh, .int t.2.1)) (some (.sh, .tup (t.2.2.map hD))) w7)) := by
  let s0 (v7 : Option Sl) : S := stRr ts key r fd (some (.sh, .str t.1)) (some (.sh, .int t.2.1)) (some (.sh, .tup (t.2.2.map hD))) v7
  have cc : compD (hName 8) bYes (eIf (bT (eOpP gEq (pE (eTup (aCons (eVar 4) (aCons (eIx (pVar 8) (eC (.int 0))) aNil)))) (pVar 1))) (eTup (aCons (eIx (pVar 8) (eC (.int 0))) (aCons (eVar 2) (aCons (eIx (pVar 8) (eC (.int 2))) aNil)))) (eVar 8)) [8] (t.2.2.map hD) (s0 v7) [] = some ((t.2.2.map (rtH t.1 key r)).map hD, s0 v7) := by
    rw [comp_map hD (fun h => hD (rtH t.1 key r h)) t.2.2 [] (by simp; omega), List.nil_append, List.map_map]
    · rfl
    intro h _
    let s1 : S := (s0 v7).set 8 (some (.sh, hD h))
    have y0 : atI [D.int h.1, D.int h.2.1, D.str h.2.2] 0 = some (.int h.1) := rfl
    have y2 : atI [D.int h.1, D.int h.2.1, D.str h.2.2] 2 = some (.str h.2.2) := rfl
    have m1 : eTup (aCons (eVar 4) (aCons (eIx (pVar 8) (eC (.int 0))) aNil)) s1 = some (siD (t.1, h.1), s1) := by
      simp [s1, s0, stRr, hD, y0, siD]
    have q := keyq (i := 1) (key := key) m1 rfl
    refine ⟨s1, s1, s1, rfl, rfl, ?_, rfl⟩
    unfold eIf
    simp only [q, Option.bind_some]
    by_cases z : (t.1, h.1) = key
    · rw [decide_eq_true z, if_pos rfl]
      simp [s1, s0, stRr, hD, y0, y2, rtH, z]
    · rw [decide_eq_false z, if_neg (by decide)]
      simp [s1, s0, stRr, hD, rtH, z]
  have lc : eLc (iSeq (eVar 6)) (hName 8) bYes (eIf (bT (eOpP gEq (pE (eTup (aCons (eVar 4) (aCons (eIx (pVar 8) (eC (.int 0))) aNil)))) (pVar 1))) (eTup (aCons (eIx (pVar 8) (eC (.int 0))) (aCons (eVar 2) (aCons (eIx (pVar 8) (eC (.int 2))) aNil)))) (eVar 8)) [8] (s0 v7) = some (.lst ((t.2.2.map (rtH t.1 key r)).map hD), s0 v7) := by
    have hi : iSeq (eVar 6) (s0 v7) = some (t.2.2.map hD, s0 v7) := rfl
    simp only [eLc, hi, Option.bind_some]
    rw [if_pos (by rfl), show wipeS (s0 v7) [8] = s0 v7 from rfl, cc]
    rfl
  let w7 : Option Sl := some (.ow, .lst ((t.2.2.map (rtH t.1 key r)).map hD))
  refine ⟨w7, ?_⟩
  have p1 := setO_of (i := 7) lc
  have sm : small fd.length = true := small_of (by omega)
  unfold L_with_rate_1
  rw [seq_nx p1]
  show sApp 3 _ (s0 w7) = _
  simp (disch := omega) [s0, stRr, w7, sm, small_of, tD, rt]
theorem with_rate_ok {ts : List Tub} {key : SN} {r : Int} (h3 : ts.length ≤ 3) (hf : ∀ t ∈ ts, t.2.2.length ≤ 3) : F_with_rate [tubsD ts, siD key, .int r] = some (false, tubsD (ts.map (rt key r))) := by
  obtain ⟨s', e, fd, v4, v5, v6, v7, rfl, h1⟩ := loop_inv0 (g := hTup (hCons (hName 4) (hCons (hName 5) (hCons (hName 6) hNil)))) (fb := L_with_rate_1) (fun i s => ∃ (fd : List D) (v4 v5 v6 v7 : Option Sl), s = stRr ts key r fd v4 v5 v6 v7 ∧ fd = (ts.take i).map fun t => tD (rt key r t))
    (ts.map tD) (stRr ts key r [] none none none none) ⟨[], _, _, _, _, rfl, rfl⟩ fun i d s hi ⟨fd, v4, v5, v6, v7, hs, hfd⟩ => by
      subst hs
      rw [List.getElem?_map] at hi
      obtain ⟨t, ht, rfl⟩ := Option.map_eq_some_iff.mp hi
      obtain ⟨w7, e⟩ := rate_turn (ts := ts) (key := key) (r := r) (fd := fd) (v7 := v7) (hf t (List.mem_of_getElem? ht)) (by rw [hfd]; simp; omega)
      exact ⟨_, _, rfl, e, fd ++ [tD (rt key r t)], _, _, _, _, rfl, by rw [hfd, List.take_add_one, ht]; simp⟩
  rw [List.length_map, List.take_of_length_le (Nat.le_refl _)] at h1
  have p1 : sSetO 3 (eLst aNil) (init 9 [tubsD ts, siD key, .int r]) = some (.nx (stRr ts key r [] none none none none)) := rfl
  unfold F_with_rate f_with_rate
  simp only [runF]
  rw [seq_nx p1, seq_nx ((for_of rfl).trans e)]
  simp (disch := omega) [stRr, h1, tubsD, Function.comp_def, small_of]
def stQr (ts : List Tub) (key : SN) (r : Int) (fd : List D) (v4 v5 v6 v7 v8 v9 v10 : Option Sl) : S := [some (.sh, tubsD ts), some (.sh, siD key), some (.sh, .int r), some (.ow, .lst fd), v4, v5, v6, v7, v8, v9, v10]
theorem lrate_holes {ts : List Tub} {key : SN} {r : Int} {fd : List D} {nm : Str} {v5 v6 : Option Sl} : ∀ (hs acc : List Hole) (v8 v9 v10 : Option Sl), acc.length + hs.length ≤ 10 →
    ∃ w8 w9 w10, loopD (hTup (hCons (hName 8) (hCons (hName 9) (hCons (hName 10) hNil)))) L__law_rated_1 (hs.map hD) (stQr ts key r fd (some (.sh, .str nm)) v5 v6 (some (.ow, .lst (acc.map hD))) v8 v9 v10) = some (.nx (stQr ts key r fd (some (.sh, .str nm)) v5 v6 (some (.ow, .lst ((acc ++ hs.map (rtH nm key r)).map hD))) w8 w9 w10))
  | [], acc, v8, v9, v10, _ => ⟨v8, v9, v10, by simp⟩
  | h :: hs, acc, v8, v9, v10, hl => by
    rw [List.length_cons] at hl
    obtain ⟨w8, w9, w10, e⟩ := lrate_holes (ts := ts) (key := key) (r := r) (fd := fd) (nm := nm) (v5 := v5) (v6 := v6) hs (acc ++ [rtH nm key r h]) (some (.sh, .int h.1)) (some (.sh, .int h.2.1)) (some (.sh, .str h.2.2)) (by simp; omega)
    refine ⟨w8, w9, w10, ?_⟩
    rw [List.map_cons, List.map_cons, show acc ++ rtH nm key r h :: hs.map (rtH nm key r) = acc ++ [rtH nm key r h] ++ hs.map (rtH nm key r) by simp, ← e]
    let s1 : S := stQr ts key r fd (some (.sh, .str nm)) v5 v6 (some (.ow, .lst (acc.map hD))) (some (.sh, .int h.1)) (some (.sh, .int h.2.1)) (some (.sh, .str h.2.2))
    refine loop_cons (s1 := s1) rfl ?_
    have m1 : eTup (aCons (eVar 4) (aCons (eVar 8) aNil)) s1 = some (siD (nm, h.1), s1) := by
      simp [s1, stQr, siD]
    have q := keyq (i := 1) (key := key) m1 rfl
    have m2 : eIf (bT (eOpP gEq (pE (eTup (aCons (eVar 4) (aCons (eVar 8) aNil)))) (pVar 1))) (eVar 2) (eVar 9) s1 = some (.int (if (nm, h.1) = key then r else h.2.1), s1) := by
      unfold eIf
      simp only [q, Option.bind_some]
      by_cases z : (nm, h.1) = key
      · rw [decide_eq_true z, if_pos rfl, if_pos z]; rfl
      · rw [decide_eq_false z, if_neg (by decide), if_neg z]; rfl
    have m3 : eTup (aCons (eVar 8) (aCons (eIf (bT (eOpP gEq (pE (eTup (aCons (eVar 4) (aCons (eVar 8) aNil)))) (pVar 1))) (eVar 2) (eVar 9)) (aCons (eVar 10) aNil))) s1 = some (hD (rtH nm key r h), s1) := by
      have h8 : eVar 8 s1 = some (.int h.1, s1) := rfl
      have h10 : eVar 10 s1 = some (.str h.2.2, s1) := rfl
      simp only [eTup, aCons, aNil, h8, h10, m2, Option.bind_some]
      rfl
    have sm : small acc.length = true := small_of (by omega)
    unfold L__law_rated_1
    simp only [sApp, m3, Option.bind_some]
    simp [s1, stQr, sm]
theorem law_rated_ok {ts : List Tub} {key : SN} {r : Int} (h3 : ts.length ≤ 3) (hf : ∀ t ∈ ts, t.2.2.length ≤ 3) : F__law_rated [tubsD ts, siD key, .int r] = some (false, tubsD (ts.map (rt key r))) := by
  obtain ⟨s', e, fd, v4, v5, v6, v7, v8, v9, v10, rfl, h1⟩ := loop_inv0 (g := hTup (hCons (hName 4) (hCons (hName 5) (hCons (hName 6) hNil)))) (fb := L__law_rated_2) (fun i s => ∃ (fd : List D) (v4 v5 v6 v7 v8 v9 v10 : Option Sl), s = stQr ts key r fd v4 v5 v6 v7 v8 v9 v10 ∧ fd = (ts.take i).map fun t => tD (rt key r t))
    (ts.map tD) (stQr ts key r [] none none none none none none none) ⟨[], _, _, _, _, _, _, _, rfl, rfl⟩ fun i d s hi ⟨fd, v4, v5, v6, v7, v8, v9, v10, hs, hfd⟩ => by
      subst hs
      rw [List.getElem?_map] at hi
      obtain ⟨t, ht, rfl⟩ := Option.map_eq_some_iff.mp hi
      have hft := hf t (List.mem_of_getElem? ht)
      obtain ⟨w8, w9, w10, e⟩ := lrate_holes (ts := ts) (key := key) (r := r) (fd := fd) (nm := t.1) (v5 := some (.sh, .int t.2.1)) (v6 := some (.sh, .tup (t.2.2.map hD))) t.2.2 [] v8 v9 v10 (by simp; omega)
      have p1 : sSetO 7 (eLst aNil) (stQr ts key r fd (some (.sh, .str t.1)) (some (.sh, .int t.2.1)) (some (.sh, .tup (t.2.2.map hD))) v7 v8 v9 v10) = some (.nx (stQr ts key r fd (some (.sh, .str t.1)) (some (.sh, .int t.2.1)) (some (.sh, .tup (t.2.2.map hD))) (some (.ow, .lst (([] : List Hole).map hD))) v8 v9 v10)) := rfl
      have sm : small fd.length = true := small_of (by rw [hfd]; simp; omega)
      have p3 : sApp 3 (eTup (aCons (eVar 4) (aCons (eVar 5) (aCons (eB1 gTuple (pVar 7)) aNil)))) (stQr ts key r fd (some (.sh, .str t.1)) (some (.sh, .int t.2.1)) (some (.sh, .tup (t.2.2.map hD))) (some (.ow, .lst (([] ++ t.2.2.map (rtH t.1 key r)).map hD))) w8 w9 w10) = some (.nx (stQr ts key r (fd ++ [tD (rt key r t)]) (some (.sh, .str t.1)) (some (.sh, .int t.2.1)) (some (.sh, .tup (t.2.2.map hD))) (some (.ow, .lst (([] ++ t.2.2.map (rtH t.1 key r)).map hD))) w8 w9 w10)) := by
        simp (disch := omega) [stQr, sm, small_of, tD, rt]
      have p4 : L__law_rated_2 (stQr ts key r fd (some (.sh, .str t.1)) (some (.sh, .int t.2.1)) (some (.sh, .tup (t.2.2.map hD))) v7 v8 v9 v10) = some (.nx (stQr ts key r (fd ++ [tD (rt key r t)]) (some (.sh, .str t.1)) (some (.sh, .int t.2.1)) (some (.sh, .tup (t.2.2.map hD))) (some (.ow, .lst (([] ++ t.2.2.map (rtH t.1 key r)).map hD))) w8 w9 w10)) := by
        unfold L__law_rated_2
        exact (seq_nx p1).trans ((seq_nx ((for_of rfl).trans e)).trans p3)
      exact ⟨_, _, rfl, p4, fd ++ [tD (rt key r t)], _, _, _, _, _, _, _, rfl, by rw [hfd, List.take_add_one, ht]; simp⟩
  rw [List.length_map, List.take_of_length_le (Nat.le_refl _)] at h1
  have p1 : sSetO 3 (eLst aNil) (init 11 [tubsD ts, siD key, .int r]) = some (.nx (stQr ts key r [] none none none none none none none)) := rfl
  unfold F__law_rated f__law_rated
  simp only [runF]
  rw [seq_nx p1, seq_nx ((for_of rfl).trans e)]
  simp (disch := omega) [stQr, h1, tubsD, Function.comp_def, small_of]
/-! ### rates_by -/
def lvl (ts : List Tub) (rs : List Int) (p : SN) : Int := match look (letsEP ts rs).1 (letsEP ts rs).2 (kSN p) with
  | some (.int v) => v
  | _ => 0
theorem lvl_look {ts : List Tub} (ht : TubsOk ts) (rs : List Int) {p : SN} (hp : p ∈ allSN ts) : look (letsEP ts rs).1 (letsEP ts rs).2 (kSN p) = some (.int (lvl ts rs p)) := by
  obtain ⟨v, e⟩ := lets_look ht rs hp
  unfold lvl
  rw [e]
theorem get_lets {ts : List Tub} (ht : TubsOk ts) (rs : List Int) {p : SN} (hp : p ∈ allSN ts) : gGet (.dT (letsEP ts rs).1 (letsEP ts rs).2) (siD p) = some (.int (lvl ts rs p)) := by
  have e := lvl_look ht rs hp
  obtain ⟨us, hu, el⟩ := lets_keys ht rs
  have hl : (letsEP ts rs).1.length = (letsEP ts rs).2.length := by rw [el]; simp [hu]
  have tk : tkey? (siD p) = some (kSN p) := rfl
  simp only [gGet, gAsk, tk, Option.bind_some, hl, if_true, e]
def good (ts : List Tub) (rs : List Int) (key q : SN) (much r : Int) : Bool := decide (lvl (ts.map (rt key r)) rs q = much)
def r100 : List Int := (List.range 100).map fun i : Nat => 1 + (i : Int)
theorem rng_100 : rng 1 100 = r100.map D.int := by unfold rng r100; rw [List.map_map]; rfl
theorem mem_100 {r : Int} (h : r ∈ r100) : 1 ≤ r ∧ r ≤ 100 := by
  obtain ⟨i, hi, rfl⟩ := List.mem_map.mp h
  have := List.mem_range.mp hi
  omega
theorem rates_ok {ts : List Tub} {rs : List Int} {key q : SN} {much : Int} (ht : TubsOk ts) (hl : rs.length = ts.length) (hq : q ∈ allSN ts) : F_rates_by [tubsD ts, .tup (rs.map D.int), siD key, siD q, .int much] = some (true, .lst ((r100.filter (good ts rs key q much)).map D.int)) := by
  have few := ht.few
  let st (fd : List D) (v6 : Option Sl) : S := [some (.sh, tubsD ts), some (.sh, .tup (rs.map D.int)), some (.sh, siD key), some (.sh, siD q), some (.sh, .int much), some (.ow, .lst fd), v6]
  obtain ⟨s', e, v6, rfl⟩ := loop_inv0 (g := hName 6) (fb := L_rates_by_1) (fun i s => ∃ v6, s = st (((r100.take i).filter (good ts rs key q much)).map D.int) v6) (r100.map D.int) (st [] none) ⟨_, rfl⟩ fun i d s hi ⟨v6, hs⟩ => by
    subst hs
    rw [List.getElem?_map] at hi
    obtain ⟨r, hr, rfl⟩ := Option.map_eq_some_iff.mp hi
    obtain ⟨r0, r1⟩ := mem_100 (List.mem_of_getElem? hr)
    have hil := (List.getElem?_eq_some_iff.mp hr).1
    have h100 : r100.length = 100 := by simp [r100]
    let s1 : S := st (((r100.take i).filter (good ts rs key q much)).map D.int) (some (.sh, .int r))
    have hk := ht.rt (key := key) r0 r1
    obtain ⟨e2, _, _⟩ := ends_of_ok hk (rs := rs) (by simp [hl])
    have m1 : eCall F_with_rate (aCons (eVar 0) (aCons (eVar 2) (aCons (eVar 6) aNil))) s1 = some (tubsD (ts.map (rt key r)), s1) := call_three rfl rfl rfl (with_rate_ok few fun t h => (ht.ratesK t h).1)
    have m2 : eCall F_ends_of (aCons (eCall F_with_rate (aCons (eVar 0) (aCons (eVar 2) (aCons (eVar 6) aNil)))) (aCons (eVar 1) aNil)) s1 = some (.tup [.dK (ksS (nmsOf (ts.map (rt key r)))) ((comesP (ts.map (rt key r)) rs).map D.int), .dT (letsEP (ts.map (rt key r)) rs).1 (letsEP (ts.map (rt key r)) rs).2], s1) := call_two m1 rfl e2
    have a1 : atI [D.dK (ksS (nmsOf (ts.map (rt key r)))) ((comesP (ts.map (rt key r)) rs).map D.int), .dT (letsEP (ts.map (rt key r)) rs).1 (letsEP (ts.map (rt key r)) rs).2] 1 = some (.dT (letsEP (ts.map (rt key r)) rs).1 (letsEP (ts.map (rt key r)) rs).2) := rfl
    have gl := get_lets hk rs (p := q) (by rw [allSN_rt]; exact hq)
    have hv3 : eVar 3 s1 = some (siD q, s1) := rfl
    have m3 : eGet (pE (eIx (pE (eCall F_ends_of (aCons (eCall F_with_rate (aCons (eVar 0) (aCons (eVar 2) (aCons (eVar 6) aNil)))) (aCons (eVar 1) aNil)))) (eC (.int 1)))) (eVar 3) s1 = some (.int (lvl (ts.map (rt key r)) rs q), s1) := by
      simp only [eGet, eIx, eOpP, pE, m2, eC, hv3, Option.bind_some, PR.get, gIx, a1, gl]
    have oi : ∀ z : Int, okD (.int z) = true := fun z => (Pl.int (n := 0) z).ok
    have pv4 : pVar 4 s1 = some (.dat (.int much), s1) := rfl
    have m4 : bT (eOpP gEq (pE (eGet (pE (eIx (pE (eCall F_ends_of (aCons (eCall F_with_rate (aCons (eVar 0) (aCons (eVar 2) (aCons (eVar 6) aNil)))) (aCons (eVar 1) aNil)))) (eC (.int 1)))) (eVar 3))) (pVar 4)) s1 = some (good ts rs key q much r, s1) := by
      unfold bT eOpP
      simp only [pE, m3, pv4, Option.bind_some, PR.get, gEq, oi, Bool.and_self, if_true, eqD_int]
      rfl
    have et : (r100.take (i + 1)).filter (good ts rs key q much) = (r100.take i).filter (good ts rs key q much) ++ (if good ts rs key q much r then [r] else []) := by
      rw [List.take_add_one, hr, List.filter_append]
      congr 1
      cases z : good ts rs key q much r <;> simp [z]
    have fl : ((r100.take i).filter (good ts rs key q much)).length ≤ 100 := Nat.le_trans (List.length_filter_le _ _) (by simp; omega)
    refine ⟨s1, ?_⟩
    unfold L_rates_by_1
    cases z : good ts rs key q much r with
    | false =>
      rw [z] at m4 et
      exact ⟨s1, rfl, (if_no m4).trans rfl, some (.sh, .int r), by rw [et]; simp [s1, st]⟩
    | true =>
      rw [z] at m4 et
      have sm : small ((r100.take i).filter (good ts rs key q much)).length = true := small_of (by omega)
      refine ⟨st (((r100.take (i + 1)).filter (good ts rs key q much)).map D.int) (some (.sh, .int r)), rfl, (if_yes m4).trans ?_, _, rfl⟩
      rw [et]
      simp [s1, st, sm]
  rw [List.length_map, List.take_of_length_le (Nat.le_refl _)] at e
  have p1 : sSetO 5 (eLst aNil) (init 7 [tubsD ts, .tup (rs.map D.int), siD key, siD q, .int much]) = some (.nx (st [] none)) := rfl
  have p2 : iRng2 (eC (.int 1)) (eAdd (eC c_MOST_RATE) (eC (.int 1))) (st [] none) = some (r100.map D.int, st [] none) := by
    rw [← rng_100]; rfl
  unfold F_rates_by f_rates_by
  simp only [runF]
  rw [seq_nx p1, seq_nx ((for_of p2).trans e)]
  rfl
end Px.S

set_option Elab.async false
set_option linter.all false
set_option maxRecDepth 100000
set_option maxHeartbeats 4000000
/-! the law k08 -/
namespace Px.S
open PySem L2 Px SI
theorem ne_no8 {s : S} {f : F} {d : D} {n : Nat} (P : Pl n d) (hn : n ≤ 10) (ha : f s = some (d, s)) {i : Nat} (hb : ∃ m, s[i]? = some (some (m, d))) : bT (eOpP gNe (pE f) (pVar i)) s = some (false, s) := by
  obtain ⟨m, hb⟩ := hb
  have o := P.ok (by omega)
  have e := P.eq
  cases m <;> simp [bT, eOpP, pE, ha, hb, o, e]
section
variable {ns : List Int} {k : Nat} {ts : List Tub} {rs : List Int}
def st18 (ns : List Int) (k : Nat) (ts : List Tub) (rs : List Int) (bd : D) (v7 v8 v9 v10 v11 v12 v13 v14 v15 v16 : Option Sl) : S :=
  [some (.sh, .scr ns), some (.sh, .int k), some (.ow, bd), some (.sh, tubsD ts), some (.sh, .tup (rs.map D.int)), some (.sh, .lst ((comeL ts rs).map D.int)), some (.sh, .dT (letsEP ts rs).1 (letsEP ts rs).2), v7, v8, v9, v10, v11, v12, v13, v14, v15, v16, none]
theorem turn3 (ht : TubsOk ts) (hl : rs.length = ts.length) (h0 : ∀ r ∈ rs, 0 ≤ r) {a b : Int} (ok : BagOk a b) {v7 v8 v9 v10 v11 v12 v13 v14 v15 v16 : Option Sl} :
    ∃ a' b' w8 w9 w10 w11, L_law_3 (st18 ns k ts rs (bagD a b) v7 v8 v9 v10 v11 v12 v13 v14 v15 v16) = some (.nx (st18 ns k ts rs (bagD a' b') v7 w8 w9 w10 w11 v12 v13 v14 v15 v16)) ∧ BagOk a' b' := by
  have few := ht.few
  have pos : 0 < ts.length := List.length_pos_iff.mpr ht.some
  obtain ⟨r1, a1, b1, e1, ok1, r10, r11⟩ := take_ok (m := (ts.length : Int)) ok (by omega) (by omega)
  obtain ⟨r2, a2, b2, e2, ok2, r20, r21⟩ := take_ok (m := (ts.length : Int)) ok1 (by omega) (by omega)
  obtain ⟨i, rfl⟩ : ∃ i : Nat, r1 = i := ⟨r1.toNat, by omega⟩
  obtain ⟨j, rfl⟩ : ∃ j : Nat, r2 = j := ⟨r2.toNat, by omega⟩
  obtain ⟨u, hi⟩ : ∃ u, ts[i]? = some u := ⟨_, List.getElem?_eq_getElem (by omega)⟩
  obtain ⟨t, hj⟩ : ∃ t, ts[j]? = some t := ⟨_, List.getElem?_eq_getElem (by omega)⟩
  obtain ⟨r3, a3, b3, e3, ok3, _, _⟩ := take_ok (m := 12) ok2 (by omega) (by omega)
  have h3 := (ht.ratesK t (List.mem_of_getElem? hj)).1
  let lvs : List D := [.int r3] ++ t.2.2.map (fun h => .int h.1) ++ [.int 1000]
  obtain ⟨d, a4, b4, e4, ok4, hd⟩ := of_ok ok3 lvs (by simp [lvs]) (by simp [lvs]; omega)
  obtain ⟨lv, rfl⟩ : ∃ lv, d = .int lv := by
    rcases List.mem_append.mp hd with z | z
    · rcases List.mem_append.mp z with z | z
      · exact ⟨r3, by simpa using z⟩
      · obtain ⟨h, _, e⟩ := List.mem_map.mp z
        exact ⟨h.1, e.symm⟩
    · exact ⟨1000, by simpa using z⟩
  obtain ⟨r5, a5, b5, e5, ok5, _, _⟩ := take_ok (m := 12) ok4 (by omega) (by omega)
  have ej : atI (ts.map tD) (j : Int) = some (tD t) := at_map tD hj
  have x0 : atI [D.str t.1, D.int t.2.1, D.tup (t.2.2.map hD)] 0 = some (.str t.1) := rfl
  have x2 : atI [D.str t.1, D.int t.2.1, D.tup (t.2.2.map hD)] 2 = some (.tup (t.2.2.map hD)) := rfl
  let w8 : Option Sl := some (.sh, .int i)
  let w9 : Option Sl := some (.sh, .int j)
  let w10 : Option Sl := some (.sh, .int lv)
  let s1 : S := st18 ns k ts rs (bagD a2 b2) v7 w8 w9 v10 v11 v12 v13 v14 v15 v16
  have p1 : sPar 8 9 (eCallB F__law_take 2 (aCons (eB1 gLen (pVar 3)) aNil)) (eCallB F__law_take 2 (aCons (eB1 gLen (pVar 3)) aNil)) (st18 ns k ts rs (bagD a b) v7 v8 v9 v10 v11 v12 v13 v14 v15 v16) = some (.nx s1) := by
    simp [st18, s1, tubsD, e1, e2, w8, w9]
  let s2 : S := st18 ns k ts rs (bagD a3 b3) v7 w8 w9 v10 v11 v12 v13 v14 v15 v16
  have cc : compD (hName 17) bYes (eIx (pVar 17) (eC (.int 0))) [17] (t.2.2.map hD) s2 [] = some (t.2.2.map (fun h => .int h.1), s2) := by
    rw [comp_map hD (fun h => .int h.1) t.2.2 [] (by simp; omega), List.nil_append]
    intro h _
    have y0 : atI [D.int h.1, D.int h.2.1, D.str h.2.2] 0 = some (.int h.1) := rfl
    refine ⟨s2.set 17 (some (.sh, hD h)), _, s2.set 17 (some (.sh, hD h)), rfl, rfl, ?_, rfl⟩
    simp [s2, st18, hD, y0]
  have lc : eLc (iSeq (eIx (pE (eIx (pVar 3) (eVar 9))) (eC (.int 2)))) (hName 17) bYes (eIx (pVar 17) (eC (.int 0))) [17] s2 = some (.lst (t.2.2.map (fun h => .int h.1)), s2) := by
    have hi : iSeq (eIx (pE (eIx (pVar 3) (eVar 9))) (eC (.int 2))) s2 = some (t.2.2.map hD, s2) := by
      simp [s2, st18, tubsD, w9, ej, tD, x2]
    simp only [eLc, hi, Option.bind_some]
    rw [if_pos (by rfl), show wipeS s2 [17] = s2 from rfl, cc]
    rfl
  let s3 : S := st18 ns k ts rs (bagD a4 b4) v7 w8 w9 w10 v11 v12 v13 v14 v15 v16
  have p2 : sSet 10 (eCallB F__law_of 2 (aCons (eOp gCatL (eOp gCatL (eLst (aCons (eCallB F__law_take 2 (aCons (eC (.int 12)) aNil)) aNil)) (eLc (iSeq (eIx (pE (eIx (pVar 3) (eVar 9))) (eC (.int 2)))) (hName 17) bYes (eIx (pVar 17) (eC (.int 0))) [17])) (eLst (aCons (eC (.int 1000)) aNil))) aNil)) s1 = some (.nx s3) := by
    have m1 : eLst (aCons (eCallB F__law_take 2 (aCons (eC (.int 12)) aNil)) aNil) s1 = some (.lst [.int r3], s2) := by
      simp [s1, s2, st18, e3]
    have sm1 : small ([D.int r3].length + (t.2.2.map fun h => D.int h.1).length) = true := small_of (by simp; omega)
    have m2 : eOp gCatL (eLst (aCons (eCallB F__law_take 2 (aCons (eC (.int 12)) aNil)) aNil)) (eLc (iSeq (eIx (pE (eIx (pVar 3) (eVar 9))) (eC (.int 2)))) (hName 17) bYes (eIx (pVar 17) (eC (.int 0))) [17]) s1 = some (.lst ([.int r3] ++ t.2.2.map (fun h => .int h.1)), s2) := by
      simp only [eOp] at lc ⊢
      rw [m1, Option.bind_some, lc, Option.bind_some]
      simp only [gCatL, sm1, if_true, Option.bind_some]
    have sm2 : small (([D.int r3] ++ t.2.2.map fun h => D.int h.1).length + [D.int 1000].length) = true := small_of (by simp; omega)
    have m4 : eLst (aCons (eC (.int 1000)) aNil) s2 = some (.lst [.int 1000], s2) := rfl
    have m3 : eOp gCatL (eOp gCatL (eLst (aCons (eCallB F__law_take 2 (aCons (eC (.int 12)) aNil)) aNil)) (eLc (iSeq (eIx (pE (eIx (pVar 3) (eVar 9))) (eC (.int 2)))) (hName 17) bYes (eIx (pVar 17) (eC (.int 0))) [17])) (eLst (aCons (eC (.int 1000)) aNil)) s1 = some (.lst lvs, s2) := by
      generalize eOp gCatL (eLst (aCons (eCallB F__law_take 2 (aCons (eC (.int 12)) aNil)) aNil)) (eLc (iSeq (eIx (pE (eIx (pVar 3) (eVar 9))) (eC (.int 2)))) (hName 17) bYes (eIx (pVar 17) (eC (.int 0))) [17]) = fq at m2
      unfold eOp
      rw [m2, Option.bind_some, m4, Option.bind_some]
      simp only [gCatL, sm2, if_true, Option.bind_some]
      rfl
    have ow1 : ownAt s1 2 = some (.ow, bagD a2 b2) := rfl
    have ow2 : ownAt s2 2 = some (.ow, bagD a3 b3) := rfl
    refine (set_of (d := .int lv) (s1 := s2.set 2 (some (.ow, bagD a4 b4))) ?_).trans rfl
    simp only [eCallB, aCons, aNil, ow1, m3, Option.bind_some, ow2, e4]
  have m3 : eCall F__law_least_so (aCons (eVar 3) (aCons (eVar 4) (aCons (eVar 8) (aCons (eVar 9) (aCons (eVar 10) aNil))))) s3 = some (.bl true, s3) := call5k (s := s3) (d1 := tubsD ts) (d2 := .tup (rs.map D.int)) (d3 := .int i) (d4 := .int j) (d5 := .int lv) rfl rfl rfl rfl rfl (least_so ht hl h0 hi hj)
  have p3 : sIf (bNot (bT (eCall F__law_least_so (aCons (eVar 3) (aCons (eVar 4) (aCons (eVar 8) (aCons (eVar 9) (aCons (eVar 10) aNil)))))))) (sRet (eC (.bl false))) sNil s3 = some (.nx s3) := by
    refine (if_no (s1 := s3) ?_).trans rfl
    simp only [bNot, bT, m3, Option.bind_some]
    rfl
  have ac : atI ((comeL ts rs).map D.int) (j : Int) = some (.int (cm ts rs t)) := at_map D.int (come_get hj)
  obtain ⟨mu, p4⟩ : ∃ mu : Int, sSet 11 (eMax (eC (.int 0)) (eSub (eAdd (eIx (pVar 5) (eVar 9)) (eCallB F__law_take 2 (aCons (eC (.int 12)) aNil))) (eC (.int 2)))) s3 = some (.nx (st18 ns k ts rs (bagD a5 b5) v7 w8 w9 w10 (some (.sh, .int mu)) v12 v13 v14 v15 v16)) :=
    ⟨if 2 < cm ts rs t + r5 then cm ts rs t + r5 - 2 else 0, by simp [s3, st18, w9, ac, e5]⟩
  let s5 : S := st18 ns k ts rs (bagD a5 b5) v7 w8 w9 w10 (some (.sh, .int mu)) v12 v13 v14 v15 v16
  have n1 : eIx (pE (eIx (pVar 3) (eVar 9))) (eC (.int 0)) s5 = some (.str t.1, s5) := by
    simp [s5, st18, tubsD, w9, ej, tD, x0]
  have m5 : eCall F_fewest_plugs (aCons (eVar 3) (aCons (eVar 4) (aCons (eIx (pE (eIx (pVar 3) (eVar 9))) (eC (.int 0))) (aCons (eVar 11) aNil)))) s5 = some (resD (found8 ts rs t mu), s5) := call4k (s := s5) (d1 := tubsD ts) (d2 := .tup (rs.map D.int)) (d4 := .int mu) rfl rfl n1 rfl (fewest_ok ht hl hj)
  have m6 : eCall F__law_plugs (aCons (eVar 3) (aCons (eVar 4) (aCons (eVar 9) (aCons (eVar 11) aNil)))) s5 = some (resD (found8 ts rs t mu), s5) := call4k (s := s5) (d1 := tubsD ts) (d2 := .tup (rs.map D.int)) (d3 := .int j) (d4 := .int mu) rfl rfl rfl rfl (law_plugs_ok ht hl hj)
  have pl := Pl.res (found8 ts rs t mu)
  have o := pl.ok
  have oe := pl.eq
  have p5 : sIf (bT (eOpP gNe (pE (eCall F_fewest_plugs (aCons (eVar 3) (aCons (eVar 4) (aCons (eIx (pE (eIx (pVar 3) (eVar 9))) (eC (.int 0))) (aCons (eVar 11) aNil)))))) (pE (eCall F__law_plugs (aCons (eVar 3) (aCons (eVar 4) (aCons (eVar 9) (aCons (eVar 11) aNil)))))))) (sRet (eC (.bl false))) sNil s5 = some (.nx s5) := by
    refine (if_no (s1 := s5) ?_).trans rfl
    simp only [bT, eOpP, pE, m5, m6, Option.bind_some, PR.get, gNe, o, oe]
    rfl
  refine ⟨a5, b5, w8, w9, w10, some (.sh, .int mu), ?_, ok5⟩
  unfold L_law_3
  exact (seq_nx p1).trans ((seq_nx p2).trans ((seq_nx p3).trans ((seq_nx p4).trans p5)))
theorem due_loop (ht : TubsOk ts) (hl : rs.length = ts.length) {p q : SN} {mu : Int} (hq : q ∈ allSN ts) {bd : D} {v7 v8 v9 v10 v12 v16 : Option Sl} :
    ∃ w16, loopD (hName 16) L_law_1 (r100.map D.int) (st18 ns k ts rs bd v7 v8 v9 v10 (some (.sh, .int mu)) v12 (some (.sh, siD p)) (some (.sh, siD q)) (some (.ow, .lst [])) v16) = some (.nx (st18 ns k ts rs bd v7 v8 v9 v10 (some (.sh, .int mu)) v12 (some (.sh, siD p)) (some (.sh, siD q)) (some (.ow, .lst ((r100.filter (good ts rs p q mu)).map D.int))) w16)) := by
  have few := ht.few
  let st (fd : List D) (v16 : Option Sl) : S := st18 ns k ts rs bd v7 v8 v9 v10 (some (.sh, .int mu)) v12 (some (.sh, siD p)) (some (.sh, siD q)) (some (.ow, .lst fd)) v16
  obtain ⟨s', e, w16, rfl⟩ := loop_inv0 (g := hName 16) (fb := L_law_1) (fun i s => ∃ v16, s = st (((r100.take i).filter (good ts rs p q mu)).map D.int) v16) (r100.map D.int) (st [] v16) ⟨_, rfl⟩ fun i d s hi ⟨v16, hs⟩ => by
    subst hs
    rw [List.getElem?_map] at hi
    obtain ⟨r, hr, rfl⟩ := Option.map_eq_some_iff.mp hi
    obtain ⟨r0, r1⟩ := mem_100 (List.mem_of_getElem? hr)
    have hil := (List.getElem?_eq_some_iff.mp hr).1
    have h100 : r100.length = 100 := by simp [r100]
    let s1 : S := st (((r100.take i).filter (good ts rs p q mu)).map D.int) (some (.sh, .int r))
    have hk := ht.rt (key := p) r0 r1
    have e2 := lends_ok hk (rs := rs) (by simp [hl])
    have m1 : eCall F__law_rated (aCons (eVar 3) (aCons (eVar 13) (aCons (eVar 16) aNil))) s1 = some (tubsD (ts.map (rt p r)), s1) := call_three rfl rfl rfl (law_rated_ok few fun t h => (ht.ratesK t h).1)
    have m2 : eCall F__law_ends (aCons (eCall F__law_rated (aCons (eVar 3) (aCons (eVar 13) (aCons (eVar 16) aNil)))) (aCons (eVar 4) aNil)) s1 = some (.tup [.lst ((comeL (ts.map (rt p r)) rs).map D.int), .dT (letsEP (ts.map (rt p r)) rs).1 (letsEP (ts.map (rt p r)) rs).2], s1) := call_two m1 rfl e2
    have a1 : atI [D.lst ((comeL (ts.map (rt p r)) rs).map D.int), .dT (letsEP (ts.map (rt p r)) rs).1 (letsEP (ts.map (rt p r)) rs).2] 1 = some (.dT (letsEP (ts.map (rt p r)) rs).1 (letsEP (ts.map (rt p r)) rs).2) := rfl
    have gl := get_lets hk rs (p := q) (by rw [allSN_rt]; exact hq)
    have hv3 : eVar 14 s1 = some (siD q, s1) := rfl
    have m3 : eGet (pE (eIx (pE (eCall F__law_ends (aCons (eCall F__law_rated (aCons (eVar 3) (aCons (eVar 13) (aCons (eVar 16) aNil)))) (aCons (eVar 4) aNil)))) (eC (.int 1)))) (eVar 14) s1 = some (.int (lvl (ts.map (rt p r)) rs q), s1) := by
      simp only [eGet, eIx, eOpP, pE, m2, eC, hv3, Option.bind_some, PR.get, gIx, a1, gl]
    have oi : ∀ z : Int, okD (.int z) = true := fun z => (Pl.int (n := 0) z).ok
    have pv4 : pVar 11 s1 = some (.dat (.int mu), s1) := rfl
    have m4 : bT (eOpP gEq (pE (eGet (pE (eIx (pE (eCall F__law_ends (aCons (eCall F__law_rated (aCons (eVar 3) (aCons (eVar 13) (aCons (eVar 16) aNil)))) (aCons (eVar 4) aNil)))) (eC (.int 1)))) (eVar 14))) (pVar 11)) s1 = some (good ts rs p q mu r, s1) := by
      unfold bT eOpP
      simp only [pE, m3, pv4, Option.bind_some, PR.get, gEq, oi, Bool.and_self, if_true, eqD_int]
      rfl
    have et : (r100.take (i + 1)).filter (good ts rs p q mu) = (r100.take i).filter (good ts rs p q mu) ++ (if good ts rs p q mu r then [r] else []) := by
      rw [List.take_add_one, hr, List.filter_append]
      congr 1
      cases z : good ts rs p q mu r <;> simp [z]
    have fl : ((r100.take i).filter (good ts rs p q mu)).length ≤ 100 := Nat.le_trans (List.length_filter_le _ _) (by simp; omega)
    refine ⟨s1, ?_⟩
    unfold L_law_1
    cases z : good ts rs p q mu r with
    | false =>
      rw [z] at m4 et
      exact ⟨s1, rfl, (if_no m4).trans rfl, some (.sh, .int r), by rw [et]; simp [s1, st]⟩
    | true =>
      rw [z] at m4 et
      have sm : small ((r100.take i).filter (good ts rs p q mu)).length = true := small_of (by omega)
      refine ⟨st (((r100.take (i + 1)).filter (good ts rs p q mu)).map D.int) (some (.sh, .int r)), rfl, (if_yes m4).trans ?_, _, rfl⟩
      rw [et]
      simp [s1, st, st18, sm]
  rw [List.length_map, List.take_of_length_le (Nat.le_refl _)] at e
  exact ⟨w16, e⟩
theorem turn2 (ht : TubsOk ts) (hl : rs.length = ts.length) {p : SN} {ks : List SN} (hks : ks ≠ []) (hk9 : ks.length ≤ 9) (hm : ∀ q ∈ ks, q ∈ allSN ts) {a b : Int} (ok : BagOk a b) {v7 v8 v9 v10 v11 v14 v15 v16 : Option Sl} :
    ∃ a' b' w11 w14 w15 w16, L_law_2 (st18 ns k ts rs (bagD a b) v7 v8 v9 v10 v11 (some (.sh, .lst (ks.map siD))) (some (.sh, siD p)) v14 v15 v16) = some (.nx (st18 ns k ts rs (bagD a' b') v7 v8 v9 v10 w11 (some (.sh, .lst (ks.map siD))) (some (.sh, siD p)) w14 w15 w16)) ∧ BagOk a' b' := by
  obtain ⟨d, a1, b1, e1, ok1, hd⟩ := of_ok ok (ks.map siD) (by simpa using hks) (by simp; omega)
  obtain ⟨q, hqk, rfl⟩ := List.mem_map.mp hd
  have hq := hm q hqk
  obtain ⟨r2, a2, b2, e2, ok2, _, _⟩ := take_ok (m := 3) ok1 (by omega) (by omega)
  let kd : Option Sl := some (.sh, .lst (ks.map siD))
  let s1 : S := st18 ns k ts rs (bagD a1 b1) v7 v8 v9 v10 v11 kd (some (.sh, siD p)) (some (.sh, siD q)) v15 v16
  have p1 : sSet 14 (eCallB F__law_of 2 (aCons (eVar 12) aNil)) (st18 ns k ts rs (bagD a b) v7 v8 v9 v10 v11 kd (some (.sh, siD p)) v14 v15 v16) = some (.nx s1) := by
    simp [st18, s1, kd, e1]
  have gl := get_lets ht rs hq
  have mg : eGet (pVar 6) (eVar 14) s1 = some (.int (lvl ts rs q), s1) := by
    have pv : pVar 6 s1 = some (.dat (.dT (letsEP ts rs).1 (letsEP ts rs).2), s1) := rfl
    have hv : eVar 14 s1 = some (siD q, s1) := rfl
    simp only [eGet, eOpP, pE, pv, hv, Option.bind_some, PR.get, gl]
  obtain ⟨mu, p2⟩ : ∃ mu : Int, sSet 11 (eMin (eC (.int 100)) (eMax (eC (.int 0)) (eSub (eAdd (eGet (pVar 6) (eVar 14)) (eCallB F__law_take 2 (aCons (eC (.int 3)) aNil))) (eC (.int 1))))) s1 = some (.nx (st18 ns k ts rs (bagD a2 b2) v7 v8 v9 v10 (some (.sh, .int mu)) kd (some (.sh, siD p)) (some (.sh, siD q)) v15 v16)) := by
    have mt : eCallB F__law_take 2 (aCons (eC (.int 3)) aNil) s1 = some (.int r2, s1.set 2 (some (.ow, bagD a2 b2))) := by
      simp [s1, st18, e2]
    have ma : eAdd (eGet (pVar 6) (eVar 14)) (eCallB F__law_take 2 (aCons (eC (.int 3)) aNil)) s1 = some (.int (lvl ts rs q + r2), s1.set 2 (some (.ow, bagD a2 b2))) := by
      unfold eAdd eOp
      rw [mg, Option.bind_some, mt, Option.bind_some]
      rfl
    generalize eAdd (eGet (pVar 6) (eVar 14)) (eCallB F__law_take 2 (aCons (eC (.int 3)) aNil)) = fq at ma
    let m1 : Int := if lvl ts rs q + r2 - 1 > 0 then lvl ts rs q + r2 - 1 else 0
    refine ⟨if m1 < 100 then m1 else 100, (set_of (d := .int (if m1 < 100 then m1 else 100)) (s1 := s1.set 2 (some (.ow, bagD a2 b2))) ?_).trans rfl⟩
    unfold eMin eMax eSub eOp
    simp only [eC, ma, Option.bind_some]
    rfl
  let s2 : S := st18 ns k ts rs (bagD a2 b2) v7 v8 v9 v10 (some (.sh, .int mu)) kd (some (.sh, siD p)) (some (.sh, siD q)) v15 v16
  have p3 : sSetO 15 (eLst aNil) s2 = some (.nx (st18 ns k ts rs (bagD a2 b2) v7 v8 v9 v10 (some (.sh, .int mu)) kd (some (.sh, siD p)) (some (.sh, siD q)) (some (.ow, .lst [])) v16)) := rfl
  obtain ⟨w16, p4⟩ := due_loop (ns := ns) (k := k) (p := p) (mu := mu) (bd := bagD a2 b2) (v7 := v7) (v8 := v8) (v9 := v9) (v10 := v10) (v12 := kd) (v16 := v16) ht hl hq
  have p4i : iRng2 (eC (.int 1)) (eC (.int 101)) (st18 ns k ts rs (bagD a2 b2) v7 v8 v9 v10 (some (.sh, .int mu)) kd (some (.sh, siD p)) (some (.sh, siD q)) (some (.ow, .lst [])) v16) = some (r100.map D.int, st18 ns k ts rs (bagD a2 b2) v7 v8 v9 v10 (some (.sh, .int mu)) kd (some (.sh, siD p)) (some (.sh, siD q)) (some (.ow, .lst [])) v16) := by
    rw [← rng_100]; rfl
  let w15 : Option Sl := some (.ow, .lst ((r100.filter (good ts rs p q mu)).map D.int))
  let s4 : S := st18 ns k ts rs (bagD a2 b2) v7 v8 v9 v10 (some (.sh, .int mu)) kd (some (.sh, siD p)) (some (.sh, siD q)) w15 w16
  have m5 : eCall F_rates_by (aCons (eVar 3) (aCons (eVar 4) (aCons (eVar 13) (aCons (eVar 14) (aCons (eVar 11) aNil))))) s4 = some (.lst ((r100.filter (good ts rs p q mu)).map D.int), s4) := call5k (s := s4) (d1 := tubsD ts) (d2 := .tup (rs.map D.int)) (d3 := siD p) (d4 := siD q) (d5 := .int mu) rfl rfl rfl rfl rfl (rates_ok ht hl hq)
  have pl : Pl 1 (.lst ((r100.filter (good ts rs p q mu)).map D.int)) := .lst (n := 0) (Pl.ints _)
  have p5 := if_no (f := sRet (eC (.bl false))) (g := sNil) (ne_no8 (i := 15) pl (by omega) m5 ⟨.ow, rfl⟩)
  refine ⟨a2, b2, some (.sh, .int mu), some (.sh, siD q), w15, w16, ?_, ok2⟩
  unfold L_law_2
  exact (seq_nx p1).trans ((seq_nx p2).trans ((seq_nx p3).trans ((seq_nx ((for_of p4i).trans p4)).trans (p5.trans rfl))))
end
theorem sort_lets {ts : List Tub} (ht : TubsOk ts) (rs : List Int) : gSortTD (.dT (letsEP ts rs).1 (letsEP ts rs).2) = some (.lst ((sortSI (allSN ts)).map siD)) := by
  obtain ⟨us, hu, e⟩ := lets_keys ht rs
  have ek : ((allSN ts).map kSN).map keyTD = (allSN ts).map siD := by
    rw [List.map_map]; rfl
  rw [e]
  simp only [gSortTD]
  rw [ek]
  exact sort_keys ht
theorem turn08 {ns : List Int} {k : Nat} (hk : k < 1000) {v2 v3 v4 v5 v6 v7 v8 v9 v10 v11 v12 v13 v14 v15 v16 : Option Sl} :
    ∃ w2 w3 w4 w5 w6 w7 w8 w9 w10 w11 w12 w13 w14 w15 w16, L_law_4 [some (.sh, .scr ns), some (.sh, .int k), v2, v3, v4, v5, v6, v7, v8, v9, v10, v11, v12, v13, v14, v15, v16, none] = some (.nx [some (.sh, .scr ns), some (.sh, .int k), w2, w3, w4, w5, w6, w7, w8, w9, w10, w11, w12, w13, w14, w15, w16, none]) := by
  obtain ⟨a, b, e1, ok⟩ := bag_ok ns k hk
  obtain ⟨ts, a1, b1, e2, ok1, ht⟩ := tubs_ok ok
  obtain ⟨rs, a2, b2, e3, ok2, hl, hr⟩ := rain_ok ok1 ht
  have h0 : ∀ r ∈ rs, 0 ≤ r := fun r h => (hr r h).1
  have e4 := lends_ok ht hl
  let s1 : S := [some (.sh, .scr ns), some (.sh, .int k), some (.ow, bagD a b), v3, v4, v5, v6, v7, v8, v9, v10, v11, v12, v13, v14, v15, v16, none]
  let s2 : S := [some (.sh, .scr ns), some (.sh, .int k), some (.ow, bagD a1 b1), some (.sh, tubsD ts), v4, v5, v6, v7, v8, v9, v10, v11, v12, v13, v14, v15, v16, none]
  let s3 : S := [some (.sh, .scr ns), some (.sh, .int k), some (.ow, bagD a2 b2), some (.sh, tubsD ts), some (.sh, .tup (rs.map D.int)), v5, v6, v7, v8, v9, v10, v11, v12, v13, v14, v15, v16, none]
  have p1 : sSetO 2 (eCallO F__law_bag (aCons (eVar 0) (aCons (eVar 1) aNil))) [some (.sh, .scr ns), some (.sh, .int k), v2, v3, v4, v5, v6, v7, v8, v9, v10, v11, v12, v13, v14, v15, v16, none] = some (.nx s1) := by
    simp [e1, s1]
  have p2 : sSet 3 (eCallB F__law_tubs 2 (aCons (eC (.int 3)) aNil)) s1 = some (.nx s2) := by
    simp [e2, s1, s2]
  have p3 : sSet 4 (eCallB F__law_rain 2 (aCons (eVar 3) aNil)) s2 = some (.nx s3) := by
    simp [e3, s2, s3]
  have p4 : sAsg (eCall F__law_ends (aCons (eVar 3) (aCons (eVar 4) aNil))) (hTup (hCons (hName 5) (hCons (hName 6) hNil))) s3 = some (.nx (st18 ns k ts rs (bagD a2 b2) v7 v8 v9 v10 v11 v12 v13 v14 v15 v16)) := by
    simp [e4, s3, st18]
  have p5i : iRng1 (eC (.int 4)) (st18 ns k ts rs (bagD a2 b2) v7 v8 v9 v10 v11 v12 v13 v14 v15 v16) = some (rng 0 4, st18 ns k ts rs (bagD a2 b2) v7 v8 v9 v10 v11 v12 v13 v14 v15 v16) := rfl
  obtain ⟨s', p5, a3, b3, w7, w8, w9, w10, w11, ok3, rfl⟩ := loop_inv0 (g := hName 7) (fb := L_law_3) (fun i s => ∃ (a' b' : Int) (w7 w8 w9 w10 w11 : Option Sl), BagOk a' b' ∧ s = st18 ns k ts rs (bagD a' b') w7 w8 w9 w10 w11 v12 v13 v14 v15 v16) (rng 0 4) (st18 ns k ts rs (bagD a2 b2) v7 v8 v9 v10 v11 v12 v13 v14 v15 v16) ⟨a2, b2, _, _, _, _, _, ok2, rfl⟩ fun i d s hi ⟨a', b', w7, w8, w9, w10, w11, ok', hs⟩ => by
    subst hs
    obtain ⟨a5, b5, u8, u9, u10, u11, e, ok5⟩ := turn3 (ns := ns) (k := k) (v7 := some (.sh, d)) (v8 := w8) (v9 := w9) (v10 := w10) (v11 := w11) (v12 := v12) (v13 := v13) (v14 := v14) (v15 := v15) (v16 := v16) ht hl h0 ok'
    exact ⟨_, _, rfl, e, a5, b5, _, _, _, _, _, ok5, rfl⟩
  have sl := sort_lets ht rs
  have kl := keys_len ht
  have km : ∀ q ∈ sortSI (allSN ts), q ∈ allSN ts := fun q h => (sort_perm _).mem_iff.mp h
  generalize sortSI (allSN ts) = ks at *
  let kd : Option Sl := some (.sh, .lst (ks.map siD))
  let s6 (bd : D) (w11 w13 w14 w15 w16 : Option Sl) : S := st18 ns k ts rs bd w7 w8 w9 w10 w11 kd w13 w14 w15 w16
  have p6 : sSet 12 (eB1 gSortTD (pVar 6)) (st18 ns k ts rs (bagD a3 b3) w7 w8 w9 w10 w11 v12 v13 v14 v15 v16) = some (.nx (s6 (bagD a3 b3) w11 v13 v14 v15 v16)) := by
    refine (set_of (d := .lst (ks.map siD)) (s1 := st18 ns k ts rs (bagD a3 b3) w7 w8 w9 w10 w11 v12 v13 v14 v15 v16) ?_).trans rfl
    have pv : pVar 6 (st18 ns k ts rs (bagD a3 b3) w7 w8 w9 w10 w11 v12 v13 v14 v15 v16) = some (.dat (.dT (letsEP ts rs).1 (letsEP ts rs).2), st18 ns k ts rs (bagD a3 b3) w7 w8 w9 w10 w11 v12 v13 v14 v15 v16) := rfl
    simp only [eB1, pv, Option.bind_some, PR.get, sl]
  have p7i : iSeq (eSl (pVar 12) oNone (oSome (eC (.int 3)))) (s6 (bagD a3 b3) w11 v13 v14 v15 v16) = some ((ks.take 3).map siD, s6 (bagD a3 b3) w11 v13 v14 v15 v16) := by
    have c := cut_lo (ks.map siD) 3
    rw [← List.map_take] at c
    have c' : cutD (ks.map siD) none (some 3) = (ks.take 3).map siD := c
    have sm : small ks.length = true := small_of (by omega)
    simp [s6, st18, kd, c', sm]
  obtain ⟨s', p7, a4, b4, x11, x13, x14, x15, x16, ok4, rfl⟩ := loop_inv0 (g := hName 13) (fb := L_law_2) (fun i s => ∃ (a' b' : Int) (w11 w13 w14 w15 w16 : Option Sl), BagOk a' b' ∧ s = s6 (bagD a' b') w11 w13 w14 w15 w16) ((ks.take 3).map siD) (s6 (bagD a3 b3) w11 v13 v14 v15 v16) ⟨a3, b3, _, _, _, _, _, ok3, rfl⟩ fun i d s hi ⟨a', b', w11, w13, w14, w15, w16, ok', hs⟩ => by
    subst hs
    rw [List.getElem?_map] at hi
    obtain ⟨p, hp, rfl⟩ := Option.map_eq_some_iff.mp hi
    have hne : ks ≠ [] := fun z => by rw [z] at hp; simp at hp
    obtain ⟨a5, b5, u11, u14, u15, u16, e, ok5⟩ := turn2 (ns := ns) (k := k) (p := p) (v7 := w7) (v8 := w8) (v9 := w9) (v10 := w10) (v11 := w11) (v14 := w14) (v15 := w15) (v16 := w16) ht hl hne kl km ok'
    exact ⟨_, _, rfl, e, a5, b5, _, _, _, _, _, ok5, rfl⟩
  unfold L_law_4
  exact ⟨_, _, _, _, _, _, _, _, _, _, _, _, _, _, _, (seq_nx p1).trans ((seq_nx p2).trans ((seq_nx p3).trans ((seq_nx p4).trans ((seq_nx ((for_of p5i).trans p5)).trans ((seq_nx p6).trans ((for_of p7i).trans p7))))))⟩
theorem law_true (ns : List Int) (h : ns.length ≤ 63) : F_law [.scr ns] = some (false, .bl true) := by
  have hm : ∃ m : Nat, m ≤ 7 ∧ eAdd (eC (.int 1)) (eMin (eB1 gLen (pVar 0)) (eC (.int 5))) (init 18 [.scr ns]) = some (.int m, init 18 [.scr ns]) := by
    refine ⟨1 + min ns.length 5, by omega, ?_⟩
    simp
    omega
  obtain ⟨m, hm9, em⟩ := hm
  have p1 := rng1_of em (by omega)
  obtain ⟨s', p2, w1, w2, w3, w4, w5, w6, w7, w8, w9, w10, w11, w12, w13, w14, w15, w16, rfl⟩ := loop_inv0 (g := hName 1) (fb := L_law_4) (fun i s => ∃ w1 w2 w3 w4 w5 w6 w7 w8 w9 w10 w11 w12 w13 w14 w15 w16, s = [some (.sh, .scr ns), w1, w2, w3, w4, w5, w6, w7, w8, w9, w10, w11, w12, w13, w14, w15, w16, none]) (rng 0 m) (init 18 [.scr ns]) ⟨none, none, none, none, none, none, none, none, none, none, none, none, none, none, none, none, rfl⟩ (fun i d s hi ⟨w1, w2, w3, w4, w5, w6, w7, w8, w9, w10, w11, w12, w13, w14, w15, w16, hs⟩ => by
    subst hs
    obtain ⟨rfl, hin⟩ := rng_get hi
    rw [Int.zero_add]
    obtain ⟨u2, u3, u4, u5, u6, u7, u8, u9, u10, u11, u12, u13, u14, u15, u16, e⟩ := turn08 (ns := ns) (k := i) (by omega) (v2 := w2) (v3 := w3) (v4 := w4) (v5 := w5) (v6 := w6) (v7 := w7) (v8 := w8) (v9 := w9) (v10 := w10) (v11 := w11) (v12 := w12) (v13 := w13) (v14 := w14) (v15 := w15) (v16 := w16)
    exact ⟨_, _, rfl, e, _, _, _, _, _, _, _, _, _, _, _, _, _, _, _, _, rfl⟩)
  unfold F_law f_law
  simp only [runF]
  rw [seq_nx ((for_of p1).trans p2)]
  rfl
end Px.S

set_option Elab.async false
set_option linter.all false
set_option maxRecDepth 100000
set_option maxHeartbeats 4000000
namespace Px.S
open PySem L2 Px
theorem all_mk {l : PySem.W.OpenLaw} {w : World} {K : PySem.W.Frag} {h : Heap} {mg : Str → Option Value} {fa : Addr} (X : K.In h) (G : h.Ns mainGlobals mg) (hfa : mg "law" = some (.ref fa))
    {f0 : Addr} {od0 an0 : Option Addr} {sl0 : Array (Option Value)} {oc0 kV0 dc0 pm0 cd0 ct0 : Value} (a0 : PySem.W.nsIn K mainGlobals "_law_bag" = some (some (.ref f0))) (l0 : K.lookup f0 = some ⟨oc0, od0, .func (PySem.W.fnOf "_law_bag" "_law_bag" (defArgs s__law_bag) (defBody s__law_bag) (defScope s__law_bag) .none kV0 dc0 pm0 an0 cd0 ct0), sl0⟩) (c0 : PySem.W.codeIn K cd0 "_law_bag" = true) (k0 : PySem.W.keepIn K (.ref f0) = true)
    {f1 : Addr} {od1 an1 : Option Addr} {sl1 : Array (Option Value)} {oc1 kV1 dc1 pm1 cd1 ct1 : Value} (a1 : PySem.W.nsIn K mainGlobals "_law_take" = some (some (.ref f1))) (l1 : K.lookup f1 = some ⟨oc1, od1, .func (PySem.W.fnOf "_law_take" "_law_take" (defArgs s__law_take) (defBody s__law_take) (defScope s__law_take) .none kV1 dc1 pm1 an1 cd1 ct1), sl1⟩) (c1 : PySem.W.codeIn K cd1 "_law_take" = true) (k1 : PySem.W.keepIn K (.ref f1) = true)
    {f2 : Addr} {od2 an2 : Option Addr} {sl2 : Array (Option Value)} {oc2 kV2 dc2 pm2 cd2 ct2 : Value} (a2 : PySem.W.nsIn K mainGlobals "_law_of" = some (some (.ref f2))) (l2 : K.lookup f2 = some ⟨oc2, od2, .func (PySem.W.fnOf "_law_of" "_law_of" (defArgs s__law_of) (defBody s__law_of) (defScope s__law_of) .none kV2 dc2 pm2 an2 cd2 ct2), sl2⟩) (c2 : PySem.W.codeIn K cd2 "_law_of" = true) (k2 : PySem.W.keepIn K (.ref f2) = true)
    {f3 : Addr} {od3 an3 : Option Addr} {sl3 : Array (Option Value)} {oc3 kV3 dc3 pm3 cd3 ct3 : Value} (a3 : PySem.W.nsIn K mainGlobals "_law_tubs" = some (some (.ref f3))) (l3 : K.lookup f3 = some ⟨oc3, od3, .func (PySem.W.fnOf "_law_tubs" "_law_tubs" (defArgs s__law_tubs) (defBody s__law_tubs) (defScope s__law_tubs) .none kV3 dc3 pm3 an3 cd3 ct3), sl3⟩) (c3 : PySem.W.codeIn K cd3 "_law_tubs" = true) (k3 : PySem.W.keepIn K (.ref f3) = true)
    {f4 : Addr} {od4 an4 : Option Addr} {sl4 : Array (Option Value)} {oc4 kV4 dc4 pm4 cd4 ct4 : Value} (a4 : PySem.W.nsIn K mainGlobals "_law_rain" = some (some (.ref f4))) (l4 : K.lookup f4 = some ⟨oc4, od4, .func (PySem.W.fnOf "_law_rain" "_law_rain" (defArgs s__law_rain) (defBody s__law_rain) (defScope s__law_rain) .none kV4 dc4 pm4 an4 cd4 ct4), sl4⟩) (c4 : PySem.W.codeIn K cd4 "_law_rain" = true) (k4 : PySem.W.keepIn K (.ref f4) = true)
    {f5 : Addr} {od5 an5 : Option Addr} {sl5 : Array (Option Value)} {oc5 kV5 dc5 pm5 cd5 ct5 : Value} (a5 : PySem.W.nsIn K mainGlobals "_law_ends" = some (some (.ref f5))) (l5 : K.lookup f5 = some ⟨oc5, od5, .func (PySem.W.fnOf "_law_ends" "_law_ends" (defArgs s__law_ends) (defBody s__law_ends) (defScope s__law_ends) .none kV5 dc5 pm5 an5 cd5 ct5), sl5⟩) (c5 : PySem.W.codeIn K cd5 "_law_ends" = true) (k5 : PySem.W.keepIn K (.ref f5) = true)
    {f6 : Addr} {od6 an6 : Option Addr} {sl6 : Array (Option Value)} {oc6 kV6 dc6 pm6 cd6 ct6 : Value} (a6 : PySem.W.nsIn K mainGlobals "spot" = some (some (.ref f6))) (l6 : K.lookup f6 = some ⟨oc6, od6, .func (PySem.W.fnOf "spot" "spot" (defArgs s_spot) (defBody s_spot) (defScope s_spot) .none kV6 dc6 pm6 an6 cd6 ct6), sl6⟩) (c6 : PySem.W.codeIn K cd6 "spot" = true) (k6 : PySem.W.keepIn K (.ref f6) = true)
    {f7 : Addr} {od7 an7 : Option Addr} {sl7 : Array (Option Value)} {oc7 kV7 dc7 pm7 cd7 ct7 : Value} (a7 : PySem.W.nsIn K mainGlobals "rest_of" = some (some (.ref f7))) (l7 : K.lookup f7 = some ⟨oc7, od7, .func (PySem.W.fnOf "rest_of" "rest_of" (defArgs s_rest_of) (defBody s_rest_of) (defScope s_rest_of) .none kV7 dc7 pm7 an7 cd7 ct7), sl7⟩) (c7 : PySem.W.codeIn K cd7 "rest_of" = true) (k7 : PySem.W.keepIn K (.ref f7) = true)
    {f8 : Addr} {od8 an8 : Option Addr} {sl8 : Array (Option Value)} {oc8 kV8 dc8 pm8 cd8 ct8 : Value} (a8 : PySem.W.nsIn K mainGlobals "ends_of" = some (some (.ref f8))) (l8 : K.lookup f8 = some ⟨oc8, od8, .func (PySem.W.fnOf "ends_of" "ends_of" (defArgs s_ends_of) (defBody s_ends_of) (defScope s_ends_of) .none kV8 dc8 pm8 an8 cd8 ct8), sl8⟩) (c8 : PySem.W.codeIn K cd8 "ends_of" = true) (k8 : PySem.W.keepIn K (.ref f8) = true)
    {f9 : Addr} {od9 an9 : Option Addr} {sl9 : Array (Option Value)} {oc9 kV9 dc9 pm9 cd9 ct9 : Value} (a9 : PySem.W.nsIn K mainGlobals "comes" = some (some (.ref f9))) (l9 : K.lookup f9 = some ⟨oc9, od9, .func (PySem.W.fnOf "comes" "comes" (defArgs s_comes) (defBody s_comes) (defScope s_comes) .none kV9 dc9 pm9 an9 cd9 ct9), sl9⟩) (c9 : PySem.W.codeIn K cd9 "comes" = true) (k9 : PySem.W.keepIn K (.ref f9) = true)
    {f10 : Addr} {od10 an10 : Option Addr} {sl10 : Array (Option Value)} {oc10 kV10 dc10 pm10 cd10 ct10 : Value} (a10 : PySem.W.nsIn K mainGlobals "rests" = some (some (.ref f10))) (l10 : K.lookup f10 = some ⟨oc10, od10, .func (PySem.W.fnOf "rests" "rests" (defArgs s_rests) (defBody s_rests) (defScope s_rests) .none kV10 dc10 pm10 an10 cd10 ct10), sl10⟩) (c10 : PySem.W.codeIn K cd10 "rests" = true) (k10 : PySem.W.keepIn K (.ref f10) = true)
    {f11 : Addr} {od11 an11 : Option Addr} {sl11 : Array (Option Value)} {oc11 kV11 dc11 pm11 cd11 ct11 : Value} (a11 : PySem.W.nsIn K mainGlobals "does" = some (some (.ref f11))) (l11 : K.lookup f11 = some ⟨oc11, od11, .func (PySem.W.fnOf "does" "does" (defArgs s_does) (defBody s_does) (defScope s_does) .none kV11 dc11 pm11 an11 cd11 ct11), sl11⟩) (c11 : PySem.W.codeIn K cd11 "does" = true) (k11 : PySem.W.keepIn K (.ref f11) = true)
    {f12 : Addr} {od12 an12 : Option Addr} {sl12 : Array (Option Value)} {oc12 kV12 dc12 pm12 cd12 ct12 : Value} (a12 : PySem.W.nsIn K mainGlobals "least_rain" = some (some (.ref f12))) (l12 : K.lookup f12 = some ⟨oc12, od12, .func (PySem.W.fnOf "least_rain" "least_rain" (defArgs s_least_rain) (defBody s_least_rain) (defScope s_least_rain) .none kV12 dc12 pm12 an12 cd12 ct12), sl12⟩) (c12 : PySem.W.codeIn K cd12 "least_rain" = true) (k12 : PySem.W.keepIn K (.ref f12) = true)
    {f13 : Addr} {od13 an13 : Option Addr} {sl13 : Array (Option Value)} {oc13 kV13 dc13 pm13 cd13 ct13 : Value} (a13 : PySem.W.nsIn K mainGlobals "_law_within" = some (some (.ref f13))) (l13 : K.lookup f13 = some ⟨oc13, od13, .func (PySem.W.fnOf "_law_within" "_law_within" (defArgs s__law_within) (defBody s__law_within) (defScope s__law_within) .none kV13 dc13 pm13 an13 cd13 ct13), sl13⟩) (c13 : PySem.W.codeIn K cd13 "_law_within" = true) (k13 : PySem.W.keepIn K (.ref f13) = true)
    {f14 : Addr} {od14 an14 : Option Addr} {sl14 : Array (Option Value)} {oc14 kV14 dc14 pm14 cd14 ct14 : Value} (a14 : PySem.W.nsIn K mainGlobals "_law_rest" = some (some (.ref f14))) (l14 : K.lookup f14 = some ⟨oc14, od14, .func (PySem.W.fnOf "_law_rest" "_law_rest" (defArgs s__law_rest) (defBody s__law_rest) (defScope s__law_rest) .none kV14 dc14 pm14 an14 cd14 ct14), sl14⟩) (c14 : PySem.W.codeIn K cd14 "_law_rest" = true) (k14 : PySem.W.keepIn K (.ref f14) = true)
    {f15 : Addr} {od15 an15 : Option Addr} {sl15 : Array (Option Value)} {oc15 kV15 dc15 pm15 cd15 ct15 : Value} (a15 : PySem.W.nsIn K mainGlobals "_law_stands_so" = some (some (.ref f15))) (l15 : K.lookup f15 = some ⟨oc15, od15, .func (PySem.W.fnOf "_law_stands_so" "_law_stands_so" (defArgs s__law_stands_so) (defBody s__law_stands_so) (defScope s__law_stands_so) .none kV15 dc15 pm15 an15 cd15 ct15), sl15⟩) (c15 : PySem.W.codeIn K cd15 "_law_stands_so" = true) (k15 : PySem.W.keepIn K (.ref f15) = true)
    {f16 : Addr} {od16 an16 : Option Addr} {sl16 : Array (Option Value)} {oc16 kV16 dc16 pm16 cd16 ct16 : Value} (a16 : PySem.W.nsIn K mainGlobals "_law_least_so" = some (some (.ref f16))) (l16 : K.lookup f16 = some ⟨oc16, od16, .func (PySem.W.fnOf "_law_least_so" "_law_least_so" (defArgs s__law_least_so) (defBody s__law_least_so) (defScope s__law_least_so) .none kV16 dc16 pm16 an16 cd16 ct16), sl16⟩) (c16 : PySem.W.codeIn K cd16 "_law_least_so" = true) (k16 : PySem.W.keepIn K (.ref f16) = true)
    {f17 : Addr} {od17 an17 : Option Addr} {sl17 : Array (Option Value)} {oc17 kV17 dc17 pm17 cd17 ct17 : Value} (a17 : PySem.W.nsIn K mainGlobals "holes_of" = some (some (.ref f17))) (l17 : K.lookup f17 = some ⟨oc17, od17, .func (PySem.W.fnOf "holes_of" "holes_of" (defArgs s_holes_of) (defBody s_holes_of) (defScope s_holes_of) .none kV17 dc17 pm17 an17 cd17 ct17), sl17⟩) (c17 : PySem.W.codeIn K cd17 "holes_of" = true) (k17 : PySem.W.keepIn K (.ref f17) = true)
    {f18 : Addr} {od18 an18 : Option Addr} {sl18 : Array (Option Value)} {oc18 kV18 dc18 pm18 cd18 ct18 : Value} (a18 : PySem.W.nsIn K mainGlobals "lots" = some (some (.ref f18))) (l18 : K.lookup f18 = some ⟨oc18, od18, .func (PySem.W.fnOf "lots" "lots" (defArgs s_lots) (defBody s_lots) (defScope s_lots) .none kV18 dc18 pm18 an18 cd18 ct18), sl18⟩) (c18 : PySem.W.codeIn K cd18 "lots" = true) (k18 : PySem.W.keepIn K (.ref f18) = true)
    {f19 : Addr} {od19 an19 : Option Addr} {sl19 : Array (Option Value)} {oc19 kV19 dc19 pm19 cd19 ct19 : Value} (a19 : PySem.W.nsIn K mainGlobals "without" = some (some (.ref f19))) (l19 : K.lookup f19 = some ⟨oc19, od19, .func (PySem.W.fnOf "without" "without" (defArgs s_without) (defBody s_without) (defScope s_without) .none kV19 dc19 pm19 an19 cd19 ct19), sl19⟩) (c19 : PySem.W.codeIn K cd19 "without" = true) (k19 : PySem.W.keepIn K (.ref f19) = true)
    {f20 : Addr} {od20 an20 : Option Addr} {sl20 : Array (Option Value)} {oc20 kV20 dc20 pm20 cd20 ct20 : Value} (a20 : PySem.W.nsIn K mainGlobals "fewest_plugs" = some (some (.ref f20))) (l20 : K.lookup f20 = some ⟨oc20, od20, .func (PySem.W.fnOf "fewest_plugs" "fewest_plugs" (defArgs s_fewest_plugs) (defBody s_fewest_plugs) (defScope s_fewest_plugs) .none kV20 dc20 pm20 an20 cd20 ct20), sl20⟩) (c20 : PySem.W.codeIn K cd20 "fewest_plugs" = true) (k20 : PySem.W.keepIn K (.ref f20) = true)
    {f21 : Addr} {od21 an21 : Option Addr} {sl21 : Array (Option Value)} {oc21 kV21 dc21 pm21 cd21 ct21 : Value} (a21 : PySem.W.nsIn K mainGlobals "_law_lots" = some (some (.ref f21))) (l21 : K.lookup f21 = some ⟨oc21, od21, .func (PySem.W.fnOf "_law_lots" "_law_lots" (defArgs s__law_lots) (defBody s__law_lots) (defScope s__law_lots) .none kV21 dc21 pm21 an21 cd21 ct21), sl21⟩) (c21 : PySem.W.codeIn K cd21 "_law_lots" = true) (k21 : PySem.W.keepIn K (.ref f21) = true)
    {f22 : Addr} {od22 an22 : Option Addr} {sl22 : Array (Option Value)} {oc22 kV22 dc22 pm22 cd22 ct22 : Value} (a22 : PySem.W.nsIn K mainGlobals "_law_plugged" = some (some (.ref f22))) (l22 : K.lookup f22 = some ⟨oc22, od22, .func (PySem.W.fnOf "_law_plugged" "_law_plugged" (defArgs s__law_plugged) (defBody s__law_plugged) (defScope s__law_plugged) .none kV22 dc22 pm22 an22 cd22 ct22), sl22⟩) (c22 : PySem.W.codeIn K cd22 "_law_plugged" = true) (k22 : PySem.W.keepIn K (.ref f22) = true)
    {f23 : Addr} {od23 an23 : Option Addr} {sl23 : Array (Option Value)} {oc23 kV23 dc23 pm23 cd23 ct23 : Value} (a23 : PySem.W.nsIn K mainGlobals "_law_plugs" = some (some (.ref f23))) (l23 : K.lookup f23 = some ⟨oc23, od23, .func (PySem.W.fnOf "_law_plugs" "_law_plugs" (defArgs s__law_plugs) (defBody s__law_plugs) (defScope s__law_plugs) .none kV23 dc23 pm23 an23 cd23 ct23), sl23⟩) (c23 : PySem.W.codeIn K cd23 "_law_plugs" = true) (k23 : PySem.W.keepIn K (.ref f23) = true)
    {f24 : Addr} {od24 an24 : Option Addr} {sl24 : Array (Option Value)} {oc24 kV24 dc24 pm24 cd24 ct24 : Value} (a24 : PySem.W.nsIn K mainGlobals "with_rate" = some (some (.ref f24))) (l24 : K.lookup f24 = some ⟨oc24, od24, .func (PySem.W.fnOf "with_rate" "with_rate" (defArgs s_with_rate) (defBody s_with_rate) (defScope s_with_rate) .none kV24 dc24 pm24 an24 cd24 ct24), sl24⟩) (c24 : PySem.W.codeIn K cd24 "with_rate" = true) (k24 : PySem.W.keepIn K (.ref f24) = true)
    {f25 : Addr} {od25 an25 : Option Addr} {sl25 : Array (Option Value)} {oc25 kV25 dc25 pm25 cd25 ct25 : Value} (a25 : PySem.W.nsIn K mainGlobals "rates_by" = some (some (.ref f25))) (l25 : K.lookup f25 = some ⟨oc25, od25, .func (PySem.W.fnOf "rates_by" "rates_by" (defArgs s_rates_by) (defBody s_rates_by) (defScope s_rates_by) .none kV25 dc25 pm25 an25 cd25 ct25), sl25⟩) (c25 : PySem.W.codeIn K cd25 "rates_by" = true) (k25 : PySem.W.keepIn K (.ref f25) = true)
    {f26 : Addr} {od26 an26 : Option Addr} {sl26 : Array (Option Value)} {oc26 kV26 dc26 pm26 cd26 ct26 : Value} (a26 : PySem.W.nsIn K mainGlobals "_law_rated" = some (some (.ref f26))) (l26 : K.lookup f26 = some ⟨oc26, od26, .func (PySem.W.fnOf "_law_rated" "_law_rated" (defArgs s__law_rated) (defBody s__law_rated) (defScope s__law_rated) .none kV26 dc26 pm26 an26 cd26 ct26), sl26⟩) (c26 : PySem.W.codeIn K cd26 "_law_rated" = true) (k26 : PySem.W.keepIn K (.ref f26) = true)
    {f27 : Addr} {od27 an27 : Option Addr} {sl27 : Array (Option Value)} {oc27 kV27 dc27 pm27 cd27 ct27 : Value} (a27 : PySem.W.nsIn K mainGlobals "law" = some (some (.ref f27))) (l27 : K.lookup f27 = some ⟨oc27, od27, .func (PySem.W.fnOf "law" "law" (defArgs s_law) (defBody s_law) (defScope s_law) .none kV27 dc27 pm27 an27 cd27 ct27), sl27⟩) (c27 : PySem.W.codeIn K cd27 "law" = true) (k27 : PySem.W.keepIn K (.ref f27) = true)
    (z_abs : PySem.W.nsIn K mainGlobals "abs" = some none)
    (z_bool : PySem.W.nsIn K mainGlobals "bool" = some none)
    (z_dict : PySem.W.nsIn K mainGlobals "dict" = some none)
    (z_enumerate : PySem.W.nsIn K mainGlobals "enumerate" = some none)
    (z_int : PySem.W.nsIn K mainGlobals "int" = some none)
    (z_isinstance : PySem.W.nsIn K mainGlobals "isinstance" = some none)
    (z_len : PySem.W.nsIn K mainGlobals "len" = some none)
    (z_max : PySem.W.nsIn K mainGlobals "max" = some none)
    (z_min : PySem.W.nsIn K mainGlobals "min" = some none)
    (z_range : PySem.W.nsIn K mainGlobals "range" = some none)
    (z_sorted : PySem.W.nsIn K mainGlobals "sorted" = some none)
    (z_tuple : PySem.W.nsIn K mainGlobals "tuple" = some none)
    (z_zip : PySem.W.nsIn K mainGlobals "zip" = some none)
    {tMOST_RAIN : Tok} (z_MOST_RAIN : PySem.W.nsIn K mainGlobals "MOST_RAIN" = some (some (.int 100000 tMOST_RAIN)))
    {tMOST_RATE : Tok} (z_MOST_RATE : PySem.W.nsIn K mainGlobals "MOST_RATE" = some (some (.int 100 tMOST_RATE)))
    : ∃ fd : FuncData, (∀ (s : Shared) (v : Value), BindsTo s fd ⟨[v], []⟩ [("script", v)]) ∧ ∀ base : Heap, K.In base → base.Ns mainGlobals mg → FnOk l.prog w K mg base CX0 14 fa fd ["script"] (spF K 1 F_law) := by
  have e := hfa.symm.trans (PySem.W.mg_of X G a27)
  cases e
  have Z : Bt K mg := ⟨PySem.W.mg_none_of X G z_abs, PySem.W.mg_none_of X G z_bool, PySem.W.mg_none_of X G z_dict, PySem.W.mg_none_of X G z_enumerate, PySem.W.mg_none_of X G z_int, PySem.W.mg_none_of X G z_isinstance, PySem.W.mg_none_of X G z_len, PySem.W.mg_none_of X G z_max, PySem.W.mg_none_of X G z_min, PySem.W.mg_none_of X G z_range, PySem.W.mg_none_of X G z_sorted, PySem.W.mg_none_of X G z_tuple, PySem.W.mg_none_of X G z_zip, globI (PySem.W.mg_of X G z_MOST_RAIN), globI (PySem.W.mg_of X G z_MOST_RATE)⟩
  have F0 := fun_mk (st := s__law_bag) l0 c0 k0
  have b0 := F0.binds (ps := ["script", "k"]) fun _ _ _ _ _ _ us hl => match us, hl with | [_, _], _ => rfl
  have F1 := fun_mk (st := s__law_take) l1 c1 k1
  have b1 := F1.binds (ps := ["bag", "many"]) fun _ _ _ _ _ _ us hl => match us, hl with | [_, _], _ => rfl
  have F2 := fun_mk (st := s__law_of) l2 c2 k2
  have b2 := F2.binds (ps := ["bag", "some"]) fun _ _ _ _ _ _ us hl => match us, hl with | [_, _], _ => rfl
  have F3 := fun_mk (st := s__law_tubs) l3 c3 k3
  have b3 := F3.binds (ps := ["bag", "most"]) fun _ _ _ _ _ _ us hl => match us, hl with | [_, _], _ => rfl
  have F4 := fun_mk (st := s__law_rain) l4 c4 k4
  have b4 := F4.binds (ps := ["bag", "tubs"]) fun _ _ _ _ _ _ us hl => match us, hl with | [_, _], _ => rfl
  have F5 := fun_mk (st := s__law_ends) l5 c5 k5
  have b5 := F5.binds (ps := ["tubs", "rain"]) fun _ _ _ _ _ _ us hl => match us, hl with | [_, _], _ => rfl
  have F6 := fun_mk (st := s_spot) l6 c6 k6
  have b6 := F6.binds (ps := ["tubs", "name"]) fun _ _ _ _ _ _ us hl => match us, hl with | [_, _], _ => rfl
  have F7 := fun_mk (st := s_rest_of) l7 c7 k7
  have b7 := F7.binds (ps := ["holes", "much"]) fun _ _ _ _ _ _ us hl => match us, hl with | [_, _], _ => rfl
  have F8 := fun_mk (st := s_ends_of) l8 c8 k8
  have b8 := F8.binds (ps := ["tubs", "rain"]) fun _ _ _ _ _ _ us hl => match us, hl with | [_, _], _ => rfl
  have F9 := fun_mk (st := s_comes) l9 c9 k9
  have b9 := F9.binds (ps := ["tubs", "rain"]) fun _ _ _ _ _ _ us hl => match us, hl with | [_, _], _ => rfl
  have F10 := fun_mk (st := s_rests) l10 c10 k10
  have b10 := F10.binds (ps := ["tubs", "rain"]) fun _ _ _ _ _ _ us hl => match us, hl with | [_, _], _ => rfl
  have F11 := fun_mk (st := s_does) l11 c11 k11
  have b11 := F11.binds (ps := ["tubs", "rain", "other", "height"]) fun _ _ _ _ _ _ us hl => match us, hl with | [_, _, _, _], _ => rfl
  have F12 := fun_mk (st := s_least_rain) l12 c12 k12
  have b12 := F12.binds (ps := ["tubs", "rain", "name", "other", "height"]) fun _ _ _ _ _ _ us hl => match us, hl with | [_, _, _, _, _], _ => rfl
  have F13 := fun_mk (st := s__law_within) l13 c13 k13
  have b13 := F13.binds (ps := ["thing", "least", "most"]) fun _ _ _ _ _ _ us hl => match us, hl with | [_, _, _], _ => rfl
  have F14 := fun_mk (st := s__law_rest) l14 c14 k14
  have b14 := F14.binds (ps := ["holes", "much"]) fun _ _ _ _ _ _ us hl => match us, hl with | [_, _], _ => rfl
  have F15 := fun_mk (st := s__law_stands_so) l15 c15 k15
  have b15 := F15.binds (ps := ["tubs", "rain", "at", "level"]) fun _ _ _ _ _ _ us hl => match us, hl with | [_, _, _, _], _ => rfl
  have F16 := fun_mk (st := s__law_least_so) l16 c16 k16
  have b16 := F16.binds (ps := ["tubs", "rain", "one", "other", "level"]) fun _ _ _ _ _ _ us hl => match us, hl with | [_, _, _, _, _], _ => rfl
  have F17 := fun_mk (st := s_holes_of) l17 c17 k17
  have b17 := F17.binds (ps := ["tubs"]) fun _ _ _ _ _ _ us hl => match us, hl with | [_], _ => rfl
  have F18 := fun_mk (st := s_lots) l18 c18 k18
  have b18 := F18.binds (ps := ["some", "many"]) fun _ _ _ _ _ _ us hl => match us, hl with | [_, _], _ => rfl
  have F19 := fun_mk (st := s_without) l19 c19 k19
  have b19 := F19.binds (ps := ["tubs", "plugs"]) fun _ _ _ _ _ _ us hl => match us, hl with | [_, _], _ => rfl
  have F20 := fun_mk (st := s_fewest_plugs) l20 c20 k20
  have b20 := F20.binds (ps := ["tubs", "rain", "name", "much"]) fun _ _ _ _ _ _ us hl => match us, hl with | [_, _, _, _], _ => rfl
  have F21 := fun_mk (st := s__law_lots) l21 c21 k21
  have b21 := F21.binds (ps := ["some", "many"]) fun _ _ _ _ _ _ us hl => match us, hl with | [_, _], _ => rfl
  have F22 := fun_mk (st := s__law_plugged) l22 c22 k22
  have b22 := F22.binds (ps := ["tubs", "lot"]) fun _ _ _ _ _ _ us hl => match us, hl with | [_, _], _ => rfl
  have F23 := fun_mk (st := s__law_plugs) l23 c23 k23
  have b23 := F23.binds (ps := ["tubs", "rain", "at", "much"]) fun _ _ _ _ _ _ us hl => match us, hl with | [_, _, _, _], _ => rfl
  have F24 := fun_mk (st := s_with_rate) l24 c24 k24
  have b24 := F24.binds (ps := ["tubs", "hole", "rate"]) fun _ _ _ _ _ _ us hl => match us, hl with | [_, _, _], _ => rfl
  have F25 := fun_mk (st := s_rates_by) l25 c25 k25
  have b25 := F25.binds (ps := ["tubs", "rain", "hole", "another", "lets"]) fun _ _ _ _ _ _ us hl => match us, hl with | [_, _, _, _, _], _ => rfl
  have F26 := fun_mk (st := s__law_rated) l26 c26 k26
  have b26 := F26.binds (ps := ["tubs", "key", "rate"]) fun _ _ _ _ _ _ us hl => match us, hl with | [_, _, _], _ => rfl
  have F27 := fun_mk (st := s_law) l27 c27 k27
  refine ⟨PySem.W.fnOf "law" "law" (defArgs s_law) (defBody s_law) (defScope s_law) .none kV27 dc27 pm27 an27 cd27 ct27, fun s v => .of_eq rfl, fun base _ _ => ?_⟩
  have h__law_bag : HasFn l.prog w K mg base 1 "_law_bag" _ := ⟨f0, _, _, ok__law_bag F0 Z , PySem.W.mg_of X G a0, F0.kp, b0⟩
  have h__law_take : HasFn l.prog w K mg base 1 "_law_take" _ := ⟨f1, _, _, ok__law_take F1 Z , PySem.W.mg_of X G a1, F1.kp, b1⟩
  have h__law_of : HasFn l.prog w K mg base 2 "_law_of" _ := ⟨f2, _, _, ok__law_of F2 Z h__law_take, PySem.W.mg_of X G a2, F2.kp, b2⟩
  have h__law_tubs : HasFn l.prog w K mg base 3 "_law_tubs" _ := ⟨f3, _, _, ok__law_tubs F3 Z h__law_of h__law_take, PySem.W.mg_of X G a3, F3.kp, b3⟩
  have h__law_rain : HasFn l.prog w K mg base 3 "_law_rain" _ := ⟨f4, _, _, ok__law_rain F4 Z h__law_take h__law_of, PySem.W.mg_of X G a4, F4.kp, b4⟩
  have h__law_ends : HasFn l.prog w K mg base 1 "_law_ends" _ := ⟨f5, _, _, ok__law_ends F5 Z , PySem.W.mg_of X G a5, F5.kp, b5⟩
  have h_spot : HasFn l.prog w K mg base 1 "spot" _ := ⟨f6, _, _, ok_spot F6 Z , PySem.W.mg_of X G a6, F6.kp, b6⟩
  have h_rest_of : HasFn l.prog w K mg base 1 "rest_of" _ := ⟨f7, _, _, ok_rest_of F7 Z , PySem.W.mg_of X G a7, F7.kp, b7⟩
  have h_ends_of : HasFn l.prog w K mg base 1 "ends_of" _ := ⟨f8, _, _, ok_ends_of F8 Z , PySem.W.mg_of X G a8, F8.kp, b8⟩
  have h_comes : HasFn l.prog w K mg base 2 "comes" _ := ⟨f9, _, _, ok_comes F9 Z h_ends_of, PySem.W.mg_of X G a9, F9.kp, b9⟩
  have h_rests : HasFn l.prog w K mg base 3 "rests" _ := ⟨f10, _, _, ok_rests F10 Z h_rest_of h_comes, PySem.W.mg_of X G a10, F10.kp, b10⟩
  have h_does : HasFn l.prog w K mg base 4 "does" _ := ⟨f11, _, _, ok_does F11 Z h_rests h_spot, PySem.W.mg_of X G a11, F11.kp, b11⟩
  have h_least_rain : HasFn l.prog w K mg base 5 "least_rain" _ := ⟨f12, _, _, ok_least_rain F12 Z h_spot h_does, PySem.W.mg_of X G a12, F12.kp, b12⟩
  have h__law_within : HasFn l.prog w K mg base 1 "_law_within" _ := ⟨f13, _, _, ok__law_within F13 Z , PySem.W.mg_of X G a13, F13.kp, b13⟩
  have h__law_rest : HasFn l.prog w K mg base 1 "_law_rest" _ := ⟨f14, _, _, ok__law_rest F14 Z , PySem.W.mg_of X G a14, F14.kp, b14⟩
  have h__law_stands_so : HasFn l.prog w K mg base 2 "_law_stands_so" _ := ⟨f15, _, _, ok__law_stands_so F15 Z h__law_rest h__law_ends, PySem.W.mg_of X G a15, F15.kp, b15⟩
  have h__law_least_so : HasFn l.prog w K mg base 6 "_law_least_so" _ := ⟨f16, _, _, ok__law_least_so F16 Z h_least_rain h__law_within h__law_stands_so, PySem.W.mg_of X G a16, F16.kp, b16⟩
  have h_holes_of : HasFn l.prog w K mg base 1 "holes_of" _ := ⟨f17, _, _, ok_holes_of F17 Z , PySem.W.mg_of X G a17, F17.kp, b17⟩
  have h_lots : HasFn l.prog w K mg base 12 "lots" (spF K 2 (F_lots 12)) := ⟨f18, _, _, ok_lots F18 Z (PySem.W.mg_of X G a18) F18.kp b18 12, PySem.W.mg_of X G a18, F18.kp, b18⟩
  have h_without : HasFn l.prog w K mg base 1 "without" _ := ⟨f19, _, _, ok_without F19 Z , PySem.W.mg_of X G a19, F19.kp, b19⟩
  have h_fewest_plugs : HasFn l.prog w K mg base 13 "fewest_plugs" _ := ⟨f20, _, _, ok_fewest_plugs F20 Z h_holes_of h_lots h_comes h_spot h_without, PySem.W.mg_of X G a20, F20.kp, b20⟩
  have h__law_lots : HasFn l.prog w K mg base 12 "_law_lots" (spF K 2 (F__law_lots 12)) := ⟨f21, _, _, ok__law_lots F21 Z (PySem.W.mg_of X G a21) F21.kp b21 12, PySem.W.mg_of X G a21, F21.kp, b21⟩
  have h__law_plugged : HasFn l.prog w K mg base 1 "_law_plugged" _ := ⟨f22, _, _, ok__law_plugged F22 Z , PySem.W.mg_of X G a22, F22.kp, b22⟩
  have h__law_plugs : HasFn l.prog w K mg base 13 "_law_plugs" _ := ⟨f23, _, _, ok__law_plugs F23 Z h__law_lots h__law_ends h__law_plugged, PySem.W.mg_of X G a23, F23.kp, b23⟩
  have h_with_rate : HasFn l.prog w K mg base 1 "with_rate" _ := ⟨f24, _, _, ok_with_rate F24 Z , PySem.W.mg_of X G a24, F24.kp, b24⟩
  have h_rates_by : HasFn l.prog w K mg base 2 "rates_by" _ := ⟨f25, _, _, ok_rates_by F25 Z h_ends_of h_with_rate, PySem.W.mg_of X G a25, F25.kp, b25⟩
  have h__law_rated : HasFn l.prog w K mg base 1 "_law_rated" _ := ⟨f26, _, _, ok__law_rated F26 Z , PySem.W.mg_of X G a26, F26.kp, b26⟩
  exact ok_law F27 Z h__law_bag h__law_tubs h__law_rain h__law_ends h__law_of h__law_take h__law_least_so h_fewest_plugs h__law_plugs h_rates_by h__law_rated
end Px.S
open PySem PySem.W PyProof.Rows
set_option maxRecDepth 100000 in
set_option maxHeartbeats 0 in
theorem PySem.Challenge.cw_holetubs_k08_asked_backward_holds : PySem.Challenge.rw_holetubs_k08_asked_backward.Holds := by
  w_on; o_law; k_head; (case hw => w_witness2)
  k_fill
  refine L2.walk_of (l := PySem.Challenge.rw_holetubs_k08_asked_backward) (n := 63) (k := 14) (x := "script") (CX := fun _ => L2.CX0) (sp := fun w => Px.spF _ 1 Px.S.F_law) rfl (by decide) rfl ⟨rfl, by decide, by decide⟩ (fun w h Y => PySem.W.kIn_of Y) ?F (fun _ H a ns hl _ hS => Px.law_sp hS (Px.S.law_true ns hl)) (fun _ _ _ _ _ h => h)
  case F =>
    intro w mg fa h KX G hmg
    refine' Px.S.all_mk KX G hmg ?a0 ?l0 ?c0 ?k0 ?a1 ?l1 ?c1 ?k1 ?a2 ?l2 ?c2 ?k2 ?a3 ?l3 ?c3 ?k3 ?a4 ?l4 ?c4 ?k4 ?a5 ?l5 ?c5 ?k5 ?a6 ?l6 ?c6 ?k6 ?a7 ?l7 ?c7 ?k7 ?a8 ?l8 ?c8 ?k8 ?a9 ?l9 ?c9 ?k9 ?a10 ?l10 ?c10 ?k10 ?a11 ?l11 ?c11 ?k11 ?a12 ?l12 ?c12 ?k12 ?a13 ?l13 ?c13 ?k13 ?a14 ?l14 ?c14 ?k14 ?a15 ?l15 ?c15 ?k15 ?a16 ?l16 ?c16 ?k16 ?a17 ?l17 ?c17 ?k17 ?a18 ?l18 ?c18 ?k18 ?a19 ?l19 ?c19 ?k19 ?a20 ?l20 ?c20 ?k20 ?a21 ?l21 ?c21 ?k21 ?a22 ?l22 ?c22 ?k22 ?a23 ?l23 ?c23 ?k23 ?a24 ?l24 ?c24 ?k24 ?a25 ?l25 ?c25 ?k25 ?a26 ?l26 ?c26 ?k26 ?a27 ?l27 ?c27 ?k27 ?z_abs ?z_bool ?z_dict ?z_enumerate ?z_int ?z_isinstance ?z_len ?z_max ?z_min ?z_range ?z_sorted ?z_tuple ?z_zip ?z_MOST_RAIN ?z_MOST_RATE
    (case a0 => k_is)
    (case l0 => k_is)
    (case c0 => k_is)
    (case k0 => k_is)
    (case a1 => k_is)
    (case l1 => k_is)
    (case c1 => k_is)
    (case k1 => k_is)
    (case a2 => k_is)
    (case l2 => k_is)
    (case c2 => k_is)
    (case k2 => k_is)
    (case a3 => k_is)
    (case l3 => k_is)
    (case c3 => k_is)
    (case k3 => k_is)
    (case a4 => k_is)
    (case l4 => k_is)
    (case c4 => k_is)
    (case k4 => k_is)
    (case a5 => k_is)
    (case l5 => k_is)
    (case c5 => k_is)
    (case k5 => k_is)
    (case a6 => k_is)
    (case l6 => k_is)
    (case c6 => k_is)
    (case k6 => k_is)
    (case a7 => k_is)
    (case l7 => k_is)
    (case c7 => k_is)
    (case k7 => k_is)
    (case a8 => k_is)
    (case l8 => k_is)
    (case c8 => k_is)
    (case k8 => k_is)
    (case a9 => k_is)
    (case l9 => k_is)
    (case c9 => k_is)
    (case k9 => k_is)
    (case a10 => k_is)
    (case l10 => k_is)
    (case c10 => k_is)
    (case k10 => k_is)
    (case a11 => k_is)
    (case l11 => k_is)
    (case c11 => k_is)
    (case k11 => k_is)
    (case a12 => k_is)
    (case l12 => k_is)
    (case c12 => k_is)
    (case k12 => k_is)
    (case a13 => k_is)
    (case l13 => k_is)
    (case c13 => k_is)
    (case k13 => k_is)
    (case a14 => k_is)
    (case l14 => k_is)
    (case c14 => k_is)
    (case k14 => k_is)
    (case a15 => k_is)
    (case l15 => k_is)
    (case c15 => k_is)
    (case k15 => k_is)
    (case a16 => k_is)
    (case l16 => k_is)
    (case c16 => k_is)
    (case k16 => k_is)
    (case a17 => k_is)
    (case l17 => k_is)
    (case c17 => k_is)
    (case k17 => k_is)
    (case a18 => k_is)
    (case l18 => k_is)
    (case c18 => k_is)
    (case k18 => k_is)
    (case a19 => k_is)
    (case l19 => k_is)
    (case c19 => k_is)
    (case k19 => k_is)
    (case a20 => k_is)
    (case l20 => k_is)
    (case c20 => k_is)
    (case k20 => k_is)
    (case a21 => k_is)
    (case l21 => k_is)
    (case c21 => k_is)
    (case k21 => k_is)
    (case a22 => k_is)
    (case l22 => k_is)
    (case c22 => k_is)
    (case k22 => k_is)
    (case a23 => k_is)
    (case l23 => k_is)
    (case c23 => k_is)
    (case k23 => k_is)
    (case a24 => k_is)
    (case l24 => k_is)
    (case c24 => k_is)
    (case k24 => k_is)
    (case a25 => k_is)
    (case l25 => k_is)
    (case c25 => k_is)
    (case k25 => k_is)
    (case a26 => k_is)
    (case l26 => k_is)
    (case c26 => k_is)
    (case k26 => k_is)
    (case a27 => k_is)
    (case l27 => k_is)
    (case c27 => k_is)
    (case k27 => k_is)
    (case z_abs => k_is)
    (case z_bool => k_is)
    (case z_dict => k_is)
    (case z_enumerate => k_is)
    (case z_int => k_is)
    (case z_isinstance => k_is)
    (case z_len => k_is)
    (case z_max => k_is)
    (case z_min => k_is)
    (case z_range => k_is)
    (case z_sorted => k_is)
    (case z_tuple => k_is)
    (case z_zip => k_is)
    (case z_MOST_RAIN => k_is)
    (case z_MOST_RATE => k_is)

