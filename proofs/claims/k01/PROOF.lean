import PyProof.Rows.All
import Wide.All
import OpenK.AllK
import Wide.FinOn
import HandS.ForMost
import HandS.DictComp
import HandS.Zip
import HandS.Wide
import KE.DataEq
import HandS.TupAny
import HandS.SortInts
import HandS.More
import HandS.Conv
import KE.GoesNew
import KE.DataFind
import PyProof.Rows.Digits
import PyProof.ReprNest
import HandS.FStrTup
import HandS.TupMul
import HandS.IsInst
import HandS.Iter
import HandS.TupSets
import HandS.Text
import HandS.Strs
import PyProof.Rows.IntBool
import PyProof.CallStr
import HandS.SetFor
import PyProof.Rows.SetFrom
import HandS.Style
import HandS.NoneIn
import PyProof.Rows.StrFit
import PyProof.FitsInt
import PySem.Challenge.RW_holetubs_k01_tubs_weather_beginnings_tol
set_option Elab.async false
set_option linter.all false
set_option maxRecDepth 100000
/-! Px1: data trees D, how values bear them in a heap (Rep), the frozen part of a heap, the relation Rel of an abstract state with slots and heap -/
namespace Px
open PySem L2

/-- data without addresses -/
inductive D where
  | non | bl (b : Bool) | int (i : Int) | str (x : Str) | tup (ds : List D) | lst (ds : List D)
  | dK (ks : List Key) (ds : List D) | dT (ks : List (List Key)) (ds : List D) | scr (ns : List Int)

def isI : D → Bool
  | .int _ => true
  | _ => false
/-- all ints -/
def allI (ds : List D) : Bool := ds.all isI

mutual
def Rep (K : PySem.W.Frag) (H : Hp) : D → V → Prop
  | .non, v => v = .non
  | .bl b, v => v = .bl b
  | .int i, v => v = .int i
  | .str x, v => v = .str x
  | .tup ds, v => ∃ a xs, v = .ref a ∧ RepL K H ds xs ∧ (H a = some (.tup xs) ∨ (SqT K H a xs ∧ allI ds = true))
  | .lst ds, v => ∃ a xs, v = .ref a ∧ RepL K H ds xs ∧ H a = some (.lst xs)
  | .dK ks ds, v => ∃ a xs, v = .ref a ∧ RepL K H ds xs ∧ ks.length = ds.length ∧ Rd H a (.dK (ks.zip xs))
  | .dT ks ds, v => ∃ a xs, v = .ref a ∧ RepL K H ds xs ∧ ks.length = ds.length ∧ Rd H a (.dT (ks.zip xs))
  | .scr ns, v => ∃ a, v = .ref a ∧ SqL K H a (ns.map V.int)
def RepL (K : PySem.W.Frag) (H : Hp) : List D → List V → Prop
  | [], xs => xs = []
  | d :: ds, xs => ∃ x r, xs = x :: r ∧ Rep K H d x ∧ RepL K H ds r
end

abbrev Ex (H H' : Hp) : Prop := ∀ a o, H a = some o → H' a = some o
theorem Ex.refl (H : Hp) : Ex H H := fun _ _ h => h
theorem Ex.trans {H H1 H2 : Hp} (a : Ex H H1) (b : Ex H1 H2) : Ex H H2 := fun x o h => b x o (a x o h)
theorem Ex.new {H : Hp} {p : Addr} {o : HO} (h : H p = none) : Ex H (upd H p o) := fun a u e => by
  rw [upd_ne (ne_of_none e h)]
  exact e
theorem Ex.both {H H' : Hp} {p : Addr} {o : HO} (e : Ex H H') : Ex (upd H p o) (upd H' p o) := fun a u h => by
  by_cases q : a = p
  · subst q; rw [upd_same] at h ⊢; exact h
  · rw [upd_ne q] at h ⊢; exact e a u h
theorem Ex.back {H H' : Hp} {p : Addr} (e : Ex H H') (h : H' p = none) : H p = none := by
  cases q : H p with
  | none => rfl
  | some o => rw [e p o q] at h; cases h
theorem Ex.rd {H H' : Hp} {a : Addr} {u : HO} (e : Ex H H') (h : Rd H a u) : Rd H' a u := by
  rcases h with h | ⟨o, h⟩
  · exact .inl (e a _ h)
  · exact .inr ⟨o, e a _ h⟩
theorem Ex.sqL {K : PySem.W.Frag} {H H' : Hp} {a : Addr} {xs : List V} (e : Ex H H') (h : SqL K H a xs) : SqL K H' a xs := by
  rcases h with h | h
  · exact .inl (e.rd h)
  · exact .inr h
theorem Ex.sqT {K : PySem.W.Frag} {H H' : Hp} {a : Addr} {xs : List V} (e : Ex H H') (h : SqT K H a xs) : SqT K H' a xs := by
  rcases h with h | h
  · exact .inl (e.rd h)
  · exact .inr h

section
variable {K : PySem.W.Frag} {H H' : Hp}
mutual
theorem Rep.mono (e : Ex H H') : ∀ (d : D) (v : V), Rep K H d v → Rep K H' d v
  | .non, _, h => by simpa only [Rep] using h
  | .bl _, _, h => by simpa only [Rep] using h
  | .int _, _, h => by simpa only [Rep] using h
  | .str _, _, h => by simpa only [Rep] using h
  | .tup ds, v, h => by
    simp only [Rep] at h ⊢
    obtain ⟨a, xs, e1, r, q⟩ := h
    refine ⟨a, xs, e1, RepL.mono e ds xs r, ?_⟩
    rcases q with q | ⟨q, z⟩
    · exact .inl (e _ _ q)
    · exact .inr ⟨e.sqT q, z⟩
  | .lst ds, v, h => by
    simp only [Rep] at h ⊢
    obtain ⟨a, xs, e1, r, q⟩ := h
    exact ⟨a, xs, e1, RepL.mono e ds xs r, e _ _ q⟩
  | .dK ks ds, v, h => by
    simp only [Rep] at h ⊢
    obtain ⟨a, xs, e1, r, l, q⟩ := h
    exact ⟨a, xs, e1, RepL.mono e ds xs r, l, e.rd q⟩
  | .dT ks ds, v, h => by
    simp only [Rep] at h ⊢
    obtain ⟨a, xs, e1, r, l, q⟩ := h
    exact ⟨a, xs, e1, RepL.mono e ds xs r, l, e.rd q⟩
  | .scr ns, v, h => by
    simp only [Rep] at h ⊢
    obtain ⟨a, e1, q⟩ := h
    exact ⟨a, e1, e.sqL q⟩
theorem RepL.mono (e : Ex H H') : ∀ (ds : List D) (xs : List V), RepL K H ds xs → RepL K H' ds xs
  | [], _, h => by simpa only [RepL] using h
  | d :: ds, xs, h => by
    simp only [RepL] at h ⊢
    obtain ⟨x, r, e1, h1, h2⟩ := h
    exact ⟨x, r, e1, Rep.mono e d x h1, RepL.mono e ds r h2⟩
end
theorem Rep.up {d : D} {v : V} (h : Rep K H d v) (e : Ex H H') : Rep K H' d v := Rep.mono e d v h
theorem RepL.up {ds : List D} {xs : List V} (h : RepL K H ds xs) (e : Ex H H') : RepL K H' ds xs := RepL.mono e ds xs h
theorem RepL.nil : RepL K H [] [] := by simp only [RepL]
theorem RepL.cons {d : D} {ds : List D} {x : V} {xs : List V} (h : Rep K H d x) (r : RepL K H ds xs) : RepL K H (d :: ds) (x :: xs) := by
  simp only [RepL]; exact ⟨x, xs, rfl, h, r⟩
theorem RepL.of_nil {xs : List V} (h : RepL K H [] xs) : xs = [] := by simpa only [RepL] using h
theorem RepL.of_cons {d : D} {ds : List D} {xs : List V} (h : RepL K H (d :: ds) xs) : ∃ x r, xs = x :: r ∧ Rep K H d x ∧ RepL K H ds r := by simpa only [RepL] using h
theorem RepL.len : ∀ {ds : List D} {xs : List V}, RepL K H ds xs → xs.length = ds.length
  | [], xs, h => by rw [h.of_nil]; rfl
  | d :: ds, xs, h => by
    obtain ⟨x, r, rfl, _, h2⟩ := h.of_cons
    rw [List.length_cons, List.length_cons, RepL.len h2]
theorem RepL.append : ∀ {ds es : List D} {xs ys : List V}, RepL K H ds xs → RepL K H es ys → RepL K H (ds ++ es) (xs ++ ys)
  | [], _, xs, _, h, g => by rw [h.of_nil]; exact g
  | d :: ds, _, xs, _, h, g => by
    obtain ⟨x, r, rfl, h1, h2⟩ := h.of_cons
    exact .cons h1 (RepL.append h2 g)
theorem RepL.get : ∀ {ds : List D} {xs : List V} {i : Nat} {d : D}, RepL K H ds xs → ds[i]? = some d → ∃ x, xs[i]? = some x ∧ Rep K H d x
  | [], _, _, _, _, e => by simp at e
  | d :: ds, xs, 0, d', h, e => by
    obtain ⟨x, r, rfl, h1, _⟩ := h.of_cons
    simp at e; subst e
    exact ⟨x, rfl, h1⟩
  | d :: ds, xs, i + 1, d', h, e => by
    obtain ⟨x, r, rfl, _, h2⟩ := h.of_cons
    obtain ⟨y, e1, e2⟩ := RepL.get (i := i) h2 (by simpa using e)
    exact ⟨y, by simpa using e1, e2⟩
theorem RepL.getV : ∀ {ds : List D} {xs : List V} {i : Nat} {x : V}, RepL K H ds xs → xs[i]? = some x → ∃ d, ds[i]? = some d ∧ Rep K H d x
  | [], xs, _, _, h, e => by rw [h.of_nil] at e; simp at e
  | d :: ds, xs, 0, x', h, e => by
    obtain ⟨x, r, rfl, h1, _⟩ := h.of_cons
    simp at e; subst e
    exact ⟨d, rfl, h1⟩
  | d :: ds, xs, i + 1, x', h, e => by
    obtain ⟨x, r, rfl, _, h2⟩ := h.of_cons
    obtain ⟨y, e1, e2⟩ := RepL.getV (i := i) h2 (by simpa using e)
    exact ⟨y, by simpa using e1, e2⟩
theorem RepL.drop : ∀ {ds : List D} {xs : List V} (n : Nat), RepL K H ds xs → RepL K H (ds.drop n) (xs.drop n)
  | _, _, 0, h => h
  | [], xs, n + 1, h => by rw [h.of_nil]; exact .nil
  | d :: ds, xs, n + 1, h => by
    obtain ⟨x, r, rfl, _, h2⟩ := h.of_cons
    exact RepL.drop n h2
theorem RepL.take : ∀ {ds : List D} {xs : List V} (n : Nat), RepL K H ds xs → RepL K H (ds.take n) (xs.take n)
  | _, _, 0, h => by rw [List.take_zero, List.take_zero]; exact .nil
  | [], xs, n + 1, h => by rw [h.of_nil]; exact .nil
  | d :: ds, xs, n + 1, h => by
    obtain ⟨x, r, rfl, h1, h2⟩ := h.of_cons
    exact .cons h1 (RepL.take n h2)
theorem RepL.set : ∀ {ds : List D} {xs : List V} (n : Nat) {d : D} {x : V}, RepL K H ds xs → Rep K H d x → RepL K H (ds.set n d) (xs.set n x)
  | [], xs, n, _, _, h, _ => by rw [h.of_nil]; exact .nil
  | d :: ds, xs, 0, _, _, h, g => by
    obtain ⟨x, r, rfl, _, h2⟩ := h.of_cons
    exact .cons g h2
  | d :: ds, xs, n + 1, _, _, h, g => by
    obtain ⟨x, r, rfl, h1, h2⟩ := h.of_cons
    exact .cons h1 (RepL.set n h2 g)
theorem RepL.reverse : ∀ {ds : List D} {xs : List V}, RepL K H ds xs → RepL K H ds.reverse xs.reverse
  | [], xs, h => by rw [h.of_nil]; exact .nil
  | d :: ds, xs, h => by
    obtain ⟨x, r, rfl, h1, h2⟩ := h.of_cons
    rw [List.reverse_cons, List.reverse_cons]
    exact RepL.append (RepL.reverse h2) (.cons h1 .nil)
theorem RepL.ints : ∀ {ns : List Int} {xs : List V}, RepL K H (ns.map D.int) xs → xs = ns.map V.int
  | [], xs, h => h.of_nil
  | n :: ns, xs, h => by
    obtain ⟨x, r, rfl, h1, h2⟩ := h.of_cons
    simp only [Rep] at h1
    rw [List.map_cons, h1, RepL.ints h2]
theorem RepL.of_ints : ∀ (ns : List Int), RepL K H (ns.map D.int) (ns.map V.int)
  | [] => .nil
  | n :: ns => .cons (by simp only [Rep]) (RepL.of_ints ns)
end

/-- what an object of one's own bears -/
def Cell (K : PySem.W.Frag) (H : Hp) (o : HO) : D → Prop
  | .lst ds => ∃ xs, o = .lst xs ∧ RepL K H ds xs
  | .dK ks ds => ∃ xs, o = .dK (ks.zip xs) ∧ ks.length = ds.length ∧ RepL K H ds xs
  | .dT ks ds => ∃ xs, o = .dT (ks.zip xs) ∧ ks.length = ds.length ∧ RepL K H ds xs
  | _ => False
theorem Cell.up {K : PySem.W.Frag} {H H' : Hp} {o : HO} {d : D} (h : Cell K H o d) (e : Ex H H') : Cell K H' o d := by
  cases d <;> try exact h
  · obtain ⟨xs, e1, r⟩ := h; exact ⟨xs, e1, r.up e⟩
  · obtain ⟨xs, e1, l, r⟩ := h; exact ⟨xs, e1, l, r.up e⟩
  · obtain ⟨xs, e1, l, r⟩ := h; exact ⟨xs, e1, l, r.up e⟩
theorem Cell.rep {K : PySem.W.Frag} {H0 H : Hp} {o : HO} {d : D} {p : Addr} (h : Cell K H0 o d) (e : Ex H0 H) (hp : H p = some o) : Rep K H d (.ref p) := by
  cases d <;> try exact h.elim
  · obtain ⟨xs, e1, r⟩ := h; subst e1; simp only [Rep]; exact ⟨p, xs, rfl, r.up e, hp⟩
  · obtain ⟨xs, e1, l, r⟩ := h; subst e1; simp only [Rep]; exact ⟨p, xs, rfl, r.up e, l, .inl hp⟩
  · obtain ⟨xs, e1, l, r⟩ := h; subst e1; simp only [Rep]; exact ⟨p, xs, rfl, r.up e, l, .inl hp⟩

/-- how a slot is held: frozen, one's own, the caller's by reference -/
inductive Md where
  | sh | ow | rf
  deriving DecidableEq
abbrev Sl := Md × D
abbrev S := List (Option Sl)

/-- what stood at the entry: the heap, what is not touched, what is frozen, the object by reference -/
structure Bs where
  hE : Hp
  hb : Hp
  h0 : Hp
  rp : Addr

structure OwnSl (K : PySem.W.Frag) (B : Bs) (H0 H : Hp) (m : Md) (p : Addr) (d : D) : Prop where
  z : H0 p = none
  b : B.hb p = none
  ow : m = .ow → B.hE p = none
  rf : m = .rf → p = B.rp
  ob : ∃ o, H p = some o ∧ Cell K H0 o d

/-- new since the entry, or a tuple that stood there -/
def Nw (G : Hp) (b : Addr) (o : HO) : Prop := G b = none ∨ ∃ xs, o = .tup xs ∧ G b = some (.tup xs)
structure Rel (K : PySem.W.Frag) (B : Bs) (s : S) (σ : St) (H0 H : Hp) : Prop where
  tp : ∀ b xs, H b = some (.tup xs) → Nw B.hE b (.tup xs)
  fr : Ex B.hb H
  dom : ∀ b, H b = none → B.hE b = none
  z0 : Ex B.h0 H0
  h0 : Ex H0 H
  new : ∀ b o, H0 b = some o → B.h0 b = some o ∨ Nw B.hE b o
  len : s.length = σ.length
  sh : ∀ (i : Nat) d, s[i]? = some (some (.sh, d)) → ∃ v, σ[i]? = some (some v) ∧ Rep K H0 d v
  ow : ∀ (i : Nat) m d, s[i]? = some (some (m, d)) → m ≠ .sh → ∃ p, σ[i]? = some (some (.ref p)) ∧ OwnSl K B H0 H m p d
  ne : ∀ (i j : Nat) m n d e p, s[i]? = some (some (m, d)) → m ≠ .sh → s[j]? = some (some (n, e)) → n ≠ .sh → σ[i]? = some (some (.ref p)) → σ[j]? = some (some (.ref p)) → i = j

/-- a new object of one's own that stands in no slot -/
structure OwnAt (K : PySem.W.Frag) (B : Bs) (s : S) (σ : St) (H0 H : Hp) (p : Addr) (d : D) : Prop where
  z : H0 p = none
  e : B.hE p = none
  b : B.hb p = none
  ob : ∃ o, H p = some o ∧ Cell K H0 o d
  ne : ∀ (i : Nat) m e, s[i]? = some (some (m, e)) → m ≠ .sh → σ[i]? ≠ some (some (.ref p))

section
variable {K : PySem.W.Frag} {B : Bs} {s : S} {σ : St} {H0 H : Hp} {p : Addr} {o : HO} {d : D} {v : V} {i : Nat}
theorem Rel.fresh0 (R : Rel K B s σ H0 H) (hp : H p = none) : H0 p = none := R.h0.back hp
theorem OwnSl.up {m : Md} {H1 H' : Hp} (w : OwnSl K B H0 H m p d) (e0 : Ex H0 H1) (hz : H1 p = none) (e : H' p = H p) : OwnSl K B H1 H' m p d := by
  obtain ⟨o, ho, hc⟩ := w.ob
  exact ⟨hz, w.b, w.ow, w.rf, o, e.trans ho, hc.up e0⟩
theorem Rel.tpNew (R : Rel K B s σ H0 H) (hp : H p = none) : ∀ b xs, upd H p o b = some (.tup xs) → Nw B.hE b (.tup xs) := fun b xs h => by
  by_cases q : b = p
  · subst q; exact .inl (R.dom _ hp)
  · rw [upd_ne q] at h; exact R.tp b xs h
theorem Cell.noTup {xs : List V} (h : Cell K H0 (.tup xs) d) : False := by
  cases d <;> first | exact h | (obtain ⟨_, e, _⟩ := h; cases e)
theorem Rel.tpCell {o' : HO} {d' : D} (R : Rel K B s σ H0 H) (hc : Cell K H0 o' d') : ∀ b xs, upd H p o' b = some (.tup xs) → Nw B.hE b (.tup xs) := fun b xs h => by
  by_cases q : b = p
  · subst q; rw [upd_same] at h; cases h; exact hc.noTup.elim
  · rw [upd_ne q] at h; exact R.tp b xs h
/-- a new object, frozen at once -/
theorem Rel.laid (R : Rel K B s σ H0 H) (hp : H p = none) : Rel K B s σ (upd H0 p o) (upd H p o) := by
  have z := R.fresh0 hp
  refine ⟨R.tpNew hp, fun a u h => Ex.new hp a u (R.fr a u h), fun b h => ?_, R.z0.trans (Ex.new z), R.h0.both, fun b u h => ?_, R.len, fun i d h => ?_, fun i m d h hm => ?_, R.ne⟩
  · by_cases q : b = p
    · subst q; rw [upd_same] at h; cases h
    · rw [upd_ne q] at h; exact R.dom b h
  · by_cases q : b = p
    · subst q; exact .inr (.inl (R.dom _ hp))
    · rw [upd_ne q] at h; exact R.new b u h
  · obtain ⟨v, e1, r⟩ := R.sh i d h
    exact ⟨v, e1, r.up (Ex.new z)⟩
  · obtain ⟨q, e1, w⟩ := R.ow i m d h hm
    obtain ⟨oq, hq, _⟩ := w.ob
    have ne : q ≠ p := ne_of_none hq hp
    exact ⟨q, e1, w.up (Ex.new z) (by rw [upd_ne ne]; exact w.z) (upd_ne ne)⟩
/-- a new object of one's own -/
theorem Rel.laidO (R : Rel K B s σ H0 H) (hp : H p = none) : Rel K B s σ H0 (upd H p o) := by
  refine ⟨R.tpNew hp, fun a u h => Ex.new hp a u (R.fr a u h), fun b h => ?_, R.z0, R.h0.trans (Ex.new hp), R.new, R.len, R.sh, fun i m d h hm => ?_, R.ne⟩
  · by_cases q : b = p
    · subst q; rw [upd_same] at h; cases h
    · rw [upd_ne q] at h; exact R.dom b h
  · obtain ⟨q, e1, w⟩ := R.ow i m d h hm
    obtain ⟨oq, hq, _⟩ := w.ob
    exact ⟨q, e1, w.up (Ex.refl _) w.z (upd_ne (ne_of_none hq hp))⟩
theorem Rel.ownNew (R : Rel K B s σ H0 H) (hp : H p = none) (hc : Cell K H0 o d) : OwnAt K B s σ H0 (upd H p o) p d :=
  ⟨R.fresh0 hp, R.dom _ hp, R.fr.back hp, ⟨o, upd_same, hc⟩, fun i m e h hm z => by
    obtain ⟨q, e1, w⟩ := R.ow i m e h hm
    rw [e1] at z; cases z
    obtain ⟨oq, hq, _⟩ := w.ob
    rw [hp] at hq; cases hq⟩
/-- one's own object is frozen -/
theorem Rel.freeze (R : Rel K B s σ H0 H) (w : OwnAt K B s σ H0 H p d) : ∃ H1, Rel K B s σ H1 H ∧ Ex H0 H1 ∧ Rep K H1 d (.ref p) := by
  obtain ⟨o, ho, hc⟩ := w.ob
  refine ⟨upd H0 p o, ⟨R.tp, R.fr, R.dom, R.z0.trans (Ex.new w.z), fun a u h => ?_, fun b u h => ?_, R.len, fun i d h => ?_, fun i m d h hm => ?_, R.ne⟩, Ex.new w.z, hc.rep (Ex.new w.z) upd_same⟩
  · by_cases q : a = p
    · subst q; rw [upd_same] at h; cases h; exact ho
    · rw [upd_ne q] at h; exact R.h0 a u h
  · by_cases q : b = p
    · subst q; exact .inr (.inl w.e)
    · rw [upd_ne q] at h; exact R.new b u h
  · obtain ⟨v, e1, r⟩ := R.sh i d h
    exact ⟨v, e1, r.up (Ex.new w.z)⟩
  · obtain ⟨q, e1, y⟩ := R.ow i m d h hm
    have ne : q ≠ p := fun z => w.ne i m d h hm (by rw [e1, z])
    exact ⟨q, e1, y.up (Ex.new w.z) (by rw [upd_ne ne]; exact y.z) rfl⟩
theorem set_get {α : Type} {l : List α} {i j : Nat} {x y : α} (h : (l.set i x)[j]? = some y) : (j = i ∧ y = x) ∨ (j ≠ i ∧ l[j]? = some y) := by
  by_cases q : j = i
  · subst q
    rw [List.getElem?_set] at h
    split at h
    · split at h
      · exact .inl ⟨rfl, (Option.some.inj h).symm⟩
      · cases h
    · exact absurd rfl (by assumption)
  · rw [List.getElem?_set_ne (Ne.symm q)] at h
    exact .inr ⟨q, h⟩
theorem set_at {α : Type} {l : List α} {i : Nat} {x : α} {y : α} (h : l[i]? = some y) : (l.set i x)[i]? = some x :=
  List.getElem?_set_self (List.getElem?_eq_some_iff.mp h).1
theorem lt_of_len {α β : Type} {l : List α} {r : List β} (e : l.length = r.length) {i : Nat} {x : α} {y : α} (h : (l.set i x)[i]? = some y) : i < r.length := by
  have := (List.getElem?_eq_some_iff.mp h).1
  rw [List.length_set] at this
  omega
theorem set_self {α β : Type} {l : List α} {r : List β} (e : l.length = r.length) {i : Nat} {x y : α} {z : β} (h : (l.set i x)[i]? = some y) : (r.set i z)[i]? = some z :=
  List.getElem?_set_self (lt_of_len e h)
/-- a slot takes frozen data -/
theorem Rel.set (R : Rel K B s σ H0 H) (r : Rep K H0 d v) : Rel K B (s.set i (some (.sh, d))) (σ.set i (some v)) H0 H := by
  refine ⟨R.tp, R.fr, R.dom, R.z0, R.h0, R.new, by simp [R.len], fun j e h => ?_, fun j m e h hm => ?_, fun j k m n e f q h1 hm h2 hn e1 e2 => ?_⟩
  · rcases set_get h with ⟨rfl, q⟩ | ⟨q, h'⟩
    · cases q; exact ⟨v, set_self R.len h, r⟩
    · obtain ⟨u, e1, r1⟩ := R.sh j e h'
      exact ⟨u, by rw [List.getElem?_set_ne (Ne.symm q)]; exact e1, r1⟩
  · rcases set_get h with ⟨rfl, q⟩ | ⟨q, h'⟩
    · cases q; exact absurd rfl hm
    · obtain ⟨u, e1, r1⟩ := R.ow j m e h' hm
      exact ⟨u, by rw [List.getElem?_set_ne (Ne.symm q)]; exact e1, r1⟩
  · rcases set_get h1 with ⟨rfl, q⟩ | ⟨q1, h1⟩
    · cases q; exact absurd rfl hm
    rcases set_get h2 with ⟨rfl, q⟩ | ⟨q2, h2⟩
    · cases q; exact absurd rfl hn
    rw [List.getElem?_set_ne (Ne.symm q1)] at e1
    rw [List.getElem?_set_ne (Ne.symm q2)] at e2
    exact R.ne j k m n e f q h1 hm h2 hn e1 e2
/-- a slot takes an object of one's own -/
theorem Rel.setO (R : Rel K B s σ H0 H) (w : OwnAt K B s σ H0 H p d) : Rel K B (s.set i (some (.ow, d))) (σ.set i (some (.ref p))) H0 H := by
  refine ⟨R.tp, R.fr, R.dom, R.z0, R.h0, R.new, by simp [R.len], fun j e h => ?_, fun j m e h hm => ?_, fun j k m n e f q h1 hm h2 hn e1 e2 => ?_⟩
  · rcases set_get h with ⟨rfl, q⟩ | ⟨q, h'⟩
    · cases q
    · obtain ⟨u, e1, r1⟩ := R.sh j e h'
      exact ⟨u, by rw [List.getElem?_set_ne (Ne.symm q)]; exact e1, r1⟩
  · rcases set_get h with ⟨rfl, q⟩ | ⟨q, h'⟩
    · cases q; exact ⟨p, set_self R.len h, w.z, w.b, fun _ => w.e, fun z => (nomatch z), w.ob⟩
    · obtain ⟨u, e1, r1⟩ := R.ow j m e h' hm
      exact ⟨u, by rw [List.getElem?_set_ne (Ne.symm q)]; exact e1, r1⟩
  · rcases set_get h1 with ⟨z1, g1⟩ | ⟨q1, h1'⟩
    · rcases set_get h2 with ⟨z2, g2⟩ | ⟨q2, h2'⟩
      · rw [z1, z2]
      · subst z1
        rw [set_self R.len h1] at e1; cases e1
        rw [List.getElem?_set_ne (Ne.symm q2)] at e2
        exact absurd e2 (w.ne k n f h2' hn)
    · rcases set_get h2 with ⟨z2, g2⟩ | ⟨q2, h2'⟩
      · subst z2
        rw [set_self R.len h2] at e2; cases e2
        rw [List.getElem?_set_ne (Ne.symm q1)] at e1
        exact absurd e1 (w.ne j m e h1' hm)
      · rw [List.getElem?_set_ne (Ne.symm q1)] at e1
        rw [List.getElem?_set_ne (Ne.symm q2)] at e2
        exact R.ne j k m n e f q h1' hm h2' hn e1 e2
/-- one's own slot is frozen -/
theorem Rel.freezeSl (R : Rel K B s σ H0 H) (h : s[i]? = some (some (.ow, d))) : ∃ H1 p, σ[i]? = some (some (.ref p)) ∧ Rel K B (s.set i (some (.sh, d))) σ H1 H ∧ Ex H0 H1 ∧ Rep K H1 d (.ref p) := by
  obtain ⟨p, e1, w⟩ := R.ow i .ow d h (by decide)
  have R' : Rel K B (s.set i none) σ H0 H := by
    refine ⟨R.tp, R.fr, R.dom, R.z0, R.h0, R.new, by simp [R.len], fun j e h => ?_, fun j m e h hm => ?_, fun j k m n e f q h1 hm h2 hn e1 e2 => ?_⟩
    · rcases set_get h with ⟨rfl, q⟩ | ⟨q, h'⟩
      · cases q
      · exact R.sh j e h'
    · rcases set_get h with ⟨rfl, q⟩ | ⟨q, h'⟩
      · cases q
      · exact R.ow j m e h' hm
    · rcases set_get h1 with ⟨rfl, q⟩ | ⟨q1, h1⟩
      · cases q
      rcases set_get h2 with ⟨rfl, q⟩ | ⟨q2, h2⟩
      · cases q
      exact R.ne j k m n e f q h1 hm h2 hn e1 e2
  have w' : OwnAt K B (s.set i none) σ H0 H p d := ⟨w.z, w.ow rfl, w.b, w.ob, fun j m e hj hm z => by
    rcases set_get hj with ⟨rfl, q⟩ | ⟨q, h'⟩
    · cases q
    · exact q (R.ne j i m .ow e d p h' hm h (by decide) z e1)⟩
  obtain ⟨H1, R1, ex, r⟩ := R'.freeze w'
  refine ⟨H1, p, e1, ?_, ex, r⟩
  have R2 := R1.set (i := i) r
  have es : σ.set i (some (.ref p)) = σ := by
    obtain ⟨hi, e⟩ := List.getElem?_eq_some_iff.mp e1
    rw [← e, List.set_getElem_self]
  rw [es, List.set_set] at R2
  exact R2
/-- an object of a slot is changed -/
theorem Rel.mut {m : Md} {d' : D} {o' : HO} (R : Rel K B s σ H0 H) (h : s[i]? = some (some (m, d))) (hm : m ≠ .sh) (e1 : σ[i]? = some (some (.ref p))) (hc : Cell K H0 o' d') : Rel K B (s.set i (some (m, d'))) σ H0 (upd H p o') := by
  obtain ⟨p', e1', w⟩ := R.ow i m d h hm
  rw [e1] at e1'; cases e1'
  refine ⟨R.tpCell hc, fun a u q => ?_, fun b q => ?_, R.z0, fun a u q => ?_, R.new, by simp [R.len], fun j e q => ?_, fun j n e q hn => ?_, fun j k m1 n1 e f q h1 hm1 h2 hn1 g1 g2 => ?_⟩
  · have ne : a ≠ p := fun z => by rw [z, w.b] at q; cases q
    rw [upd_ne ne]; exact R.fr a u q
  · by_cases z : b = p
    · subst z; rw [upd_same] at q; cases q
    · rw [upd_ne z] at q; exact R.dom b q
  · have ne : a ≠ p := fun z => by rw [z, w.z] at q; cases q
    rw [upd_ne ne]; exact R.h0 a u q
  · rcases set_get q with ⟨rfl, z⟩ | ⟨z, q'⟩
    · cases z; exact absurd rfl hm
    · exact R.sh j e q'
  · rcases set_get q with ⟨rfl, z⟩ | ⟨z, q'⟩
    · cases z; exact ⟨p, e1, w.z, w.b, w.ow, w.rf, o', upd_same, hc⟩
    · obtain ⟨a, g1, y⟩ := R.ow j n e q' hn
      have ne : a ≠ p := fun zz => z (R.ne j i n m e d p q' hn h hm (by rw [g1, zz]) e1)
      exact ⟨a, g1, y.up (Ex.refl _) y.z (upd_ne ne)⟩
  · have g : ∀ {l : Nat} {mm : Md} {x : D}, (s.set i (some (m, d')))[l]? = some (some (mm, x)) → ∃ y, s[l]? = some (some (mm, y)) := fun {l mm x} hh => by
      rcases set_get hh with ⟨rfl, z⟩ | ⟨_, hh'⟩
      · cases z; exact ⟨d, h⟩
      · exact ⟨x, hh'⟩
    obtain ⟨y1, h1'⟩ := g h1
    obtain ⟨y2, h2'⟩ := g h2
    exact R.ne j k m1 n1 y1 y2 q h1' hm1 h2' hn1 g1 g2
end
end Px

set_option Elab.async false
set_option linter.all false
set_option maxRecDepth 100000
set_option maxHeartbeats 1000000
/-! Px2: expressions: the readings that abstract functions induce (tF, tO, tP, tT, tA) and the rules for names, constants, operators, comparisons, tests, displays, subscripts -/
namespace Px
open PySem L2
abbrev F := S → Option (D × S)
abbrev TB := S → Option (Bool × S)
abbrev FA := S → Option (List D × S)
/-- what is looked at and not kept: data, or the object of a slot -/
inductive PR where
  | dat (d : D) | slot (i : Nat)
@[simp] def PR.get : PR → S → Option D
  | .dat d, _ => some d
  | .slot i, s => match s[i]? with | some (some (_, d)) => some d | _ => none
abbrev FP := S → Option (PR × S)

section
variable (K : PySem.W.Frag) (B : Bs)
def PRep (σ : St) (H0 : Hp) (r : PR) (v : V) : Prop := match r with | .dat d => Rep K H0 d v | .slot i => σ[i]? = some (some v)
def tF (f : F) : TE := fun σ H Q => ∃ s H0 r s', Rel K B s σ H0 H ∧ f s = some (r, s') ∧ ∀ v H1 H', Rel K B s' σ H1 H' → Ex H0 H1 → Rep K H1 r v → Q v H'
def tO (f : F) : TE := fun σ H Q => ∃ s H0 r s', Rel K B s σ H0 H ∧ f s = some (r, s') ∧ ∀ p H1 H', Rel K B s' σ H1 H' → Ex H0 H1 → OwnAt K B s' σ H1 H' p r → Q (.ref p) H'
def tP (f : FP) : TE := fun σ H Q => ∃ s H0 r s', Rel K B s σ H0 H ∧ f s = some (r, s') ∧ ∀ v H1 H', Rel K B s' σ H1 H' → Ex H0 H1 → PRep K σ H1 r v → Q v H'
def tT (f : TB) : TT := fun σ H Q => ∃ s H0 r s', Rel K B s σ H0 H ∧ f s = some (r, s') ∧ ∀ H1 H', Rel K B s' σ H1 H' → Ex H0 H1 → Q r H'
def tA (f : FA) : TA := fun σ H Q => ∃ s H0 r s', Rel K B s σ H0 H ∧ f s = some (r, s') ∧ ∀ vs H1 H', Rel K B s' σ H1 H' → Ex H0 H1 → RepL K H1 r vs → Q vs H'
end
theorem _root_.L2.PE.pxw {X : Cx} {e : Expr} {t t' : TE} (h : PE X e t) (w : ∀ σ H Q, t' σ H Q → t σ H Q) : PE X e t' := ⟨fun pins s σ H Q I q => h.run pins s σ H Q I (w σ H Q q)⟩
theorem _root_.L2.PT.pxw {X : Cx} {e : Expr} {t t' : TT} (h : PT X e t) (w : ∀ σ H Q, t' σ H Q → t σ H Q) : PT X e t' := ⟨fun pins s σ H Q I q => h.run pins s σ H Q I (w σ H Q q)⟩
theorem _root_.L2.PW.pxw {X : Cx} {e : Expr} {t t' : TT} (h : PW X e t) (w : ∀ σ H Q, t' σ H Q → t σ H Q) : PW X e t' := ⟨fun wh pins s σ H Q I q => h.run wh pins s σ H Q I (w σ H Q q)⟩
theorem _root_.L2.PA.pxw {X : Cx} {e : List Expr} {t t' : TA} (h : PA X e t) (w : ∀ σ H Q, t' σ H Q → t σ H Q) : PA X e t' := ⟨fun pos pins s σ H Q I q => h.run pos pins s σ H Q I (w σ H Q q)⟩
theorem _root_.L2.PS.pxw {X : Cx} {e : Stmt} {t t' : TS} (h : PS X e t) (w : ∀ D σ H, t' D σ H → t D σ H) : PS X e t' := ⟨fun pins s σ H D I q => h.run pins s σ H D I (w D σ H q)⟩
theorem _root_.L2.PSs.pxw {X : Cx} {e : List Stmt} {t t' : TS} (h : PSs X e t) (w : ∀ D σ H, t' D σ H → t D σ H) : PSs X e t' := ⟨fun pins s σ H D I q => h.run pins s σ H D I (w D σ H q)⟩
theorem _root_.L2.PG.pxw {X : Cx} {e : Expr} {t t' : TG} (h : PG X e t) (w : ∀ v σ H Q, t' v σ H Q → t v σ H Q) : PG X e t' := ⟨fun pins s σ H v u Q I r q => h.run pins s σ H v u Q I r (w v σ H Q q)⟩
theorem _root_.L2.PGs.pxw {X : Cx} {e : List Expr} {t t' : TGs} (h : PGs X e t) (w : ∀ v σ H Q, t' v σ H Q → t v σ H Q) : PGs X e t' := ⟨fun pins s σ H v u Q I r q => h.run pins s σ H v u Q I r (w v σ H Q q)⟩
theorem _root_.L2.PI.pxw {X : Cx} {tg e : Expr} {t t' : TI} (h : PI X tg e t) (w : ∀ σ H R, t' σ H R → t σ H R) : PI X tg e t' := ⟨fun pins s σ H R I q => h.run pins s σ H R I (w σ H R q)⟩

theorem bnd {α β : Type} {o : Option α} {f : α → Option β} {b : β} (h : o.bind f = some b) : ∃ a, o = some a ∧ f a = some b := Option.bind_eq_some_iff.mp h

/-! ### names, constants -/
@[simp] def eVar (i : Nat) : F := fun s => match s[i]? with
  | some (some (.sh, d)) => some (d, s)
  | some (some (.ow, d)) => some (d, s.set i (some (.sh, d)))
  | _ => none
@[simp] def pVar (i : Nat) : FP := fun s => match s[i]? with
  | some (some (.sh, d)) => some (.dat d, s)
  | some (some (_, _)) => some (.slot i, s)
  | _ => none
@[simp] def pE (f : F) : FP := fun s => (f s).bind fun a => some (.dat a.1, a.2)
@[simp] def eC (d : D) : F := fun s => some (d, s)

section
variable {X : Cx} {B : Bs} {a b c e : Expr} {pos : Pos} {fa fb fc f : F} {pa pb : FP}
theorem ie_var (i : Nat) {x : Str} (h : PE X (.Name x pos) (tVar i)) : PE X (.Name x pos) (tF X.K B (eVar i)) := h.pxw fun σ H Q q => by
  obtain ⟨s, H0, r, s', R, e, k⟩ := q
  unfold eVar at e
  split at e
  · next d hd =>
    cases e
    obtain ⟨v, ev, hr⟩ := R.sh i _ hd
    exact ⟨v, ev, k v H0 H R (Ex.refl _) hr⟩
  · next d hd =>
    cases e
    obtain ⟨H1, p, ev, R1, ex, hr⟩ := R.freezeSl hd
    exact ⟨_, ev, k _ H1 H R1 ex hr⟩
  · cases e
theorem ip_var (i : Nat) {x : Str} (h : PE X (.Name x pos) (tVar i)) : PE X (.Name x pos) (tP X.K B (pVar i)) := h.pxw fun σ H Q q => by
  obtain ⟨s, H0, r, s', R, e, k⟩ := q
  unfold pVar at e
  split at e
  · next d hd =>
    cases e
    obtain ⟨v, ev, hr⟩ := R.sh i _ hd
    exact ⟨v, ev, k v H0 H R (Ex.refl _) hr⟩
  · next m d hm hd =>
    cases e
    obtain ⟨p, ev, w⟩ := R.ow i m d hd hm
    exact ⟨_, ev, k _ H0 H R (Ex.refl _) ev⟩
  · cases e
theorem ip_of (h : PE X e (tF X.K B f)) : PE X e (tP X.K B (pE f)) := h.pxw fun σ H Q q => by
  obtain ⟨s, H0, r, s', R, e, k⟩ := q
  obtain ⟨a, e1, e2⟩ := bnd e
  cases e2
  exact ⟨s, H0, a.1, a.2, R, e1, fun v H1 H' R1 ex r => k v H1 H' R1 ex r⟩
theorem ie_own (h : PE X e (tO X.K B f)) : PE X e (tF X.K B f) := h.pxw fun σ H Q q => by
  obtain ⟨s, H0, r, s', R, e, k⟩ := q
  refine ⟨s, H0, r, s', R, e, fun p H1 H' R1 ex w => ?_⟩
  obtain ⟨H2, R2, ex2, r2⟩ := R1.freeze w
  exact k _ H2 H' R2 (ex.trans ex2) r2
theorem ie_c {v : V} {d : D} (h : PE X e (tC v)) (r : ∀ H0, Rep X.K H0 d v) : PE X e (tF X.K B (eC d)) := h.pxw fun σ H Q q => by
  obtain ⟨s, H0, r', s', R, e, k⟩ := q
  cases e
  exact k v H0 H R (Ex.refl _) (r H0)
theorem ie_int {i j} : PE X (.Constant (.int i) j pos) (tF X.K B (eC (.int i))) := ie_c pe_int fun _ => by simp only [Rep]
theorem ie_str {x j} : PE X (.Constant (.str x) j pos) (tF X.K B (eC (.str x))) := ie_c pe_str fun _ => by simp only [Rep]
theorem ie_bl {x j} : PE X (.Constant (.bool x) j pos) (tF X.K B (eC (.bl x))) := ie_c pe_bl fun _ => by simp only [Rep]
theorem ie_non {j} : PE X (.Constant .none j pos) (tF X.K B (eC .non)) := ie_c pe_non fun _ => by simp only [Rep]

/-! ### what a peeked value is -/
theorem get_slot {i : Nat} {s : S} {d : D} (g : (PR.slot i).get s = some d) : ∃ m, s[i]? = some (some (m, d)) := by
  simp only [PR.get] at g
  split at g
  · next m d' hd => cases g; exact ⟨m, hd⟩
  · cases g
/-- a peeked value is frozen, or an object of a slot -/
theorem PRep.cases {s : S} {σ : St} {H0 H : Hp} {r : PR} {v : V} {d : D} {K : PySem.W.Frag} (R : Rel K B s σ H0 H) (p : PRep K σ H0 r v) (g : r.get s = some d) :
    Rep K H0 d v ∨ ∃ q o, v = .ref q ∧ H q = some o ∧ Cell K H0 o d := by
  cases r with
  | dat d' => cases g; exact .inl p
  | slot i =>
    obtain ⟨m, hd⟩ := get_slot g
    have p' : σ[i]? = some (some v) := p
    by_cases hm : m = .sh
    · subst hm
      obtain ⟨u, eu, ru⟩ := R.sh i d hd
      rw [p'] at eu; cases eu
      exact .inl ru
    · obtain ⟨q, eu, w⟩ := R.ow i m d hd hm
      rw [p'] at eu; cases eu
      obtain ⟨o, ho, hc⟩ := w.ob
      exact .inr ⟨q, o, rfl, ho, hc⟩
theorem PRep.rep {s : S} {σ : St} {H0 H : Hp} {r : PR} {v : V} {d : D} {K : PySem.W.Frag} (R : Rel K B s σ H0 H) (p : PRep K σ H0 r v) (g : r.get s = some d) : Rep K H d v := by
  rcases p.cases R g with h | ⟨q, o, rfl, ho, hc⟩
  · exact h.up R.h0
  · exact hc.rep R.h0 ho
/-- .. a list: its items are frozen -/
theorem PRep.lst {s : S} {σ : St} {H0 H : Hp} {r : PR} {v : V} {ds : List D} {K : PySem.W.Frag} (R : Rel K B s σ H0 H) (p : PRep K σ H0 r v) (g : r.get s = some (.lst ds)) : ∃ a xs, v = .ref a ∧ RepL K H0 ds xs ∧ H a = some (.lst xs) := by
  rcases p.cases R g with h | ⟨q, o, rfl, ho, hc⟩
  · simp only [Rep] at h
    obtain ⟨a, xs, e1, h1, h2⟩ := h
    exact ⟨a, xs, e1, h1, R.h0 _ _ h2⟩
  · obtain ⟨xs, e1, hc⟩ := hc
    exact ⟨q, xs, rfl, hc, by rw [ho, e1]⟩
theorem PRep.dK {s : S} {σ : St} {H0 H : Hp} {r : PR} {v : V} {ks : List Key} {ds : List D} {K : PySem.W.Frag} (R : Rel K B s σ H0 H) (p : PRep K σ H0 r v) (g : r.get s = some (.dK ks ds)) : ∃ a xs, v = .ref a ∧ RepL K H0 ds xs ∧ ks.length = ds.length ∧ Rd H a (.dK (ks.zip xs)) := by
  rcases p.cases R g with h | ⟨q, o, rfl, ho, hc⟩
  · simp only [Rep] at h
    obtain ⟨a, xs, e1, h1, hl, h2⟩ := h
    exact ⟨a, xs, e1, h1, hl, R.h0.rd h2⟩
  · obtain ⟨xs, e1, hl, hc⟩ := hc
    exact ⟨q, xs, rfl, hc, hl, .inl (by rw [ho, e1])⟩
theorem PRep.dT {s : S} {σ : St} {H0 H : Hp} {r : PR} {v : V} {ks : List (List Key)} {ds : List D} {K : PySem.W.Frag} (R : Rel K B s σ H0 H) (p : PRep K σ H0 r v) (g : r.get s = some (.dT ks ds)) : ∃ a xs, v = .ref a ∧ RepL K H0 ds xs ∧ ks.length = ds.length ∧ Rd H a (.dT (ks.zip xs)) := by
  rcases p.cases R g with h | ⟨q, o, rfl, ho, hc⟩
  · simp only [Rep] at h
    obtain ⟨a, xs, e1, h1, hl, h2⟩ := h
    exact ⟨a, xs, e1, h1, hl, R.h0.rd h2⟩
  · obtain ⟨xs, e1, hl, hc⟩ := hc
    exact ⟨q, xs, rfl, hc, hl, .inl (by rw [ho, e1])⟩
/-- .. neither a list nor a dict: frozen data -/
theorem PRep.frozen {s : S} {σ : St} {H0 H : Hp} {r : PR} {v : V} {d : D} {K : PySem.W.Frag} (R : Rel K B s σ H0 H) (p : PRep K σ H0 r v) (g : r.get s = some d) (hd : ∀ o, ¬ Cell K H0 o d) : Rep K H0 d v := by
  rcases p.cases R g with h | ⟨q, o, rfl, ho, hc⟩
  · exact h
  · exact (hd o hc).elim
theorem PRep.up {σ : St} {H0 H1 : Hp} {r : PR} {v : V} {K : PySem.W.Frag} (p : PRep K σ H0 r v) (e : Ex H0 H1) : PRep K σ H1 r v := by
  cases r with
  | dat d => exact Rep.up p e
  | slot i => exact p

/-! ### two operands -/
/-- an operator's wants are met where g gives an answer -/
def OpD (K : PySem.W.Frag) (r : R2) (g : D → D → Option D) : Prop := ∀ (B : Bs) s σ H0 H d1 d2 d x y (Q : VK), Rel K B s σ H0 H → Rep K H0 d1 x → Rep K H0 d2 y → g d1 d2 = some d →
  (∀ v H1 H', Rel K B s σ H1 H' → Ex H0 H1 → Rep K H1 d v → Q v H') → r x y H Q
/-- .. a new object -/
def OpO (K : PySem.W.Frag) (r : R2) (g : D → D → Option D) : Prop := ∀ (B : Bs) s σ H0 H d1 d2 d x y (Q : VK), Rel K B s σ H0 H → Rep K H0 d1 x → Rep K H0 d2 y → g d1 d2 = some d →
  (∀ p H', Rel K B s σ H0 H' → OwnAt K B s σ H0 H' p d → Q (.ref p) H') → r x y H Q
/-- .. on peeked operands -/
def OpP (K : PySem.W.Frag) (r : R2) (g : D → D → Option D) : Prop := ∀ (B : Bs) s σ H0 H p1 p2 d1 d2 d x y (Q : VK), Rel K B s σ H0 H → PRep K σ H0 p1 x → PRep K σ H0 p2 y → p1.get s = some d1 → p2.get s = some d2 → g d1 d2 = some d →
  (∀ v H1 H', Rel K B s σ H1 H' → Ex H0 H1 → Rep K H1 d v → Q v H') → r x y H Q
theorem OpO.d {K : PySem.W.Frag} {r : R2} {g : D → D → Option D} (h : OpO K r g) : OpD K r g := fun B s σ H0 H d1 d2 d x y Q R r1 r2 e k =>
  h B s σ H0 H d1 d2 d x y Q R r1 r2 e fun p H' R' w => by
    obtain ⟨H1, R1, ex, rr⟩ := R'.freeze w
    exact k _ H1 H' R1 ex rr
@[simp] def eOp (g : D → D → Option D) (fa fb : F) : F := fun s => (fa s).bind fun a => (fb a.2).bind fun b => (g a.1 b.1).bind fun d => some (d, b.2)
@[simp] def eOpP (g : D → D → Option D) (pa pb : FP) : F := fun s => (pa s).bind fun a => (pb a.2).bind fun b => (a.1.get b.2).bind fun d1 => (b.1.get b.2).bind fun d2 => (g d1 d2).bind fun d => some (d, b.2)
theorem rd_op2 {K : PySem.W.Frag} {r : R2} {g : D → D → Option D} (hr : OpD K r g) {σ : St} {H : Hp} {Q : VK} (q : tF K B (eOp g fa fb) σ H Q) : tOp r (tF K B fa) (tF K B fb) σ H Q := by
  obtain ⟨s, H0, d, s', R, ev, k⟩ := q
  obtain ⟨⟨d1, s1⟩, e1, ev⟩ := bnd ev
  obtain ⟨⟨d2, s2⟩, e2, ev⟩ := bnd ev
  obtain ⟨d', e3, ev⟩ := bnd ev
  cases ev
  exact ⟨s, H0, d1, s1, R, e1, fun x H1 H' R1 x1 r1 => ⟨s1, H1, d2, s2, R1, e2, fun y H2 H'' R2 x2 r2 =>
    hr B s2 σ H2 H'' d1 d2 d x y Q R2 (r1.up x2) r2 e3 fun v H3 H3' R3 x3 r3 => k v H3 H3' R3 ((x1.trans x2).trans x3) r3⟩⟩
theorem ie_op2 {r : R2} {g : D → D → Option D} {e : Expr} (hp : ∀ {ta tb : TE}, PE X a ta → PE X b tb → PE X e (tOp r ta tb)) (hr : OpD X.K r g) (ha : PE X a (tF X.K B fa)) (hb : PE X b (tF X.K B fb)) : PE X e (tF X.K B (eOp g fa fb)) := (hp ha hb).pxw fun σ H Q q => rd_op2 hr q
theorem rd_op2O {K : PySem.W.Frag} {r : R2} {g : D → D → Option D} (hr : OpO K r g) {σ : St} {H : Hp} {Q : VK} (q : tO K B (eOp g fa fb) σ H Q) : tOp r (tF K B fa) (tF K B fb) σ H Q := by
  obtain ⟨s, H0, d, s', R, ev, k⟩ := q
  obtain ⟨⟨d1, s1⟩, e1, ev⟩ := bnd ev
  obtain ⟨⟨d2, s2⟩, e2, ev⟩ := bnd ev
  obtain ⟨d', e3, ev⟩ := bnd ev
  cases ev
  exact ⟨s, H0, d1, s1, R, e1, fun x H1 H' R1 x1 r1 => ⟨s1, H1, d2, s2, R1, e2, fun y H2 H'' R2 x2 r2 =>
    hr B s2 σ H2 H'' d1 d2 d x y Q R2 (r1.up x2) r2 e3 fun p H3' R3 w => k p H2 H3' R3 (x1.trans x2) w⟩⟩
theorem ie_op2O {r : R2} {g : D → D → Option D} {e : Expr} (hp : ∀ {ta tb : TE}, PE X a ta → PE X b tb → PE X e (tOp r ta tb)) (hr : OpO X.K r g) (ha : PE X a (tF X.K B fa)) (hb : PE X b (tF X.K B fb)) : PE X e (tO X.K B (eOp g fa fb)) := (hp ha hb).pxw fun σ H Q q => rd_op2O hr q
theorem rd_op2P {K : PySem.W.Frag} {r : R2} {g : D → D → Option D} (hr : OpP K r g) {σ : St} {H : Hp} {Q : VK} (q : tF K B (eOpP g pa pb) σ H Q) : tOp r (tP K B pa) (tP K B pb) σ H Q := by
  obtain ⟨s, H0, d, s', R, ev, k⟩ := q
  obtain ⟨⟨p1, s1⟩, e1, ev⟩ := bnd ev
  obtain ⟨⟨p2, s2⟩, e2, ev⟩ := bnd ev
  obtain ⟨d1, g1, ev⟩ := bnd ev
  obtain ⟨d2, g2, ev⟩ := bnd ev
  obtain ⟨d', e3, ev⟩ := bnd ev
  cases ev
  exact ⟨s, H0, p1, s1, R, e1, fun x H1 H' R1 x1 r1 => ⟨s1, H1, p2, s2, R1, e2, fun y H2 H'' R2 x2 r2 =>
    hr B s2 σ H2 H'' p1 p2 d1 d2 d x y Q R2 (r1.up x2) r2 g1 g2 e3 fun v H3 H3' R3 x3 r3 => k v H3 H3' R3 ((x1.trans x2).trans x3) r3⟩⟩
theorem ie_op2P {r : R2} {g : D → D → Option D} {e : Expr} (hp : ∀ {ta tb : TE}, PE X a ta → PE X b tb → PE X e (tOp r ta tb)) (hr : OpP X.K r g) (ha : PE X a (tP X.K B pa)) (hb : PE X b (tP X.K B pb)) : PE X e (tF X.K B (eOpP g pa pb)) := (hp ha hb).pxw fun σ H Q q => rd_op2P hr q
/-- an answer that is no new object -/
theorem OpD.flat {K : PySem.W.Frag} {r : R2} {g : D → D → Option D} (h : ∀ H0 d1 d2 d x y, Rep K H0 d1 x → Rep K H0 d2 y → g d1 d2 = some d → ∃ v, (∀ H1, Rep K H1 d v) ∧ ∀ H (Q : VK), Q v H → r x y H Q) : OpD K r g := fun B s σ H0 H d1 d2 d x y Q R r1 r2 e k => by
  obtain ⟨v, hv, hq⟩ := h H0 d1 d2 d x y r1 r2 e
  exact hq H Q (k v H0 H R (Ex.refl _) (hv H0))

/-! ### ints -/
@[simp] def gI (f : Int → Int → D) : D → D → Option D
  | .int i, .int j => some (f i j)
  | _, _ => none
@[simp] def gIc (c : Int → Int → Bool) (f : Int → Int → D) : D → D → Option D
  | .int i, .int j => if c i j then some (f i j) else none
  | _, _ => none
theorem rep_int {K : PySem.W.Frag} {H : Hp} {i : Int} {v : V} (h : Rep K H (.int i) v) : v = .int i := by simpa only [Rep] using h
theorem rep_str {K : PySem.W.Frag} {H : Hp} {i : Str} {v : V} (h : Rep K H (.str i) v) : v = .str i := by simpa only [Rep] using h
theorem rep_bl {K : PySem.W.Frag} {H : Hp} {i : Bool} {v : V} (h : Rep K H (.bl i) v) : v = .bl i := by simpa only [Rep] using h
theorem rep_non {K : PySem.W.Frag} {H : Hp} {v : V} (h : Rep K H .non v) : v = .non := by simpa only [Rep] using h
theorem gI_inv {f : Int → Int → D} {d1 d2 d : D} (h : gI f d1 d2 = some d) : ∃ i j, d1 = .int i ∧ d2 = .int j ∧ d = f i j := by
  unfold gI at h
  split at h
  · cases h; exact ⟨_, _, rfl, rfl, rfl⟩
  · cases h
theorem gIc_inv {c : Int → Int → Bool} {f : Int → Int → D} {d1 d2 d : D} (h : gIc c f d1 d2 = some d) : ∃ i j, d1 = .int i ∧ d2 = .int j ∧ d = f i j ∧ c i j = true := by
  unfold gIc at h
  split at h
  · split at h
    · cases h; exact ⟨_, _, rfl, rfl, rfl, by assumption⟩
    · cases h
  · cases h
theorem opd_I {K : PySem.W.Frag} {f : Int → Int → Int} : OpD K (rI0 fun i j => .int (f i j)) (gI fun i j => .int (f i j)) := .flat fun H0 d1 d2 d x y r1 r2 e => by
  obtain ⟨i, j, rfl, rfl, rfl⟩ := gI_inv e
  exact ⟨.int (f i j), fun _ => by simp only [Rep], fun H Q q => ⟨i, j, rep_int r1, rep_int r2, q⟩⟩
theorem opd_B {K : PySem.W.Frag} {f : Int → Int → Bool} : OpD K (rI0 fun i j => .bl (f i j)) (gI fun i j => .bl (f i j)) := .flat fun H0 d1 d2 d x y r1 r2 e => by
  obtain ⟨i, j, rfl, rfl, rfl⟩ := gI_inv e
  exact ⟨.bl (f i j), fun _ => by simp only [Rep], fun H Q q => ⟨i, j, rep_int r1, rep_int r2, q⟩⟩
theorem opd_Ic {K : PySem.W.Frag} {C : Int → Int → Prop} {c : Int → Int → Bool} {f : Int → Int → Int} (hc : ∀ i j, c i j = true → C i j) : OpD K (rI C fun i j => .int (f i j)) (gIc c fun i j => .int (f i j)) := .flat fun H0 d1 d2 d x y r1 r2 e => by
  obtain ⟨i, j, rfl, rfl, rfl, h⟩ := gIc_inv e
  exact ⟨.int (f i j), fun _ => by simp only [Rep], fun H Q q => ⟨i, j, rep_int r1, rep_int r2, hc i j h, q⟩⟩
@[simp] def eAdd := eOp (gI fun i j => .int (i + j))
@[simp] def eSub := eOp (gI fun i j => .int (i - j))
def cMul (i j : Int) : Bool := decide (i.natAbs.log2 + j.natAbs.log2 < 1000000)
def cDiv (_ j : Int) : Bool := decide (0 < j ∧ j.natAbs.log2 < 9000)
@[simp] def cMod (_ j : Int) : Bool := decide (0 < j)
def cPow (i j : Int) : Bool := decide (0 ≤ j ∧ j ≤ 1000000 ∧ i.natAbs < 2 ^ 64)
@[simp] def eMul := eOp (gIc cMul fun i j => .int (i * j))
@[simp] def eDiv := eOp (gIc cDiv fun i j => .int (i / j))
@[simp] def eMod := eOp (gIc cMod fun i j => .int (i % j))
@[simp] def ePow := eOp (gIc cPow fun i j => .int (i ^ j.toNat))
theorem ie_add (ha : PE X a (tF X.K B fa)) (hb : PE X b (tF X.K B fb)) : PE X (.BinOp a .Add b pos) (tF X.K B (eAdd fa fb)) := ie_op2 (pe_op op_add) opd_I ha hb
theorem ie_sub (ha : PE X a (tF X.K B fa)) (hb : PE X b (tF X.K B fb)) : PE X (.BinOp a .Sub b pos) (tF X.K B (eSub fa fb)) := ie_op2 (pe_op op_sub) opd_I ha hb
theorem ie_mul (ha : PE X a (tF X.K B fa)) (hb : PE X b (tF X.K B fb)) : PE X (.BinOp a .Mult b pos) (tF X.K B (eMul fa fb)) := ie_op2 (pe_op op_mulW) (opd_Ic fun i j h => show i.natAbs.log2 + j.natAbs.log2 < 1000000 from of_decide_eq_true h) ha hb
theorem ie_fdiv (ha : PE X a (tF X.K B fa)) (hb : PE X b (tF X.K B fb)) : PE X (.BinOp a .FloorDiv b pos) (tF X.K B (eDiv fa fb)) := ie_op2 (pe_op op_fdivW) (opd_Ic fun i j h => show 0 < j ∧ j.natAbs.log2 < 9000 from of_decide_eq_true h) ha hb
theorem ie_mod (ha : PE X a (tF X.K B fa)) (hb : PE X b (tF X.K B fb)) : PE X (.BinOp a .Mod b pos) (tF X.K B (eMod fa fb)) := ie_op2 (pe_op op_mod) (opd_Ic fun i j h => of_decide_eq_true h) ha hb
theorem ie_pow (ha : PE X a (tF X.K B fa)) (hb : PE X b (tF X.K B fb)) : PE X (.BinOp a .Pow b pos) (tF X.K B (ePow fa fb)) := ie_op2 (pe_op op_pow) (opd_Ic fun i j h => show 0 ≤ j ∧ j ≤ 1000000 ∧ i.natAbs < 2 ^ 64 from of_decide_eq_true h) ha hb
@[simp] def eUn (g : D → Option D) (fa : F) : F := fun s => (fa s).bind fun a => (g a.1).bind fun d => some (d, a.2)
@[simp] def gNeg : D → Option D
  | .int i => some (.int (-i))
  | _ => none
theorem ie_neg (ha : PE X a (tF X.K B fa)) : PE X (.UnaryOp .USub a pos) (tF X.K B (eUn gNeg fa)) := (pe_un un_neg ha).pxw fun σ H Q q => by
  obtain ⟨s, H0, d, s', R, ev, k⟩ := q
  obtain ⟨⟨d1, s1⟩, e1, ev⟩ := bnd ev
  obtain ⟨d', e3, ev⟩ := bnd ev
  cases ev
  refine ⟨s, H0, d1, s1, R, e1, fun x H1 H' R1 x1 r1 => ?_⟩
  dsimp only at e3
  unfold gNeg at e3
  split at e3
  · cases e3; exact ⟨_, rep_int r1, k _ H1 H' R1 x1 (by simp only [Rep])⟩
  · cases e3

/-! ### comparisons of ints, of data -/
@[simp] def eLt := eOp (gI fun i j => .bl (decide (i < j)))
@[simp] def eLe := eOp (gI fun i j => .bl (decide (i ≤ j)))
@[simp] def eGt := eOp (gI fun i j => .bl (decide (j < i)))
@[simp] def eGe := eOp (gI fun i j => .bl (decide (j ≤ i)))
theorem ie_lt (ha : PE X a (tF X.K B fa)) (hb : PE X b (tF X.K B fb)) : PE X (.Compare a [.Lt] [b] pos) (tF X.K B (eLt fa fb)) := ie_op2 (fun h1 h2 => pe_cmpR op_lt h1 h2 (nomark _)) opd_B ha hb
theorem ie_le (ha : PE X a (tF X.K B fa)) (hb : PE X b (tF X.K B fb)) : PE X (.Compare a [.LtE] [b] pos) (tF X.K B (eLe fa fb)) := ie_op2 (fun h1 h2 => pe_cmpR op_le h1 h2 (nomark _)) opd_B ha hb
theorem ie_gt (ha : PE X a (tF X.K B fa)) (hb : PE X b (tF X.K B fb)) : PE X (.Compare a [.Gt] [b] pos) (tF X.K B (eGt fa fb)) := ie_op2 (fun h1 h2 => pe_cmpR op_gt h1 h2 (nomark _)) opd_B ha hb
theorem ie_ge (ha : PE X a (tF X.K B fa)) (hb : PE X b (tF X.K B fb)) : PE X (.Compare a [.GtE] [b] pos) (tF X.K B (eGe fa fb)) := ie_op2 (fun h1 h2 => pe_cmpR op_ge h1 h2 (nomark _)) opd_B ha hb

mutual
/-- as the library's data (dicts and the script are no such) -/
def D.py : D → PyData
  | .non => .none
  | .bl b => .bool b
  | .int i => .int i
  | .str x => .str x
  | .tup ds => .tuple (pys ds)
  | .lst ds => .list (pys ds)
  | .dK _ _ => .dict []
  | .dT _ _ => .dict []
  | .scr _ => .dict []
def pys : List D → List PyData
  | [] => []
  | d :: ds => d.py :: pys ds
end
mutual
theorem rep_dp {K : PySem.W.Frag} {H : Hp} : ∀ (d : D) (v : V), d.py.plain = true → Rep K H d v → Dp K H v d.py
  | .non, v, _, h => by rw [rep_non h]; exact .non
  | .bl b, v, _, h => by rw [rep_bl h]; exact .bl b
  | .int b, v, _, h => by rw [rep_int h]; exact .int b
  | .str b, v, _, h => by rw [rep_str h]; exact .str b
  | .tup ds, v, hp, h => by
    simp only [Rep] at h
    obtain ⟨a, xs, rfl, r, q⟩ := h
    refine .tup (xs := xs) ?_ (rep_dps ds xs hp r)
    rcases q with q | ⟨q, _⟩
    · exact .of q
    · exact q
  | .lst ds, v, hp, h => by
    simp only [Rep] at h
    obtain ⟨a, xs, rfl, r, q⟩ := h
    exact .lst (.of q) (rep_dps ds xs hp r)
  | .dK _ _, v, hp, _ => by simp [D.py, PyData.plain] at hp
  | .dT _ _, v, hp, _ => by simp [D.py, PyData.plain] at hp
  | .scr _, v, hp, _ => by simp [D.py, PyData.plain] at hp
theorem rep_dps {K : PySem.W.Frag} {H : Hp} : ∀ (ds : List D) (xs : List V), PyData.plainAll (pys ds) = true → RepL K H ds xs → DpAll K H xs (pys ds)
  | [], xs, _, h => by rw [h.of_nil]; exact .nil
  | d :: ds, xs, hp, h => by
    obtain ⟨x, r, rfl, h1, h2⟩ := h.of_cons
    have hp' : d.py.plain = true ∧ PyData.plainAll (pys ds) = true := by simpa [pys, PyData.plainAll] using hp
    exact .cons (rep_dp d x hp'.1 h1) (rep_dps ds r hp'.2 h2)
end
def okD (d : D) : Bool := d.py.plain && decide (d.py.depth ≤ 64)
def eqD (d e : D) : Bool := PyData.eqv d.py e.py
@[simp] def gEq (d e : D) : Option D := if okD d && okD e then some (.bl (eqD d e)) else none
@[simp] def gNe (d e : D) : Option D := if okD d && okD e then some (.bl (!eqD d e)) else none
def rEqP (K : PySem.W.Frag) : R2 := fun x y H Q => ∃ d e, Dp K H x d ∧ Dp K H y e ∧ (d.plain = true ∧ d.depth ≤ 64) ∧ (e.plain = true ∧ e.depth ≤ 64) ∧ Q (.bl (PyData.eqv d e)) H
def rNeP (K : PySem.W.Frag) : R2 := fun x y H Q => ∃ d e, Dp K H x d ∧ Dp K H y e ∧ (d.plain = true ∧ d.depth ≤ 64) ∧ (e.plain = true ∧ e.depth ≤ 64) ∧ Q (.bl (!PyData.eqv d e)) H
theorem op_eqP (hu : X.A.units + 64 < cLine) : OpR X (compareOp .Eq) (rEqP X.K) := by
  intro pins s σ H x y v u Q I rx ry h
  obtain ⟨d, e, hd, he, ⟨sd, dd⟩, ⟨se, de⟩, q⟩ := h
  obtain ⟨as, r1⟩ := Dp.reads I d x v hd rx
  obtain ⟨bs, r2⟩ := Dp.reads I e y u he ry
  exact PySem.SeqAt.eq_plain r1 r2 sd se (by omega) ⟨.bl _, H, I, rfl, q⟩
theorem op_neP (hu : X.A.units + 64 < cLine) : OpR X (compareOp .NotEq) (rNeP X.K) := by
  intro pins s σ H x y v u Q I rx ry h
  obtain ⟨d, e, hd, he, ⟨sd, dd⟩, ⟨se, de⟩, q⟩ := h
  obtain ⟨as, r1⟩ := Dp.reads I d x v hd rx
  obtain ⟨bs, r2⟩ := Dp.reads I e y u he ry
  exact PySem.SeqAt.ne_plain r1 r2 sd se (by omega) ⟨.bl _, H, I, rfl, q⟩
theorem okD_inv {d : D} (h : okD d = true) : d.py.plain = true ∧ d.py.depth ≤ 64 := by
  unfold okD at h
  simp only [Bool.and_eq_true, decide_eq_true_eq] at h
  exact h
theorem opp_eq {K : PySem.W.Frag} : OpP K (rEqP K) gEq := fun B s σ H0 H p1 p2 d1 d2 d x y Q R r1 r2 g1 g2 e k => by
  unfold gEq at e
  split at e
  · next h =>
    cases e
    rw [Bool.and_eq_true] at h
    have o1 := okD_inv h.1
    have o2 := okD_inv h.2
    exact ⟨d1.py, d2.py, rep_dp d1 x o1.1 (r1.rep R g1), rep_dp d2 y o2.1 (r2.rep R g2), o1, o2, k _ H0 H R (Ex.refl _) (by simp only [Rep]; rfl)⟩
  · cases e
theorem opp_ne {K : PySem.W.Frag} : OpP K (rNeP K) gNe := fun B s σ H0 H p1 p2 d1 d2 d x y Q R r1 r2 g1 g2 e k => by
  unfold gNe at e
  split at e
  · next h =>
    cases e
    rw [Bool.and_eq_true] at h
    have o1 := okD_inv h.1
    have o2 := okD_inv h.2
    exact ⟨d1.py, d2.py, rep_dp d1 x o1.1 (r1.rep R g1), rep_dp d2 y o2.1 (r2.rep R g2), o1, o2, k _ H0 H R (Ex.refl _) (by simp only [Rep]; rfl)⟩
  · cases e
theorem ie_eq (hu : X.A.units + 64 < cLine) (ha : PE X a (tP X.K B pa)) (hb : PE X b (tP X.K B pb)) : PE X (.Compare a [.Eq] [b] pos) (tF X.K B (eOpP gEq pa pb)) := ie_op2P (fun h1 h2 => pe_cmpR (op_eqP hu) h1 h2 (nomark _)) opp_eq ha hb
theorem ie_ne (hu : X.A.units + 64 < cLine) (ha : PE X a (tP X.K B pa)) (hb : PE X b (tP X.K B pb)) : PE X (.Compare a [.NotEq] [b] pos) (tF X.K B (eOpP gNe pa pb)) := ie_op2P (fun h1 h2 => pe_cmpR (op_neP hu) h1 h2 (nomark _)) opp_ne ha hb
end
end Px

set_option Elab.async false
set_option linter.all false
set_option maxRecDepth 100000
set_option maxHeartbeats 1000000
/-! Px3: tests, arguments, displays, subscripts, slices, built-in calls, dicts read -/
namespace Px
open PySem L2
section
variable {X : Cx} {B : Bs} {a b c e : Expr} {pos : Pos} {fa fb fc f : F} {pa pb : FP} {ba bb : TB} {K : PySem.W.Frag} {σ : St} {H : Hp}

/-! ### tests -/
@[simp] def bT (f : F) : TB := fun s => (f s).bind fun a => match a.1 with | .bl b => some (b, a.2) | _ => none
theorem bT_inv {f : F} {s s' : S} {r : Bool} (h : bT f s = some (r, s')) : f s = some (.bl r, s') := by
  obtain ⟨⟨d, s1⟩, e1, h⟩ := bnd h
  dsimp only at h
  split at h
  · cases h; exact e1
  · cases h
theorem rd_test {t : TE} (w : ∀ {σ H Q}, tF K B f σ H Q → t σ H Q) {Q : Bool → Hp → Prop} (q : tT K B (bT f) σ H Q) : tTest t σ H Q := by
  obtain ⟨s, H0, r, s', R, ev, k⟩ := q
  exact w ⟨s, H0, .bl r, s', R, bT_inv ev, fun v H1 H' R1 x1 rp => ⟨r, rep_bl rp, k H1 H' R1 x1⟩⟩
theorem it_of {t : TE} (h : PT X e (tTest t)) (w : ∀ {σ H Q}, tF X.K B f σ H Q → t σ H Q) : PT X e (tT X.K B (bT f)) := h.pxw fun σ H Q q => rd_test w q
theorem it_val (h : PE X e (tF X.K B f)) (he : ∀ whole, isTrue e X.env whole = (do let v ← whole; standAt e.pos; holding [v] (truthy v)) := by intro _; rfl) : PT X e (tT X.K B (bT f)) :=
  (pt_val h he).pxw fun σ H Q q => rd_test (t := tF X.K B f) (fun z => z) q
theorem it_lt (ha : PE X a (tF X.K B fa)) (hb : PE X b (tF X.K B fb)) : PT X (.Compare a [.Lt] [b] pos) (tT X.K B (bT (eLt fa fb))) := it_of (pt_cmpR op_lt ha hb (nomark _)) fun q => rd_op2 opd_B q
theorem it_le (ha : PE X a (tF X.K B fa)) (hb : PE X b (tF X.K B fb)) : PT X (.Compare a [.LtE] [b] pos) (tT X.K B (bT (eLe fa fb))) := it_of (pt_cmpR op_le ha hb (nomark _)) fun q => rd_op2 opd_B q
theorem it_gt (ha : PE X a (tF X.K B fa)) (hb : PE X b (tF X.K B fb)) : PT X (.Compare a [.Gt] [b] pos) (tT X.K B (bT (eGt fa fb))) := it_of (pt_cmpR op_gt ha hb (nomark _)) fun q => rd_op2 opd_B q
theorem it_ge (ha : PE X a (tF X.K B fa)) (hb : PE X b (tF X.K B fb)) : PT X (.Compare a [.GtE] [b] pos) (tT X.K B (bT (eGe fa fb))) := it_of (pt_cmpR op_ge ha hb (nomark _)) fun q => rd_op2 opd_B q
theorem it_eq (hu : X.A.units + 64 < cLine) (ha : PE X a (tP X.K B pa)) (hb : PE X b (tP X.K B pb)) : PT X (.Compare a [.Eq] [b] pos) (tT X.K B (bT (eOpP gEq pa pb))) := it_of (pt_cmpR (op_eqP hu) ha hb (nomark _)) fun q => rd_op2P opp_eq q
theorem it_ne (hu : X.A.units + 64 < cLine) (ha : PE X a (tP X.K B pa)) (hb : PE X b (tP X.K B pb)) : PT X (.Compare a [.NotEq] [b] pos) (tT X.K B (bT (eOpP gNe pa pb))) := it_of (pt_cmpR (op_neP hu) ha hb (nomark _)) fun q => rd_op2P opp_ne q
@[simp] def bAnd (ta tb : TB) : TB := fun s => (ta s).bind fun a => if a.1 then tb a.2 else some (false, a.2)
@[simp] def bOr (ta tb : TB) : TB := fun s => (ta s).bind fun a => if a.1 then some (true, a.2) else tb a.2
@[simp] def bNot (ta : TB) : TB := fun s => (ta s).bind fun a => some (!a.1, a.2)
theorem iw_and1 (ha : PT X a (tT X.K B ba)) : PW X (.BoolOp .And [a] pos) (tT X.K B ba) := pw_and1 ha
theorem iw_or1 (ha : PT X a (tT X.K B ba)) : PW X (.BoolOp .Or [a] pos) (tT X.K B ba) := pw_or1 ha
theorem iw_and {rest : List Expr} (ha : PT X a (tT X.K B ba)) (hb : PW X (.BoolOp .And (b :: rest) pos) (tT X.K B bb)) : PW X (.BoolOp .And (a :: b :: rest) pos) (tT X.K B (bAnd ba bb)) := (pw_and ha hb).pxw fun σ H Q q => by
  obtain ⟨s, H0, r, s', R, ev, k⟩ := q
  obtain ⟨⟨r1, s1⟩, e1, ev⟩ := bnd ev
  refine ⟨s, H0, r1, s1, R, e1, fun H1 H' R1 x1 => ?_⟩
  cases r1 with
  | true => exact ⟨s1, H1, r, s', R1, ev, fun H2 H'' R2 x2 => k H2 H'' R2 (x1.trans x2)⟩
  | false => cases ev; exact k H1 H' R1 x1
theorem iw_or {rest : List Expr} (ha : PT X a (tT X.K B ba)) (hb : PW X (.BoolOp .Or (b :: rest) pos) (tT X.K B bb)) : PW X (.BoolOp .Or (a :: b :: rest) pos) (tT X.K B (bOr ba bb)) := (pw_or ha hb).pxw fun σ H Q q => by
  obtain ⟨s, H0, r, s', R, ev, k⟩ := q
  obtain ⟨⟨r1, s1⟩, e1, ev⟩ := bnd ev
  refine ⟨s, H0, r1, s1, R, e1, fun H1 H' R1 x1 => ?_⟩
  cases r1 with
  | false => exact ⟨s1, H1, r, s', R1, ev, fun H2 H'' R2 x2 => k H2 H'' R2 (x1.trans x2)⟩
  | true => cases ev; exact k H1 H' R1 x1
theorem it_not (ha : PT X a (tT X.K B ba)) : PT X (.UnaryOp .Not a pos) (tT X.K B (bNot ba)) := (pt_not ha).pxw fun σ H Q q => by
  obtain ⟨s, H0, r, s', R, ev, k⟩ := q
  obtain ⟨⟨r1, s1⟩, e1, ev⟩ := bnd ev
  cases ev
  exact ⟨s, H0, r1, s1, R, e1, fun H1 H' R1 x1 => k H1 H' R1 x1⟩
/-- as values -/
@[simp] def eAndV (fa fb : F) : F := fun s => (bT fa s).bind fun a => if a.1 then fb a.2 else some (.bl false, a.2)
@[simp] def eOrV (fa fb : F) : F := fun s => (bT fa s).bind fun a => if a.1 then some (.bl true, a.2) else fb a.2
@[simp] def eNotV (fa : F) : F := fun s => (bT fa s).bind fun a => some (.bl (!a.1), a.2)
theorem ie_one {op} (ha : PE X a (tF X.K B fa)) : PE X (.BoolOp op [a] pos) (tF X.K B fa) := pe_one ha
theorem ie_and {rest : List Expr} (ha : PE X a (tF X.K B fa)) (hb : PE X (.BoolOp .And (b :: rest) pos) (tF X.K B fb)) : PE X (.BoolOp .And (a :: b :: rest) pos) (tF X.K B (eAndV fa fb)) := (pe_and ha hb).pxw fun σ H Q q => by
  obtain ⟨s, H0, r, s', R, ev, k⟩ := q
  obtain ⟨⟨r1, s1⟩, e1, ev⟩ := bnd ev
  refine ⟨s, H0, .bl r1, s1, R, bT_inv e1, fun v H1 H' R1 x1 rp => ⟨r1, rep_bl rp, ?_⟩⟩
  cases r1 with
  | true => exact ⟨s1, H1, r, s', R1, ev, fun v H2 H'' R2 x2 => k v H2 H'' R2 (x1.trans x2)⟩
  | false => cases ev; exact k _ H1 H' R1 x1 (by simp only [Rep])
theorem ie_or {rest : List Expr} (ha : PE X a (tF X.K B fa)) (hb : PE X (.BoolOp .Or (b :: rest) pos) (tF X.K B fb)) : PE X (.BoolOp .Or (a :: b :: rest) pos) (tF X.K B (eOrV fa fb)) := (pe_or ha hb).pxw fun σ H Q q => by
  obtain ⟨s, H0, r, s', R, ev, k⟩ := q
  obtain ⟨⟨r1, s1⟩, e1, ev⟩ := bnd ev
  refine ⟨s, H0, .bl r1, s1, R, bT_inv e1, fun v H1 H' R1 x1 rp => ⟨r1, rep_bl rp, ?_⟩⟩
  cases r1 with
  | false => exact ⟨s1, H1, r, s', R1, ev, fun v H2 H'' R2 x2 => k v H2 H'' R2 (x1.trans x2)⟩
  | true => cases ev; exact k _ H1 H' R1 x1 (by simp only [Rep])
theorem ie_not (ha : PE X a (tF X.K B fa)) : PE X (.UnaryOp .Not a pos) (tF X.K B (eNotV fa)) := (pe_not ha).pxw fun σ H Q q => by
  obtain ⟨s, H0, r, s', R, ev, k⟩ := q
  obtain ⟨⟨r1, s1⟩, e1, ev⟩ := bnd ev
  cases ev
  exact ⟨s, H0, .bl r1, s1, R, bT_inv e1, fun v H1 H' R1 x1 rp => ⟨r1, rep_bl rp, k _ H1 H' R1 x1 (by simp only [Rep])⟩⟩
@[simp] def eIf (t : TB) (fa fb : F) : F := fun s => (t s).bind fun a => if a.1 then fa a.2 else fb a.2
theorem ie_if (hc : PT X c (tT X.K B ba)) (ha : PE X a (tF X.K B fa)) (hb : PE X b (tF X.K B fb)) : PE X (.IfExp c a b pos) (tF X.K B (eIf ba fa fb)) := (pe_ifExp hc ha hb).pxw fun σ H Q q => by
  obtain ⟨s, H0, r, s', R, ev, k⟩ := q
  obtain ⟨⟨r1, s1⟩, e1, ev⟩ := bnd ev
  refine ⟨s, H0, r1, s1, R, e1, fun H1 H' R1 x1 => ?_⟩
  cases r1 with
  | true => exact ⟨s1, H1, r, s', R1, ev, fun v H2 H'' R2 x2 => k v H2 H'' R2 (x1.trans x2)⟩
  | false => exact ⟨s1, H1, r, s', R1, ev, fun v H2 H'' R2 x2 => k v H2 H'' R2 (x1.trans x2)⟩
/-- a < b < c on ints -/
@[simp] def eChain (p q : Int → Int → Bool) (fa fb fc : F) : F := fun s => (fa s).bind fun a => (fb a.2).bind fun b => match a.1, b.1 with
  | .int i, .int j => if p i j then (fc b.2).bind fun c => match c.1 with | .int k => some (.bl (q j k), c.2) | _ => none else some (.bl false, b.2)
  | _, _ => none
theorem chain_inv {p q : Int → Int → Bool} {s s' : S} {r : D} (h : eChain p q fa fb fc s = some (r, s')) : ∃ i j s1 s2, fa s = some (.int i, s1) ∧ fb s1 = some (.int j, s2) ∧
    ((p i j = false ∧ r = .bl false ∧ s' = s2) ∨ (p i j = true ∧ ∃ k, fc s2 = some (.int k, s') ∧ r = .bl (q j k))) := by
  unfold eChain at h
  obtain ⟨⟨d1, s1⟩, e1, h1⟩ := bnd h
  clear h
  obtain ⟨⟨d2, s2⟩, e2, h2⟩ := bnd h1
  clear h1
  cases d1 with
  | int i =>
    cases d2 with
    | int j =>
      refine ⟨i, j, s1, s2, e1, e2, ?_⟩
      dsimp only at h2
      by_cases hp : p i j = true
      · rw [if_pos hp] at h2
        obtain ⟨⟨d3, s3⟩, e3, h3⟩ := bnd h2
        cases d3 with
        | int k => cases h3; exact .inr ⟨hp, k, e3, rfl⟩
        | _ => cases h3
      · rw [if_neg hp] at h2
        cases h2
        exact .inl ⟨by simpa using hp, rfl, rfl⟩
    | _ => cases h2
  | _ => cases h2
theorem rd_chain {p q : Int → Int → Bool} {Q : VK} (h : tF K B (eChain p q fa fb fc) σ H Q) : tChain (rI0 fun i j => .bl (p i j)) (rI0 fun i j => .bl (q i j)) (tF K B fa) (tF K B fb) (tF K B fc) σ H Q := by
  obtain ⟨s, H0, r, s', R, ev, k⟩ := h
  obtain ⟨i, j, s1, s2, e1, e2, h⟩ := chain_inv ev
  refine ⟨s, H0, _, s1, R, e1, fun x H1 H' R1 x1 r1 => ⟨s1, H1, _, s2, R1, e2, fun y H2 H'' R2 x2 r2 => ⟨i, j, rep_int (r1.up x2), rep_int r2, p i j, rfl, ?_⟩⟩⟩
  rcases h with ⟨hp, rfl, rfl⟩ | ⟨hp, l, e3, rfl⟩
  · rw [hp]
    exact iteF (k _ H2 H'' R2 (x1.trans x2) (by simp only [Rep]))
  · rw [hp]
    exact iteT ⟨s2, H2, _, _, R2, e3, fun z H3 H3' R3 x3 r3 => ⟨j, l, rep_int (r2.up x3), rep_int r3, k _ H3 H3' R3 ((x1.trans x2).trans x3) (by simp only [Rep])⟩⟩
theorem ie_lele (ha : PE X a (tF X.K B fa)) (hb : PE X b (tF X.K B fb)) (hc : PE X c (tF X.K B fc)) (hm : lastMarks [.LtE, .LtE] [b, c] = false := by with_unfolding_all rfl) : PE X (.Compare a [.LtE, .LtE] [b, c] pos) (tF X.K B (eChain (fun i j => decide (i ≤ j)) (fun i j => decide (i ≤ j)) fa fb fc)) := (pe_chain op_le op_le ha hb hc hm).pxw fun σ H Q q => rd_chain q
theorem it_lele (ha : PE X a (tF X.K B fa)) (hb : PE X b (tF X.K B fb)) (hc : PE X c (tF X.K B fc)) (hm : lastMarks [.LtE, .LtE] [b, c] = false := by with_unfolding_all rfl) : PT X (.Compare a [.LtE, .LtE] [b, c] pos) (tT X.K B (bT (eChain (fun i j => decide (i ≤ j)) (fun i j => decide (i ≤ j)) fa fb fc))) := it_of (pt_chain op_le op_le ha hb hc hm) fun q => rd_chain q
theorem it_ltlt (ha : PE X a (tF X.K B fa)) (hb : PE X b (tF X.K B fb)) (hc : PE X c (tF X.K B fc)) (hm : lastMarks [.Lt, .Lt] [b, c] = false := by with_unfolding_all rfl) : PT X (.Compare a [.Lt, .Lt] [b, c] pos) (tT X.K B (bT (eChain (fun i j => decide (i < j)) (fun i j => decide (i < j)) fa fb fc))) := it_of (pt_chain op_lt op_lt ha hb hc hm) fun q => rd_chain q
/-- is None -/
@[simp] def isN : D → Bool
  | .non => true
  | _ => false
theorem rep_isN {H0 : Hp} {d : D} {v : V} (h : Rep K H0 d v) : decide (v = .non) = isN d := by
  cases d <;> simp only [Rep] at h
  case non => subst h; rfl
  case bl => subst h; rfl
  case int => subst h; rfl
  case str => subst h; rfl
  case scr => obtain ⟨a, rfl, _⟩ := h; rfl
  all_goals obtain ⟨a, xs, rfl, _⟩ := h; rfl
@[simp] def eIsN (neg : Bool) (pa : FP) : F := fun s => (pa s).bind fun a => (a.1.get a.2).bind fun d => some (.bl (if neg then !isN d else isN d), a.2)
theorem rd_isN {Q : VK} (q : tF K B (eIsN false pa) σ H Q) : tIsN (tP K B pa) σ H Q := by
  obtain ⟨s, H0, r, s', R, ev, k⟩ := q
  obtain ⟨⟨p1, s1⟩, e1, ev⟩ := bnd ev
  obtain ⟨d, g1, ev⟩ := bnd ev
  cases ev
  refine ⟨s, H0, p1, s1, R, e1, fun x H1 H' R1 x1 r1 => ?_⟩
  show Q (V.bl (decide (x = V.non))) H'
  rw [rep_isN (r1.rep R1 g1)]
  exact k _ H1 H' R1 x1 (by simp only [Rep]; rfl)
theorem rd_notN {Q : VK} (q : tF K B (eIsN true pa) σ H Q) : tNotN (tP K B pa) σ H Q := by
  obtain ⟨s, H0, r, s', R, ev, k⟩ := q
  obtain ⟨⟨p1, s1⟩, e1, ev⟩ := bnd ev
  obtain ⟨d, g1, ev⟩ := bnd ev
  cases ev
  refine ⟨s, H0, p1, s1, R, e1, fun x H1 H' R1 x1 r1 => ?_⟩
  show Q (V.bl (!decide (x = V.non))) H'
  rw [rep_isN (r1.rep R1 g1)]
  exact k _ H1 H' R1 x1 (by simp only [Rep]; rfl)
theorem ie_isN {j pos'} (ha : PE X a (tP X.K B pa)) : PE X (.Compare a [.Is] [.Constant .none j pos'] pos) (tF X.K B (eIsN false pa)) := (pe_cmp (pc_isN ha)).pxw fun σ H Q q => rd_isN q
theorem ie_notN {j pos'} (ha : PE X a (tP X.K B pa)) : PE X (.Compare a [.IsNot] [.Constant .none j pos'] pos) (tF X.K B (eIsN true pa)) := (pe_cmp (pc_notN ha)).pxw fun σ H Q q => rd_notN q
theorem it_isN {j pos'} (ha : PE X a (tP X.K B pa)) : PT X (.Compare a [.Is] [.Constant .none j pos'] pos) (tT X.K B (bT (eIsN false pa))) := it_of (pt_cmp (pc_isN ha)) fun q => rd_isN q
theorem it_notN {j pos'} (ha : PE X a (tP X.K B pa)) : PT X (.Compare a [.IsNot] [.Constant .none j pos'] pos) (tT X.K B (bT (eIsN true pa))) := it_of (pt_cmp (pc_notN ha)) fun q => rd_notN q

/-! ### arguments, tuples, lists -/
@[simp] def aNil : FA := fun s => some ([], s)
@[simp] def aCons (f : F) (g : FA) : FA := fun s => (f s).bind fun a => (g a.2).bind fun b => some (a.1 :: b.1, b.2)
theorem ia_nil : PA X [] (tA X.K B aNil) := pa_nil.pxw fun σ H Q q => by
  obtain ⟨s, H0, r, s', R, ev, k⟩ := q
  cases ev
  exact k [] H0 H R (Ex.refl _) .nil
theorem ia_cons {es : List Expr} {g : FA} (ha : PE X e (tF X.K B f)) (hr : PA X es (tA X.K B g)) (hs : starEach (e :: es) X.env = (false, eval e X.env) :: starEach es X.env := by rfl) : PA X (e :: es) (tA X.K B (aCons f g)) := (pa_cons ha hr hs).pxw fun σ H Q q => by
  obtain ⟨s, H0, r, s', R, ev, k⟩ := q
  obtain ⟨⟨d1, s1⟩, e1, ev⟩ := bnd ev
  obtain ⟨⟨d2, s2⟩, e2, ev⟩ := bnd ev
  cases ev
  exact ⟨s, H0, d1, s1, R, e1, fun x H1 H' R1 x1 r1 => ⟨s1, H1, d2, s2, R1, e2, fun xs H2 H'' R2 x2 r2 => k (x :: xs) H2 H'' R2 (x1.trans x2) (.cons (r1.up x2) r2)⟩⟩
def small (n : Nat) : Bool := decide (n ≤ 10000000)
theorem small_le {n : Nat} (h : small n = true) : n ≤ sizeLine := Nat.le_trans (of_decide_eq_true h) (by decide)
theorem small_lt {n : Nat} (h : small n = true) : n < sizeLine := Nat.lt_of_le_of_lt (of_decide_eq_true h) (by decide)
@[simp] def eTup (g : FA) : F := fun s => (g s).bind fun a => if small a.1.length then some (.tup a.1, a.2) else none
@[simp] def eLst (g : FA) : F := fun s => (g s).bind fun a => if small a.1.length then some (.lst a.1, a.2) else none
theorem rep_tupNew {H0 : Hp} {p : Addr} {ds : List D} {xs : List V} (r : RepL K H0 ds xs) (h : H0 p = none) : Rep K (upd H0 p (.tup xs)) (.tup ds) (.ref p) := by
  simp only [Rep]; exact ⟨p, xs, rfl, r.up (Ex.new h), .inl upd_same⟩
theorem ie_tup {es : List Expr} {x1} {g : FA} (h : PA X es (tA X.K B g)) : PE X (.Tuple es x1 pos) (tF X.K B (eTup g)) := (pe_tup h).pxw fun σ H Q q => by
  obtain ⟨s, H0, r, s', R, ev, k⟩ := q
  obtain ⟨⟨ds, s1⟩, e1, ev⟩ := bnd ev
  dsimp only at ev
  split at ev
  · next hl =>
    cases ev
    exact ⟨s, H0, ds, _, R, e1, fun xs H1 H' R1 x1 r1 => ⟨by rw [r1.len]; exact small_le hl, fun p hp => k _ _ _ (R1.laid hp) (x1.trans (Ex.new (R1.fresh0 hp))) (rep_tupNew r1 (R1.fresh0 hp))⟩⟩
  · cases ev
theorem io_lst {es : List Expr} {g : FA} (h : PA X es (tA X.K B g)) : PE X (.List es pos) (tO X.K B (eLst g)) := (pe_lst h).pxw fun σ H Q q => by
  obtain ⟨s, H0, r, s', R, ev, k⟩ := q
  obtain ⟨⟨ds, s1⟩, e1, ev⟩ := bnd ev
  dsimp only at ev
  split at ev
  · next hl =>
    cases ev
    exact ⟨s, H0, ds, _, R, e1, fun xs H1 H' R1 x1 r1 => ⟨by rw [r1.len]; exact small_le hl, fun p hp => k p H1 _ (R1.laidO hp) x1 (R1.ownNew (o := .lst xs) hp ⟨xs, rfl, r1⟩)⟩⟩
  · cases ev

/-! ### + of lists, tuples, texts -/
@[simp] def gCatL : D → D → Option D
  | .lst a, .lst b => if small (a.length + b.length) then some (.lst (a ++ b)) else none
  | _, _ => none
@[simp] def gCatT : D → D → Option D
  | .tup a, .tup b => if small (a.length + b.length) then some (.tup (a ++ b)) else none
  | _, _ => none
@[simp] def gCatS : D → D → Option D
  | .str a, .str b => if small (a.length + b.length) then some (.str (a ++ b)) else none
  | _, _ => none
theorem opo_catL : OpO K rCat gCatL := fun B s σ H0 H d1 d2 d x y Q R r1 r2 e k => by
  unfold gCatL at e
  split at e
  · next a b =>
    split at e
    · next hl =>
      cases e
      simp only [Rep] at r1 r2
      obtain ⟨p, xs, rfl, l1, h1⟩ := r1
      obtain ⟨q, ys, rfl, l2, h2⟩ := r2
      refine ⟨p, q, xs, ys, rfl, rfl, R.h0 _ _ h1, R.h0 _ _ h2, by rw [l1.len, l2.len]; exact small_le hl, fun t ht => ?_⟩
      exact k t _ (R.laidO ht) (R.ownNew ht ⟨_, rfl, l1.append l2⟩)
    · cases e
  · cases e
theorem rep_tup_sq {H0 : Hp} {ds : List D} {v : V} (h : Rep K H0 (.tup ds) v) : ∃ a xs, v = .ref a ∧ RepL K H0 ds xs ∧ SqT K H0 a xs := by
  simp only [Rep] at h
  obtain ⟨a, xs, e, r, q⟩ := h
  refine ⟨a, xs, e, r, ?_⟩
  rcases q with q | ⟨q, _⟩
  · exact .of q
  · exact q
theorem RepL.nil_iff {H0 : Hp} {ds : List D} {xs : List V} (h : RepL K H0 ds xs) : xs = [] ↔ ds = [] := by
  have := h.len
  constructor
  · intro z; subst z; exact List.eq_nil_of_length_eq_zero this.symm
  · intro z; subst z; exact h.of_nil
theorem opd_catT : OpD K (rCatA K) gCatT := fun B s σ H0 H d1 d2 d x y Q R r1 r2 e k => by
  unfold gCatT at e
  split at e
  · next a b =>
    split at e
    · next hl =>
      cases e
      obtain ⟨p, xs, rfl, l1, h1⟩ := rep_tup_sq r1
      obtain ⟨q, ys, rfl, l2, h2⟩ := rep_tup_sq r2
      refine ⟨p, q, xs, ys, rfl, rfl, R.h0.sqT h1, R.h0.sqT h2, by rw [l1.len, l2.len]; exact small_le hl, fun z => ?_, fun z1 z2 => ?_, fun _ _ t ht => ?_⟩
      · rw [l1.nil_iff] at z; subst z
        exact k _ H0 H R (Ex.refl _) r2
      · rw [l2.nil_iff] at z2; subst z2
        rw [List.append_nil] at k
        exact k _ H0 H R (Ex.refl _) r1
      · exact k _ _ _ (R.laid ht) (Ex.new (R.fresh0 ht)) (rep_tupNew (l1.append l2) (R.fresh0 ht))
    · cases e
  · cases e
theorem opd_catS : OpD K (fun x y H Q => ∃ i j, x = .str i ∧ y = .str j ∧ i.length + j.length ≤ sizeLine ∧ Q (.str (i ++ j)) H) gCatS := .flat fun H0 d1 d2 d x y r1 r2 e => by
  unfold gCatS at e
  split at e
  · next a b =>
    split at e
    · next hl =>
      cases e
      exact ⟨.str (a ++ b), fun _ => by simp only [Rep], fun H Q q => ⟨a, b, rep_str r1, rep_str r2, small_le hl, q⟩⟩
    · cases e
  · cases e
theorem io_catL (ha : PE X a (tF X.K B fa)) (hb : PE X b (tF X.K B fb)) : PE X (.BinOp a .Add b pos) (tO X.K B (eOp gCatL fa fb)) := ie_op2O (pe_op op_cat) opo_catL ha hb
theorem ie_catT (ha : PE X a (tF X.K B fa)) (hb : PE X b (tF X.K B fb)) : PE X (.BinOp a .Add b pos) (tF X.K B (eOp gCatT fa fb)) := ie_op2 (pe_op op_catA) opd_catT ha hb
theorem ie_catS (ha : PE X a (tF X.K B fa)) (hb : PE X b (tF X.K B fb)) : PE X (.BinOp a .Add b pos) (tF X.K B (eOp gCatS fa fb)) := ie_op2 (pe_op op_add_str) opd_catS ha hb

/-! ### subscripts -/
theorem RepL.atI {H0 : Hp} {ds : List D} {xs : List V} {i : Int} {d : D} (h : RepL K H0 ds xs) (e : atI ds i = some d) : ∃ x, L2.atI xs i = some x ∧ Rep K H0 d x := by
  unfold L2.atI at e ⊢
  rw [h.len]
  obtain ⟨j, e1, e2⟩ := bnd e
  obtain ⟨x, g1, g2⟩ := h.get e2
  exact ⟨x, by rw [e1]; exact g1, g2⟩
@[simp] def gIx : D → D → Option D
  | .lst ds, .int i => atI ds i
  | .tup ds, .int i => atI ds i
  | .scr ns, .int i => (atI ns i).map D.int
  | _, _ => none
theorem atI_map {α β : Type} (f : α → β) (l : List α) (i : Int) : atI (l.map f) i = (atI l i).map f := by
  unfold L2.atI
  rw [List.length_map]
  cases ixN l.length i with
  | none => rfl
  | some j => simp
theorem gIx_inv {d1 d2 d : D} (h : gIx d1 d2 = some d) : (∃ ds i, d1 = .lst ds ∧ d2 = .int i ∧ atI ds i = some d) ∨ (∃ ds i, d1 = .tup ds ∧ d2 = .int i ∧ atI ds i = some d) ∨ ∃ ns i n, d1 = .scr ns ∧ d2 = .int i ∧ atI ns i = some n ∧ d = .int n := by
  cases d2 with
  | int i =>
    cases d1 with
    | lst ds => exact .inl ⟨ds, i, rfl, rfl, h⟩
    | tup ds => exact .inr (.inl ⟨ds, i, rfl, rfl, h⟩)
    | scr ns =>
      obtain ⟨n, en, ed⟩ := Option.map_eq_some_iff.mp (show (atI ns i).map D.int = some d from h)
      exact .inr (.inr ⟨ns, i, n, rfl, rfl, en, ed.symm⟩)
    | _ => cases h
  | _ => cases d1 <;> cases h
theorem rd_ix {Q : VK} (q : tF K B (eOpP gIx pa (pE fb)) σ H Q) : tOp (rIx K) (tP K B pa) (tF K B fb) σ H Q := by
  obtain ⟨s, H0, d, s', R, ev, k⟩ := q
  obtain ⟨⟨p1, s1⟩, e1, ev1⟩ := bnd ev
  obtain ⟨⟨p2, s2⟩, e2, ev2⟩ := bnd ev1
  obtain ⟨⟨d2', s2'⟩, e2', ev'⟩ := bnd e2
  cases ev'
  obtain ⟨d1, g1, ev3⟩ := bnd ev2
  obtain ⟨d2, g2, ev4⟩ := bnd ev3
  cases g2
  obtain ⟨d', e3, ev5⟩ := bnd ev4
  cases ev5
  refine ⟨s, H0, p1, s1, R, e1, fun x H1 H' R1 x1 r1 => ⟨s1, H1, d2', s2', R1, e2', fun y H2 H'' R2 x2 r2 => ?_⟩⟩
  have r1' := r1.up x2
  dsimp only at g1
  rcases gIx_inv e3 with ⟨ds, i, rfl, rfl, hi⟩ | ⟨ds, i, rfl, rfl, hi⟩ | ⟨ns, i, n, rfl, rfl, hi, rfl⟩
  · obtain ⟨p, xs, rfl, l1, h1⟩ := r1'.lst R2 g1
    obtain ⟨z, g, rz⟩ := l1.atI hi
    exact .inl ⟨p, xs, i, z, rfl, rep_int r2, .of h1, g, k z H2 H'' R2 (x1.trans x2) rz⟩
  · have hf := r1'.frozen R2 g1 (fun o z => z)
    obtain ⟨p, xs, rfl, l1, h1⟩ := rep_tup_sq hf
    obtain ⟨z, g, rz⟩ := l1.atI hi
    exact .inr (.inl ⟨p, xs, i, z, rfl, rep_int r2, R2.h0.sqT h1, g, k z H2 H'' R2 (x1.trans x2) rz⟩)
  · have hf := r1'.frozen R2 g1 (fun o z => z)
    simp only [Rep] at hf
    obtain ⟨p, rfl, h1⟩ := hf
    exact .inl ⟨p, _, i, .int n, rfl, rep_int r2, R2.h0.sqL h1, by rw [atI_map, hi]; rfl, k _ H2 H'' R2 (x1.trans x2) (by simp only [Rep])⟩
@[simp] def eIx (pa : FP) (fb : F) : F := eOpP gIx pa (pE fb)
theorem ie_ix (ha : PE X a (tP X.K B pa)) (hb : PE X b (tF X.K B fb)) (hs : PlainIx b := by exact fun _ _ => rfl) : PE X (.Subscript a b pos) (tF X.K B (eIx pa fb)) := (pe_ix ix_seq ha hb hs).pxw fun σ H Q q => rd_ix q

/-! ### slices -/
abbrev FO := S → Option (Option Int × S)
@[simp] def oNone : FO := fun s => some (none, s)
@[simp] def oSome (f : F) : FO := fun s => (f s).bind fun a => match a.1 with | .int i => some (some i, a.2) | _ => none
def tOo (K : PySem.W.Frag) (B : Bs) (f : FO) : TO := fun σ H Q => ∃ s H0 r s', Rel K B s σ H0 H ∧ f s = some (r, s') ∧ ∀ H1 H', Rel K B s' σ H1 H' → Ex H0 H1 → Q r H'
theorem _root_.L2.PO.pxw {X : Cx} {e : Option Expr} {t t' : TO} (h : PO X e t) (w : ∀ σ H Q, t' σ H Q → t σ H Q) : PO X e t' := ⟨fun pins s σ H Q I q => h.run pins s σ H Q I (w σ H Q q)⟩
theorem iq_none : PO X none (tOo X.K B oNone) := po_none.pxw fun σ H Q q => by
  obtain ⟨s, H0, r, s', R, ev, k⟩ := q
  cases ev
  exact k H0 H R (Ex.refl _)
theorem iq_some (h : PE X e (tF X.K B f)) : PO X (some e) (tOo X.K B (oSome f)) := (po_some h).pxw fun σ H Q q => by
  obtain ⟨s, H0, r, s', R, ev, k⟩ := q
  obtain ⟨⟨d, s1⟩, e1, ev⟩ := bnd ev
  dsimp only at ev
  split at ev
  · next i =>
    cases ev
    exact ⟨s, H0, _, _, R, e1, fun v H1 H' R1 x1 r1 => ⟨i, rep_int r1, k H1 H' R1 x1⟩⟩
  · cases ev
def cutD (ds : List D) (lo hi : Option Int) : List D := (ds.drop (HT.sIx ds.length 0 lo)).take (HT.sIx ds.length ds.length hi - HT.sIx ds.length 0 lo)
theorem RepL.cut {H0 : Hp} {ds : List D} {xs : List V} (h : RepL K H0 ds xs) (lo hi : Option Int) : RepL K H0 (cutD ds lo hi) (cutV xs lo hi) := by
  unfold cutD cutV
  rw [h.len]
  exact (h.drop _).take _
@[simp] def gSl (d : D) (lo hi : Option Int) : Option D := match d with
  | .lst ds => some (.lst (cutD ds lo hi))
  | .tup ds => some (.tup (cutD ds lo hi))
  | _ => none
@[simp] def eSl (pa : FP) (l h : FO) : F := fun s => (pa s).bind fun a => (l a.2).bind fun b => (h b.2).bind fun c => (a.1.get c.2).bind fun d => (gSl d b.1 c.1).bind fun r => some (r, c.2)
theorem cutD_all {ds : List D} {lo hi : Option Int} (h : HT.sIx ds.length 0 lo = 0 ∧ HT.sIx ds.length ds.length hi = ds.length) : cutD ds lo hi = ds := by
  unfold cutD
  rw [h.1, h.2, List.drop_zero, Nat.sub_zero, List.take_length]
theorem ie_sl {lo hi : Option Expr} {p2 : Pos} {l h : FO} (ha : PE X a (tP X.K B pa)) (hl : PO X lo (tOo X.K B l)) (hh : PO X hi (tOo X.K B h)) : PE X (.Subscript a (.Slice lo hi none p2) pos) (tF X.K B (eSl pa l h)) := (pe_slice (SlR.or sl_list sl_tupA) ha hl hh).pxw fun σ H Q q => by
  obtain ⟨s, H0, d, s', R, ev, k⟩ := q
  obtain ⟨⟨p1, s1⟩, e1, ev⟩ := bnd ev
  obtain ⟨⟨o2, s2⟩, e2, ev⟩ := bnd ev
  obtain ⟨⟨o3, s3⟩, e3, ev⟩ := bnd ev
  obtain ⟨d1, g1, ev⟩ := bnd ev
  obtain ⟨d', e4, ev⟩ := bnd ev
  cases ev
  refine ⟨s, H0, p1, s1, R, e1, fun x H1 H' R1 x1 r1 => ⟨s1, H1, o2, s2, R1, e2, fun H2 H'' R2 x2 => ⟨s2, H2, o3, s3, R2, e3, fun H3 H3' R3 x3 => ?_⟩⟩⟩
  have r1' := (r1.up x2).up x3
  have x13 := (x1.trans x2).trans x3
  unfold gSl at e4
  split at e4
  · next ds =>
    cases e4
    obtain ⟨p, xs, rfl, l1, h1⟩ := r1'.lst R3 g1
    refine .inl ⟨p, xs, rfl, .of h1, fun t ht => ?_⟩
    have R4 := R3.laidO (o := .lst (cutV xs o2 o3)) ht
    obtain ⟨H4, R5, x5, r5⟩ := R4.freeze (R3.ownNew ht (d := .lst (cutD ds o2 o3)) ⟨_, rfl, l1.cut o2 o3⟩)
    exact k _ H4 _ R5 (x13.trans x5) r5
  · next ds =>
    cases e4
    have hf := r1'.frozen R3 g1 (fun o z => z)
    obtain ⟨p, xs, rfl, l1, h1⟩ := rep_tup_sq hf
    refine .inr ⟨p, xs, rfl, R3.h0.sqT h1, fun z => ?_, fun z t ht => ?_⟩
    · rw [l1.len] at z
      rw [cutD_all z] at k
      exact k _ H3 H3' R3 x13 hf
    · exact k _ _ _ (R3.laid ht) (x13.trans (Ex.new (R3.fresh0 ht))) (rep_tupNew (l1.cut o2 o3) (R3.fresh0 ht))
  · cases e4
end
end Px

set_option Elab.async false
set_option linter.all false
set_option maxRecDepth 100000
set_option maxHeartbeats 1000000
/-! Px4: built-in calls, dicts read, calls of defs -/
namespace Px
open PySem L2
section
variable {X : Cx} {B : Bs} {a b c e : Expr} {pos p : Pos} {fa fb fc f : F} {pa pb : FP} {ba bb : TB} {K : PySem.W.Frag} {σ : St} {H : Hp} {x : Str}

/-! ### a built-in of one argument that is looked at -/
def CaP (K : PySem.W.Frag) (r : List V → Hp → VK → Prop) (g : D → Option D) : Prop := ∀ (B : Bs) s σ H0 H q d d' x (Q : VK), Rel K B s σ H0 H → PRep K σ H0 q x → q.get s = some d → g d = some d' →
  (∀ v H1 H', Rel K B s σ H1 H' → Ex H0 H1 → Rep K H1 d' v → Q v H') → r [x] H Q
def CaO (K : PySem.W.Frag) (r : List V → Hp → VK → Prop) (g : D → Option D) : Prop := ∀ (B : Bs) s σ H0 H q d d' x (Q : VK), Rel K B s σ H0 H → PRep K σ H0 q x → q.get s = some d → g d = some d' →
  (∀ t H', Rel K B s σ H0 H' → OwnAt K B s σ H0 H' t d' → Q (.ref t) H') → r [x] H Q
@[simp] def eB1 (g : D → Option D) (pa : FP) : F := fun s => (pa s).bind fun a => (a.1.get a.2).bind fun d => (g d).bind fun d' => some (d', a.2)
theorem ie_b1 {r : List V → Hp → VK → Prop} {g : D → Option D} {e : Expr} (h : PE X e (tCB r (tCons (tP X.K B pa) tNil))) (hr : CaP X.K r g) : PE X e (tF X.K B (eB1 g pa)) := h.pxw fun σ H Q q => by
  obtain ⟨s, H0, d, s', R, ev, k⟩ := q
  obtain ⟨⟨p1, s1⟩, e1, ev1⟩ := bnd ev
  obtain ⟨d1, g1, ev2⟩ := bnd ev1
  obtain ⟨d', e3, ev3⟩ := bnd ev2
  cases ev3
  exact ⟨s, H0, p1, s1, R, e1, fun x H1 H' R1 x1 r1 => hr B s1 σ H1 H' p1 d1 d x Q R1 r1 g1 e3 fun v H2 H2' R2 x2 r2 => k v H2 H2' R2 (x1.trans x2) r2⟩
theorem io_b1 {r : List V → Hp → VK → Prop} {g : D → Option D} {e : Expr} (h : PE X e (tCB r (tCons (tP X.K B pa) tNil))) (hr : CaO X.K r g) : PE X e (tO X.K B (eB1 g pa)) := h.pxw fun σ H Q q => by
  obtain ⟨s, H0, d, s', R, ev, k⟩ := q
  obtain ⟨⟨p1, s1⟩, e1, ev1⟩ := bnd ev
  obtain ⟨d1, g1, ev2⟩ := bnd ev1
  obtain ⟨d', e3, ev3⟩ := bnd ev2
  cases ev3
  exact ⟨s, H0, p1, s1, R, e1, fun x H1 H' R1 x1 r1 => hr B s1 σ H1 H' p1 d1 d x Q R1 r1 g1 e3 fun t H2' R2 w => k t H1 H2' R2 x1 w⟩
theorem CaP.flat {r : List V → Hp → VK → Prop} {g : D → Option D} (h : ∀ (B : Bs) s σ H0 H q d d' x, Rel K B s σ H0 H → PRep K σ H0 q x → q.get s = some d → g d = some d' → ∃ v, (∀ H1, Rep K H1 d' v) ∧ ∀ (Q : VK), Q v H → r [x] H Q) : CaP K r g :=
  fun B s σ H0 H q d d' x Q R r1 g1 e k => by
    obtain ⟨v, hv, hq⟩ := h B s σ H0 H q d d' x R r1 g1 e
    exact hq Q (k v H0 H R (Ex.refl _) (hv H0))
theorem CaP.or1 {r r' : List V → Hp → VK → Prop} {g : D → Option D} (h : CaP K r g) : CaP K (fun xs H Q => r xs H Q ∨ r' xs H Q) g := fun B s σ H0 H q d d' x Q R r1 g1 e k => .inl (h B s σ H0 H q d d' x Q R r1 g1 e k)
/-- len -/
@[simp] def gLen : D → Option D
  | .lst ds => some (.int ds.length)
  | .tup ds => some (.int ds.length)
  | .scr ns => some (.int ns.length)
  | .str x => if small x.length then some (.int x.length) else none
  | .dK ks _ => some (.int ks.length)
  | _ => none
theorem call_lenRd : CallR X (.builtin "len") (fun xs H Q => ∃ a kvs, xs = [V.ref a] ∧ Rd H a (.dK kvs) ∧ Q (.int kvs.length) H) := by
  intro pins s σ H xs us Q I r h
  obtain ⟨a, kvs, rfl, ha, q⟩ := h
  obtain ⟨u, rfl, ru⟩ := vals1 r
  cases ru
  exact d_len I ha fun t s' I' => ⟨.int kvs.length, H, I', ⟨t, rfl⟩, q⟩
def rLenA (K : PySem.W.Frag) : List V → Hp → VK → Prop := fun xs H Q => (∃ p ys, xs = [.ref p] ∧ (SqL K H p ys ∨ SqT K H p ys) ∧ Q (.int ys.length) H) ∨ (∃ z, xs = [.str z] ∧ z.length ≤ sizeLine ∧ Q (.int z.length) H) ∨ ∃ a kvs, xs = [V.ref a] ∧ Rd H a (.dK kvs) ∧ Q (.int kvs.length) H
theorem call_lenA : CallR X (.builtin "len") (rLenA X.K) := CallR.or call_len_seq (CallR.or call_len_str call_lenRd)
theorem zip_length {α β : Type} {l : List α} {r : List β} (h : l.length = r.length) : (l.zip r).length = l.length := by rw [List.length_zip, h, Nat.min_self]
theorem cap_len : CaP K (rLenA K) gLen := .flat fun B s σ H0 H q d d' x R r1 g1 e => by
  cases d with
  | lst ds =>
    cases e
    obtain ⟨a, xs, rfl, l, h⟩ := r1.lst R g1
    exact ⟨.int ds.length, fun _ => by simp only [Rep], fun Q z => .inl ⟨a, xs, rfl, .inl (.of h), by rw [l.len]; exact z⟩⟩
  | tup ds =>
    cases e
    obtain ⟨a, xs, rfl, l, h⟩ := rep_tup_sq (r1.frozen R g1 (fun o z => z))
    exact ⟨.int ds.length, fun _ => by simp only [Rep], fun Q z => .inl ⟨a, xs, rfl, .inr (R.h0.sqT h), by rw [l.len]; exact z⟩⟩
  | scr ns =>
    cases e
    have hf := r1.frozen R g1 (fun o z => z)
    simp only [Rep] at hf
    obtain ⟨a, rfl, h⟩ := hf
    exact ⟨.int ns.length, fun _ => by simp only [Rep], fun Q z => .inl ⟨a, _, rfl, .inl (R.h0.sqL h), by rw [List.length_map]; exact z⟩⟩
  | str y =>
    simp only [gLen] at e
    split at e
    · next hl =>
      cases e
      have hf := rep_str (r1.frozen R g1 (fun o z => z))
      subst hf
      exact ⟨.int y.length, fun _ => by simp only [Rep], fun Q z => .inr (.inl ⟨y, rfl, small_le hl, z⟩)⟩
    · cases e
  | dK ks ds =>
    cases e
    obtain ⟨a, xs, rfl, l, hl, h⟩ := r1.dK R g1
    exact ⟨.int ks.length, fun _ => by simp only [Rep], fun Q z => .inr (.inr ⟨a, _, rfl, h, by rw [zip_length (hl.trans l.len.symm)]; exact z⟩)⟩
  | _ => cases e
theorem ie_len (hg : Gl X "len") (hm : X.mg "len" = none) (ha : PE X a (tP X.K B pa)) (he : starEach [a] X.env = (false, eval a X.env) :: starEach [] X.env := by rfl) (hpl : (backTo pos (starEach [] X.env)).any (·.1) = false := by rfl) :
    PE X (.Call (.Name "len" p) [a] [] pos) (tF X.K B (eB1 gLen pa)) := ie_b1 (pe_callB call_lenA hg hm PySem.boot_len (pa_cons ha pa_nil he) (by decide) (by decide) he hpl) cap_len
/-- abs -/
@[simp] def gAbs : D → Option D
  | .int i => some (.int (if i < 0 then -i else i))
  | _ => none
theorem cap_abs : CaP K (fun xs H Q => ∃ i, xs = [.int i] ∧ Q (.int (if i < 0 then -i else i)) H) gAbs := .flat fun B s σ H0 H q d d' x R r1 g1 e => by
  cases d with
  | int i => cases e; exact ⟨_, fun _ => by simp only [Rep], fun Q z => ⟨i, by rw [rep_int (r1.frozen R g1 (fun o z => z))], z⟩⟩
  | _ => cases e
theorem ie_abs (hg : Gl X "abs") (hm : X.mg "abs" = none) (ha : PE X a (tP X.K B pa)) (he : starEach [a] X.env = (false, eval a X.env) :: starEach [] X.env := by rfl) (hpl : (backTo pos (starEach [] X.env)).any (·.1) = false := by rfl) :
    PE X (.Call (.Name "abs" p) [a] [] pos) (tF X.K B (eB1 gAbs pa)) := ie_b1 (pe_callB call_abs hg hm (by decide +kernel) (pa_cons ha pa_nil he) (by decide) (by decide) he hpl) cap_abs
/-- ints in a list -/
@[simp] def ints? : List D → Option (List Int)
  | [] => some []
  | .int i :: r => (ints? r).bind fun l => some (i :: l)
  | _ :: _ => none
theorem ints_inv : ∀ {ds : List D} {ns : List Int}, ints? ds = some ns → ds = ns.map D.int
  | [], ns, h => by cases h; rfl
  | .int i :: r, ns, h => by
    obtain ⟨l, e, h'⟩ := bnd (show (ints? r).bind _ = some ns from h)
    cases h'
    rw [List.map_cons, ← ints_inv e]
  | .non :: _, _, h | .bl _ :: _, _, h | .str _ :: _, _, h | .tup _ :: _, _, h | .lst _ :: _, _, h | .dK _ _ :: _, _, h | .dT _ _ :: _, _, h | .scr _ :: _, _, h => by cases h
theorem ints_map : ∀ (ns : List Int), ints? (ns.map D.int) = some ns
  | [] => rfl
  | n :: ns => by rw [List.map_cons]; show (ints? (ns.map D.int)).bind _ = _; rw [ints_map ns]; rfl
@[simp] def gSum : D → Option D
  | .lst ds => (ints? ds).bind fun ns => some (.int ns.sum)
  | _ => none
theorem cap_sum : CaP K (rSum K) gSum := .flat fun B s σ H0 H q d d' x R r1 g1 e => by
  cases d with
  | lst ds =>
    obtain ⟨ns, en, e2⟩ := bnd (show (ints? ds).bind _ = some d' from e)
    cases e2
    have := ints_inv en
    subst this
    obtain ⟨a, xs, rfl, l, h⟩ := r1.lst R g1
    rw [l.ints] at h
    exact ⟨_, fun _ => by simp only [Rep], fun Q z => ⟨a, ns, rfl, .of h, z⟩⟩
  | _ => cases e
theorem ie_sum (hc : X.calm = true) (hg : Gl X "sum") (hm : X.mg "sum" = none) (ha : PE X a (tP X.K B pa)) (he : starEach [a] X.env = (false, eval a X.env) :: starEach [] X.env := by rfl) (hpl : (backTo pos (starEach [] X.env)).any (·.1) = false := by rfl) :
    PE X (.Call (.Name "sum" p) [a] [] pos) (tF X.K B (eB1 gSum pa)) := ie_b1 (pe_callB (cr_sum hc) hg hm (by decide +kernel) (pa_cons ha pa_nil he) (by decide) (by decide) he hpl) cap_sum
/-- tuple(list), tuple(tuple) -/
@[simp] def gTuple : D → Option D
  | .lst ds => some (.tup ds)
  | .tup ds => some (.tup ds)
  | _ => none
theorem cap_tuple : CaP K (fun xs H Q => ∃ p ys, xs = [.ref p] ∧ ((SqL K H p ys ∧ ∀ l, H l = none → Q (.ref l) (upd H l (.tup ys))) ∨ (SqT K H p ys ∧ Q (.ref p) H))) gTuple := fun B s σ H0 H q d d' x Q R r1 g1 e k => by
  cases d with
  | lst ds =>
    cases e
    obtain ⟨a, xs, rfl, l, h⟩ := r1.lst R g1
    exact ⟨a, xs, rfl, .inl ⟨.of h, fun t ht => k _ _ _ (R.laid ht) (Ex.new (R.fresh0 ht)) (rep_tupNew l (R.fresh0 ht))⟩⟩
  | tup ds =>
    cases e
    have hf := r1.frozen R g1 (fun o z => z)
    obtain ⟨a, xs, rfl, l, h⟩ := rep_tup_sq hf
    exact ⟨a, xs, rfl, .inr ⟨R.h0.sqT h, k _ H0 H R (Ex.refl _) hf⟩⟩
  | _ => cases e
theorem ie_tuple (hg : Gl X "tuple") (hm : X.mg "tuple" = none) (ha : PE X a (tP X.K B pa)) (he : starEach [a] X.env = (false, eval a X.env) :: starEach [] X.env := by rfl) (hpl : (backTo pos (starEach [] X.env)).any (·.1) = false := by rfl) :
    PE X (.Call (.Name "tuple" p) [a] [] pos) (tF X.K B (eB1 gTuple pa)) := ie_b1 (pe_callTy call_tuple_of hg hm (by decide +kernel) (pa_cons ha pa_nil he) (by decide) (by decide) he hpl) cap_tuple
/-- list(list), list(tuple) -/
@[simp] def gList : D → Option D
  | .lst ds => some (.lst ds)
  | .tup ds => some (.lst ds)
  | _ => none
theorem cao_list : CaO K (fun xs H Q => ∃ p ys, xs = [.ref p] ∧ (SqL K H p ys ∨ SqT K H p ys) ∧ ∀ l, H l = none → Q (.ref l) (upd H l (.lst ys))) gList := fun B s σ H0 H q d d' x Q R r1 g1 e k => by
  cases d with
  | lst ds =>
    cases e
    obtain ⟨a, xs, rfl, l, h⟩ := r1.lst R g1
    exact ⟨a, xs, rfl, .inl (.of h), fun t ht => k t _ (R.laidO ht) (R.ownNew (o := .lst xs) ht ⟨xs, rfl, l⟩)⟩
  | tup ds =>
    cases e
    obtain ⟨a, xs, rfl, l, h⟩ := rep_tup_sq (r1.frozen R g1 (fun o z => z))
    exact ⟨a, xs, rfl, .inr (R.h0.sqT h), fun t ht => k t _ (R.laidO ht) (R.ownNew (o := .lst xs) ht ⟨xs, rfl, l⟩)⟩
  | _ => cases e
theorem io_list (hg : Gl X "list") (hm : X.mg "list" = none) (ha : PE X a (tP X.K B pa)) (he : starEach [a] X.env = (false, eval a X.env) :: starEach [] X.env := by rfl) (hpl : (backTo pos (starEach [] X.env)).any (·.1) = false := by rfl) :
    PE X (.Call (.Name "list" p) [a] [] pos) (tO X.K B (eB1 gList pa)) := io_b1 (pe_callTy call_list_of hg hm (by decide +kernel) (pa_cons ha pa_nil he) (by decide) (by decide) he hpl) cao_list

/-! ### sorted of ints, of a dict with int keys -/
def ins (x : Int) : List Int → List Int
  | [] => [x]
  | y :: r => if x ≤ y then x :: y :: r else y :: ins x r
def sortI : List Int → List Int
  | [] => []
  | x :: r => ins x (sortI r)
theorem ins_perm (x : Int) : ∀ l : List Int, (ins x l).Perm (x :: l)
  | [] => .refl _
  | y :: r => by
    unfold ins
    split
    · exact .refl _
    · exact ((ins_perm x r).cons y).trans (.swap x y r)
theorem sortI_perm : ∀ l : List Int, (sortI l).Perm l
  | [] => .refl _
  | x :: r => (ins_perm x (sortI r)).trans ((sortI_perm r).cons x)
theorem ins_sorted (x : Int) : ∀ l : List Int, l.Pairwise (· ≤ ·) → (ins x l).Pairwise (· ≤ ·)
  | [], _ => by simp [ins]
  | y :: r, h => by
    unfold ins
    rw [List.pairwise_cons] at h
    split
    · next hx =>
      rw [List.pairwise_cons, List.pairwise_cons]
      refine ⟨fun z hz => ?_, h⟩
      rcases List.mem_cons.mp hz with rfl | hz
      · exact hx
      · exact Int.le_trans hx (h.1 z hz)
    · next hx =>
      rw [List.pairwise_cons]
      refine ⟨fun z hz => ?_, ins_sorted x r h.2⟩
      rcases List.mem_cons.mp ((ins_perm x r).mem_iff.mp hz) with rfl | hz
      · omega
      · exact h.1 z hz
theorem sortI_sorted : ∀ l : List Int, (sortI l).Pairwise (· ≤ ·)
  | [] => .nil
  | x :: r => ins_sorted x _ (sortI_sorted r)
theorem sorted_one : ∀ {l r : List Int}, l.Perm r → l.Pairwise (· ≤ ·) → r.Pairwise (· ≤ ·) → l = r
  | [], r, h, _, _ => h.nil_eq
  | x :: l, r, h, hl, hr => by
    cases r with
    | nil => exact absurd h.length_eq (by simp)
    | cons y r =>
      rw [List.pairwise_cons] at hl hr
      have e : x = y := by
        have h1 : x ∈ y :: r := h.mem_iff.mp List.mem_cons_self
        have h2 : y ∈ x :: l := h.symm.mem_iff.mp List.mem_cons_self
        rcases List.mem_cons.mp h1 with z | z
        · exact z
        · rcases List.mem_cons.mp h2 with w | w
          · exact w.symm
          · exact Int.le_antisymm (hl.1 y w) (hr.1 x z)
      subst e
      rw [sorted_one ((List.perm_cons x).mp h) hl.2 hr.2]
theorem sortI_is {l r : List Int} (h : l.Perm r) (hl : l.Pairwise (· ≤ ·)) : l = sortI r := sorted_one (h.trans (sortI_perm r).symm) hl (sortI_sorted r)
@[simp] def kints? : List Key → Option (List Int)
  | [] => some []
  | .inl i :: r => (kints? r).bind fun l => some (i :: l)
  | .inr _ :: _ => none
theorem kints_inv : ∀ {ks : List Key} {ns : List Int}, kints? ks = some ns → ks = ns.map Sum.inl
  | [], ns, h => by cases h; rfl
  | .inl i :: r, ns, h => by
    obtain ⟨l, e, h'⟩ := bnd (show (kints? r).bind _ = some ns from h)
    cases h'
    rw [List.map_cons, ← kints_inv e]
  | .inr _ :: _, _, h => by cases h
theorem kints_map : ∀ (ns : List Int), kints? (ns.map Sum.inl) = some ns
  | [] => rfl
  | n :: ns => by rw [List.map_cons]; show (kints? (ns.map Sum.inl)).bind _ = _; rw [kints_map ns]; rfl
/-- sorted(d) of a dict with fewer than 64 keys, all ints -/
theorem call_sortedDI (hcalm : X.calm = true) : CallR X (.builtin "sorted") (fun xs H Q => ∃ (a : Addr) (kvs : List (Key × V)) (ks : List Int), xs = [.ref a] ∧ Rd H a (.dK kvs) ∧ kvs.map (·.1) = ks.map Sum.inl ∧ ks.length < 64 ∧
    ∀ (ys : List Int) (p : Addr), ys.Perm ks → ys.Pairwise (· ≤ ·) → H p = none → Q (.ref p) (upd H p (.lst (ys.map V.int)))) := by
  intro pins s σ H xs us Q I r q
  obtain ⟨a, kvs, ks, ex, hd, hks, h64, q⟩ := q
  subst ex
  obtain ⟨u, eu, rx⟩ := vals1 r
  subst eu
  cases rx
  obtain ⟨z, lo, vs, rel, dd⟩ := dk_rd I.hok hd
  obtain ⟨ep, hat⟩ := dd.dictAt
  have hkeys : vs.map (·.1) = ks.map Sum.inl := rel.keys.symm.trans hks
  have hl : vs.length = ks.length := by
    have e := congrArg List.length hkeys
    rw [List.length_map, List.length_map] at e
    exact e
  have h16 : vs.length ≤ sizeLine := by rw [hl, sizeLine_eq]; omega
  refine Calls.call_function_entry PyProof.Rows.kind_sorted PyProof.Rows.plain_sorted PyProof.Rows.entry_sorted (PyProof.Rows.args_sorted1 _) ?_
  unfold Builtin.«sorted»
  refine wpAny_bind (m := checkCount "sorted" 1 1 _) (wpAny_pure ?_)
  refine wpAny_bind (PySem.W.kdu_collect (A := X.A.in1) (PySem.W.kdl_dict (knd := mixKind X.prog X.w) (kvs := vs) (ep := ep) lo) (I.ok.hd hcalm) hat h16 fun h' tk acc hk hacc => ?_)
  have hal : acc.toList.length = ks.length := by rw [Array.length_toList, hacc.1, hl]
  have hV : Vals (ks.map V.int) acc.toList := by
    have all : ∀ (ks : List Int) (us : List Value), us.length = ks.length → (∀ (j : Nat) (v : Value), us[j]? = some v → ∃ (x : Int) (t : Tok), ks[j]? = some x ∧ v = Value.int x t) → Vals (ks.map V.int) us := by
      intro ks
      induction ks with
      | nil =>
        intro us hl _
        have : us = [] := List.eq_nil_of_length_eq_zero hl
        subst this
        exact .nil
      | cons k ks ih =>
        intro us hl h
        cases us with
        | nil => simp at hl
        | cons u us =>
          obtain ⟨x, t, e1, e2⟩ := h 0 u rfl
          have e1' : k = x := Option.some.inj e1
          subst e1'
          exact .cons ⟨t, e2⟩ (ih us (by simpa using hl) fun j v e => by
            obtain ⟨x, t, e1, e2⟩ := h (j + 1) v (by simpa using e)
            exact ⟨x, t, by simpa using e1, e2⟩)
    refine all ks acc.toList hal fun j v e => ?_
    obtain ⟨k, x, e1, e2⟩ := hacc.2 j v (by rw [← Array.getElem?_toList]; exact e)
    have e3 : (vs.map (·.1))[j]? = some k := by rw [List.getElem?_map, e1]; all_goals rfl
    rw [hkeys, List.getElem?_map] at e3
    cases e4 : ks[j]? with
    | none => rw [e4] at e3; cases e3
    | some y =>
      rw [e4] at e3
      have e5 : Sum.inl y = k := Option.some.inj e3
      subst e5
      obtain ⟨t, ev⟩ := Value.isInt_shape (k := y) (v := v) e2
      exact ⟨y, t, rfl, ev⟩
  have hi := hV.ints
  have I1 : Inv X pins σ H { s with heap := h', toks := tk } := I.kept hk
  refine wpAny_bind (wpAny_newList ?_ (by rw [hal, sizeLine_eq]; omega))
  have hoL : (h'.push (PyProof.Rows.seqObj "list" acc.toList.toArray 0)).get? h'.objs.size = some (PyProof.Rows.seqObj "list" acc.toList.toArray 0) := Heap.get?_push_size _ rfl
  show wpAny _ _ _ _ _ { s with heap := h'.push (PyProof.Rows.seqObj "list" acc.toList.toArray 0), toks := tk }
  refine wpAny_bind (wpAny_holding (wpAny_call_entry PyProof.Rows.slot_list_sort ⟨_, hoL, rfl⟩ PyProof.Rows.entry_list_sort
    (PyProof.Rows.list_sort_tree (s := { s with heap := h'.push (PyProof.Rows.seqObj "list" acc.toList.toArray 0), toks := tk }) hoL hi (by rw [hal]; exact h64) fun out ns' h1 h2 h3 => ⟨_, rfl, ?_⟩)
    (PyProof.Rows.args_list_sort _)))
  obtain ⟨e', he'⟩ := PyProof.Rows.sortedHeap_at (vs := acc.toList) (out := out) hoL
  have hlen : (ns'.map V.int).length ≤ sizeLine := by
    rw [List.length_map, h2.length_eq]
    exact Nat.le_trans (Nat.le_of_lt h64) (by decide)
  refine wpAny_pure ⟨_, rfl, .ref h'.objs.size, upd H h'.objs.size (.lst (ns'.map V.int)), I1.laid (t' := tk) (fun b u e => ?_) (Nat.le_refl _)
    (show ObjOk X.prog X.w _ _ _ (.lst (ns'.map V.int)) from ⟨hlen, out.toList, e', vals_of_ints h1, by rw [Array.toArray_toList]; exact he'⟩), rfl, q ns' _ h2 h3 (I1.hok.fresh (Nat.le_refl _))⟩
  have hb : b < h'.objs.size := Heap.lt_size e
  rw [PyProof.Rows.sortedHeap_old (Nat.ne_of_lt hb) (by rw [PyProof.Rows.size_push']; exact Nat.lt_succ_of_lt hb)]
  exact Heap.get?_push_of_some _ e
@[simp] def gSortedD : D → Option D
  | .dK ks _ => (kints? ks).bind fun ns => if ns.length < 64 then some (.lst ((sortI ns).map D.int)) else none
  | _ => none
theorem zip_fst {α β : Type} {l : List α} {r : List β} (h : l.length = r.length) : (l.zip r).map (·.1) = l := List.map_fst_zip (Nat.le_of_eq h)
theorem cao_sortedD : CaO K (fun xs H Q => ∃ (a : Addr) (kvs : List (Key × V)) (ks : List Int), xs = [.ref a] ∧ Rd H a (.dK kvs) ∧ kvs.map (·.1) = ks.map Sum.inl ∧ ks.length < 64 ∧
    ∀ (ys : List Int) (p : Addr), ys.Perm ks → ys.Pairwise (· ≤ ·) → H p = none → Q (.ref p) (upd H p (.lst (ys.map V.int)))) gSortedD := fun B s σ H0 H q d d' x Q R r1 g1 e k => by
  cases d with
  | dK ks ds =>
    obtain ⟨ns, en, e2⟩ := bnd (show (kints? ks).bind _ = some d' from e)
    split at e2
    · next h64 =>
      cases e2
      obtain ⟨a, xs, rfl, l, hl, h⟩ := r1.dK R g1
      refine ⟨a, _, ns, rfl, h, by rw [zip_fst (hl.trans l.len.symm), kints_inv en], h64, fun ys t hp hs ht => ?_⟩
      rw [sortI_is hp hs]
      exact k t _ (R.laidO ht) (R.ownNew (o := .lst _) ht ⟨_, rfl, RepL.of_ints _⟩)
    · cases e2
  | _ => cases e
theorem io_sortedD (hc : X.calm = true) (hg : Gl X "sorted") (hm : X.mg "sorted" = none) (ha : PE X a (tP X.K B pa)) (he : starEach [a] X.env = (false, eval a X.env) :: starEach [] X.env := by rfl) (hpl : (backTo pos (starEach [] X.env)).any (·.1) = false := by rfl) :
    PE X (.Call (.Name "sorted" p) [a] [] pos) (tO X.K B (eB1 gSortedD pa)) := io_b1 (pe_callB (call_sortedDI hc) hg hm (by decide +kernel) (pa_cons ha pa_nil he) (by decide) (by decide) he hpl) cao_sortedD

/-! ### min, max of two ints -/
@[simp] def eMin := eOp (gI fun i j => .int (if j < i then j else i))
@[simp] def eMax := eOp (gI fun i j => .int (if j > i then j else i))
theorem ie_min (hc : X.calm = true) (hg : Gl X "min") (hm : X.mg "min" = none) (ha : PE X a (tF X.K B fa)) (hb : PE X b (tF X.K B fb)) (he : starEach [a, b] X.env = (false, eval a X.env) :: starEach [b] X.env := by rfl) (he2 : starEach [b] X.env = (false, eval b X.env) :: starEach [] X.env := by rfl) (hpl : (backTo pos (starEach [b] X.env)).any (·.1) = false := by rfl) :
    PE X (.Call (.Name "min" p) [a, b] [] pos) (tF X.K B (eMin fa fb)) := (pe_callB (call_min2 hc) hg hm (by decide +kernel) (pa_cons ha (pa_cons hb pa_nil he2) he) (by decide) (by decide) he hpl).pxw fun σ H Q q => by
  have q' := rd_op2 (r := rI0 fun i j => .int (if j < i then j else i)) opd_I q
  obtain ⟨s, H0, r, s', R, ev, k⟩ := q'
  refine ⟨s, H0, r, s', R, ev, fun v H1 H' R1 x1 r1 => ?_⟩
  obtain ⟨s, H0, r, s', R, ev, k2⟩ := k v H1 H' R1 x1 r1
  refine ⟨s, H0, r, s', R, ev, fun v2 H2 H2' R2 x2 r2 => ?_⟩
  obtain ⟨i, j, rfl, rfl, z⟩ := k2 v2 H2 H2' R2 x2 r2
  exact ⟨i, j, rfl, z⟩
theorem ie_max (hc : X.calm = true) (hg : Gl X "max") (hm : X.mg "max" = none) (ha : PE X a (tF X.K B fa)) (hb : PE X b (tF X.K B fb)) (he : starEach [a, b] X.env = (false, eval a X.env) :: starEach [b] X.env := by rfl) (he2 : starEach [b] X.env = (false, eval b X.env) :: starEach [] X.env := by rfl) (hpl : (backTo pos (starEach [b] X.env)).any (·.1) = false := by rfl) :
    PE X (.Call (.Name "max" p) [a, b] [] pos) (tF X.K B (eMax fa fb)) := (pe_callB (call_max2 hc) hg hm (by decide +kernel) (pa_cons ha (pa_cons hb pa_nil he2) he) (by decide) (by decide) he hpl).pxw fun σ H Q q => by
  have q' := rd_op2 (r := rI0 fun i j => .int (if j > i then j else i)) opd_I q
  obtain ⟨s, H0, r, s', R, ev, k⟩ := q'
  refine ⟨s, H0, r, s', R, ev, fun v H1 H' R1 x1 r1 => ?_⟩
  obtain ⟨s, H0, r, s', R, ev, k2⟩ := k v H1 H' R1 x1 r1
  refine ⟨s, H0, r, s', R, ev, fun v2 H2 H2' R2 x2 r2 => ?_⟩
  obtain ⟨i, j, rfl, rfl, z⟩ := k2 v2 H2 H2' R2 x2 r2
  exact ⟨i, j, rfl, z⟩

/-! ### dicts read -/
@[simp] def look {κ : Type} [DecidableEq κ] : List κ → List D → κ → Option D
  | k' :: ks, d :: ds, k => if k' = k then some d else look ks ds k
  | _, _, _ => none
theorem look_val {κ : Type} [DecidableEq κ] {H0 : Hp} {k : κ} : ∀ {ks : List κ} {ds : List D} {xs : List V} {d : D}, RepL K H0 ds xs → look ks ds k = some d → ∃ v, valV (ks.zip xs) k = some v ∧ Rep K H0 d v
  | [], _, _, _, _, h => by simp [look] at h
  | _ :: _, [], _, _, _, h => by simp [look] at h
  | k' :: ks, d' :: ds, xs, d, r, h => by
    obtain ⟨x, rs, rfl, r1, r2⟩ := r.of_cons
    unfold look at h
    rw [List.zip_cons_cons]
    by_cases e : k' = k
    · rw [if_pos e] at h
      cases h
      exact ⟨x, valV_pos e, r1⟩
    · rw [if_neg e] at h
      obtain ⟨v, e1, e2⟩ := look_val r2 h
      exact ⟨v, by rw [valV_neg e]; exact e1, e2⟩
theorem look_none {κ : Type} [DecidableEq κ] {H0 : Hp} {k : κ} : ∀ {ks : List κ} {ds : List D} {xs : List V}, RepL K H0 ds xs → look ks ds k = none → ks.length = ds.length → valV (ks.zip xs) k = none
  | [], _, _, _, _, _ => rfl
  | _ :: _, [], _, _, _, h => by simp at h
  | k' :: ks, d' :: ds, xs, r, h, hl => by
    obtain ⟨x, rs, rfl, r1, r2⟩ := r.of_cons
    unfold look at h
    rw [List.zip_cons_cons]
    by_cases e : k' = k
    · rw [if_pos e] at h; cases h
    · rw [if_neg e] at h
      rw [valV_neg e]
      exact look_none r2 h (by simpa using hl)
@[simp] def key? : D → Option Key
  | .int i => some (.inl i)
  | .str x => some (.inr x)
  | _ => none
theorem key_inv {H0 : Hp} {d : D} {k : Key} {v : V} (h : key? d = some k) (r : Rep K H0 d v) : v = kV k := by
  cases d with
  | int i => cases h; exact rep_int r
  | str i => cases h; exact rep_str r
  | _ => cases h
@[simp] def keys? : List D → Option (List Key)
  | [] => some []
  | d :: ds => (key? d).bind fun k => (keys? ds).bind fun ks => some (k :: ks)
theorem keys_inv {H0 : Hp} : ∀ {ds : List D} {ks : List Key} {xs : List V}, keys? ds = some ks → RepL K H0 ds xs → xs = ks.map kV
  | [], ks, xs, h, r => by cases h; exact r.of_nil
  | d :: ds, ks, xs, h, r => by
    obtain ⟨x, rs, rfl, r1, r2⟩ := r.of_cons
    obtain ⟨k, e1, h1⟩ := bnd (show (key? d).bind _ = some ks from h)
    obtain ⟨ks', e2, h2⟩ := bnd h1
    cases h2
    rw [List.map_cons, key_inv e1 r1, keys_inv e2 r2]
/-- the tuple as a key (not one of ints alone) -/
@[simp] def tkey? : D → Option (List Key)
  | .tup ds => if allI ds then none else keys? ds
  | _ => none
theorem tkey_inv {H0 : Hp} {d : D} {k : List Key} {v : V} (h : tkey? d = some k) (r : Rep K H0 d v) : ∃ b, v = .ref b ∧ H0 b = some (.tup (k.map kV)) := by
  cases d with
  | tup ds =>
    simp only [tkey?] at h
    split at h
    · cases h
    · next hn =>
      simp only [Rep] at r
      obtain ⟨a, xs, rfl, l, q⟩ := r
      rw [keys_inv h l] at q
      rcases q with q | ⟨_, q⟩
      · exact ⟨a, rfl, q⟩
      · exact absurd q hn
  | _ => cases h
/-- what is asked of a dict at a key: none where the dict or the key are of no served kind -/
@[simp] def gAsk : D → D → Option (Option D)
  | .dK ks ds, k => (key? k).bind fun k => if ks.length = ds.length then some (look ks ds k) else none
  | .dT ks ds, k => (tkey? k).bind fun k => if ks.length = ds.length then some (look ks ds k) else none
  | _, _ => none
def OptR (K : PySem.W.Frag) (H0 : Hp) (o : Option D) (ov : Option V) : Prop := match o with | some e => ∃ v, ov = some v ∧ Rep K H0 e v | none => ov = none
theorem ask_dget {s : S} {H0 : Hp} {q : PR} {d k : D} {x y : V} {o : Option D} (R : Rel K B s σ H0 H) (r1 : PRep K σ H0 q x) (g1 : q.get s = some d) (r2 : Rep K H0 k y) (h : gAsk d k = some o) :
    ∃ a ov, x = .ref a ∧ DGet H a y ov ∧ IsD H a ∧ OptR K H0 o ov := by
  cases d with
  | dK ks ds =>
    obtain ⟨key, ek, h1⟩ := bnd (show (key? k).bind _ = some o from h)
    split at h1
    · next hl =>
      cases h1
      obtain ⟨a, xs, rfl, l, _, hr⟩ := r1.dK R g1
      refine ⟨a, _, rfl, .inl ⟨_, key, hr, key_inv ek r2, rfl⟩, .inl ⟨_, hr⟩, ?_⟩
      unfold OptR
      split
      · next e => exact look_val l e
      · next e => exact look_none l e hl
    · cases h1
  | dT ks ds =>
    obtain ⟨key, ek, h1⟩ := bnd (show (tkey? k).bind _ = some o from h)
    split at h1
    · next hl =>
      cases h1
      obtain ⟨a, xs, rfl, l, _, hr⟩ := r1.dT R g1
      obtain ⟨b, rfl, hb⟩ := tkey_inv ek r2
      refine ⟨a, _, rfl, .inr ⟨_, key, b, hr, rfl, R.h0 _ _ hb, rfl⟩, .inr ⟨_, hr⟩, ?_⟩
      unfold OptR
      split
      · next e => exact look_val l e
      · next e => exact look_none l e hl
    · cases h1
  | _ => cases h
@[simp] def gGet (d k : D) : Option D := (gAsk d k).bind fun o => o
@[simp] def eGet (pa : FP) (fb : F) : F := eOpP gGet pa (pE fb)
theorem ie_get (hu : X.A.units + 1 < cLine) (ha : PE X a (tP X.K B pa)) (hb : PE X b (tF X.K B fb)) (hs : NoSl b := by exact fun _ _ => rfl) : PE X (.Subscript a b pos) (tF X.K B (eGet pa fb)) := (pe_dget hu ha hb hs).pxw fun σ H Q q => by
  obtain ⟨s, H0, d, s', R, ev, k⟩ := q
  obtain ⟨⟨p1, s1⟩, e1, ev1⟩ := bnd ev
  obtain ⟨⟨p2, s2⟩, e2, ev2⟩ := bnd ev1
  obtain ⟨⟨d2', s2'⟩, e2', ev'⟩ := bnd e2
  cases ev'
  obtain ⟨d1, g1, ev3⟩ := bnd ev2
  obtain ⟨d2, g2, ev4⟩ := bnd ev3
  cases g2
  obtain ⟨d', e3, ev5⟩ := bnd ev4
  cases ev5
  refine ⟨s, H0, p1, s1, R, e1, fun x H1 H' R1 x1 r1 => ⟨s1, H1, d2', s2', R1, e2', fun y H2 H'' R2 x2 r2 => ?_⟩⟩
  obtain ⟨o, eo, e4⟩ := bnd (show (gAsk d1 d2').bind _ = some d from e3)
  cases e4
  obtain ⟨a, ov, rfl, dg, _, v, rfl, rv⟩ := ask_dget R2 (r1.up x2) g1 r2 eo
  exact ⟨a, v, rfl, dg, k v H2 H'' R2 (x1.trans x2) rv⟩
/-- k in d -/
@[simp] def gIn (neg : Bool) (k d : D) : Option D := (gAsk d k).bind fun o => some (.bl (if neg then !o.isSome else o.isSome))
@[simp] def eIn (neg : Bool) (fa : F) (pb : FP) : F := fun s => (fa s).bind fun a => (pb a.2).bind fun b => (b.1.get b.2).bind fun d => (gIn neg a.1 d).bind fun r => some (r, b.2)
theorem ask_some {K : PySem.W.Frag} {H0 : Hp} {o : Option D} {ov : Option V} (h : OptR K H0 o ov) : ov.isSome = o.isSome := by
  cases o with
  | none => rw [show ov = none from h]; rfl
  | some e => obtain ⟨v, e1, _⟩ := h; rw [e1]; rfl
theorem rd_in {Q : VK} (q : tF K B (eIn false fa pb) σ H Q) : tDIn (tF K B fa) (tP K B pb) σ H Q := by
  obtain ⟨s, H0, d, s', R, ev, k⟩ := q
  obtain ⟨⟨d1, s1⟩, e1, ev1⟩ := bnd ev
  obtain ⟨⟨p2, s2⟩, e2, ev2⟩ := bnd ev1
  obtain ⟨d2, g2, ev3⟩ := bnd ev2
  obtain ⟨d', e3, ev4⟩ := bnd ev3
  cases ev4
  refine ⟨s, H0, d1, s1, R, e1, fun x H1 H' R1 x1 r1 => ⟨s1, H1, p2, s2, R1, e2, fun y H2 H'' R2 x2 r2 => ?_⟩⟩
  obtain ⟨o, eo, e4⟩ := bnd (show (gAsk d2 d1).bind _ = some d from e3)
  cases e4
  obtain ⟨a, ov, rfl, dg, _, h⟩ := ask_dget R2 r2 g2 (r1.up x2) eo
  exact ⟨a, ov, rfl, dg, by rw [ask_some h]; exact k _ H2 H'' R2 (x1.trans x2) (by simp only [Rep]; rfl)⟩
theorem rd_notIn {Q : VK} (q : tF K B (eIn true fa pb) σ H Q) : tDNotIn (tF K B fa) (tP K B pb) σ H Q := by
  obtain ⟨s, H0, d, s', R, ev, k⟩ := q
  obtain ⟨⟨d1, s1⟩, e1, ev1⟩ := bnd ev
  obtain ⟨⟨p2, s2⟩, e2, ev2⟩ := bnd ev1
  obtain ⟨d2, g2, ev3⟩ := bnd ev2
  obtain ⟨d', e3, ev4⟩ := bnd ev3
  cases ev4
  refine ⟨s, H0, d1, s1, R, e1, fun x H1 H' R1 x1 r1 => ⟨s1, H1, p2, s2, R1, e2, fun y H2 H'' R2 x2 r2 => ?_⟩⟩
  obtain ⟨o, eo, e4⟩ := bnd (show (gAsk d2 d1).bind _ = some d from e3)
  cases e4
  obtain ⟨a, ov, rfl, dg, _, h⟩ := ask_dget R2 r2 g2 (r1.up x2) eo
  exact ⟨a, ov, rfl, dg, by rw [ask_some h]; exact k _ H2 H'' R2 (x1.trans x2) (by simp only [Rep]; rfl)⟩
theorem ie_din (hu : X.A.units + 1 < cLine) (ha : PE X a (tF X.K B fa)) (hb : PE X b (tP X.K B pb)) (hm : behindInMarks .In b = false := by rfl) : PE X (.Compare a [.In] [b] pos) (tF X.K B (eIn false fa pb)) := (pe_cmp (pc_din hu ha hb) hm).pxw fun σ H Q q => rd_in q
theorem it_din (hu : X.A.units + 1 < cLine) (ha : PE X a (tF X.K B fa)) (hb : PE X b (tP X.K B pb)) (hm : behindInMarks .In b = false := by rfl) : PT X (.Compare a [.In] [b] pos) (tT X.K B (bT (eIn false fa pb))) := it_of (pt_cmp (pc_din hu ha hb) hm) fun q => rd_in q
/-- d.get(k, x) -/
@[simp] def eGet2 (pa : FP) (fk fx : F) : F := fun s => (pa s).bind fun a => (fk a.2).bind fun b => (fx b.2).bind fun c => (a.1.get c.2).bind fun d => (gAsk d b.1).bind fun o => some (o.getD c.1, c.2)
theorem isD_of {s : S} {H0 : Hp} {q : PR} {d : D} {x : V} {k : D} {o : Option D} (R : Rel K B s σ H0 H) (r1 : PRep K σ H0 q x) (g1 : q.get s = some d) (h : gAsk d k = some o) : ∃ a, x = .ref a ∧ IsD H a := by
  cases d with
  | dK ks ds => obtain ⟨a, xs, rfl, _, _, h⟩ := r1.dK R g1; exact ⟨a, rfl, .inl ⟨_, h⟩⟩
  | dT ks ds => obtain ⟨a, xs, rfl, _, _, h⟩ := r1.dT R g1; exact ⟨a, rfl, .inr ⟨_, h⟩⟩
  | _ => cases h
end
end Px

set_option Elab.async false
set_option linter.all false
set_option maxRecDepth 100000
set_option maxHeartbeats 1000000
/-! Px5: promises of defs by abstract functions (spF, spB), calls of defs, statements without loops -/
namespace Px
open PySem L2
/-- what comes back: a new object of the caller's own, or frozen data -/
def Res (K : PySem.W.Frag) (Hin H1 H' : Hp) (o : Bool) (d : D) (v : V) : Prop :=
  if o then ∃ p u, v = .ref p ∧ Hin p = none ∧ H1 p = none ∧ H' p = some u ∧ Cell K H1 u d else Rep K H1 d v
abbrev FnD := List D → Option (Bool × D)
abbrev FnB := D → List D → Option (Bool × D × D)
def spF (K : PySem.W.Frag) (n : Nat) (G : FnD) : Sp := fun vs H Q _ => ∃ H0 ds o d, vs.length = n ∧ Ex H0 H ∧ RepL K H0 ds vs ∧ G ds = some (o, d) ∧
  ∀ v H1 H', Ex H H' → Ex H0 H1 → Ex H1 H' → (∀ b u, H1 b = some u → H0 b = some u ∨ Nw H b u) → Res K H H1 H' o d v → Q v H'
def spB (K : PySem.W.Frag) (n : Nat) (G : FnB) : Sp := fun vs H Q _ => ∃ q ws H0 c d0 ds o d d1, vs = .ref q :: ws ∧ ws.length = n ∧ Ex H0 H ∧ H0 q = none ∧ H q = some c ∧ Cell K H0 c d0 ∧ RepL K H0 ds ws ∧ G d0 ds = some (o, d, d1) ∧
  ∀ v H1 H' c', (∀ b u, b ≠ q → H b = some u → H' b = some u) → Ex H0 H1 → Ex H1 H' → H1 q = none → (∀ b u, H1 b = some u → H0 b = some u ∨ Nw H b u) → H' q = some c' → Cell K H1 c' d1 → Res K H H1 H' o d v → Q v H'
/-- a def that can be called by its name -/
def HasFn (P : Program) (w : World) (K : PySem.W.Frag) (mg : Str → Option Value) (base : Heap) (k : Nat) (x : Str) (sp : Sp) : Prop :=
  ∃ f fd ps, FnOk P w K mg base CX0 k f fd ps sp ∧ mg x = some (.ref f) ∧ PySem.W.keepIn K (.ref f) = true ∧ Binds K fd ps []

section
variable {K : PySem.W.Frag} {B : Bs} {s : S} {σ : St} {H0 H H1 H' : Hp} {d : D} {v : V}
/-- behind a call -/
theorem Rel.call (R : Rel K B s σ H0 H) (e : Ex H H') (e0 : Ex H0 H1) (e1 : Ex H1 H') (hn : ∀ b u, H1 b = some u → H0 b = some u ∨ Nw H b u) : Rel K B s σ H1 H' := by
  refine ⟨fun b xs h => ?_, R.fr.trans e, fun b h => R.dom b (e.back h), R.z0.trans e0, e1, fun b u h => ?_, R.len, fun i d h => ?_, fun i m d h hm => ?_, R.ne⟩
  · cases q : H b with
    | none => exact .inl (R.dom b q)
    | some o => rw [e b o q] at h; cases h; exact R.tp b xs q
  · rcases hn b u h with z | z | ⟨xs, rfl, z⟩
    · exact R.new b u z
    · exact .inr (.inl (R.dom b z))
    · exact .inr (R.tp b xs z)
  · obtain ⟨v, ev, r⟩ := R.sh i d h
    exact ⟨v, ev, r.up e0⟩
  · obtain ⟨p, ev, w⟩ := R.ow i m d h hm
    obtain ⟨o, ho, hc⟩ := w.ob
    refine ⟨p, ev, ?_, w.b, w.ow, w.rf, o, e _ _ ho, hc.up e0⟩
    cases q : H1 p with
    | none => rfl
    | some u =>
      rcases hn p u q with z | z | ⟨xs, rfl, z⟩
      · rw [w.z] at z; cases z
      · rw [ho] at z; cases z
      · rw [ho] at z; cases z; exact hc.noTup.elim
theorem Rel.resO (R : Rel K B s σ H0 H) {p : Addr} {u : HO} (hp : H p = none) (h1 : H1 p = none) (h2 : H' p = some u) (hc : Cell K H1 u d) (e : Ex H H') : OwnAt K B s σ H1 H' p d :=
  ⟨h1, R.dom p hp, R.fr.back hp, ⟨u, h2, hc⟩, fun i m e' h hm z => by
    obtain ⟨q, ev, w⟩ := R.ow i m e' h hm
    rw [ev] at z; cases z
    obtain ⟨o, ho, _⟩ := w.ob
    rw [hp] at ho; cases ho⟩
/-- behind a call that had the object of slot i by reference -/
theorem Rel.callB {i : Nat} {m : Md} {d0 d1 : D} {q : Addr} {c' : HO} (R : Rel K B s σ H0 H) (h : s[i]? = some (some (m, d0))) (hm : m ≠ .sh) (ev : σ[i]? = some (some (.ref q)))
    (e : ∀ b u, b ≠ q → H b = some u → H' b = some u) (e0 : Ex H0 H1) (e1 : Ex H1 H') (hq : H1 q = none) (hn : ∀ b u, H1 b = some u → H0 b = some u ∨ Nw H b u) (hc' : H' q = some c') (hc : Cell K H1 c' d1) :
    Rel K B (s.set i (some (m, d1))) σ H1 H' := by
  obtain ⟨q', ev', w0⟩ := R.ow i m d0 h hm
  rw [ev] at ev'; cases ev'
  have dm : ∀ b, H' b = none → H b = none := fun b hb => by
    cases z : H b with
    | none => rfl
    | some u =>
      by_cases bq : b = q
      · subst bq; rw [hc'] at hb; cases hb
      · rw [e b u bq z] at hb; cases hb
  have tp : ∀ b xs, H' b = some (.tup xs) → Nw B.hE b (.tup xs) := fun b xs hb => by
    by_cases bq : b = q
    · subst bq; rw [hc'] at hb; cases hb; exact hc.noTup.elim
    · cases z : H b with
      | none => exact .inl (R.dom b z)
      | some o => rw [e b o bq z] at hb; cases hb; exact R.tp b xs z
  refine ⟨tp, fun a u ha => ?_, fun b hb => R.dom b (dm b hb), R.z0.trans e0, e1, fun b u hb => ?_, by simp [R.len], fun j f hj => ?_, fun j n f hj hn' => ?_, fun j k m1 n1 e' f q' h1 hm1 h2 hn1 g1 g2 => ?_⟩
  · have ne : a ≠ q := fun z => by rw [z, w0.b] at ha; cases ha
    exact e a u ne (R.fr a u ha)
  · rcases hn b u hb with z | z | ⟨xs, rfl, z⟩
    · exact R.new b u z
    · exact .inr (.inl (R.dom b z))
    · exact .inr (R.tp b xs z)
  · rcases set_get hj with ⟨rfl, z⟩ | ⟨_, hj'⟩
    · cases z; exact absurd rfl hm
    · obtain ⟨v, ev, r⟩ := R.sh j f hj'
      exact ⟨v, ev, r.up e0⟩
  · rcases set_get hj with ⟨rfl, z⟩ | ⟨ji, hj'⟩
    · cases z
      exact ⟨q, ev, hq, w0.b, w0.ow, w0.rf, c', hc', hc⟩
    · obtain ⟨p, ep, w⟩ := R.ow j n f hj' hn'
      have ne : p ≠ q := fun z => ji (R.ne j i n m f d0 q hj' hn' h hm (by rw [ep, z]) ev)
      obtain ⟨o, ho, hcc⟩ := w.ob
      refine ⟨p, ep, ?_, w.b, w.ow, w.rf, o, e p o ne ho, hcc.up e0⟩
      cases z : H1 p with
      | none => rfl
      | some u =>
        rcases hn p u z with y | y | ⟨xs, rfl, y⟩
        · rw [w.z] at y; cases y
        · rw [ho] at y; cases y
        · rw [ho] at y; cases y; exact hcc.noTup.elim
  · have g : ∀ {l : Nat} {mm : Md} {x : D}, (s.set i (some (m, d1)))[l]? = some (some (mm, x)) → ∃ y, s[l]? = some (some (mm, y)) := fun {l mm x} hh => by
      rcases set_get hh with ⟨rfl, z⟩ | ⟨_, hh'⟩
      · cases z; exact ⟨d0, h⟩
      · exact ⟨x, hh'⟩
    obtain ⟨y1, h1'⟩ := g h1
    obtain ⟨y2, h2'⟩ := g h2
    exact R.ne j k m1 n1 y1 y2 q' h1' hm1 h2' hn1 g1 g2
end

section
variable {X : Cx} {B : Bs} {a b c e : Expr} {pos p apos : Pos} {fa fb fc f : F} {pa pb : FP} {ba bb : TB} {ga : FA} {K : PySem.W.Frag} {σ : St} {H : Hp} {x y : Str} {k n : Nat} {es : List Expr}
/-! ### calls -/
@[simp] def eCall (G : FnD) (ga : FA) : F := fun s => (ga s).bind fun a => (G a.1).bind fun r => some (r.2, a.2)
@[simp] def eCallO (G : FnD) (ga : FA) : F := fun s => (ga s).bind fun a => (G a.1).bind fun r => if r.1 then some (r.2, a.2) else none
theorem pe_fn {sp : Sp} {t : TA} (h : HasFn X.prog X.w X.K X.mg X.base k x sp) (hr : Room k X.A) (hg : Gl X x) (ha : PA X (e :: es) t) (hdb : (x == ("__debug__" : Str)) = false := by decide)
    (he : starEach (e :: es) X.env = (false, eval e X.env) :: starEach es X.env := by rfl) (hpl : (backTo pos (starEach es X.env)).any (·.1) = false := by rfl) : PE X (.Call (.Name x p) (e :: es) [] pos) (fun σ H Q => t σ H fun vs H1 => sp vs H1 Q E0) := by
  obtain ⟨f, fd, ps, F, hm, hk, hb⟩ := h
  refine (pe_call F hr hg hm hk hb .nil pass0 ha hdb he hpl).pxw fun σ H Q q => ?_
  show t σ H fun vs H1 => sp (vs ++ []) H1 Q E0
  have e : (fun vs H1 => sp (vs ++ []) H1 Q E0) = fun vs H1 => sp vs H1 Q E0 := by funext vs H1; rw [List.append_nil]
  rw [e]
  exact q
theorem ie_call {G : FnD} (h : HasFn X.prog X.w X.K X.mg X.base k x (spF X.K n G)) (hr : Room k X.A) (hg : Gl X x) (hn : (e :: es).length = n) (ha : PA X (e :: es) (tA X.K B ga)) (hla : ∀ s r s', ga s = some (r, s') → r.length = n) (hdb : (x == ("__debug__" : Str)) = false := by decide)
    (he : starEach (e :: es) X.env = (false, eval e X.env) :: starEach es X.env := by rfl) (hpl : (backTo pos (starEach es X.env)).any (·.1) = false := by rfl) : PE X (.Call (.Name x p) (e :: es) [] pos) (tF X.K B (eCall G ga)) := (pe_fn h hr hg ha hdb he hpl).pxw fun σ H Q q => by
  obtain ⟨s, H0, d, s', R, ev, k⟩ := q
  obtain ⟨⟨ds, s1⟩, e1, ev1⟩ := bnd ev
  obtain ⟨⟨o, d1⟩, e2, ev2⟩ := bnd ev1
  cases ev2
  refine ⟨s, H0, ds, s1, R, e1, fun vs H1 H' R1 x1 r1 => ⟨H1, ds, o, _, by rw [r1.len]; exact hla _ _ _ e1, R1.h0, r1, e2, fun v H2 H2' y1 y2 y3 y4 r2 => ?_⟩⟩
  have R2 := R1.call y1 y2 y3 y4
  unfold Res at r2
  split at r2
  · obtain ⟨q, u, rfl, z1, z2, z3, z4⟩ := r2
    obtain ⟨H3, R3, x3, r3⟩ := R2.freeze (R1.resO z1 z2 z3 z4 y1)
    exact k _ H3 H2' R3 ((x1.trans y2).trans x3) r3
  · exact k v H2 H2' R2 (x1.trans y2) r2
theorem io_call {G : FnD} (h : HasFn X.prog X.w X.K X.mg X.base k x (spF X.K n G)) (hr : Room k X.A) (hg : Gl X x) (hn : (e :: es).length = n) (ha : PA X (e :: es) (tA X.K B ga)) (hla : ∀ s r s', ga s = some (r, s') → r.length = n) (hdb : (x == ("__debug__" : Str)) = false := by decide)
    (he : starEach (e :: es) X.env = (false, eval e X.env) :: starEach es X.env := by rfl) (hpl : (backTo pos (starEach es X.env)).any (·.1) = false := by rfl) : PE X (.Call (.Name x p) (e :: es) [] pos) (tO X.K B (eCallO G ga)) := (pe_fn h hr hg ha hdb he hpl).pxw fun σ H Q q => by
  obtain ⟨s, H0, d, s', R, ev, k⟩ := q
  obtain ⟨⟨ds, s1⟩, e1, ev1⟩ := bnd ev
  obtain ⟨⟨o, d1⟩, e2, ev2⟩ := bnd ev1
  cases o with
  | false => cases ev2
  | true =>
    cases ev2
    refine ⟨s, H0, ds, s1, R, e1, fun vs H1 H' R1 x1 r1 => ⟨H1, ds, true, _, by rw [r1.len]; exact hla _ _ _ e1, R1.h0, r1, e2, fun v H2 H2' y1 y2 y3 y4 r2 => ?_⟩⟩
    have R2 := R1.call y1 y2 y3 y4
    obtain ⟨q, u, rfl, z1, z2, z3, z4⟩ := r2
    exact k _ H2 H2' R2 (x1.trans y2) (R1.resO z1 z2 z3 z4 y1)
theorem la_nil : ∀ s r s', aNil s = some (r, s') → r.length = 0 := fun s r s' h => by cases h; rfl
theorem la_cons {f : F} {g : FA} {n : Nat} (h : ∀ s r s', g s = some (r, s') → r.length = n) : ∀ s r s', aCons f g s = some (r, s') → r.length = n + 1 := fun s r s' ev => by
  obtain ⟨⟨d1, s1⟩, e1, ev1⟩ := bnd ev
  obtain ⟨⟨ds, s2⟩, e2, ev2⟩ := bnd ev1
  cases ev2
  rw [List.length_cons, h _ _ _ e2]
/-- f(bag, ..): the object of slot i by reference -/
@[simp] def isOwn (s : S) (i : Nat) : Bool := match s[i]? with
  | some (some (.sh, _)) => false
  | some (some (_, _)) => true
  | _ => false
theorem isOwn_inv {s : S} {i : Nat} (h : isOwn s i = true) : ∃ m d, s[i]? = some (some (m, d)) ∧ m ≠ .sh := by
  unfold isOwn at h
  split at h
  · cases h
  · next m d hm hd => exact ⟨m, d, hd, hm⟩
  · cases h
@[simp] def ownAt (s : S) (i : Nat) : Option (Md × D) := match s[i]? with
  | some (some (.sh, _)) => none
  | some (some (m, d)) => some (m, d)
  | _ => none
theorem ownAt_inv {s : S} {i : Nat} {m : Md} {d : D} (h : ownAt s i = some (m, d)) : s[i]? = some (some (m, d)) ∧ m ≠ .sh := by
  unfold ownAt at h
  split at h
  · cases h
  · next m d hm hd => cases h; exact ⟨hd, hm⟩
  · cases h
@[simp] def eCallB (G : FnB) (i : Nat) (ga : FA) : F := fun s => (ownAt s i).bind fun _ => (ga s).bind fun a => (ownAt a.2 i).bind fun m => (G m.2 a.1).bind fun r => some (r.2.1, a.2.set i (some (m.1, r.2.2)))
theorem ie_callB {G : FnB} {i : Nat} {pn : Pos} (h : HasFn X.prog X.w X.K X.mg X.base k x (spB X.K n G)) (hr : Room k X.A) (hg : Gl X x) (hv : PE X (.Name y pn) (tVar i)) (ha : PA X es (tA X.K B ga)) (hla : ∀ s r s', ga s = some (r, s') → r.length = n) (hdb : (x == ("__debug__" : Str)) = false := by decide)
    (he : starEach (.Name y pn :: es) X.env = (false, eval (.Name y pn) X.env) :: starEach es X.env := by rfl) (hpl : (backTo pos (starEach es X.env)).any (·.1) = false := by rfl) : PE X (.Call (.Name x p) (.Name y pn :: es) [] pos) (tF X.K B (eCallB G i ga)) := (pe_fn h hr hg (pa_cons hv ha he) hdb he hpl).pxw fun σ H Q q => by
  obtain ⟨s, H0, d, s', R, ev, k⟩ := q
  obtain ⟨⟨m', d'⟩, e0, ev0⟩ := bnd ev
  obtain ⟨⟨ds, s1⟩, e1, ev1⟩ := bnd ev0
  obtain ⟨⟨m, d0⟩, e2, ev2⟩ := bnd ev1
  obtain ⟨⟨o, d2, d1⟩, e3, ev3⟩ := bnd ev2
  cases ev3
  obtain ⟨h0, hm0⟩ := ownAt_inv e0
  obtain ⟨h1, hm⟩ := ownAt_inv e2
  obtain ⟨q, ep, _⟩ := R.ow i m' d' h0 hm0
  refine ⟨_, ep, s, H0, ds, s1, R, e1, fun vs H1 H' R1 x1 r1 => ?_⟩
  obtain ⟨q', ep', w⟩ := R1.ow i m d0 h1 hm
  rw [ep] at ep'; cases ep'
  obtain ⟨c, hc, hcc⟩ := w.ob
  refine ⟨q, vs, H1, c, d0, ds, o, _, d1, rfl, by rw [r1.len]; exact hla _ _ _ e1, R1.h0, w.z, hc, hcc, r1, e3, fun v H2 H2' c' y1 y2 y3 yq y4 y5 y6 r2 => ?_⟩
  have R2 := R1.callB h1 hm ep y1 y2 y3 yq y4 y5 y6
  unfold Res at r2
  split at r2
  · obtain ⟨t, u, rfl, z1, z2, z3, z4⟩ := r2
    have w2 : OwnAt X.K B (s1.set i (some (m, d1))) σ H2 H2' t _ := ⟨z2, R1.dom t z1, R1.fr.back z1, ⟨u, z3, z4⟩, fun j m2 e' hj hm2 zz => by
      have : ∃ y, s1[j]? = some (some (m2, y)) := by
        rcases set_get hj with ⟨rfl, z⟩ | ⟨_, hj'⟩
        · cases z; exact ⟨d0, h1⟩
        · exact ⟨e', hj'⟩
      obtain ⟨y, hj'⟩ := this
      obtain ⟨q2, ev2, w2⟩ := R1.ow j m2 y hj' hm2
      rw [ev2] at zz; cases zz
      obtain ⟨o2, ho2, _⟩ := w2.ob
      rw [z1] at ho2; cases ho2⟩
    obtain ⟨H3, R3, x3, r3⟩ := R2.freeze w2
    exact k _ H3 H2' R3 ((x1.trans y2).trans x3) r3
  · exact k v H2 H2' R2 (x1.trans y2) r2

/-! ### an own slot handed on -/
@[simp] def eMove (i : Nat) : F := fun s => match s[i]? with
  | some (some (.ow, d)) => some (d, s.set i none)
  | _ => none
theorem Rel.drop {s : S} {H0 : Hp} (R : Rel K B s σ H0 H) (i : Nat) : Rel K B (s.set i none) σ H0 H := by
  refine ⟨R.tp, R.fr, R.dom, R.z0, R.h0, R.new, by simp [R.len], fun j e h => ?_, fun j m e h hm => ?_, fun j k m n e f q h1 hm h2 hn e1 e2 => ?_⟩
  · rcases set_get h with ⟨rfl, q⟩ | ⟨q, h'⟩
    · cases q
    · exact R.sh j e h'
  · rcases set_get h with ⟨rfl, q⟩ | ⟨q, h'⟩
    · cases q
    · exact R.ow j m e h' hm
  · rcases set_get h1 with ⟨rfl, q⟩ | ⟨q1, h1⟩
    · cases q
    rcases set_get h2 with ⟨rfl, q⟩ | ⟨q2, h2⟩
    · cases q
    exact R.ne j k m n e f q h1 hm h2 hn e1 e2
theorem io_move (i : Nat) (h : PE X (.Name x pos) (tVar i)) : PE X (.Name x pos) (tO X.K B (eMove i)) := h.pxw fun σ H Q q => by
  obtain ⟨s, H0, r, s', R, e, k⟩ := q
  unfold eMove at e
  split at e
  · next d hd =>
    cases e
    obtain ⟨p, ev, w⟩ := R.ow i .ow _ hd (by decide)
    refine ⟨_, ev, k p H0 H (R.drop i) (Ex.refl _) ⟨w.z, w.ow rfl, w.b, w.ob, fun j m e hj hm z => ?_⟩⟩
    rcases set_get hj with ⟨rfl, q⟩ | ⟨q, h'⟩
    · cases q
    · exact q (R.ne j i m .ow e _ p h' hm hd (by decide) z ev)
  · cases e

/-! ### statements -/
inductive Out where
  | nx (s : S) | ret (o : Bool) (d : D) (s : S) | bk (s : S) | ct (s : S)
abbrev FS := S → Option Out
def OutK (K : PySem.W.Frag) (B : Bs) (E : Ends) (H0 : Hp) : Out → Prop
  | .nx s => ∀ σ H1 H', Rel K B s σ H1 H' → Ex H0 H1 → E.nx σ H'
  | .bk s => ∀ σ H1 H', Rel K B s σ H1 H' → Ex H0 H1 → E.bk σ H'
  | .ct s => ∀ σ H1 H', Rel K B s σ H1 H' → Ex H0 H1 → E.ct σ H'
  | .ret o d s => ∀ v σ H1 H', Rel K B s σ H1 H' → Ex H0 H1 → (if o then ∃ p, v = .ref p ∧ OwnAt K B s σ H1 H' p d else Rep K H1 d v) → E.rt v H'
def tS (K : PySem.W.Frag) (B : Bs) (f : FS) : TS := fun E σ H => ∃ s H0 out, Rel K B s σ H0 H ∧ f s = some out ∧ OutK K B E H0 out
theorem OutK.up {E : Ends} {H0 H1 : Hp} {out : Out} (h : OutK K B E H0 out) (e : Ex H0 H1) : OutK K B E H1 out := by
  cases out with
  | nx s => exact fun σ H2 H' R x => h σ H2 H' R (e.trans x)
  | bk s => exact fun σ H2 H' R x => h σ H2 H' R (e.trans x)
  | ct s => exact fun σ H2 H' R x => h σ H2 H' R (e.trans x)
  | ret o d s => exact fun v σ H2 H' R x r => h v σ H2 H' R (e.trans x) r
@[simp] def sNil : FS := fun s => some (.nx s)
@[simp] def sSeq (f g : FS) : FS := fun s => (f s).bind fun o => match o with | .nx s1 => g s1 | o => some o
@[simp] def sDrop (f : F) : FS := fun s => (f s).bind fun a => some (.nx a.2)
@[simp] def sRet (f : F) : FS := fun s => (f s).bind fun a => some (.ret false a.1 a.2)
@[simp] def sRetO (f : F) : FS := fun s => (f s).bind fun a => some (.ret true a.1 a.2)
@[simp] def sRetN : FS := fun s => some (.ret false .non s)
@[simp] def sIf (t : TB) (f g : FS) : FS := fun s => (t s).bind fun a => if a.1 then f a.2 else g a.2
@[simp] def sSet (i : Nat) (f : F) : FS := fun s => (f s).bind fun a => some (.nx (a.2.set i (some (.sh, a.1))))
@[simp] def sSetO (i : Nat) (f : F) : FS := fun s => (f s).bind fun a => some (.nx (a.2.set i (some (.ow, a.1))))
variable {st : Stmt} {rest : List Stmt} {fs gs : FS}
theorem iss_nil : PSs X [] (tS X.K B sNil) := pss_nil.pxw fun E σ H q => by
  obtain ⟨s, H0, out, R, e, k⟩ := q
  cases e
  exact k σ H0 H R (Ex.refl _)
theorem iss_cons (h1 : PS X st (tS X.K B fs)) (h2 : PSs X rest (tS X.K B gs)) : PSs X (st :: rest) (tS X.K B (sSeq fs gs)) := (pss_cons h1 h2).pxw fun E σ H q => by
  obtain ⟨s, H0, out, R, e, k⟩ := q
  obtain ⟨o, e1, e2⟩ := bnd e
  cases o with
  | nx s1 => exact ⟨s, H0, _, R, e1, fun σ' H1 H' R1 x1 => ⟨s1, H1, out, R1, e2, k.up x1⟩⟩
  | bk s1 => cases e2; exact ⟨s, H0, _, R, e1, k⟩
  | ct s1 => cases e2; exact ⟨s, H0, _, R, e1, k⟩
  | ret o d s1 => cases e2; exact ⟨s, H0, _, R, e1, k⟩
theorem iss_one (h1 : PS X st (tS X.K B fs)) : PSs X [st] (tS X.K B fs) := pss_one h1
theorem is_expr (he : PE X e (tF X.K B f)) (hs : swapsWith e none pos.line X.env = pure false := by rfl) : PS X (.Expr e pos) (tS X.K B (sDrop f)) := (ps_expr he hs).pxw fun E σ H q => by
  obtain ⟨s, H0, out, R, ev, k⟩ := q
  obtain ⟨a, e1, e2⟩ := bnd ev
  cases e2
  exact ⟨s, H0, a.1, a.2, R, e1, fun v H1 H' R1 x1 _ => k σ H1 H' R1 x1⟩
theorem is_ret (he : PE X e (tF X.K B f)) : PS X (.Return (some e) pos) (tS X.K B (sRet f)) := (ps_ret he).pxw fun E σ H q => by
  obtain ⟨s, H0, out, R, ev, k⟩ := q
  obtain ⟨a, e1, e2⟩ := bnd ev
  cases e2
  exact ⟨s, H0, a.1, a.2, R, e1, fun v H1 H' R1 x1 r1 => k v σ H1 H' R1 x1 r1⟩
theorem is_retO (he : PE X e (tO X.K B f)) : PS X (.Return (some e) pos) (tS X.K B (sRetO f)) := (ps_ret he).pxw fun E σ H q => by
  obtain ⟨s, H0, out, R, ev, k⟩ := q
  obtain ⟨a, e1, e2⟩ := bnd ev
  cases e2
  exact ⟨s, H0, a.1, a.2, R, e1, fun p H1 H' R1 x1 r1 => k _ σ H1 H' R1 x1 ⟨p, rfl, r1⟩⟩
theorem is_retN : PS X (.Return none pos) (tS X.K B sRetN) := ps_retN.pxw fun E σ H q => by
  obtain ⟨s, H0, out, R, ev, k⟩ := q
  cases ev
  exact k .non σ H0 H R (Ex.refl _) (iteF (by simp only [Rep]))
theorem is_if {sa sb : List Stmt} (hc : PT X c (tT X.K B ba)) (ha : PSs X sa (tS X.K B fs)) (hb : PSs X sb (tS X.K B gs)) : PS X (.If c sa sb pos) (tS X.K B (sIf ba fs gs)) := (ps_if hc ha hb).pxw fun E σ H q => by
  obtain ⟨s, H0, out, R, ev, k⟩ := q
  obtain ⟨⟨r, s1⟩, e1, e2⟩ := bnd ev
  refine ⟨s, H0, r, s1, R, e1, fun H1 H' R1 x1 => ?_⟩
  cases r with
  | true => exact iteT ⟨s1, H1, out, R1, e2, k.up x1⟩
  | false => exact iteF ⟨s1, H1, out, R1, e2, k.up x1⟩
theorem is_set {i : Nat} {pos' : Pos} (hN : X.N.Nodup) (hi : X.N[i]? = some x) (hx : Loc X.env.scope x) (he : PE X e (tF X.K B f)) (hs : swapsWith e (some (.Name x pos')) pos.line X.env = pure false := by rfl)
    (hf : X.fn x = true ∨ X.env.scope.names.lookup x = some .local := by first | exact .inl rfl | exact .inr rfl | assumption) : PS X (.Assign [.Name x pos'] e pos) (tS X.K B (sSet i f)) := (ps_set hN hi hx he hs hf).pxw fun E σ H q => by
  obtain ⟨s, H0, out, R, ev, k⟩ := q
  obtain ⟨a, e1, e2⟩ := bnd ev
  cases e2
  exact ⟨s, H0, a.1, a.2, R, e1, fun v H1 H' R1 x1 r1 => k _ H1 H' (R1.set r1) x1⟩
theorem is_setO {i : Nat} {pos' : Pos} (hN : X.N.Nodup) (hi : X.N[i]? = some x) (hx : Loc X.env.scope x) (he : PE X e (tO X.K B f)) (hs : swapsWith e (some (.Name x pos')) pos.line X.env = pure false := by rfl)
    (hf : X.fn x = true ∨ X.env.scope.names.lookup x = some .local := by first | exact .inl rfl | exact .inr rfl | assumption) : PS X (.Assign [.Name x pos'] e pos) (tS X.K B (sSetO i f)) := (ps_set hN hi hx he hs hf).pxw fun E σ H q => by
  obtain ⟨s, H0, out, R, ev, k⟩ := q
  obtain ⟨a, e1, e2⟩ := bnd ev
  cases e2
  exact ⟨s, H0, a.1, a.2, R, e1, fun p H1 H' R1 x1 w => k _ H1 H' (R1.setO w) x1⟩
/-- a, b = e1, e2 -/
@[simp] def sPar (i j : Nat) (fa fb : F) : FS := fun s => (fa s).bind fun a => (fb a.2).bind fun b => some (.nx ((b.2.set i (some (.sh, a.1))).set j (some (.sh, b.1))))
theorem is_par {i j : Nat} {x y : Str} {px py pt : Pos} {kt k2 pt2} (hc : X.calm = true) (hN : X.N.Nodup) (hi : X.N[i]? = some x) (hj : X.N[j]? = some y) (hij : i ≠ j) (hx : X.env.scope.names.lookup x = some .local) (hy : X.env.scope.names.lookup y = some .local)
    (ha : PE X a (tF X.K B fa)) (hb : PE X b (tF X.K B fb)) (he : starEach [a, b] X.env = (false, eval a X.env) :: starEach [b] X.env := by rfl) (he2 : starEach [b] X.env = (false, eval b X.env) :: starEach [] X.env := by rfl)
    (hw : swappedStores [.Tuple [.Name x px, .Name y py] kt pt] (.Tuple [a, b] k2 pt2) X.env = pure (some [x, y]) := by rfl) (hs : swapsWithSole [.Tuple [.Name x px, .Name y py] kt pt] (.Tuple [a, b] k2 pt2) pos.line X.env = pure false := by rfl) :
    PS X (.Assign [.Tuple [.Name x px, .Name y py] kt pt] (.Tuple [a, b] k2 pt2) pos) (tS X.K B (sPar i j fa fb)) := (ps_par hc hN hi hj hij hx hy (pa_cons ha (pa_cons hb pa_nil he2) he) hw hs).pxw fun E σ H q => by
  obtain ⟨s, H0, out, R, ev, k⟩ := q
  obtain ⟨⟨d1, s1⟩, e1, ev1⟩ := bnd ev
  obtain ⟨⟨d2, s2⟩, e2, ev2⟩ := bnd ev1
  cases ev2
  exact ⟨s, H0, d1, s1, R, e1, fun v H1 H' R1 x1 r1 => ⟨s1, H1, d2, s2, R1, e2, fun w H2 H2' R2 x2 r2 => ⟨v, w, rfl, k _ H2 H2' ((R2.set (r1.up x2)).set r2) (x1.trans x2)⟩⟩⟩
/-- a, b = [..], constant: the list one's own -/
@[simp] def sParO (i j : Nat) (fa : F) (d : D) : FS := fun s => (fa s).bind fun a => some (.nx ((a.2.set i (some (.ow, a.1))).set j (some (.sh, d))))
theorem is_parO {i j : Nat} {x y : Str} {px py pt : Pos} {kt k2 pt2} {w : V} {d : D} (hc : X.calm = true) (hN : X.N.Nodup) (hi : X.N[i]? = some x) (hj : X.N[j]? = some y) (hij : i ≠ j) (hx : X.env.scope.names.lookup x = some .local) (hy : X.env.scope.names.lookup y = some .local)
    (ha : PE X a (tO X.K B fa)) (hb : PE X b (tC w)) (hd : ∀ H0, Rep X.K H0 d w) (he : starEach [a, b] X.env = (false, eval a X.env) :: starEach [b] X.env := by rfl) (he2 : starEach [b] X.env = (false, eval b X.env) :: starEach [] X.env := by rfl)
    (hw : swappedStores [.Tuple [.Name x px, .Name y py] kt pt] (.Tuple [a, b] k2 pt2) X.env = pure (some [x, y]) := by rfl) (hs : swapsWithSole [.Tuple [.Name x px, .Name y py] kt pt] (.Tuple [a, b] k2 pt2) pos.line X.env = pure false := by rfl) :
    PS X (.Assign [.Tuple [.Name x px, .Name y py] kt pt] (.Tuple [a, b] k2 pt2) pos) (tS X.K B (sParO i j fa d)) := (ps_par hc hN hi hj hij hx hy (pa_cons ha (pa_cons hb pa_nil he2) he) hw hs).pxw fun E σ H q => by
  obtain ⟨s, H0, out, R, ev, k⟩ := q
  obtain ⟨⟨d1, s1⟩, e1, ev1⟩ := bnd ev
  cases ev1
  exact ⟨s, H0, d1, s1, R, e1, fun p H1 H' R1 x1 r1 => ⟨_, w, rfl, k _ H1 H' ((R1.setO r1).set (hd _)) x1⟩⟩
/-- x += e, ints -/
@[simp] def sAug (g : Int → Int → Int) (i : Nat) (f : F) : FS := fun s => match s[i]? with
  | some (some (.sh, .int m)) => (f s).bind fun a => match a.1 with | .int n => some (.nx (a.2.set i (some (.sh, .int (g m n))))) | _ => none
  | _ => none
theorem aug_inv {g : Int → Int → Int} {i : Nat} {s : S} {out : Out} (h : sAug g i f s = some out) : ∃ m n s1, s[i]? = some (some (.sh, .int m)) ∧ f s = some (.int n, s1) ∧ out = .nx (s1.set i (some (.sh, .int (g m n)))) := by
  unfold sAug at h
  split at h
  · next m hm =>
    obtain ⟨⟨d, s1⟩, e1, e2⟩ := bnd h
    cases d with
    | int n => cases e2; exact ⟨m, n, s1, hm, e1, rfl⟩
    | _ => cases e2
  · cases h
theorem is_aug {g : Int → Int → Int} {op : Operator} {i : Nat} {pos' : Pos} (ho : PIp X op (ipI g)) (hN : X.N.Nodup) (hi : X.N[i]? = some x) (hx : Loc X.env.scope x) (he : PE X e (tF X.K B f))
    (hf : X.fn x = true ∨ X.env.scope.names.lookup x = some .local := by first | exact .inl rfl | exact .inr rfl | assumption) : PS X (.AugAssign (.Name x pos') op e pos) (tS X.K B (sAug g i f)) := (ps_aug hN hi hx he ho hf).pxw fun E σ H q => by
  obtain ⟨s, H0, out, R, ev, k⟩ := q
  obtain ⟨m, n, s1, hm, e1, rfl⟩ := aug_inv ev
  obtain ⟨v, ev', r⟩ := R.sh i _ hm
  have := rep_int r
  subst this
  exact ⟨_, ev', s, H0, _, _, R, e1, fun v H1 H' R1 x1 r1 => ⟨m, n, rfl, rep_int r1, k _ H1 H' (R1.set (by simp only [Rep])) x1⟩⟩

/-! ### stores into an own object -/
theorem own_ref {s : S} {H0 : Hp} {i : Nat} {m : Md} {d : D} (R : Rel K B s σ H0 H) (h : ownAt s i = some (m, d)) : ∃ p, σ[i]? = some (some (.ref p)) := by
  obtain ⟨h1, hm⟩ := ownAt_inv h
  obtain ⟨p, ev, _⟩ := R.ow i m d h1 hm
  exact ⟨p, ev⟩
@[simp] def ownL (s : S) (i : Nat) : Option (Md × List D) := (ownAt s i).bind fun m => match m.2 with
  | .lst ds => some (m.1, ds)
  | _ => none
theorem ownL_inv {s : S} {i : Nat} {m : Md} {ds : List D} (h : ownL s i = some (m, ds)) : s[i]? = some (some (m, .lst ds)) ∧ m ≠ .sh := by
  obtain ⟨⟨m', d⟩, e, h⟩ := bnd h
  cases d with
  | lst ds' => cases h; exact ownAt_inv e
  | _ => cases h
theorem own_lst {s : S} {H0 : Hp} {i : Nat} {m : Md} {ds : List D} (R : Rel K B s σ H0 H) (h : ownL s i = some (m, ds)) : ∃ p xs, σ[i]? = some (some (.ref p)) ∧ H p = some (.lst xs) ∧ RepL K H0 ds xs := by
  obtain ⟨h1, hm⟩ := ownL_inv h
  obtain ⟨p, ev, w⟩ := R.ow i m _ h1 hm
  obtain ⟨o, ho, xs, rfl, l⟩ := w.ob
  exact ⟨p, xs, ev, ho, l⟩
/-- x.append(e) -/
@[simp] def sApp (i : Nat) (f : F) : FS := fun s => (ownL s i).bind fun _ => (f s).bind fun a => (ownL a.2 i).bind fun m => if small m.2.length then some (.nx (a.2.set i (some (m.1, .lst (m.2 ++ [a.1]))))) else none
theorem is_app {i : Nat} {apos cpos : Pos} {pn : Pos} (hv : PE X (.Name x pn) (tVar i)) (he : PE X e (tF X.K B f)) (hst : starEach [e] X.env = (false, eval e X.env) :: starEach [] X.env := by rfl)
    (hbase : attributeBase (.Name x pn) "append" X.env (eval (.Name x pn) X.env) = eval (.Name x pn) X.env := by rfl)
    (hfew : ((backTo cpos (starEach [e] X.env)).all (fun x => !x.1) && (backToKw cpos (keywordEach [] X.env)).all (fun x => x.1.isSome) && decide ([e].length + ([] : List Keyword).length + (if ([] : List Keyword).isEmpty then 0 else 1) < 30)) = true := by rfl)
    (hline : (apos.endLine == cpos.line) = true := by rfl) (hplain : (backTo cpos (starEach [] X.env)).any (·.1) = false := by rfl)
    (hs : swapsWith (.Call (.Attribute (.Name x pn) "append" apos) [e] [] cpos) none pos.line X.env = pure false := by rfl) :
    PS X (.Expr (.Call (.Attribute (.Name x pn) "append" apos) [e] [] cpos) pos) (tS X.K B (sApp i f)) :=
  (ps_expr (pe_bm PySem.F.plainAttrs_list PySem.F.slot_list_append PySem.F.type_list_append mt_append hv (pa_cons he pa_nil hst) hbase hfew hline hst hplain) hs).pxw fun E σ H q => by
  obtain ⟨s, H0, out, R, ev, k⟩ := q
  obtain ⟨⟨m0, ds0⟩, e0, ev0⟩ := bnd ev
  obtain ⟨⟨d, s1⟩, e1, ev1⟩ := bnd ev0
  obtain ⟨⟨m, ds⟩, e2, ev2⟩ := bnd ev1
  dsimp only at ev2
  split at ev2
  · next hl =>
    cases ev2
    obtain ⟨p, xs, ep, hp, _⟩ := own_lst R e0
    refine ⟨_, ep, .inl ⟨rfl, xs, .of hp⟩, s, H0, d, s1, R, e1, fun v H1 H' R1 x1 r1 => ?_⟩
    obtain ⟨p', xs', ep', hp', l⟩ := own_lst R1 e2
    rw [ep] at ep'; cases ep'
    obtain ⟨h1, hm⟩ := ownL_inv e2
    refine ⟨p, xs', v, rfl, rfl, hp', by rw [l.len]; exact small_lt hl, ?_⟩
    exact k σ H1 _ (R1.mut h1 hm ep ⟨_, rfl, l.append (.cons r1 .nil)⟩) x1
  · cases ev2
/-- x[j] = e, a list -/
@[simp] def sLPut (i : Nat) (fi fv : F) : FS := fun s => (fv s).bind fun v => (ownL v.2 i).bind fun _ => (fi v.2).bind fun k => (ownL k.2 i).bind fun m => match k.1 with
  | .int j => (ixN m.2.length j).bind fun jj => some (.nx (k.2.set i (some (m.1, .lst (m.2.set jj v.1)))))
  | _ => none
theorem is_lput {i : Nat} {pn pos' : Pos} (hv : PE X (.Name x pn) (tVar i)) (hi : PE X b (tF X.K B fb)) (he : PE X e (tF X.K B f))
    (ha : ∀ v, assign (.Subscript (.Name x pn) b pos') X.env v = (do let ov ← holding [v] (eval (.Name x pn) X.env); let iv ← holding [v, ov] (eval b X.env); standAt pos'; holding [v, ov, iv] (setItem ov iv v); release [v, ov, iv] []) := by intro _; rfl)
    (hs : swapsWithSole [.Subscript (.Name x pn) b pos'] e pos.line X.env = pure false := by rfl) (hw : swappedStores [.Subscript (.Name x pn) b pos'] e X.env = pure none := by rfl)
    (h1 : (assignEach [.Subscript (.Name x pn) b pos'] X.env).map (·.2) = [assign (.Subscript (.Name x pn) b pos') X.env] := by rfl) :
    PS X (.Assign [.Subscript (.Name x pn) b pos'] e pos) (tS X.K B (sLPut i fb f)) := (ps_asg he (pg_sub hv hi set_list ha) hs hw h1).pxw fun E σ H q => by
  obtain ⟨s, H0, out, R, ev, k⟩ := q
  obtain ⟨⟨d, s1⟩, e1, ev1⟩ := bnd ev
  obtain ⟨⟨m0, ds0⟩, e0, ev0⟩ := bnd ev1
  obtain ⟨⟨dk, s2⟩, e2, ev2⟩ := bnd ev0
  obtain ⟨⟨m, ds⟩, e3, ev3⟩ := bnd ev2
  cases dk with
  | int j =>
    obtain ⟨jj, ej, ev4⟩ := bnd ev3
    cases ev4
    refine ⟨s, H0, d, s1, R, e1, fun v H1 H' R1 x1 r1 => ?_⟩
    obtain ⟨p, xs, ep, hp, _⟩ := own_lst R1 e0
    refine ⟨_, ep, s1, H1, _, s2, R1, e2, fun w H2 H2' R2 x2 r2 => ?_⟩
    obtain ⟨p', xs', ep', hp', l⟩ := own_lst R2 e3
    rw [ep] at ep'; cases ep'
    obtain ⟨h1, hm⟩ := ownL_inv e3
    refine ⟨p, xs', j, jj, rfl, rep_int r2, hp', by rw [l.len]; exact ej, ?_⟩
    exact k σ H2 _ (R2.mut h1 hm ep ⟨_, rfl, l.set jj (r1.up x2)⟩) (x1.trans x2)
  | _ => cases ev3
/-- d[k] = v -/
def putD {κ : Type} [DecidableEq κ] (ks : List κ) (ds : List D) (k : κ) (d : D) : List κ × List D :=
  if k ∈ ks then (ks, List.zipWith (fun k' d' => if k' = k then d else d') ks ds) else (ks ++ [k], ds ++ [d])
theorem putD_len {κ : Type} [DecidableEq κ] {ks : List κ} {ds : List D} {k : κ} {d : D} (h : ks.length = ds.length) : (putD ks ds k d).1.length = (putD ks ds k d).2.length := by
  unfold putD
  split
  · simp [h]
  · simp [h]
theorem zipWith_rep {κ : Type} [DecidableEq κ] {H0 : Hp} {k : κ} {d : D} {v : V} (r : Rep K H0 d v) : ∀ {ks : List κ} {ds : List D} {xs : List V}, RepL K H0 ds xs → ks.length = ds.length →
    ∃ ys, RepL K H0 (List.zipWith (fun k' d' => if k' = k then d else d') ks ds) ys ∧ (ks.zip xs).map (fun kv => if kv.1 = k then (kv.1, v) else kv) = ks.zip ys
  | [], ds, xs, _, _ => ⟨[], by rw [List.zipWith_nil_left]; exact .nil, rfl⟩
  | k' :: ks, [], _, _, h => by simp at h
  | k' :: ks, d' :: ds, xs, h, hl => by
    obtain ⟨x, rs, rfl, r1, r2⟩ := h.of_cons
    obtain ⟨ys, e1, e2⟩ := zipWith_rep r (ks := ks) r2 (by simpa using hl)
    by_cases q : k' = k
    · refine ⟨v :: ys, ?_, ?_⟩
      · rw [List.zipWith_cons_cons, if_pos q]; exact .cons r e1
      · rw [List.zip_cons_cons, List.map_cons, e2, List.zip_cons_cons, if_pos q]
    · refine ⟨x :: ys, ?_, ?_⟩
      · rw [List.zipWith_cons_cons, if_neg q]; exact .cons r1 e1
      · rw [List.zip_cons_cons, List.map_cons, e2, List.zip_cons_cons, if_neg q]
theorem any_key {κ : Type} [DecidableEq κ] {k : κ} : ∀ {ks : List κ} {xs : List V}, ks.length = xs.length → ((ks.zip xs).any fun kv => decide (kv.1 = k)) = decide (k ∈ ks)
  | [], _, _ => by simp
  | k' :: ks, [], h => by simp at h
  | k' :: ks, x :: xs, h => by
    rw [List.zip_cons_cons, List.any_cons, any_key (ks := ks) (by simpa using h)]
    by_cases e : k' = k
    · simp [e]
    · simp [e, Ne.symm e]
theorem put_rep {κ : Type} [DecidableEq κ] {H0 : Hp} {k : κ} {ks : List κ} {ds : List D} {xs : List V} {d : D} {v : V} (l : RepL K H0 ds xs) (hl : ks.length = ds.length) (r : Rep K H0 d v) :
    ∃ ys, RepL K H0 (putD ks ds k d).2 ys ∧ putK (ks.zip xs) k v = (putD ks ds k d).1.zip ys := by
  have hx : ks.length = xs.length := hl.trans l.len.symm
  unfold putD putK
  rw [any_key hx]
  by_cases h : k ∈ ks
  · rw [if_pos h, decide_eq_true h, if_pos rfl]
    exact zipWith_rep r l hl
  · rw [if_neg h, decide_eq_false h, if_neg Bool.false_ne_true]
    exact ⟨xs ++ [v], l.append (.cons r .nil), by rw [List.zip_append hx]; rfl⟩
@[simp] def gPut (d k v : D) : Option D := match d with
  | .dK ks ds => (key? k).bind fun k => if ks.length = ds.length ∧ small ks.length then some (.dK (putD ks ds k v).1 (putD ks ds k v).2) else none
  | .dT ks ds => (tkey? k).bind fun k => if ks.length = ds.length ∧ small ks.length then some (.dT (putD ks ds k v).1 (putD ks ds k v).2) else none
  | _ => none
theorem put_dput {H0 : Hp} {q : Addr} {o : HO} {d k e d' : D} {y w : V} (ho : H q = some o) (hc : Cell K H0 o d) (hx : Ex H0 H) (r2 : Rep K H0 k y) (r3 : Rep K H0 e w) (h : gPut d k e = some d') :
    ∃ o', DPut H q y w (upd H q o') ∧ Cell K H0 o' d' := by
  cases d with
  | dK ks ds =>
    obtain ⟨key, ek, h1⟩ := bnd (show (key? k).bind _ = some d' from h)
    split at h1
    · next hh =>
      obtain ⟨hl, hs⟩ := hh
      cases h1
      obtain ⟨xs, rfl, _, l⟩ := hc
      obtain ⟨ys, r, e⟩ := put_rep (k := key) l hl r3
      refine ⟨_, .inl ⟨_, key, ho, key_inv ek r2, ?_, rfl⟩, ys, by rw [e], putD_len hl, r⟩
      rw [zip_length (hl.trans l.len.symm)]; exact small_lt hs
    · cases h1
  | dT ks ds =>
    obtain ⟨key, ek, h1⟩ := bnd (show (tkey? k).bind _ = some d' from h)
    split at h1
    · next hh =>
      obtain ⟨hl, hs⟩ := hh
      cases h1
      obtain ⟨xs, rfl, _, l⟩ := hc
      obtain ⟨ys, r, e⟩ := put_rep (k := key) l hl r3
      obtain ⟨b, rfl, hb⟩ := tkey_inv ek r2
      refine ⟨_, .inr ⟨_, key, b, ho, rfl, hx _ _ hb, ?_, rfl⟩, ys, by rw [e], putD_len hl, r⟩
      rw [zip_length (hl.trans l.len.symm)]; exact small_lt hs
    · cases h1
  | _ => cases h
@[simp] def sDPut (i : Nat) (fk fv : F) : FS := fun s => (fv s).bind fun v => (ownAt v.2 i).bind fun _ => (fk v.2).bind fun k => (ownAt k.2 i).bind fun m => (gPut m.2 k.1 v.1).bind fun d => some (.nx (k.2.set i (some (m.1, d))))
theorem is_dput {i : Nat} {pn pos' : Pos} (hu : X.A.units + 1 < cLine) (hv : PE X (.Name x pn) (tVar i)) (hi : PE X b (tF X.K B fb)) (he : PE X e (tF X.K B f))
    (hs : swapsWith e (some (.Subscript (.Name x pn) b pos')) pos.line X.env = pure false := by rfl) :
    PS X (.Assign [.Subscript (.Name x pn) b pos'] e pos) (tS X.K B (sDPut i fb f)) := (ps_dput hu hv hi he hs).pxw fun E σ H q => by
  obtain ⟨s, H0, out, R, ev, k⟩ := q
  obtain ⟨⟨d, s1⟩, e1, ev1⟩ := bnd ev
  obtain ⟨⟨m0, d0⟩, e0, ev0⟩ := bnd ev1
  obtain ⟨⟨dk, s2⟩, e2, ev2⟩ := bnd ev0
  obtain ⟨⟨m, dd⟩, e3, ev3⟩ := bnd ev2
  obtain ⟨d', e4, ev4⟩ := bnd ev3
  cases ev4
  refine ⟨s, H0, d, s1, R, e1, fun v H1 H' R1 x1 r1 => ?_⟩
  obtain ⟨p, ep⟩ := own_ref R1 e0
  refine ⟨_, ep, s1, H1, _, s2, R1, e2, fun w H2 H2' R2 x2 r2 => ?_⟩
  obtain ⟨h1, hm⟩ := ownAt_inv e3
  obtain ⟨p', ep', w0⟩ := R2.ow i m dd h1 hm
  rw [ep] at ep'; cases ep'
  obtain ⟨o, ho, hc⟩ := w0.ob
  obtain ⟨o', dp, hc'⟩ := put_dput ho hc R2.h0 r2 (r1.up x2) e4
  exact ⟨p, _, rfl, dp, k σ H2 _ (R2.mut h1 hm ep hc') (x1.trans x2)⟩
/-- d[k] += e, ints -/
@[simp] def sDAug (g : Int → Int → Int) (i : Nat) (fk fv : F) : FS := fun s => (ownAt s i).bind fun _ => (fk s).bind fun k => (ownAt k.2 i).bind fun m => (gGet m.2 k.1).bind fun d => match d with
  | .int a => (fv k.2).bind fun v => match v.1 with
    | .int b => (ownAt v.2 i).bind fun m => (gPut m.2 k.1 (.int (g a b))).bind fun d => some (.nx (v.2.set i (some (m.1, d))))
    | _ => none
  | _ => none
theorem is_daug {g : Int → Int → Int} {op : Operator} {rd : V → V → Hp → VK → Prop} {i : Nat} {pn pos' : Pos} (hrd : ∀ a b H (Q : VK), Q (.int (g a b)) H → rd (.int a) (.int b) H Q) (hop : InOp X op rd) (hu : X.A.units + 1 < cLine) (hv : PE X (.Name x pn) (tVar i)) (hi : PE X b (tF X.K B fb)) (he : PE X e (tF X.K B f))
    (ha : ∀ ov iv new, augStore b ov iv new = (do holding [new, ov, iv] (setItem ov iv new); release [new, ov, iv] []; pure .next) := by intros; rfl) :
    PS X (.AugAssign (.Subscript (.Name x pn) b pos') op e pos) (tS X.K B (sDAug g i fb f)) := (ps_daug hu hv hi he hop ha).pxw fun E σ H q => by
  obtain ⟨s, H0, out, R, ev, k⟩ := q
  obtain ⟨⟨m0, d0⟩, e0, ev0⟩ := bnd ev
  obtain ⟨⟨dk, s1⟩, e1, ev1⟩ := bnd ev0
  obtain ⟨⟨m1, dd⟩, e2, ev2⟩ := bnd ev1
  obtain ⟨di, e3, ev3⟩ := bnd ev2
  cases di with
  | int a =>
    obtain ⟨⟨dv, s2⟩, e4, ev4⟩ := bnd ev3
    cases dv with
    | int bb =>
      obtain ⟨⟨m, dm⟩, e5, ev5⟩ := bnd ev4
      obtain ⟨d', e6, ev6⟩ := bnd ev5
      cases ev6
      obtain ⟨p, ep⟩ := own_ref R e0
      refine ⟨_, ep, s, H0, _, s1, R, e1, fun y H1 H' R1 x1 r1 => ?_⟩
      obtain ⟨h2, hm2⟩ := ownAt_inv e2
      have pr : PRep X.K σ H1 (.slot i) (.ref p) := ep
      have pg : (PR.slot i).get s1 = some dd := by simp only [PR.get]; rw [h2]
      obtain ⟨o, eo, e7⟩ := bnd (show (gAsk dd dk).bind (fun o => o) = some (D.int a) from e3)
      cases e7
      obtain ⟨pp, ov, epp, dg, _, vv, rfl, rv⟩ := ask_dget R1 pr pg r1 eo
      cases epp
      have := rep_int rv
      subst this
      refine ⟨p, _, rfl, dg, s1, H1, _, s2, R1, e4, fun y2 H2 H2' R2 x2 r2 => ?_⟩
      have := rep_int r2
      subst this
      refine hrd _ _ _ _ ?_
      obtain ⟨h3, hm3⟩ := ownAt_inv e5
      obtain ⟨p', ep', w0⟩ := R2.ow i m dm h3 hm3
      rw [ep] at ep'; cases ep'
      obtain ⟨o, ho, hc⟩ := w0.ob
      obtain ⟨o', dp, hc'⟩ := put_dput (e := .int (g a bb)) ho hc R2.h0 (r1.up x2) (by simp only [Rep]; rfl) e6
      exact ⟨_, dp, k σ H2 _ (R2.mut h3 hm3 ep hc') (x1.trans x2)⟩
    | _ => cases ev4
  | _ => cases ev3
end
end Px

set_option Elab.async false
set_option linter.all false
set_option maxRecDepth 100000
set_option maxHeartbeats 1000000
/-! Px6: targets, what is walked, for, while, comprehensions, defs -/
namespace Px
open PySem L2
section
variable {X : Cx} {B : Bs} {a b c e tg : Expr} {pos p apos : Pos} {fa fb fc f : F} {pa pb : FP} {ba bb : TB} {ga : FA} {K : PySem.W.Frag} {σ : St} {H : Hp} {x y : Str} {k n : Nat} {es : List Expr} {st : Stmt} {fs gs : FS}
/-! ### targets -/
abbrev FG := D → S → Option S
abbrev FGs := List D → S → Option S
def Keeps (ts : List Nat) (σ σ' : St) : Prop := σ'.length = σ.length ∧ ∀ (i : Nat), i ∉ ts → σ'[i]? = σ[i]?
def tG (K : PySem.W.Frag) (B : Bs) (ts : List Nat) (f : FG) : TG := fun v σ H Q => ∃ s H0 d s', Rel K B s σ H0 H ∧ Rep K H0 d v ∧ f d s = some s' ∧ ∀ σ' H1 H', Rel K B s' σ' H1 H' → Ex H0 H1 → Keeps ts σ σ' → Q σ' H'
def tGs (K : PySem.W.Frag) (B : Bs) (ts : List Nat) (f : FGs) : TGs := fun vs σ H Q => ∃ s H0 d s', Rel K B s σ H0 H ∧ RepL K H0 d vs ∧ f d s = some s' ∧ ∀ σ' H1 H', Rel K B s' σ' H1 H' → Ex H0 H1 → Keeps ts σ σ' → Q σ' H'
@[simp] def hName (i : Nat) : FG := fun d s => some (s.set i (some (.sh, d)))
theorem ig_name {i : Nat} (hN : X.N.Nodup) (hi : X.N[i]? = some x) (hx : Loc X.env.scope x) (hf : X.fn x = true ∨ X.env.scope.names.lookup x = some .local := by first | exact .inl rfl | exact .inr rfl | assumption) : PG X (.Name x pos) (tG X.K B [i] (hName i)) :=
  (pg_name hN hi hx hf).pxw fun v σ H Q q => by
    obtain ⟨s, H0, d, s', R, r, e, k⟩ := q
    cases e
    exact k _ H0 H (R.set r) (Ex.refl _) ⟨by simp, fun j hj => by rw [List.getElem?_set_ne (fun z => hj (by simp [z]))]⟩
@[simp] def hNil : FGs := fun ds s => match ds with | [] => some s | _ => none
@[simp] def hCons (g : FG) (h : FGs) : FGs := fun ds s => match ds with | d :: r => (g d s).bind fun s1 => h r s1 | [] => none
theorem igs_nil : PGs X [] (tGs X.K B [] hNil) := pgs_nil.pxw fun vs σ H Q q => by
  obtain ⟨s, H0, ds, s', R, r, e, k⟩ := q
  cases ds with
  | nil => cases e; exact ⟨r.of_nil, k σ H0 H R (Ex.refl _) ⟨rfl, fun _ _ => rfl⟩⟩
  | cons d ds => cases e
theorem igs_cons {ts us : List Nat} {g : FG} {h : FGs} (h1 : PG X e (tG X.K B ts g)) (h2 : PGs X es (tGs X.K B us h)) (hs : (assignEach (e :: es) X.env).map (·.2) = assign e X.env :: (assignEach es X.env).map (·.2) := by rfl) : PGs X (e :: es) (tGs X.K B (ts ++ us) (hCons g h)) :=
  (pgs_cons h1 h2 hs).pxw fun vs σ H Q q => by
    obtain ⟨s, H0, ds, s', R, r, e, k⟩ := q
    cases ds with
    | nil => cases e
    | cons d ds =>
      obtain ⟨v, vr, rfl, r1, r2⟩ := r.of_cons
      obtain ⟨s1, e1, e2⟩ := bnd e
      refine ⟨v, vr, rfl, s, H0, d, s1, R, r1, e1, fun σ1 H1 H' R1 x1 k1 => ⟨s1, H1, ds, s', R1, r2.up x1, e2, fun σ2 H2 H2' R2 x2 k2 => k σ2 H2 H2' R2 (x1.trans x2) ⟨k2.1.trans k1.1, fun i hi => ?_⟩⟩⟩
      rw [List.mem_append] at hi
      rw [k2.2 i (fun z => hi (.inr z)), k1.2 i (fun z => hi (.inl z))]
@[simp] def hTup (h : FGs) : FG := fun d s => match d with | .tup ds => h ds s | _ => none
theorem ig_tup {kk : Nat} {ts : List Nat} {h : FGs} {n : Nat} (hc : X.calm = true) (h1 : PGs X es (tGs X.K B ts h)) (hlen : ∀ ds s s', h ds s = some s' → ds.length = n) (hn : (assignEach es X.env).length = n := by rfl) (hst : (assignEach es X.env).findIdx? (·.1) = none := by rfl) : PG X (.Tuple es kk pos) (tG X.K B ts (hTup h)) :=
  (pg_tup hc h1 hn hst).pxw fun v σ H Q q => by
    obtain ⟨s, H0, d, s', R, r, e, k⟩ := q
    cases d with
    | tup ds =>
      obtain ⟨a, xs, rfl, l, hq⟩ := rep_tup_sq r
      exact ⟨a, xs, rfl, R.h0.sqT hq, by rw [l.len]; exact hlen _ _ _ e, s, H0, ds, s', R, l, e, k⟩
    | _ => cases e
theorem ln_nil : ∀ ds s s', hNil ds s = some s' → ds.length = 0 := fun ds s s' h => by
  cases ds with
  | nil => rfl
  | cons d r => cases h
theorem ln_cons {g : FG} {h : FGs} {n : Nat} (hl : ∀ ds s s', h ds s = some s' → ds.length = n) : ∀ ds s s', hCons g h ds s = some s' → ds.length = n + 1 := fun ds s s' e => by
  cases ds with
  | nil => cases e
  | cons d r =>
    obtain ⟨s1, _, e2⟩ := bnd e
    rw [List.length_cons, hl _ _ _ e2]
/-- target = e, by frozen data -/
@[simp] def sAsg (f : F) (g : FG) : FS := fun s => (f s).bind fun a => (g a.1 a.2).bind fun s1 => some (.nx s1)
theorem is_asg {ts : List Nat} {g : FG} (he : PE X e (tF X.K B f)) (hg : PG X tg (tG X.K B ts g)) (hs : swapsWithSole [tg] e pos.line X.env = pure false := by rfl) (hw : swappedStores [tg] e X.env = pure none := by rfl) (h1 : (assignEach [tg] X.env).map (·.2) = [assign tg X.env] := by rfl) : PS X (.Assign [tg] e pos) (tS X.K B (sAsg f g)) :=
  (ps_asg he hg hs hw h1).pxw fun E σ H q => by
    obtain ⟨s, H0, out, R, ev, k⟩ := q
    obtain ⟨⟨d, s1⟩, e1, ev1⟩ := bnd ev
    obtain ⟨s2, e2, ev2⟩ := bnd ev1
    cases ev2
    exact ⟨s, H0, d, s1, R, e1, fun v H1 H' R1 x1 r1 => ⟨s1, H1, d, s2, R1, r1, e2, fun σ' H2 H2' R2 x2 _ => k σ' H2 H2' R2 (x1.trans x2)⟩⟩

/-! ### what is walked -/
abbrev FI := S → Option (List D × S)
def ItOk (K : PySem.W.Frag) (J : It) (H0 : Hp) (ds : List D) : Prop := ∀ (i : Nat) H1 H', Ex H0 H1 → Ex H1 H' →
  (∀ d, ds[i]? = some d → J.go i H' ∧ ∀ x H2, J.yld i H' x H2 → (H2 = H' ∧ Rep K H1 d x) ∨ ∃ T o, H' T = none ∧ H2 = upd H' T o ∧ Rep K (upd H1 T o) d x) ∧ (ds.length = i → J.stop i H')
def tI (K : PySem.W.Frag) (B : Bs) (f : FI) : TI := fun σ H Q => ∃ s H0 ds s', Rel K B s σ H0 H ∧ f s = some (ds, s') ∧ ∀ J H1 H', Rel K B s' σ H1 H' → Ex H0 H1 → ItOk K J H1 ds → Q J H'
@[simp] def iSeq (f : F) : FI := fun s => (f s).bind fun a => match a.1 with | .lst ds => some (ds, a.2) | .tup ds => some (ds, a.2) | _ => none
theorem itok_list {H0 : Hp} {p : Addr} {xs : List V} {ds : List D} (h : H0 p = some (.lst xs)) (l : RepL K H0 ds xs) : ItOk K (Itl K p) H0 ds := fun i H1 H' x1 x2 => by
  have hs : SqL K H' p xs := .of (x2 _ _ (x1 _ _ h))
  refine ⟨fun d hd => ?_, fun hi => ⟨xs, hs, by rw [l.len]; exact Nat.le_of_eq hi⟩⟩
  obtain ⟨x, ex, rx⟩ := l.get hd
  refine ⟨⟨xs, x, hs, ex⟩, fun y H2 hy => .inl ⟨hy.1, ?_⟩⟩
  have := hy.2 xs hs
  rw [ex] at this; cases this
  exact rx.up x1
theorem itok_tup {H0 : Hp} {p : Addr} {xs : List V} {ds : List D} (h : SqT K H0 p xs) (l : RepL K H0 ds xs) : ItOk K (Itt K p) H0 ds := fun i H1 H' x1 x2 => by
  have hs : SqT K H' p xs := (x1.trans x2).sqT h
  refine ⟨fun d hd => ?_, fun hi => ⟨xs, hs, by rw [l.len]; exact Nat.le_of_eq hi⟩⟩
  obtain ⟨x, ex, rx⟩ := l.get hd
  refine ⟨⟨xs, x, hs, ex⟩, fun y H2 hy => .inl ⟨hy.1, ?_⟩⟩
  have := hy.2 xs hs
  rw [ex] at this; cases this
  exact rx.up x1
theorem _root_.L2.PI.pxor {w1 w2 : TI} (h1 : PI X tg e w1) (h2 : PI X tg e w2) : PI X tg e (fun σ H R => w1 σ H R ∨ w2 σ H R) := ⟨fun pins s σ H R I q => by
  rcases q with q | q
  · exact h1.run pins s σ H R I q
  · exact h2.run pins s σ H R I q⟩
theorem ii_seq (h : PE X e (tF X.K B f)) : PI X tg e (tI X.K B (iSeq f)) := ((pi_list h).pxor (pi_tup h)).pxw fun σ H Q q => by
  obtain ⟨s, H0, ds, s', R, ev, k⟩ := q
  obtain ⟨⟨d, s1⟩, e1, ev1⟩ := bnd ev
  cases d with
  | lst es =>
    cases ev1
    refine .inl ⟨s, H0, _, _, R, e1, fun v H1 H' R1 x1 r1 => ?_⟩
    simp only [Rep] at r1
    obtain ⟨p, xs, rfl, l, hp⟩ := r1
    exact ⟨p, rfl, ⟨xs, .of (R1.h0 _ _ hp)⟩, k _ H1 H' R1 x1 (itok_list hp l)⟩
  | tup es =>
    cases ev1
    refine .inr ⟨s, H0, _, _, R, e1, fun v H1 H' R1 x1 r1 => ?_⟩
    obtain ⟨p, xs, rfl, l, hp⟩ := rep_tup_sq r1
    exact ⟨p, rfl, ⟨xs, R1.h0.sqT hp⟩, k _ H1 H' R1 x1 (itok_tup hp l)⟩
  | _ => cases ev1
/-- range(n), range(a, b) -/
def rng (lo : Int) (n : Nat) : List D := (List.range n).map fun i => .int (lo + (i : Nat))
def cRng (i : Int) : Bool := Nat.blt i.natAbs 1000000000
theorem cRng_inv {i : Int} (h : cRng i = true) : -(2 ^ 62) ≤ i ∧ i < 2 ^ 62 := by
  have : i.natAbs < 1000000000 := by simpa [cRng] using h
  omega
theorem cRng_of {i : Int} (h0 : 0 ≤ i) (h1 : i < 1000000) : cRng i = true := by
  have : i.natAbs < 1000000000 := by omega
  simpa [cRng] using this
@[simp] def iRng1 (f : F) : FI := fun s => (f s).bind fun a => match a.1 with | .int j => if cRng j then some (rng 0 j.toNat, a.2) else none | _ => none
theorem itok_rng {H0 : Hp} {lo : Int} {n : Nat} : ItOk K (Itr lo n) H0 (rng lo n) := fun i H1 H' x1 x2 => by
  refine ⟨fun d hd => ?_, fun hi => show n ≤ i from Nat.le_of_eq (by simpa [rng] using hi)⟩
  unfold rng at hd
  rw [List.getElem?_map] at hd
  have hi : i < n := by
    by_cases z : i < n
    · exact z
    · rw [List.getElem?_eq_none (by simpa using z)] at hd; cases hd
  rw [List.getElem?_range hi] at hd
  cases hd
  exact ⟨hi, fun x H2 hy => .inl ⟨hy.1, by rw [hy.2]; simp only [Rep]⟩⟩
theorem ii_range1 {p pos : Pos} (hg : Gl X "range") (hm : X.mg "range" = none) (ha : PE X a (tF X.K B fa)) (hs : starEach [a] X.env = [(false, eval a X.env)] := by rfl) : PI X tg (.Call (.Name "range" p) [a] [] pos) (tI X.K B (iRng1 fa)) := (pi_range1 hg hm (pa_cons ha pa_nil hs) hs).pxw fun σ H Q q => by
  obtain ⟨s, H0, ds, s', R, ev, k⟩ := q
  obtain ⟨⟨d, s1⟩, e1, ev1⟩ := bnd ev
  cases d with
  | int j =>
    dsimp only at ev1
    split at ev1
    · next hj =>
      cases ev1
      have hj' := cRng_inv hj
      refine ⟨s, H0, _, _, R, e1, fun v H1 H' R1 x1 r1 => ⟨j, by rw [rep_int r1], hj'.1, hj'.2, ?_⟩⟩
      exact k _ H1 H' R1 x1 itok_rng
    · cases ev1
  | _ => cases ev1
@[simp] def iRng2 (fa fb : F) : FI := fun s => (fa s).bind fun a => (fb a.2).bind fun b => match a.1, b.1 with | .int i, .int j => if cRng i && cRng j then some (rng i (j - i).toNat, b.2) else none | _, _ => none
theorem rng2_inv {fa fb : F} {s s' : S} {ds : List D} (h : iRng2 fa fb s = some (ds, s')) : ∃ i j s1, fa s = some (.int i, s1) ∧ fb s1 = some (.int j, s') ∧ cRng i = true ∧ cRng j = true ∧ ds = rng i (j - i).toNat := by
  obtain ⟨⟨d1, s1⟩, e1, h1⟩ := bnd h
  obtain ⟨⟨d2, s2⟩, e2, h2⟩ := bnd h1
  cases d1 with
  | int i =>
    cases d2 with
    | int j =>
      dsimp only at h2
      split at h2
      · next hc =>
        cases h2
        rw [Bool.and_eq_true] at hc
        exact ⟨i, j, s1, e1, e2, hc.1, hc.2, rfl⟩
      · cases h2
    | _ => cases h2
  | _ => cases h2
theorem ii_range2 {p pos : Pos} (hg : Gl X "range") (hm : X.mg "range" = none) (ha : PE X a (tF X.K B fa)) (hb : PE X b (tF X.K B fb)) (hs : starEach [a, b] X.env = [(false, eval a X.env), (false, eval b X.env)] := by rfl) (hs1 : starEach [a, b] X.env = (false, eval a X.env) :: starEach [b] X.env := by rfl) (hs2 : starEach [b] X.env = [(false, eval b X.env)] := by rfl) : PI X tg (.Call (.Name "range" p) [a, b] [] pos) (tI X.K B (iRng2 fa fb)) := (pi_range2 hg hm (pa_cons ha (pa_cons hb pa_nil hs2) hs1) hs hs2).pxw fun σ H Q q => by
  obtain ⟨s, H0, ds, s', R, ev, k⟩ := q
  obtain ⟨i, j, s1, e1, e2, c1, c2, rfl⟩ := rng2_inv ev
  have h1 := cRng_inv c1
  have h2 := cRng_inv c2
  exact ⟨s, H0, _, _, R, e1, fun v H1 H' R1 x1 r1 => ⟨s1, H1, _, _, R1, e2, fun w H2 H2' R2 x2 r2 => ⟨i, j, by rw [rep_int r1, rep_int r2], ⟨h1.1, h1.2, h2.1, h2.2⟩, k _ H2 H2' R2 (x1.trans x2) itok_rng⟩⟩⟩

/-! ### for, while -/
@[simp] def loopD (g : FG) (fb : FS) : List D → S → Option Out
  | [], s => some (.nx s)
  | d :: ds, s => (g d s).bind fun s1 => (fb s1).bind fun o => match o with
    | .nx s2 => loopD g fb ds s2
    | .ct s2 => loopD g fb ds s2
    | .bk s2 => some (.nx s2)
    | .ret o d s2 => some (.ret o d s2)
@[simp] def sFor (fi : FI) (g : FG) (fb : FS) : FS := fun s => (fi s).bind fun a => loopD g fb a.1 a.2
theorem is_for {iter : Expr} {body : List Stmt} {fi : FI} {ts : List Nat} {g : FG} (hp : PassesOwn (model X.prog X.w) X.A X.env X.xe) (hc : X.calm = true) (hi : PI X tg iter (tI X.K B fi)) (hg : PG X tg (tG X.K B ts g)) (hb : PSs X body (tS X.K B fs)) (hs : ∀ x, foldedSetIterable iter X.env x = pure x := by intro _; rfl) :
    PS X (.For tg iter body [] pos) (tS X.K B (sFor fi g fs)) := (ps_for hp hc hi hg hb hs).pxw fun E σ H q => by
  obtain ⟨s, H0, out, R, ev, k⟩ := q
  obtain ⟨⟨ds, s1⟩, e1, ev1⟩ := bnd ev
  refine ⟨s, H0, ds, s1, R, e1, fun J H1 H' R1 x1 ok => ?_⟩
  refine ⟨fun i m σ H => i + m = ds.length ∧ ∃ s2 H2, Rel X.K B s2 σ H2 H ∧ Ex H1 H2 ∧ loopD g fs (ds.drop i) s2 = some out, ⟨ds.length, by omega, s1, H1, R1, Ex.refl _, by rw [List.drop_zero]; exact ev1⟩, fun i m σ H hW => ?_⟩
  obtain ⟨hm, s2, H2, R2, x2, hl⟩ := hW
  cases hd : ds[i]? with
  | none =>
    have hi : ds.length ≤ i := by simpa using hd
    rw [List.drop_eq_nil_of_le hi] at hl
    cases hl
    exact .inl ⟨(ok i H2 H x2 R2.h0).2 (by omega), k σ H2 H R2 (x1.trans x2)⟩
  | some d =>
    have hi : i < ds.length := (List.getElem?_eq_some_iff.mp hd).1
    rw [List.drop_eq_getElem_cons hi] at hl
    have ed : ds[i] = d := (List.getElem?_eq_some_iff.mp hd).2
    rw [ed] at hl
    obtain ⟨s3, e3, hl1⟩ := bnd hl
    obtain ⟨o, e4, hl2⟩ := bnd hl1
    obtain ⟨hgo, hy⟩ := (ok i H2 H x2 R2.h0).1 d hd
    refine .inr ⟨hgo, fun σ' H' => i + 1 + (m - 1) = ds.length ∧ ∃ s2 H2, Rel X.K B s2 σ' H2 H' ∧ Ex H1 H2 ∧ loopD g fs (ds.drop (i + 1)) s2 = some out, fun σ' H' hN => ⟨m - 1, by omega, hN⟩, fun x Hy hyx => ?_⟩
    have key : ∃ H3, Rel X.K B s2 σ H3 Hy ∧ Ex H2 H3 ∧ Rep X.K H3 d x := by
      rcases hy x Hy hyx with ⟨rfl, r⟩ | ⟨T, o, hT, rfl, r⟩
      · exact ⟨H2, R2, Ex.refl _, r⟩
      · exact ⟨_, R2.laid hT, Ex.new (R2.fresh0 hT), r⟩
    obtain ⟨H3, R3, x3, r3⟩ := key
    refine ⟨s2, H3, d, s3, R3, r3, e3, fun σ4 H4 H4' R4 x4 _ => ⟨s3, H4, o, R4, e4, ?_⟩⟩
    have x14 : Ex H1 H4 := (x2.trans x3).trans x4
    cases o with
    | nx s5 => exact fun σ5 H5 H5' R5 x5 => ⟨by omega, s5, H5, R5, x14.trans x5, hl2⟩
    | ct s5 => exact fun σ5 H5 H5' R5 x5 => ⟨by omega, s5, H5, R5, x14.trans x5, hl2⟩
    | bk s5 => cases hl2; exact fun σ5 H5 H5' R5 x5 => k σ5 H5 H5' R5 (x1.trans (x14.trans x5))
    | ret oo dd s5 => cases hl2; exact fun v σ5 H5 H5' R5 x5 r5 => k v σ5 H5 H5' R5 (x1.trans (x14.trans x5)) r5
def whileD (t : TB) (fb : FS) : Nat → S → Option Out
  | 0, _ => none
  | n + 1, s => (t s).bind fun a => if a.1 then (fb a.2).bind fun o => match o with
    | .nx s2 => whileD t fb n s2
    | .ct s2 => whileD t fb n s2
    | .bk s2 => some (.nx s2)
    | .ret o d s2 => some (.ret o d s2)
    else some (.nx a.2)
def sWhile (μ : S → Nat) (t : TB) (fb : FS) : FS := fun s => whileD t fb (μ s) s
theorem is_while {body : List Stmt} {μ : S → Nat} (hp : PassesOwn (model X.prog X.w) X.A X.env X.xe) (hc : PT X c (tT X.K B ba)) (hb : PSs X body (tS X.K B fs)) : PS X (.While c body [] pos) (tS X.K B (sWhile μ ba fs)) := (ps_while hp hc hb).pxw fun E σ H q => by
  obtain ⟨s, H0, out, R, ev, k⟩ := q
  refine ⟨fun m σ H => ∃ s2 H2, Rel X.K B s2 σ H2 H ∧ Ex H0 H2 ∧ whileD ba fs m s2 = some out, ⟨μ s, s, H0, R, Ex.refl _, ev⟩, fun m σ H hW => ?_⟩
  obtain ⟨s2, H2, R2, x2, hw⟩ := hW
  cases m with
  | zero => cases hw
  | succ m =>
    obtain ⟨⟨r, s3⟩, e3, hw1⟩ := bnd hw
    refine ⟨s2, H2, r, s3, R2, e3, fun H3 H3' R3 x3 => ?_⟩
    cases r with
    | false =>
      cases hw1
      exact iteF (k σ H3 H3' R3 (x2.trans x3))
    | true =>
      obtain ⟨o, e4, hw2⟩ := bnd (show (fs s3).bind _ = some out from hw1)
      refine iteT ⟨fun σ' H' => ∃ s2 H2, Rel X.K B s2 σ' H2 H' ∧ Ex H0 H2 ∧ whileD ba fs m s2 = some out, fun σ' H' hN => ⟨m, Nat.lt_succ_self m, hN⟩, s3, H3, o, R3, e4, ?_⟩
      have x03 := x2.trans x3
      cases o with
      | nx s5 => exact fun σ5 H5 H5' R5 x5 => ⟨s5, H5, R5, x03.trans x5, hw2⟩
      | ct s5 => exact fun σ5 H5 H5' R5 x5 => ⟨s5, H5, R5, x03.trans x5, hw2⟩
      | bk s5 => cases hw2; exact fun σ5 H5 H5' R5 x5 => k σ5 H5 H5' R5 (x03.trans x5)
      | ret oo dd s5 => cases hw2; exact fun v σ5 H5 H5' R5 x5 r5 => k v σ5 H5 H5' R5 (x03.trans x5) r5
end

/-! ### an object pinned while a block runs -/
def Bs.pin (B : Bs) (q : Addr) (o : HO) : Bs := ⟨upd B.hE q o, upd B.hb q o, B.h0, B.rp⟩
section
variable {K : PySem.W.Frag} {B : Bs} {s : S} {σ : St} {H0 H : Hp} {q : Addr} {d : D} {o : HO}
theorem Rel.pin (R : Rel K B s σ H0 H) (w : OwnAt K B s σ H0 H q d) (ho : H q = some o) : Rel K (B.pin q o) s σ H0 H := by
  have noT : ∀ xs, o ≠ .tup xs := fun xs z => by
    obtain ⟨o1, ho1, hc1⟩ := w.ob
    rw [ho] at ho1; cases ho1
    rw [z] at hc1; exact hc1.noTup.elim
  have tp : ∀ b xs, H b = some (.tup xs) → Nw (B.pin q o).hE b (.tup xs) := fun b xs h => by
    have z : b ≠ q := fun z => by rw [z, ho] at h; cases h; exact noT _ rfl
    show Nw (upd B.hE q o) b (.tup xs)
    unfold Nw
    rw [upd_ne z]; exact R.tp b xs h
  refine ⟨tp, fun a u h => ?_, fun b h => ?_, R.z0, R.h0, fun b u h => ?_, R.len, R.sh, fun i m e h hm => ?_, R.ne⟩
  · by_cases z : a = q
    · subst z
      have h' : upd B.hb a o a = some u := h
      rw [upd_same] at h'; cases h'; exact ho
    · have h' : upd B.hb q o a = some u := h
      rw [upd_ne z] at h'; exact R.fr a u h'
  · have z : b ≠ q := fun z => by rw [z, ho] at h; cases h
    show upd B.hE q o b = none
    rw [upd_ne z]; exact R.dom b h
  · have z : b ≠ q := fun z => by rw [z, w.z] at h; cases h
    rcases R.new b u h with y | y
    · exact .inl y
    · refine .inr ?_
      show Nw (upd B.hE q o) b u
      unfold Nw
      rw [upd_ne z]; exact y
  · obtain ⟨p, ep, y⟩ := R.ow i m e h hm
    have z : p ≠ q := fun z => w.ne i m e h hm (by rw [ep, z])
    refine ⟨p, ep, y.z, ?_, fun hh => ?_, y.rf, y.ob⟩
    · show upd B.hb q o p = none
      rw [upd_ne z]; exact y.b
    · show upd B.hE q o p = none
      rw [upd_ne z]; exact y.ow hh
theorem Rel.unpin (R : Rel K (B.pin q o) s σ H0 H) (he : B.hE q = none) (hb : B.hb q = none) (h0 : B.h0 q = none) (hc : Cell K H0 o d) : Rel K B s σ H0 H ∧ OwnAt K B s σ H0 H q d ∧ H q = some o := by
  have ho : H q = some o := R.fr q o (show upd B.hb q o q = some o from upd_same)
  have hz : H0 q = none := by
    cases z : H0 q with
    | none => rfl
    | some u =>
      rcases R.new q u z with y | y | ⟨xs, rfl, y⟩
      · rw [show (B.pin q o).h0 q = B.h0 q from rfl, h0] at y; cases y
      · rw [show (B.pin q o).hE q = upd B.hE q o q from rfl, upd_same] at y; cases y
      · rw [show (B.pin q o).hE q = upd B.hE q o q from rfl, upd_same] at y; cases y; exact hc.noTup.elim
  have R' : Rel K B s σ H0 H := by
    have tp : ∀ b xs, H b = some (.tup xs) → Nw B.hE b (.tup xs) := fun b xs h => by
      have z : b ≠ q := fun z => by rw [z, ho] at h; cases h; exact hc.noTup.elim
      have y : Nw (upd B.hE q o) b (.tup xs) := R.tp b xs h
      unfold Nw at y
      rw [upd_ne z] at y; exact y
    refine ⟨tp, fun a u h => ?_, fun b h => ?_, R.z0, R.h0, fun b u h => ?_, R.len, R.sh, fun i m e h hm => ?_, R.ne⟩
    · have z : a ≠ q := fun z => by rw [z, hb] at h; cases h
      exact R.fr a u (show upd B.hb q o a = some u by rw [upd_ne z]; exact h)
    · have y : upd B.hE q o b = none := R.dom b h
      by_cases z : b = q
      · rw [z]; exact he
      · rw [upd_ne z] at y; exact y
    · rcases R.new b u h with y | y
      · exact .inl y
      · have y' : Nw (upd B.hE q o) b u := y
        by_cases z : b = q
        · rw [z]; exact .inr (.inl he)
        · unfold Nw at y'; rw [upd_ne z] at y'; exact .inr y'
    · obtain ⟨p, ep, y⟩ := R.ow i m e h hm
      have yb : upd B.hb q o p = none := y.b
      have z : p ≠ q := fun z => by rw [z, upd_same] at yb; cases yb
      rw [upd_ne z] at yb
      refine ⟨p, ep, y.z, yb, fun hh => ?_, y.rf, y.ob⟩
      have ye : upd B.hE q o p = none := y.ow hh
      rw [upd_ne z] at ye; exact ye
  refine ⟨R', ⟨hz, he, hb, ⟨o, ho, hc⟩, fun i m e h hm z => ?_⟩, ho⟩
  obtain ⟨p, ep, y⟩ := R.ow i m e h hm
  rw [ep] at z; cases z
  have yb : upd B.hb q o q = none := y.b
  rw [upd_same] at yb; cases yb
/-- a list that grows -/
theorem Rel.grow {o' : HO} {d' : D} (R : Rel K B s σ H0 H) (w : OwnAt K B s σ H0 H q d) (hc : Cell K H0 o' d') : Rel K B s σ H0 (upd H q o') ∧ OwnAt K B s σ H0 (upd H q o') q d' := by
  obtain ⟨o, ho, _⟩ := w.ob
  refine ⟨⟨R.tpCell hc, fun a u h => ?_, fun b h => ?_, R.z0, fun a u h => ?_, R.new, R.len, R.sh, fun i m e h hm => ?_, R.ne⟩, w.z, w.e, w.b, ⟨o', upd_same, hc⟩, w.ne⟩
  · have z : a ≠ q := fun z => by rw [z, w.b] at h; cases h
    rw [upd_ne z]; exact R.fr a u h
  · have z : b ≠ q := fun z => by rw [z, upd_same] at h; cases h
    rw [upd_ne z] at h; exact R.dom b h
  · have z : a ≠ q := fun z => by rw [z, w.z] at h; cases h
    rw [upd_ne z]; exact R.h0 a u h
  · obtain ⟨p, ep, y⟩ := R.ow i m e h hm
    have z : p ≠ q := fun z => w.ne i m e h hm (by rw [ep, z])
    exact ⟨p, ep, y.up (Ex.refl _) y.z (upd_ne z)⟩
end

/-! ### a block's own slots -/
@[simp] def wipeS (s : S) : List Nat → S
  | [] => s
  | v :: vs => (wipeS s vs).set v none
theorem wipeS_len (s : S) : ∀ vs, (wipeS s vs).length = s.length
  | [] => rfl
  | v :: vs => by show ((wipeS s vs).set v none).length = _; rw [List.length_set, wipeS_len s vs]
theorem wipeS_some {s : S} {i : Nat} {x : Sl} : ∀ {vs : List Nat}, (wipeS s vs)[i]? = some (some x) → s[i]? = some (some x) ∧ i ∉ vs
  | [], h => ⟨h, by simp⟩
  | v :: vs, h => by
    rcases set_get (show ((wipeS s vs).set v none)[i]? = _ from h) with ⟨_, z⟩ | ⟨z, h'⟩
    · cases z
    · obtain ⟨h1, h2⟩ := wipeS_some h'
      exact ⟨h1, by simp [z, h2]⟩
@[simp] def restS (s1 s2 : S) : List Nat → S
  | [] => s2
  | v :: vs => (restS s1 s2 vs).set v (s1.getD v none)
theorem restS_len (s1 s2 : S) : ∀ vs, (restS s1 s2 vs).length = s2.length
  | [] => rfl
  | v :: vs => by show ((restS s1 s2 vs).set v _).length = _; rw [List.length_set, restS_len s1 s2 vs]
theorem restS_some {s1 s2 : S} {i : Nat} {x : Sl} : ∀ {vs : List Nat}, (restS s1 s2 vs)[i]? = some (some x) → (s1[i]? = some (some x) ∧ i ∈ vs) ∨ (s2[i]? = some (some x) ∧ i ∉ vs)
  | [], h => .inr ⟨h, by simp⟩
  | v :: vs, h => by
    rcases set_get (show ((restS s1 s2 vs).set v _)[i]? = _ from h) with ⟨z, e⟩ | ⟨z, h'⟩
    · subst z
      refine .inl ⟨?_, by simp⟩
      rw [List.getD_eq_getElem?_getD] at e
      cases q : s1[i]? with
      | none => rw [q] at e; cases e
      | some y => rw [q] at e; rw [show y = some x from e.symm]
    · rcases restS_some h' with ⟨h1, h2⟩ | ⟨h1, h2⟩
      · exact .inl ⟨h1, by simp [h2]⟩
      · exact .inr ⟨h1, by simp [z, h2]⟩
section
variable {K : PySem.W.Frag} {B : Bs} {s : S} {σ : St} {H0 H : Hp} {q : Addr} {d : D} {o : HO}
theorem Rel.wipe (R : Rel K B s σ H0 H) (vs : List Nat) : Rel K B (wipeS s vs) (L2.wipe σ vs) H0 H := by
  refine ⟨R.tp, R.fr, R.dom, R.z0, R.h0, R.new, by rw [wipeS_len, wipe_length]; exact R.len, fun i d h => ?_, fun i m d h hm => ?_, fun i j m n d e p h1 hm h2 hn e1 e2 => ?_⟩
  · obtain ⟨h1, h2⟩ := wipeS_some h
    obtain ⟨v, ev, r⟩ := R.sh i d h1
    exact ⟨v, by rw [wipe_out h2]; exact ev, r⟩
  · obtain ⟨h1, h2⟩ := wipeS_some h
    obtain ⟨v, ev, r⟩ := R.ow i m d h1 hm
    exact ⟨v, by rw [wipe_out h2]; exact ev, r⟩
  · obtain ⟨h1', g1⟩ := wipeS_some h1
    obtain ⟨h2', g2⟩ := wipeS_some h2
    rw [wipe_out g1] at e1
    rw [wipe_out g2] at e2
    exact R.ne i j m n d e p h1' hm h2' hn e1 e2
theorem OwnAt.wipe (w : OwnAt K B s σ H0 H q d) (vs : List Nat) : OwnAt K B (wipeS s vs) (L2.wipe σ vs) H0 H q d := ⟨w.z, w.e, w.b, w.ob, fun i m e h hm z => by
  obtain ⟨h1, h2⟩ := wipeS_some h
  rw [wipe_out h2] at z
  exact w.ne i m e h1 hm z⟩
theorem isOwn_no {s : S} {i : Nat} {m : Md} {d : D} (h : isOwn s i = false) (e : s[i]? = some (some (m, d))) : m = .sh := by
  unfold isOwn at h
  rw [e] at h
  cases m with
  | sh => rfl
  | ow => cases h
  | rf => cases h
theorem Rel.rest {s1 : S} {Ha Hb : Hp} {vs : List Nat} (Ra : Rel K B s1 σ Ha Hb) (hv : ∀ i ∈ vs, isOwn s1 i = false) (x : Ex Ha H0) (R : Rel K B s (L2.wipe σ vs) H0 H) : Rel K B (restS s1 s vs) σ H0 H := by
  refine ⟨R.tp, R.fr, R.dom, R.z0, R.h0, R.new, by rw [restS_len, R.len, wipe_length], fun i d h => ?_, fun i m d h hm => ?_, fun i j m n d e p h1 hm h2 hn e1 e2 => ?_⟩
  · rcases restS_some h with ⟨h1, _⟩ | ⟨h1, h2⟩
    · obtain ⟨v, ev, r⟩ := Ra.sh i d h1
      exact ⟨v, ev, r.up x⟩
    · obtain ⟨v, ev, r⟩ := R.sh i d h1
      exact ⟨v, by rw [wipe_out h2] at ev; exact ev, r⟩
  · rcases restS_some h with ⟨h1, h2⟩ | ⟨h1, h2⟩
    · exact absurd (isOwn_no (hv i h2) h1) hm
    · obtain ⟨v, ev, r⟩ := R.ow i m d h1 hm
      exact ⟨v, by rw [wipe_out h2] at ev; exact ev, r⟩
  · rcases restS_some h1 with ⟨g1, i1⟩ | ⟨g1, i1⟩
    · exact absurd (isOwn_no (hv i i1) g1) hm
    rcases restS_some h2 with ⟨g2, i2⟩ | ⟨g2, i2⟩
    · exact absurd (isOwn_no (hv j i2) g2) hn
    exact R.ne i j m n d e p g1 hm g2 hn (by rw [wipe_out i1]; exact e1) (by rw [wipe_out i2]; exact e2)
theorem OwnAt.rest {s1 : S} {Ha Hb : Hp} {vs : List Nat} (hv : ∀ i ∈ vs, isOwn s1 i = false) (w : OwnAt K B s (L2.wipe σ vs) H0 H q d) : OwnAt K B (restS s1 s vs) σ H0 H q d := ⟨w.z, w.e, w.b, w.ob, fun i m e h hm z => by
  rcases restS_some h with ⟨h1, h2⟩ | ⟨h1, h2⟩
  · exact absurd (isOwn_no (hv i h2) h1) hm
  · exact w.ne i m e h1 hm (by rw [wipe_out h2]; exact z)⟩
theorem wipe_get {σ : St} {i : Nat} : ∀ {vs : List Nat}, i ∈ vs → i < σ.length → (L2.wipe σ vs)[i]? = some none
  | [], h, _ => by simp at h
  | v :: vs, h, hl => by
    show ((L2.wipe σ vs).set v none)[i]? = some none
    by_cases z : i = v
    · subst z; exact List.getElem?_set_self (by rw [wipe_length]; exact hl)
    · rw [List.getElem?_set_ne (Ne.symm z)]
      exact wipe_get (by simpa [z] using h) hl
theorem Keeps.wipe {ts vs : List Nat} {σ σ' : St} (k : Keeps ts (L2.wipe σ vs) σ') (h : ∀ i ∈ ts, i ∈ vs) : L2.wipe σ' vs = L2.wipe σ vs := by
  have hl : σ'.length = σ.length := by rw [k.1, wipe_length]
  refine List.ext_getElem? fun i => ?_
  by_cases z : i ∈ vs
  · by_cases hi : i < σ.length
    · rw [wipe_get z hi, wipe_get z (by rw [hl]; exact hi)]
    · rw [List.getElem?_eq_none (by rw [wipe_length, hl]; omega), List.getElem?_eq_none (by rw [wipe_length]; omega)]
  · rw [wipe_out z, k.2 i (fun y => z (h i y))]
end
end Px

set_option Elab.async false
set_option linter.all false
set_option maxRecDepth 100000
set_option maxHeartbeats 1000000
/-! Px7: comprehensions, defs -/
namespace Px
open PySem L2
section
variable {X : Cx} {B : Bs} {a b c e tg : Expr} {pos p apos : Pos} {fa fb fc f : F} {K : PySem.W.Frag} {σ : St} {H : Hp} {x y : Str} {k n : Nat} {es : List Expr} {st : Stmt} {fs gs : FS}
/-! ### tests of a comprehension -/
@[simp] def bYes : TB := fun s => some (true, s)
theorem _root_.L2.PTs.pxw {ifs : List Expr} {t t' : TT} (h : PTs X ifs t) (w : ∀ σ H Q, t' σ H Q → t σ H Q) : PTs X ifs t' := ⟨fun pins s σ H Q I q => h.run pins s σ H Q I (w σ H Q q)⟩
theorem its_nil : PTs X [] (tT X.K B bYes) := pts_nil.pxw fun σ H Q q => by
  obtain ⟨s, H0, r, s', R, ev, k⟩ := q
  cases ev
  exact k H0 H R (Ex.refl _)
theorem its_one {ba : TB} (h : PT X c (tT X.K B ba)) : PTs X [c] (tT X.K B ba) := pts_one h
/-! ### list comprehensions -/
@[simp] def compD (g : FG) (t : TB) (fe : F) (vs : List Nat) : List D → S → List D → Option (List D × S)
  | [], s, acc => some (acc, s)
  | d :: ds, s, acc => (g d s).bind fun s1 => (t s1).bind fun b => if b.1 then (fe b.2).bind fun r => if small acc.length then compD g t fe vs ds (wipeS r.2 vs) (acc ++ [r.1]) else none else compD g t fe vs ds (wipeS b.2 vs) acc
@[simp] def noOwn (s : S) (vs : List Nat) : Bool := vs.all fun i => !isOwn s i
theorem noOwn_inv {s : S} {vs : List Nat} (h : noOwn s vs = true) : ∀ i ∈ vs, isOwn s i = false := fun i hi => by
  have := List.all_eq_true.mp h i hi
  simpa using this
@[simp] def eLc (fi : FI) (g : FG) (t : TB) (fe : F) (vs : List Nat) : F := fun s => (fi s).bind fun a => if noOwn a.2 vs then (compD g t fe vs a.1 (wipeS a.2 vs) []).bind fun r => some (.lst r.1, restS a.2 r.2 vs) else none
theorem rd_lc {K : PySem.W.Frag} {fi : FI} {ts : List Nat} {g : FG} {t : TB} {fe : F} {vs : List Nat} {σ : St} {H : Hp} {Q : VK} (hts : ∀ i ∈ ts, i ∈ vs) (q : tO K B (eLc fi g t fe vs) σ H Q) :
    tLc (tI K B fi) (fun v σ H Q => ∃ B, tG K B ts g v σ H Q) (fun σ H Q => ∃ B, tT K B t σ H Q) (fun σ H Q => ∃ B, tF K B fe σ H Q) vs σ H Q := by
  obtain ⟨s, H0, r, s', R, ev, k⟩ := q
  obtain ⟨⟨ds, s1⟩, e1, ev1⟩ := bnd ev
  dsimp only at ev1
  split at ev1
  · next hno =>
    have hv := noOwn_inv hno
    obtain ⟨⟨out, sf⟩, e2, ev2⟩ := bnd ev1
    cases ev2
    refine ⟨s, H0, ds, s1, R, e1, fun J H1 H' R1 x1 ok D hD => ?_⟩
    -- what holds between two turns
    refine ⟨fun i m H => i + m = ds.length ∧ ∃ s2 H2 acc xs, Rel K B s2 (L2.wipe σ vs) H2 H ∧ Ex H1 H2 ∧ OwnAt K B s2 (L2.wipe σ vs) H2 H D (.lst acc) ∧ H D = some (.lst xs) ∧ RepL K H2 acc xs ∧ compD g t fe vs (ds.drop i) s2 acc = some (out, sf),
      ⟨ds.length, by omega, wipeS s1 vs, H1, [], [], (R1.laidO hD).wipe vs, Ex.refl _, (R1.ownNew (o := .lst []) (d := .lst []) hD ⟨[], rfl, .nil⟩).wipe vs, upd_same, .nil, by rw [List.drop_zero]; exact e2⟩, fun i m H hW => ?_⟩
    obtain ⟨hm, s2, H2, acc, xs, R2, x2, w2, hD2, l2, hc⟩ := hW
    cases hd : ds[i]? with
    | none =>
      have hi : ds.length ≤ i := by simpa using hd
      rw [List.drop_eq_nil_of_le hi] at hc
      cases hc
      refine .inl ⟨(ok i H2 H x2 R2.h0).2 (by omega), k D H2 H (R1.rest hv x2 R2) (x1.trans x2) (OwnAt.rest (Ha := H1) (Hb := H') hv w2)⟩
    | some d =>
      have hi : i < ds.length := (List.getElem?_eq_some_iff.mp hd).1
      rw [List.drop_eq_getElem_cons hi, (List.getElem?_eq_some_iff.mp hd).2] at hc
      obtain ⟨s3, e3, hc1⟩ := bnd hc
      obtain ⟨⟨b, s4⟩, e4, hc2⟩ := bnd hc1
      obtain ⟨hgo, hy⟩ := (ok i H2 H x2 R2.h0).1 d hd
      refine .inr ⟨hgo, fun H' => i + 1 + (m - 1) = ds.length ∧ ∃ s2 H2 acc xs, Rel K B s2 (L2.wipe σ vs) H2 H' ∧ Ex H1 H2 ∧ OwnAt K B s2 (L2.wipe σ vs) H2 H' D (.lst acc) ∧ H' D = some (.lst xs) ∧ RepL K H2 acc xs ∧ compD g t fe vs (ds.drop (i + 1)) s2 acc = some (out, sf),
        fun H' hN => ⟨m - 1, by omega, hN⟩, fun x Hy hyx => ?_⟩
      have key : ∃ H3, Rel K B s2 (L2.wipe σ vs) H3 Hy ∧ Ex H2 H3 ∧ Rep K H3 d x ∧ OwnAt K B s2 (L2.wipe σ vs) H3 Hy D (.lst acc) ∧ Hy D = some (.lst xs) := by
        rcases hy x Hy hyx with ⟨rfl, r⟩ | ⟨T, o, hT, rfl, r⟩
        · exact ⟨H2, R2, Ex.refl _, r, w2, hD2⟩
        · have ne : D ≠ T := ne_of_none hD2 hT
          refine ⟨_, R2.laid hT, Ex.new (R2.fresh0 hT), r, ⟨by rw [upd_ne ne]; exact w2.z, w2.e, w2.b, ⟨_, by rw [upd_ne ne]; exact hD2, xs, rfl, l2.up (Ex.new (R2.fresh0 hT))⟩, w2.ne⟩, by rw [upd_ne ne]; exact hD2⟩
      obtain ⟨H3, R3, x3, r3, w3, hD3⟩ := key
      have zE : B.hE D = none := w3.e
      have zb : B.hb D = none := w3.b
      have z0 : B.h0 D = none := R3.z0.back w3.z
      refine ⟨B.pin D (.lst xs), s2, H3, d, s3, R3.pin w3 hD3, r3, e3, fun σ4 H4 H4' R4 x4 k4 => ⟨k4.wipe hts, ?_⟩⟩
      refine ⟨B.pin D (.lst xs), s3, H4, b, s4, R4, e4, fun H5 H5' R5 x5 => ?_⟩
      have x15 : Ex H1 H5 := ((x2.trans x3).trans x4).trans x5
      have x25 : Ex H2 H5 := (x3.trans x4).trans x5
      cases b with
      | false =>
        refine iteF ⟨by omega, ?_⟩
        obtain ⟨R6, w6, hD6⟩ := R5.unpin zE zb z0 (d := .lst acc) ⟨xs, rfl, l2.up x25⟩
        have R7 := R6.wipe vs
        have w7 := w6.wipe vs
        rw [k4.wipe hts] at R7 w7
        exact ⟨wipeS s4 vs, H5, acc, xs, R7, x15, w7, hD6, l2.up x25, hc2⟩
      | true =>
        refine iteT ?_
        obtain ⟨⟨re, s5⟩, e5, hc3⟩ := bnd (show (fe s4).bind _ = some (out, sf) from hc2)
        dsimp only at hc3
        split at hc3
        · next hsm =>
          refine ⟨B.pin D (.lst xs), s4, H5, re, s5, R5, e5, fun y H6 H6' R6 x6 r6 => ?_⟩
          have l6 := l2.up (x25.trans x6)
          obtain ⟨R7, w7, hD7⟩ := R6.unpin zE zb z0 (d := .lst acc) ⟨xs, rfl, l6⟩
          obtain ⟨R8, w8⟩ := R7.grow w7 (o' := .lst (xs ++ [y])) (d' := .lst (acc ++ [re])) ⟨_, rfl, l6.append (.cons r6 .nil)⟩
          refine ⟨xs, hD7, by rw [l6.len]; exact small_lt hsm, by omega, wipeS s5 vs, H6, acc ++ [re], xs ++ [y], ?_, x15.trans x6, ?_, upd_same, l6.append (.cons r6 .nil), hc3⟩
          · have := R8.wipe vs; rw [k4.wipe hts] at this; exact this
          · have := w8.wipe vs; rw [k4.wipe hts] at this; exact this
        · cases hc3
  · cases ev1
theorem io_lc {elt iter : Expr} {ifs : List Expr} {scope : Scope} {own : List (Str × Nat)} {fi : FI} {ts : List Nat} {g : FG} {t : TB} {fe : F} (hc : X.calm = true) (hN : X.N.Nodup) (hi : PI X tg iter (tI X.K B fi)) (ok : BlkOk X.N X.env.scope scope own)
    (hg : ∀ (B : Bs) (s : Shared) (H : Hp) (C : Addr) (cl : List (Str × Addr)) (fp : List Addr), PG (X.blk s H scope (compEnvC scope cl C X.env) fp) tg (tG X.K B ts g))
    (ht : ∀ (B : Bs) (s : Shared) (H : Hp) (C : Addr) (cl : List (Str × Addr)) (fp : List Addr), PTs (X.blk s H scope (compEnvC scope cl C X.env) fp) ifs (tT X.K B t))
    (he : ∀ (B : Bs) (s : Shared) (H : Hp) (C : Addr) (cl : List (Str × Addr)) (fp : List Addr), PE (X.blk s H scope (compEnvC scope cl C X.env) fp) elt (tF X.K B fe)) (hts : ∀ i ∈ ts, i ∈ own.map (·.2) := by decide)
    (hs : ∀ x, foldedSetIterable iter X.env x = pure x := by intro _; rfl) : PE X (.ListComp elt [⟨tg, iter, ifs, 0⟩] scope pos) (tO X.K B (eLc fi g t fe (own.map (·.2)))) :=
  (pe_lc hc hN hi ok (g := fun v σ H Q => ∃ B, tG X.K B ts g v σ H Q) (tt := fun σ H Q => ∃ B, tT X.K B t σ H Q) (te := fun σ H Q => ∃ B, tF X.K B fe σ H Q)
    (fun s H C cl fp => ⟨fun pins s' σ H' v u Q I r ⟨B, q⟩ => (hg B s H C cl fp).run pins s' σ H' v u Q I r q⟩)
    (fun s H C cl fp => ⟨fun pins s' σ H' Q I ⟨B, q⟩ => (ht B s H C cl fp).run pins s' σ H' Q I q⟩)
    (fun s H C cl fp => ⟨fun pins s' σ H' Q I ⟨B, q⟩ => (he B s H C cl fp).run pins s' σ H' Q I q⟩) hs).pxw fun σ H Q q => rd_lc hts q
/-- y = [..] -/
theorem is_setLc {i : Nat} {y : Str} {py spos : Pos} {elt iter : Expr} {ifs : List Expr} {scope : Scope} {own : List (Str × Nat)} {fi : FI} {ts : List Nat} {g : FG} {t : TB} {fe : F} (hc : X.calm = true) (hN : X.N.Nodup) (hy : X.N[i]? = some y) (hyl : X.env.scope.names.lookup y = some .local)
    (hsw : swapsWith (.ListComp elt [⟨tg, iter, ifs, 0⟩] scope pos) (some (.Name y py)) spos.line X.env = pure true) (hi : PI X tg iter (tI X.K B fi)) (ok : BlkOk X.N X.env.scope scope own)
    (hg : ∀ (B : Bs) (s : Shared) (H : Hp) (C : Addr) (cl : List (Str × Addr)) (fp : List Addr), PG (X.blk s H scope (compEnvC scope cl C X.env) fp) tg (tG X.K B ts g))
    (ht : ∀ (B : Bs) (s : Shared) (H : Hp) (C : Addr) (cl : List (Str × Addr)) (fp : List Addr), PTs (X.blk s H scope (compEnvC scope cl C X.env) fp) ifs (tT X.K B t))
    (he : ∀ (B : Bs) (s : Shared) (H : Hp) (C : Addr) (cl : List (Str × Addr)) (fp : List Addr), PE (X.blk s H scope (compEnvC scope cl C X.env) fp) elt (tF X.K B fe)) (hts : ∀ i ∈ ts, i ∈ own.map (·.2) := by decide)
    (hs : ∀ x, foldedSetIterable iter X.env x = pure x := by intro _; rfl) : PS X (.Assign [.Name y py] (.ListComp elt [⟨tg, iter, ifs, 0⟩] scope pos) spos) (tS X.K B (sSetO i (eLc fi g t fe (own.map (·.2))))) :=
  (ps_setLc hc hN hy hyl hsw hi ok (g := fun v σ H Q => ∃ B, tG X.K B ts g v σ H Q) (tt := fun σ H Q => ∃ B, tT X.K B t σ H Q) (te := fun σ H Q => ∃ B, tF X.K B fe σ H Q)
    (fun s H C cl fp => ⟨fun pins s' σ H' v u Q I r ⟨B, q⟩ => (hg B s H C cl fp).run pins s' σ H' v u Q I r q⟩)
    (fun s H C cl fp => ⟨fun pins s' σ H' Q I ⟨B, q⟩ => (ht B s H C cl fp).run pins s' σ H' Q I q⟩)
    (fun s H C cl fp => ⟨fun pins s' σ H' Q I ⟨B, q⟩ => (he B s H C cl fp).run pins s' σ H' Q I q⟩) hs).pxw fun E σ H q => by
  obtain ⟨s, H0, out, R, ev, k⟩ := q
  obtain ⟨a, e1, e2⟩ := bnd ev
  cases e2
  exact rd_lc hts ⟨s, H0, a.1, a.2, R, e1, fun p H1 H' R1 x1 w => k _ H1 H' (R1.setO w) x1⟩
/-! ### dict comprehensions (int and text keys) -/
@[simp] def dcompD (g : FG) (t : TB) (fk fv : F) (vs : List Nat) : List D → S → List Key → List D → Option ((List Key × List D) × S)
  | [], s, ks, acc => some ((ks, acc), s)
  | d :: ds, s, ks, acc => (g d s).bind fun s1 => (t s1).bind fun b => if b.1 then (fk b.2).bind fun rk => (fv rk.2).bind fun r => (key? rk.1).bind fun key => if small ks.length then dcompD g t fk fv vs ds (wipeS r.2 vs) (putD ks acc key r.1).1 (putD ks acc key r.1).2 else none else dcompD g t fk fv vs ds (wipeS b.2 vs) ks acc
@[simp] def eDc (fi : FI) (g : FG) (t : TB) (fk fv : F) (vs : List Nat) : F := fun s => (fi s).bind fun a => if noOwn a.2 vs then (dcompD g t fk fv vs a.1 (wipeS a.2 vs) [] []).bind fun r => some (.dK r.1.1 r.1.2, restS a.2 r.2 vs) else none
theorem rd_dc {K : PySem.W.Frag} {fi : FI} {ts : List Nat} {g : FG} {t : TB} {fk fv : F} {vs : List Nat} {σ : St} {H : Hp} {Q : VK} (hts : ∀ i ∈ ts, i ∈ vs) (q : tO K B (eDc fi g t fk fv vs) σ H Q) :
    tDc (tI K B fi) (fun v σ H Q => ∃ B, tG K B ts g v σ H Q) (fun σ H Q => ∃ B, tT K B t σ H Q) (fun σ H Q => ∃ B, tF K B fk σ H Q) (fun σ H Q => ∃ B, tF K B fv σ H Q) vs σ H Q := by
  obtain ⟨s, H0, r, s', R, ev, k⟩ := q
  obtain ⟨⟨ds, s1⟩, e1, ev1⟩ := bnd ev
  dsimp only at ev1
  split at ev1
  · next hno =>
    have hv := noOwn_inv hno
    obtain ⟨⟨⟨ok1, out⟩, sf⟩, e2, ev2⟩ := bnd ev1
    cases ev2
    refine ⟨s, H0, ds, s1, R, e1, fun J H1 H' R1 x1 ok D hD => ?_⟩
    refine ⟨fun i m H => i + m = ds.length ∧ ∃ s2 H2 ks acc xs, Rel K B s2 (L2.wipe σ vs) H2 H ∧ Ex H1 H2 ∧ OwnAt K B s2 (L2.wipe σ vs) H2 H D (.dK ks acc) ∧ H D = some (.dK (ks.zip xs)) ∧ ks.length = acc.length ∧ RepL K H2 acc xs ∧ dcompD g t fk fv vs (ds.drop i) s2 ks acc = some ((ok1, out), sf),
      ⟨ds.length, by omega, wipeS s1 vs, H1, [], [], [], (R1.laidO hD).wipe vs, Ex.refl _, (R1.ownNew (o := .dK []) (d := .dK [] []) hD ⟨[], rfl, rfl, .nil⟩).wipe vs, upd_same, rfl, .nil, by rw [List.drop_zero]; exact e2⟩, fun i m H hW => ?_⟩
    obtain ⟨hm, s2, H2, ks, acc, xs, R2, x2, w2, hD2, hl2, l2, hc⟩ := hW
    cases hd : ds[i]? with
    | none =>
      have hi : ds.length ≤ i := by simpa using hd
      rw [List.drop_eq_nil_of_le hi] at hc
      cases hc
      refine .inl ⟨(ok i H2 H x2 R2.h0).2 (by omega), k D H2 H (R1.rest hv x2 R2) (x1.trans x2) (OwnAt.rest (Ha := H1) (Hb := H') hv w2)⟩
    | some d =>
      have hi : i < ds.length := (List.getElem?_eq_some_iff.mp hd).1
      rw [List.drop_eq_getElem_cons hi, (List.getElem?_eq_some_iff.mp hd).2] at hc
      obtain ⟨s3, e3, hc1⟩ := bnd hc
      obtain ⟨⟨b, s4⟩, e4, hc2⟩ := bnd hc1
      obtain ⟨hgo, hy⟩ := (ok i H2 H x2 R2.h0).1 d hd
      refine .inr ⟨hgo, fun H' => i + 1 + (m - 1) = ds.length ∧ ∃ s2 H2 ks acc xs, Rel K B s2 (L2.wipe σ vs) H2 H' ∧ Ex H1 H2 ∧ OwnAt K B s2 (L2.wipe σ vs) H2 H' D (.dK ks acc) ∧ H' D = some (.dK (ks.zip xs)) ∧ ks.length = acc.length ∧ RepL K H2 acc xs ∧ dcompD g t fk fv vs (ds.drop (i + 1)) s2 ks acc = some ((ok1, out), sf),
        fun H' hN => ⟨m - 1, by omega, hN⟩, fun x Hy hyx => ?_⟩
      have key : ∃ H3, Rel K B s2 (L2.wipe σ vs) H3 Hy ∧ Ex H2 H3 ∧ Rep K H3 d x ∧ OwnAt K B s2 (L2.wipe σ vs) H3 Hy D (.dK ks acc) ∧ Hy D = some (.dK (ks.zip xs)) := by
        rcases hy x Hy hyx with ⟨rfl, r⟩ | ⟨T, o, hT, rfl, r⟩
        · exact ⟨H2, R2, Ex.refl _, r, w2, hD2⟩
        · have ne : D ≠ T := ne_of_none hD2 hT
          refine ⟨_, R2.laid hT, Ex.new (R2.fresh0 hT), r, ⟨by rw [upd_ne ne]; exact w2.z, w2.e, w2.b, ⟨_, by rw [upd_ne ne]; exact hD2, xs, rfl, hl2, l2.up (Ex.new (R2.fresh0 hT))⟩, w2.ne⟩, by rw [upd_ne ne]; exact hD2⟩
      obtain ⟨H3, R3, x3, r3, w3, hD3⟩ := key
      have zE : B.hE D = none := w3.e
      have zb : B.hb D = none := w3.b
      have z0 : B.h0 D = none := R3.z0.back w3.z
      refine ⟨B.pin D (.dK (ks.zip xs)), s2, H3, d, s3, R3.pin w3 hD3, r3, e3, fun σ4 H4 H4' R4 x4 k4 => ⟨k4.wipe hts, ?_⟩⟩
      refine ⟨B.pin D (.dK (ks.zip xs)), s3, H4, b, s4, R4, e4, fun H5 H5' R5 x5 => ?_⟩
      have x15 : Ex H1 H5 := ((x2.trans x3).trans x4).trans x5
      have x25 : Ex H2 H5 := (x3.trans x4).trans x5
      cases b with
      | false =>
        refine iteF ⟨by omega, ?_⟩
        obtain ⟨R6, w6, hD6⟩ := R5.unpin zE zb z0 (d := .dK ks acc) ⟨xs, rfl, hl2, l2.up x25⟩
        have R7 := R6.wipe vs
        have w7 := w6.wipe vs
        rw [k4.wipe hts] at R7 w7
        exact ⟨wipeS s4 vs, H5, ks, acc, xs, R7, x15, w7, hD6, hl2, l2.up x25, hc2⟩
      | true =>
        refine iteT ?_
        obtain ⟨⟨rk, s5⟩, e5, hc3⟩ := bnd (show (fk s4).bind _ = some ((ok1, out), sf) from hc2)
        obtain ⟨⟨re, s6⟩, e6, hc4⟩ := bnd hc3
        obtain ⟨key, ek, hc5⟩ := bnd hc4
        dsimp only at hc5
        split at hc5
        · next hsm =>
          refine ⟨B.pin D (.dK (ks.zip xs)), s4, H5, rk, s5, R5, e5, fun yk H6 H6' R6 x6 r6 => ⟨B.pin D (.dK (ks.zip xs)), s5, H6, re, s6, R6, e6, fun y H7 H7' R7 x7 r7 => ?_⟩⟩
          have l7 := l2.up ((x25.trans x6).trans x7)
          obtain ⟨R8, w8, hD8⟩ := R7.unpin zE zb z0 (d := .dK ks acc) ⟨xs, rfl, hl2, l7⟩
          obtain ⟨ys, ry, ey⟩ := put_rep (k := key) l7 hl2 r7
          obtain ⟨R9, w9⟩ := R8.grow w8 (o' := .dK (putK (ks.zip xs) key y)) (d' := .dK (putD ks acc key re).1 (putD ks acc key re).2) ⟨ys, by rw [ey], putD_len hl2, ry⟩
          refine ⟨_, key, key_inv ek r6, hD8, by rw [zip_length (hl2.trans l7.len.symm)]; exact small_lt hsm, by omega, wipeS s6 vs, H7, _, _, ys, ?_, (x15.trans x6).trans x7, ?_, by rw [upd_same, ey], putD_len hl2, ry, hc5⟩
          · have := R9.wipe vs; rw [k4.wipe hts] at this; exact this
          · have := w9.wipe vs; rw [k4.wipe hts] at this; exact this
        · cases hc5
  · cases ev1
theorem io_dc {kx vx iter : Expr} {ifs : List Expr} {scope : Scope} {own : List (Str × Nat)} {fi : FI} {ts : List Nat} {g : FG} {t : TB} {fk fv : F} (hc : X.calm = true) (hN : X.N.Nodup) (hi : PI X tg iter (tI X.K B fi)) (ok : BlkOk X.N X.env.scope scope own)
    (hg : ∀ (B : Bs) (s : Shared) (H : Hp) (C : Addr) (cl : List (Str × Addr)) (fp : List Addr), PG (X.blk s H scope (compEnvC scope cl C X.env) fp) tg (tG X.K B ts g))
    (ht : ∀ (B : Bs) (s : Shared) (H : Hp) (C : Addr) (cl : List (Str × Addr)) (fp : List Addr), PTs (X.blk s H scope (compEnvC scope cl C X.env) fp) ifs (tT X.K B t))
    (hk : ∀ (B : Bs) (s : Shared) (H : Hp) (C : Addr) (cl : List (Str × Addr)) (fp : List Addr), PE (X.blk s H scope (compEnvC scope cl C X.env) fp) kx (tF X.K B fk))
    (he : ∀ (B : Bs) (s : Shared) (H : Hp) (C : Addr) (cl : List (Str × Addr)) (fp : List Addr), PE (X.blk s H scope (compEnvC scope cl C X.env) fp) vx (tF X.K B fv)) (hts : ∀ i ∈ ts, i ∈ own.map (·.2) := by decide)
    (hs : ∀ x, foldedSetIterable iter X.env x = pure x := by intro _; rfl) : PE X (.DictComp kx vx [⟨tg, iter, ifs, 0⟩] scope pos) (tO X.K B (eDc fi g t fk fv (own.map (·.2)))) :=
  (pe_dc hc hN hi ok (g := fun v σ H Q => ∃ B, tG X.K B ts g v σ H Q) (tt := fun σ H Q => ∃ B, tT X.K B t σ H Q) (tk := fun σ H Q => ∃ B, tF X.K B fk σ H Q) (tv := fun σ H Q => ∃ B, tF X.K B fv σ H Q)
    (fun s H C cl fp => ⟨fun pins s' σ H' v u Q I r ⟨B, q⟩ => (hg B s H C cl fp).run pins s' σ H' v u Q I r q⟩)
    (fun s H C cl fp => ⟨fun pins s' σ H' Q I ⟨B, q⟩ => (ht B s H C cl fp).run pins s' σ H' Q I q⟩)
    (fun s H C cl fp => ⟨fun pins s' σ H' Q I ⟨B, q⟩ => (hk B s H C cl fp).run pins s' σ H' Q I q⟩)
    (fun s H C cl fp => ⟨fun pins s' σ H' Q I ⟨B, q⟩ => (he B s H C cl fp).run pins s' σ H' Q I q⟩) hs).pxw fun σ H Q q => rd_dc hts q
/-- {} -/
@[simp] def eDNewK : F := fun s => some (.dK [] [], s)
@[simp] def eDNewT : F := fun s => some (.dT [] [], s)
theorem io_dnewK : PE X (.Dict [] [] pos) (tO X.K B eDNewK) := pe_dnewK.pxw fun σ H Q q => by
  obtain ⟨s, H0, r, s', R, ev, k⟩ := q
  cases ev
  exact fun p hp => k p H0 _ (R.laidO hp) (Ex.refl _) (R.ownNew (o := .dK []) hp ⟨[], rfl, rfl, .nil⟩)
theorem io_dnewT : PE X (.Dict [] [] pos) (tO X.K B eDNewT) := pe_dnewT.pxw fun σ H Q q => by
  obtain ⟨s, H0, r, s', R, ev, k⟩ := q
  cases ev
  exact fun p hp => k p H0 _ (R.laidO hp) (Ex.refl _) (R.ownNew (o := .dT []) hp ⟨[], rfl, rfl, .nil⟩)
/-! ### defs -/
@[simp] def init (m : Nat) (ds : List D) : S := ds.map (fun d => some (.sh, d)) ++ List.replicate (m - ds.length) none
@[simp] def runF (m : Nat) (fs : FS) : FnD := fun ds => (fs (init m ds)).bind fun o => match o with
  | .nx _ => some (false, .non)
  | .ret o d _ => some (o, d)
  | _ => none
theorem rel_init {H0 H : Hp} {m : Nat} {ds : List D} {vs : List V} (e : Ex H0 H) (r : RepL K H0 ds vs) (N : List Str) (hm : N.length = m) : Rel K ⟨H, H, H0, 0⟩ (init m ds) (start N vs) H0 H := by
  have hl := r.len
  refine ⟨fun b xs h => .inr ⟨xs, rfl, h⟩, Ex.refl _, fun b h => h, Ex.refl _, e, fun b o h => .inl h, by simp [init, L2.start, hl, hm], fun i d h => ?_, fun i mm d h hm' => ?_, fun i j mm n d d' p h1 hm1 h2 hn _ _ => ?_⟩
  · unfold init at h
    unfold L2.start
    by_cases hi : i < ds.length
    · rw [List.getElem?_append_left (by simpa using hi), List.getElem?_map] at h
      cases hd : ds[i]? with
      | none => rw [hd] at h; cases h
      | some d' =>
        rw [hd] at h; cases h
        obtain ⟨v, ev, rv⟩ := r.get hd
        exact ⟨v, by rw [List.getElem?_append_left (by simp [hl]; exact hi), List.getElem?_map, ev]; rfl, rv⟩
    · rw [List.getElem?_append_right (by simpa using Nat.le_of_not_lt hi), List.getElem?_replicate] at h
      split at h <;> cases h
  · exfalso
    unfold init at h
    by_cases hi : i < ds.length
    · rw [List.getElem?_append_left (by simpa using hi), List.getElem?_map] at h
      cases hd : ds[i]? with
      | none => rw [hd] at h; cases h
      | some d' => rw [hd] at h; cases h; exact hm' rfl
    · rw [List.getElem?_append_right (by simpa using Nat.le_of_not_lt hi), List.getElem?_replicate] at h
      split at h <;> cases h
  · exfalso
    unfold init at h1
    by_cases hi : i < ds.length
    · rw [List.getElem?_append_left (by simpa using hi), List.getElem?_map] at h1
      cases hd : ds[i]? with
      | none => rw [hd] at h1; cases h1
      | some d' => rw [hd] at h1; cases h1; exact hm1 rfl
    · rw [List.getElem?_append_right (by simpa using Nat.le_of_not_lt hi), List.getElem?_replicate] at h1
      split at h1 <;> cases h1
variable {P : Program} {w : World} {mg : Str → Option Value} {base : Heap}
theorem fn_okF {x qual : Str} {st : Stmt} {f : Addr} {fd : FuncData} {N ps : List Str} {k : Nat} {fs : FS} (F : Fun K x qual st f fd) (S : FnScope N ps (defScope st))
    (hb : ∀ (cdv : Value) (A : Around) (outer : List Env) (s : Shared) (H : Hp) (E : XK) (B : Bs), Room k (A.deeper (PyProof.Rows.envOfC qual (defScope st) s.heap.objs.size f cdv)) →
      PSs (cxOf CX0 P w K mg base N qual (defScope st) f cdv A outer s H E).nox (defBody st) (tS K B fs)) : FnOk P w K mg base CX0 (k + 1) f fd ps (spF K ps.length (runF N.length fs)) := by
  refine F.ok S (fun vs H Q E h => ?_) fun cdv A outer s H vs Q E hr h => ?_
  · obtain ⟨_, _, _, _, hl, _⟩ := h; exact hl
  · obtain ⟨H0, ds, o, d, hl, e, r, hG, k⟩ := h
    refine ⟨_, hb cdv A outer s H E ⟨H, H, H0, 0⟩ hr, init N.length ds, H0, ?_⟩
    obtain ⟨out, e1, e2⟩ := bnd hG
    refine ⟨out, rel_init e r N rfl, e1, ?_⟩
    cases out with
    | nx s' =>
      cases e2
      exact fun σ' H1 H' R1 x1 => k .non H1 H' R1.fr x1 R1.h0 R1.new (iteF (by simp only [Rep]))
    | ret oo dd s' =>
      cases e2
      refine fun v σ' H1 H' R1 x1 r1 => k v H1 H' R1.fr x1 R1.h0 R1.new ?_
      cases o with
      | true => obtain ⟨q, rfl, w⟩ := r1; obtain ⟨u, hu, hc⟩ := w.ob; exact ⟨q, u, rfl, w.e, w.z, hu, hc⟩
      | false => exact r1
    | bk s' => cases e2
    | ct s' => cases e2
@[simp] def initB (m : Nat) (d0 : D) (ds : List D) : S := some (.rf, d0) :: (ds.map (fun d => some (.sh, d)) ++ List.replicate (m - (ds.length + 1)) none)
@[simp] def runB (m : Nat) (fs : FS) : FnB := fun d0 ds => (fs (initB m d0 ds)).bind fun o => match o with
  | .nx s => (match (s[0]? : Option (Option Sl)) with | some (some (.rf, d1)) => some (false, .non, d1) | _ => none)
  | .ret o d s => (match (s[0]? : Option (Option Sl)) with | some (some (.rf, d1)) => some (o, d, d1) | _ => none)
  | _ => none
def hole (H : Hp) (q : Addr) : Hp := fun b => if b = q then none else H b
theorem hole_at {H : Hp} {q : Addr} : hole H q q = none := by unfold hole; rw [if_pos rfl]
theorem hole_ne {H : Hp} {q b : Addr} (h : b ≠ q) : hole H q b = H b := by unfold hole; rw [if_neg h]
theorem initB_get {m : Nat} {d0 : D} {ds : List D} {i : Nat} {x : Sl} (h : (initB m d0 ds)[i]? = some (some x)) : (i = 0 ∧ x = (.rf, d0)) ∨ ∃ j d, i = j + 1 ∧ ds[j]? = some d ∧ x = (.sh, d) := by
  cases i with
  | zero => cases h; exact .inl ⟨rfl, rfl⟩
  | succ i =>
    refine .inr ⟨i, ?_⟩
    have h' : (ds.map (fun d => some (Md.sh, d)) ++ List.replicate (m - (ds.length + 1)) none)[i]? = some (some x) := h
    by_cases hi : i < ds.length
    · rw [List.getElem?_append_left (by simpa using hi), List.getElem?_map] at h'
      cases hd : ds[i]? with
      | none => rw [hd] at h'; cases h'
      | some d' => rw [hd] at h'; cases h'; exact ⟨d', rfl, rfl, rfl⟩
    · rw [List.getElem?_append_right (by simpa using Nat.le_of_not_lt hi), List.getElem?_replicate] at h'
      split at h' <;> cases h'
theorem rel_initB {H0 H : Hp} {m : Nat} {ds : List D} {vs : List V} {q : Addr} {c : HO} {d0 : D} (e : Ex H0 H) (hq : H0 q = none) (hc : H q = some c) (cc : Cell K H0 c d0) (r : RepL K H0 ds vs) (N : List Str) (hm : N.length = m) :
    Rel K ⟨H, hole H q, H0, q⟩ (initB m d0 ds) (start N (.ref q :: vs)) H0 H := by
  have hl := r.len
  have hs : ∀ j d, ds[j]? = some d → ∃ v, (start N (.ref q :: vs))[j + 1]? = some (some v) ∧ Rep K H0 d v := fun j d hd => by
    obtain ⟨v, ev, rv⟩ := r.get hd
    refine ⟨v, ?_, rv⟩
    unfold L2.start
    have hj := (List.getElem?_eq_some_iff.mp ev).1
    rw [List.getElem?_append_left (by simp; exact hj), List.getElem?_map, List.getElem?_cons_succ, ev]; rfl
  refine ⟨fun b xs h => .inr ⟨xs, rfl, h⟩, fun a u h => ?_, fun b h => h, Ex.refl _, e, fun b o h => .inl h, by simp [initB, L2.start, hl, hm], fun i d h => ?_, fun i mm d h hm' => ?_, fun i j mm n d d' p h1 hm1 h2 hn _ _ => ?_⟩
  · have z : a ≠ q := fun z => by
      have h' : hole H q a = some u := h
      rw [z, hole_at] at h'; cases h'
    have h' : hole H q a = some u := h
    rw [hole_ne z] at h'; exact h'
  · rcases initB_get h with ⟨_, z⟩ | ⟨j, d', rfl, hd, z⟩
    · cases z
    · cases z; exact hs j d hd
  · rcases initB_get h with ⟨rfl, z⟩ | ⟨j, d', rfl, hd, z⟩
    · cases z
      exact ⟨q, by unfold L2.start; rfl, hq, hole_at, fun z => (nomatch z), fun _ => rfl, c, hc, cc⟩
    · cases z; exact absurd rfl hm'
  · rcases initB_get h1 with ⟨rfl, _⟩ | ⟨j', d'', rfl, _, z⟩
    · rcases initB_get h2 with ⟨rfl, _⟩ | ⟨j'', d''', rfl, _, z⟩
      · rfl
      · cases z; exact absurd rfl hn
    · cases z; exact absurd rfl hm1
theorem fn_okB {x qual : Str} {st : Stmt} {f : Addr} {fd : FuncData} {N ps : List Str} {k n : Nat} {fs : FS} (F : Fun K x qual st f fd) (S : FnScope N ps (defScope st)) (hn : ps.length = n + 1)
    (hb : ∀ (cdv : Value) (A : Around) (outer : List Env) (s : Shared) (H : Hp) (E : XK) (B : Bs), Room k (A.deeper (PyProof.Rows.envOfC qual (defScope st) s.heap.objs.size f cdv)) →
      PSs (cxOf CX0 P w K mg base N qual (defScope st) f cdv A outer s H E).nox (defBody st) (tS K B fs)) : FnOk P w K mg base CX0 (k + 1) f fd ps (spB K n (runB N.length fs)) := by
  refine F.ok S (fun vs H Q E h => ?_) fun cdv A outer s H vs Q E hr h => ?_
  · obtain ⟨q, ws, _, _, _, _, _, _, _, rfl, hl, _⟩ := h; rw [List.length_cons, hl, hn]
  · obtain ⟨q, ws, H0, c, d0, ds, o, d, d1, rfl, hl, e, hq, hc, cc, r, hG, k⟩ := h
    refine ⟨_, hb cdv A outer s H E ⟨H, hole H q, H0, q⟩ hr, initB N.length d0 ds, H0, ?_⟩
    obtain ⟨out, e1, e2⟩ := bnd hG
    refine ⟨out, rel_initB e hq hc cc r N rfl, e1, ?_⟩
    have fin : ∀ {s' : Px.S} {dd : D}, s'[0]? = some (some (.rf, dd)) → ∀ {σ' H1 H'}, Rel K ⟨H, hole H q, H0, q⟩ s' σ' H1 H' → Ex H0 H1 → ∃ c', (∀ b u, b ≠ q → H b = some u → H' b = some u) ∧ H1 q = none ∧ H' q = some c' ∧ Cell K H1 c' dd := fun {s' dd} h0 {σ' H1 H'} R1 x1 => by
      obtain ⟨p, ep, w⟩ := R1.ow 0 .rf dd h0 (by decide)
      have : p = q := w.rf rfl
      subst this
      obtain ⟨c', hc', cc'⟩ := w.ob
      exact ⟨c', fun b u nb hb' => R1.fr b u (show hole H p b = some u by rw [hole_ne nb]; exact hb'), w.z, hc', cc'⟩
    cases out with
    | nx s' =>
      dsimp only at e2
      split at e2
      · next dd h0 =>
        cases e2
        exact fun σ' H1 H' R1 x1 => by
          obtain ⟨c', g1, g2, g3, g4⟩ := fin h0 R1 x1
          exact k .non H1 H' c' g1 x1 R1.h0 g2 R1.new g3 g4 (iteF (by simp only [Rep]))
      · cases e2
    | ret oo dd' s' =>
      dsimp only at e2
      split at e2
      · next dd h0 =>
        cases e2
        refine fun v σ' H1 H' R1 x1 r1 => ?_
        obtain ⟨c', g1, g2, g3, g4⟩ := fin h0 R1 x1
        refine k v H1 H' c' g1 x1 R1.h0 g2 R1.new g3 g4 ?_
        cases o with
        | true => obtain ⟨t, rfl, w⟩ := r1; obtain ⟨u, hu, hc⟩ := w.ob; exact ⟨t, u, rfl, w.e, w.z, hu, hc⟩
        | false => exact r1
      · cases e2
    | bk s' => cases e2
    | ct s' => cases e2
end
end Px

set_option Elab.async false
set_option linter.all false
set_option maxRecDepth 100000
set_option maxHeartbeats 1000000
/-! Px8: enumerate and zip of lists and tuples in any mix -/
namespace Px
open PySem L2
/-- kd: a list (else a tuple) -/
def SqK (kd : Bool) (K : PySem.W.Frag) (H : Hp) (a : Addr) (xs : List V) : Prop := match kd with | true => SqL K H a xs | false => SqT K H a xs
def IterK (kd : Bool) (h : Heap) (it a : Addr) (i : Nat) : Prop := match kd with | true => h.IsListIter it a i | false => h.IsTupleIter it a i
def IsK (kd : Bool) (h : Heap) (a : Addr) (its : Array Value) : Prop := match kd with | true => h.IsList a its | false => h.IsTuple a its
def objK (kd : Bool) (a : Addr) : Obj := match kd with | true => { cls := .type "list_iterator", data := .fields #[.ref a, .int 0 0] } | false => { cls := .type "tuple_iterator", data := .fields #[.ref a, .int 0 0] }
section
variable {X : Cx} {pins : List (Addr × Obj)} {σ : St} {H : Hp} {s : Shared} {kd : Bool} {K : PySem.W.Frag}
theorem invK (I : Inv X pins σ H s) {a : Addr} {xs : List V} (h : SqK kd X.K H a xs) : ∃ its : List Value, Vals xs its ∧ IsK kd s.heap a its.toArray ∧ a < s.heap.objs.size := by
  cases kd with
  | true => obtain ⟨its, r, p, _⟩ := I.list h; exact ⟨its, r, p.isList, p.lt⟩
  | false => obtain ⟨its, r, p, _⟩ := I.tuple h; obtain ⟨o, ho, _⟩ := id p; exact ⟨its, r, p, Heap.lt_size ho⟩
theorem injK (I : Inv X pins σ H s) {a : Addr} {xs ys : List V} (h : SqK kd X.K H a xs) (h' : SqK kd X.K H a ys) : xs = ys := by
  cases kd with
  | true => exact I.list_inj h h'
  | false => exact I.tuple_inj h h'
theorem beginsK (kd : Bool) (a : Addr) (its : Array Value) : Begins (.ref a) (objK kd a) (fun h => IsK kd h a its) := by
  cases kd with
  | true => exact begins_list a its
  | false => exact begins_tuple a its
theorem drawsK {prog : Program} {w : World} {A : Around} (kd : Bool) (hh : A.handled = none) (it a : Addr) (hne : a ≠ it) (items : Array Value) :
    Draws prog w A it [it, a] items.size (fun i v => items[i]? = some v) (fun i h => IterK kd h it a i ∧ IsK kd h a items) := by
  cases kd with
  | true => exact Draws.list hh it a hne items
  | false => exact Draws.tuple hh it a hne items
theorem iterK_obj {h : Heap} {it a : Addr} {i : Nat} (x : IterK kd h it a i) : ∃ o, h.get? it = some o ∧ ∀ v, o.data ≠ .cell v := by
  cases kd with
  | true => obtain ⟨o, e, _, d⟩ := x; exact ⟨o, e, fun v q => by rw [d] at q; cases q⟩
  | false => obtain ⟨o, e, _, d⟩ := x; exact ⟨o, e, fun v q => by rw [d] at q; cases q⟩
theorem iterK_at {h h' : Heap} {it a : Addr} {i : Nat} (x : IterK kd h it a i) (k : ∀ o, h.get? it = some o → h'.get? it = some o) : IterK kd h' it a i := by
  cases kd with
  | true => exact Heap.IsListIter.at x k
  | false => exact Heap.IsTupleIter.at x k
theorem iterK_new {h : Heap} {it a : Addr} (e : h.get? it = some (objK kd a)) : IterK kd h it a 0 := by
  cases kd with
  | true => exact ⟨_, e, rfl, rfl⟩
  | false => exact ⟨_, e, rfl, rfl⟩
end
/-! ### zip of two -/
def Itz2 (k1 k2 : Bool) (K : PySem.W.Frag) (a b : Addr) : It :=
  ⟨fun i H => ∃ (xs ys : List V) (x y : V), SqK k1 K H a xs ∧ SqK k2 K H b ys ∧ xs[i]? = some x ∧ ys[i]? = some y,
    fun i H v H' => ∃ T x y, v = .ref T ∧ H T = none ∧ H' = upd H T (.tup [x, y]) ∧ (∀ xs, SqK k1 K H a xs → xs[i]? = some x) ∧ ∀ ys, SqK k2 K H b ys → ys[i]? = some y,
    fun i H => ∃ xs ys : List V, SqK k1 K H a xs ∧ SqK k2 K H b ys ∧ min xs.length ys.length = i⟩
theorem turn_zip2 {P : Program} {w : World} {K : PySem.W.Frag} {elts : List Expr} {kk : Nat} {tpos : Pos} {k1 k2 : Bool} {a b z TI TO i1 i2 : Addr} (S : ZipSep2 z TI TO i1 i2 [i1, a] [i2, b]) (n1 : a ≠ i1) (n2 : b ≠ i2) :
    Turn P w K (.Tuple elts kk tpos) (Itz2 k1 k2 K a b) [z, TI, TO, i1, i2] z (fun i h => IsZip h z TI TO .none ∧ IsTupOf2 h TI (.ref i1) (.ref i2) ∧ (∃ x y, IsTupOf2 h TO x y) ∧ IterK k1 h i1 a i ∧ IterK k2 h i2 b i) where
  mem := by simp
  obj := fun i h st c hc => by
    obtain ⟨hz, hTI, ⟨x, y, hTO⟩, h1, h2⟩ := st
    have e' : c = z ∨ c = TI ∨ c = TO ∨ c = i1 ∨ c = i2 := by simpa using hc
    rcases e' with q | q | q | q | q
    · rw [q]; exact ⟨_, hz, fun v q => nomatch q⟩
    · rw [q]; exact ⟨_, hTI, fun v q => nomatch q⟩
    · rw [q]; exact ⟨_, hTO, fun v q => nomatch q⟩
    · rw [q]; exact iterK_obj h1
    · rw [q]; exact iterK_obj h2
  keep := fun i h h' st k => by
    obtain ⟨hz, hTI, ⟨x, y, hTO⟩, h1, h2⟩ := st
    exact ⟨k z (by simp) _ hz, k TI (by simp) _ hTI, ⟨x, y, k TO (by simp) _ hTO⟩, iterK_at h1 fun o q => k i1 (by simp) o q, iterK_at h2 fun o q => k i2 (by simp) o q⟩
  item := by
    intro X hP hw hK hc i pins s σ H E I hf st hg
    subst hP hw hK
    obtain ⟨hz, hTI, hTO, h1, h2⟩ := st
    obtain ⟨xs, ys, x, y, hqx, hqy, hx, hy⟩ := hg
    obtain ⟨its, rv, p, la⟩ := invK I hqx
    obtain ⟨its2, rv2, p2, lb⟩ := invK I hqy
    obtain ⟨u, hu, ru⟩ := rv.get hx
    obtain ⟨u2, hu2, ru2⟩ := rv2.get hy
    have hh : X.A.in1.handled = none := I.ok.hd hc
    have hi1 : i < its.length := (List.getElem?_eq_some_iff.mp hu).1
    have hi2 : i < its2.length := (List.getElem?_eq_some_iff.mp hu2).1
    have G := GoesN.zip2 (elts := elts) (x1 := kk) (pos := tpos) S (drawsK (prog := X.prog) (w := X.w) (A := X.A.in1) k1 hh i1 a n1 its.toArray) (drawsK k2 hh i2 b n2 its2.toArray)
    refine wpAny_mono (G.goes i s (fun v s2 => ∃ x H', Inv X pins σ H' s2 ∧ RelV x v ∧ (Itz2 k1 k2 X.K a b).yld i H x H' ∧ (IsZip s2.heap z TI TO .none ∧ IsTupOf2 s2.heap TI (.ref i1) (.ref i2) ∧ (∃ x y, IsTupOf2 s2.heap TO x y) ∧ IterK k1 s2.heap i1 a (i + 1) ∧ IterK k2 s2.heap i2 b (i + 1)) ∧ ∀ b ∈ [z, TI, TO, i1, i2], H' b = none) E (by simp; omega) ⟨hz, hTI, hTO, ⟨h1, p⟩, ⟨h2, p2⟩⟩ ?_) (fun r s1 q => q) (fun _ _ q => q)
    rintro v h' tk ⟨T, v1, v2, rfl, hT, e1, e2, hTT⟩ ⟨g1, g2, g3, ⟨g4, _⟩, g5, _⟩ hk _
    have ev1 : v1 = u := by
      have : its[i]? = some v1 := by simpa using e1
      rw [hu] at this; exact (Option.some.inj this).symm
    have ev2 : v2 = u2 := by
      have : its2[i]? = some v2 := by simpa using e2
      rw [hu2] at this; exact (Option.some.inj this).symm
    subst ev1 ev2
    have new : ObjOk X.prog X.w (upd H T (.tup [x, y])) h' T (.tup [x, y]) := ⟨by show 2 ≤ sizeLine; decide, [v1, v2], .cons ru (.cons ru2 .nil), hTT⟩
    have I1 : Inv X pins σ (upd H T (.tup [x, y])) { s with heap := h', toks := tk } :=
      I.turnedNew (ch := [z, TI, TO, i1, i2]) (fun c o hb q => hk c o (fun y => hb (by simp at y ⊢; rcases y with y | y | y | y <;> simp [y])) q) hf hT new
    refine ⟨.ref T, _, I1, rfl, ⟨T, x, y, rfl, I.hok.fresh hT, rfl, fun l hl => by rw [injK I hl hqx]; exact hx, fun l hl => by rw [injK I hl hqy]; exact hy⟩, ⟨g1, g2, g3, g4, g5⟩, fun c hcm => ?_⟩
    have hlt : c < s.heap.objs.size := by
      have e' : c = z ∨ c = TI ∨ c = TO ∨ c = i1 ∨ c = i2 := by simpa using hcm
      rcases e' with q | q | q | q | q
      · rw [q]; exact Heap.lt_size hz
      · rw [q]; exact Heap.lt_size hTI
      · rw [q]; obtain ⟨_, _, hTO⟩ := hTO; exact Heap.lt_size hTO
      · rw [q]; obtain ⟨_, e1, _⟩ := iterK_obj h1; exact Heap.lt_size e1
      · rw [q]; obtain ⟨_, e2, _⟩ := iterK_obj h2; exact Heap.lt_size e2
    rw [upd_ne (Nat.ne_of_lt (Nat.lt_of_lt_of_le hlt hT))]
    exact (hf c hcm).1
  done := by
    intro X hP hw hK hc i pins s σ H E I hf st hg
    subst hP hw hK
    obtain ⟨hz, hTI, hTO, h1, h2⟩ := st
    obtain ⟨xs, ys, hqx, hqy, hend⟩ := hg
    obtain ⟨its, rv, p, la⟩ := invK I hqx
    obtain ⟨its2, rv2, p2, lb⟩ := invK I hqy
    have hh : X.A.in1.handled = none := I.ok.hd hc
    have hi : i = min its.toArray.size its2.toArray.size := by
      rw [← hend, rv.length, rv2.length]; simp
    have G := GoesN.zip2 (elts := elts) (x1 := kk) (pos := tpos) S (drawsK (prog := X.prog) (w := X.w) (A := X.A.in1) k1 hh i1 a n1 its.toArray) (drawsK k2 hh i2 b n2 its2.toArray)
    subst hi
    exact G.stops s (fun s1 => Inv X pins σ H s1) E ⟨hz, hTI, hTO, ⟨h1, p⟩, ⟨h2, p2⟩⟩ fun h' tk hk _ => I.turnedL (t' := tk) (ch := [z, TI, TO, i1, i2]) (fun c o hb q => hk c o (fun y => hb (by simp at y ⊢; rcases y with y | y | y | y <;> simp [y])) q) hf
  self := fun A i s Q E st h => wpAny_pyIter_zip st.1 h
def iZip2 (k1 k2 : Bool) (K : PySem.W.Frag) (ta : TA) : L2.TI := fun σ H R => ta σ H fun vs H1 => ∃ a b xs ys, vs = [.ref a, .ref b] ∧ SqK k1 K H1 a xs ∧ SqK k2 K H1 b ys ∧ R (Itz2 k1 k2 K a b) H1
theorem pi_zip2 {X : Cx} {e e2 : Expr} {ta : TA} {p pos tpos : Pos} {elts : List Expr} {kk : Nat} {k1 k2 : Bool} (hg : Gl X "zip") (hm : X.mg "zip" = none) (ha : PA X [e, e2] ta)
    (hs : starEach [e, e2] X.env = (false, eval e X.env) :: starEach [e2] X.env := by rfl) (hpl : (backTo pos (starEach [e2] X.env)).any (·.1) = false := by rfl) :
    PI X (.Tuple elts kk tpos) (.Call (.Name "zip" p) [e, e2] [] pos) (iZip2 k1 k2 X.K ta) := by
  refine ⟨fun pins s σ H R I h => ?_⟩
  refine PyProof.Rows.Call_ (ld_blt I hg hm PyProof.Rows.boot_zip (PyProof.Rows.callWith_type1 (thn (ha.run pos pins s σ H _ I h) fun us s1 ⟨vs, H1, I1, r1, q1⟩ => ?_) hs hpl))
  obtain ⟨a, b, xs, ys, ex, hqx, hqy, q⟩ := q1
  subst ex
  cases r1 with
  | cons r rr =>
    cases rr with
    | cons r' rr =>
      cases rr
      cases r
      cases r'
      obtain ⟨its, rv, p1, la⟩ := invK I1 hqx
      obtain ⟨its2, rv2, p2, lb⟩ := invK I1 hqy
      refine zip_begins2 (beginsK k1 a its.toArray) (beginsK k2 b its2.toArray) p1 p2 fun h' hz hTI hTO h1 h2 hsz hk => wpAny_pyIter_zip hz ?_
      have I2 : Inv X pins σ H1 { s1 with heap := h' } := I1.kept (t' := s1.toks) hk
      refine ⟨s1.heap.objs.size + 4, [s1.heap.objs.size + 4, s1.heap.objs.size + 2, s1.heap.objs.size + 3, s1.heap.objs.size, s1.heap.objs.size + 1], _, _, H1, rfl, I2,
        turn_zip2 (zip_sep2 (N := s1.heap.objs.size) (fp1 := [a]) (fp2 := [b]) (by simpa using la) (by simpa using lb)) (Nat.ne_of_lt la) (Nat.ne_of_lt (Nat.lt_succ_of_lt lb)), ⟨hz, hTI, ⟨_, _, hTO⟩, iterK_new h1, iterK_new h2⟩, fun c hcm => ?_, q⟩
      have hle : s1.heap.objs.size ≤ c := by
        have e' : c = s1.heap.objs.size + 4 ∨ c = s1.heap.objs.size + 2 ∨ c = s1.heap.objs.size + 3 ∨ c = s1.heap.objs.size ∨ c = s1.heap.objs.size + 1 := by simpa using hcm
        rcases e' with z | z | z | z | z
        · rw [z]; exact Nat.le_add_right _ _
        · rw [z]; exact Nat.le_add_right _ _
        · rw [z]; exact Nat.le_add_right _ _
        · rw [z]; exact Nat.le_refl _
        · rw [z]; exact Nat.le_add_right _ _
      exact I1.fpOk hle (I1.hok.fresh hle)
/-! ### over abstract data -/
@[simp] def seq? : D → Option (Bool × List D)
  | .lst ds => some (true, ds)
  | .tup ds => some (false, ds)
  | _ => none
section
variable {X : Cx} {B : Bs} {a b c e tg : Expr} {pos p tpos : Pos} {fa fb fc f : F} {K : PySem.W.Frag} {σ : St} {H : Hp}
theorem seq_rep {H0 : Hp} {d : D} {kd : Bool} {ds : List D} {v : V} (h : seq? d = some (kd, ds)) (r : Rep K H0 d v) : ∃ q xs, v = .ref q ∧ SqK kd K H0 q xs ∧ RepL K H0 ds xs := by
  cases d with
  | lst es => cases h; simp only [Rep] at r; obtain ⟨q, xs, e, l, hq⟩ := r; exact ⟨q, xs, e, SqL.of hq, l⟩
  | tup es => cases h; obtain ⟨q, xs, e, l, hq⟩ := rep_tup_sq r; exact ⟨q, xs, e, hq, l⟩
  | _ => cases h
theorem Ex.sqK {kd : Bool} {H H' : Hp} {q : Addr} {xs : List V} (x : Ex H H') (h : SqK kd K H q xs) : SqK kd K H' q xs := by
  cases kd with
  | true => exact x.sqL h
  | false => exact x.sqT h
@[simp] def zipD (as bs : List D) : List D := List.zipWith (fun x y => .tup [x, y]) as bs
theorem zipD_get {as bs : List D} {i : Nat} {d : D} (h : (zipD as bs)[i]? = some d) : ∃ x y, as[i]? = some x ∧ bs[i]? = some y ∧ d = .tup [x, y] := by
  unfold zipD at h
  rw [List.getElem?_zipWith] at h
  cases ha : as[i]? with
  | none => rw [ha] at h; simp at h
  | some x =>
    cases hb : bs[i]? with
    | none => rw [ha, hb] at h; simp at h
    | some y => rw [ha, hb] at h; simp at h; exact ⟨x, y, rfl, rfl, h.symm⟩
theorem itok_zip {H0 : Hp} {k1 k2 : Bool} {q1 q2 : Addr} {xs ys : List V} {as bs : List D} (h1 : SqK k1 K H0 q1 xs) (l1 : RepL K H0 as xs) (h2 : SqK k2 K H0 q2 ys) (l2 : RepL K H0 bs ys) : ItOk K (Itz2 k1 k2 K q1 q2) H0 (zipD as bs) := fun i H1 H' x1 x2 => by
  have s1 := (x1.trans x2).sqK h1
  have s2 := (x1.trans x2).sqK h2
  refine ⟨fun d hd => ?_, fun hi => ⟨xs, ys, s1, s2, by rw [l1.len, l2.len]; simpa [zipD] using hi⟩⟩
  obtain ⟨x, y, ex, ey, rfl⟩ := zipD_get hd
  obtain ⟨vx, gx, rx⟩ := l1.get ex
  obtain ⟨vy, gy, ry⟩ := l2.get ey
  refine ⟨⟨xs, ys, vx, vy, s1, s2, gx, gy⟩, fun v H2 hy => ?_⟩
  obtain ⟨T, wx, wy, rfl, hT, rfl, f1, f2⟩ := hy
  have e1 := f1 xs s1
  rw [gx] at e1; cases e1
  have e2 := f2 ys s2
  rw [gy] at e2; cases e2
  exact .inr ⟨T, _, hT, rfl, rep_tupNew (.cons (rx.up x1) (.cons (ry.up x1) .nil)) (x2.back hT)⟩
@[simp] def iZip (fa fb : F) : FI := fun s => (fa s).bind fun a => (fb a.2).bind fun b => (seq? a.1).bind fun x => (seq? b.1).bind fun y => some (zipD x.2 y.2, b.2)
theorem ii_zip {elts : List Expr} {kk : Nat} (hg : Gl X "zip") (hm : X.mg "zip" = none) (ha : PE X a (tF X.K B fa)) (hb : PE X b (tF X.K B fb)) (hs : starEach [a, b] X.env = (false, eval a X.env) :: starEach [b] X.env := by rfl) (hs2 : starEach [b] X.env = (false, eval b X.env) :: starEach [] X.env := by rfl)
    (hpl : (backTo pos (starEach [b] X.env)).any (·.1) = false := by rfl) : PI X (.Tuple elts kk tpos) (.Call (.Name "zip" p) [a, b] [] pos) (tI X.K B (iZip fa fb)) := by
  have pa := pa_cons ha (pa_cons hb pa_nil hs2) hs
  refine (((pi_zip2 (k1 := true) (k2 := true) hg hm pa hs hpl).pxor (pi_zip2 (k1 := true) (k2 := false) hg hm pa hs hpl)).pxor ((pi_zip2 (k1 := false) (k2 := true) hg hm pa hs hpl).pxor (pi_zip2 (k1 := false) (k2 := false) hg hm pa hs hpl))).pxw fun σ H Q q => ?_
  obtain ⟨s, H0, ds, s', R, ev, k⟩ := q
  obtain ⟨⟨d1, s1⟩, e1, ev1⟩ := bnd ev
  obtain ⟨⟨d2, s2⟩, e2, ev2⟩ := bnd ev1
  obtain ⟨⟨k1, as⟩, e3, ev3⟩ := bnd ev2
  obtain ⟨⟨k2, bs⟩, e4, ev4⟩ := bnd ev3
  cases ev4
  have all : ∀ (k1 k2 : Bool), seq? d1 = some (k1, as) → seq? d2 = some (k2, bs) → iZip2 k1 k2 X.K (tCons (tF X.K B fa) (tCons (tF X.K B fb) tNil)) σ H Q := fun k1 k2 e3 e4 => by
    refine ⟨s, H0, d1, s1, R, e1, fun v H1 H' R1 x1 r1 => ⟨s1, H1, d2, s2, R1, e2, fun w H2 H2' R2 x2 r2 => ?_⟩⟩
    obtain ⟨q1, xs, rfl, h1, l1⟩ := seq_rep e3 (r1.up x2)
    obtain ⟨q2, ys, rfl, h2, l2⟩ := seq_rep e4 r2
    exact ⟨q1, q2, xs, ys, rfl, R2.h0.sqK h1, R2.h0.sqK h2, k _ H2 H2' R2 (x1.trans x2) (itok_zip h1 l1 h2 l2)⟩
  cases k1 <;> cases k2
  · exact .inr (.inr (all _ _ e3 e4))
  · exact .inr (.inl (all _ _ e3 e4))
  · exact .inl (.inr (all _ _ e3 e4))
  · exact .inl (.inl (all _ _ e3 e4))
end
/-! ### enumerate -/
set_option maxHeartbeats 1000000 in
theorem meets_enumK (kd : Bool) (l : Addr) (its : Array Value) :
    Meets (Builtin.«enumerate.__new__» ⟨[.type "enumerate", .ref l], []⟩) (fun _ R s => IsK kd s.heap l its ∧
      R (.ok (.ret (.ref (s.heap.push (objK kd l)).objs.size))) { s with heap := (s.heap.push (objK kd l)).push { cls := .type "enumerate", data := .fields #[.none, .bool false, .ref s.heap.objs.size, rawInt 0, .none, .none] } }) :=
  .of_wp fun prog w A R s h => by
    obtain ⟨hp, g, d, tk, os⟩ := s; obtain ⟨h1, h⟩ := h
    have hsub := sub_enumerate
    have q1 : ∀ {A' : Around} {E : Value → Shared → Prop} {Q : Value → Shared → Prop}, Q (.ref hp.objs.size) ⟨hp.push (objK kd l), g, d, tk, os⟩ → wpAny (model prog w) A' (pyIter (.ref l)) Q E ⟨hp, g, d, tk, os⟩ :=
      fun q => (beginsK kd l its).iter prog w _ _ ⟨hp, g, d, tk, os⟩ _ h1 q
    wp_walk using q1
    refine wpAny_stack_any fun st => wpAny_pure ?_
    split
    · rename_i c _ _ _ _ _
      cases (c == Value.type "enumerate")
      · wp_walk using q1
        exact ⟨_, rfl, h⟩
      · wp_walk using q1
        exact ⟨_, rfl, h⟩
    · wp_walk using q1
      exact ⟨_, rfl, h⟩
theorem objK_free (kd : Bool) (a : Addr) : (objK kd a).isFreed = false := by cases kd <;> rfl
theorem call_enumK {prog : Program} {w : World} {A : Around} {E : Value → Shared → Prop} {s : Shared} {kd : Bool} {l : Addr} {its : Array Value} {Q : Value → Shared → Prop} (hL : IsK kd s.heap l its)
    (h : ∀ h', IsEnum h' (s.heap.objs.size + 1) s.heap.objs.size 0 .none → h'.get? s.heap.objs.size = some (objK kd l) → h'.objs.size = s.heap.objs.size + 2 →
      (∀ b o, s.heap.get? b = some o → h'.get? b = some o) → Q (.ref (s.heap.objs.size + 1)) { s with heap := h' }) :
    wpAny (model prog w) A (call (.type "enumerate") [.ref l]) Q E s := by
  refine callType_new F.called_enumerate (by decide) (F.typeCall_enumerate_1 _) (F.newCall_enumerate_1 _) (fun obj => F.args_object_init_2 obj _) F.entry_enumerate_new (meets_enumK kd l its) ⟨hL, ?_⟩
  have hz : (s.heap.push (objK kd l)).objs.size = s.heap.objs.size + 1 := Heap.size_push ..
  show _ ∧ _
  rw [hz]
  have he : IsEnum ((s.heap.push (objK kd l)).push { cls := .type "enumerate", data := .fields #[.none, .bool false, .ref s.heap.objs.size, rawInt 0, .none, .none] }) (s.heap.objs.size + 1) s.heap.objs.size 0 .none := by
    have := Heap.get?_push_size (s.heap.push (objK kd l)) (o := { cls := .type "enumerate", data := .fields #[.none, .bool false, .ref s.heap.objs.size, rawInt 0, .none, .none] }) rfl
    rw [hz] at this; exact this
  refine ⟨⟨_, he, rfl⟩, h _ he (Heap.get?_push_of_some _ (Heap.get?_push_size _ (objK_free kd l))) (by rw [Heap.size_push, hz]) fun b o x => Heap.get?_push_of_some _ (Heap.get?_push_of_some _ x)⟩
def IteK (kd : Bool) (K : PySem.W.Frag) (a : Addr) : It :=
  ⟨fun i H => ∃ (xs : List V) (x : V), SqK kd K H a xs ∧ xs[i]? = some x, fun i H v H' => ∃ T x, v = .ref T ∧ H T = none ∧ H' = upd H T (.tup [.int (i : Nat), x]) ∧ ∀ xs, SqK kd K H a xs → xs[i]? = some x, fun i H => ∃ xs : List V, SqK kd K H a xs ∧ xs.length = i⟩
theorem turn_enumK {P : Program} {w : World} {K : PySem.W.Frag} {elts : List Expr} {kk : Nat} {tpos : Pos} {kd : Bool} {a e it : Addr} (na : a ≠ it) (ne : e ≠ it) (nea : e ≠ a) :
    Turn P w K (.Tuple elts kk tpos) (IteK kd K a) [e, it] e (fun i h => (∃ old, IsEnum h e it (0 + (i : Int)) old) ∧ IterK kd h it a i) where
  mem := by simp
  obj := fun i h st b hb => by
    obtain ⟨⟨old, he⟩, hi⟩ := st
    have e' : b = e ∨ b = it := by simpa using hb
    rcases e' with z | z
    · rw [z]; exact ⟨_, he, fun v q => nomatch q⟩
    · rw [z]; exact iterK_obj hi
  keep := fun i h h' st k => let ⟨⟨old, he⟩, hi⟩ := st; ⟨⟨old, k e (by simp) _ he⟩, iterK_at hi fun o q => k it (by simp) o q⟩
  item := by
    intro X hP hw hK hc i pins s σ H E I hf st hg
    subst hP hw hK
    obtain ⟨he, hit⟩ := st
    obtain ⟨xs, x, hq, hx⟩ := hg
    obtain ⟨its, rv, p, la⟩ := invK I hq
    obtain ⟨u, hu, ru⟩ := rv.get hx
    have hh : X.A.in1.handled = none := I.ok.hd hc
    have hi : i < its.length := (List.getElem?_eq_some_iff.mp hu).1
    have G := GoesN.enumFrom (elts := elts) (x1 := kk) (pos := tpos) 0 (drawsK (prog := X.prog) (w := X.w) (A := X.A.in1) kd hh it a na its.toArray) e ne (by simp [ne, nea]) (by simp)
    refine wpAny_mono (G.goes i s (fun v s2 => ∃ x H', Inv X pins σ H' s2 ∧ RelV x v ∧ (IteK kd X.K a).yld i H x H' ∧ ((∃ old, IsEnum s2.heap e it (0 + ((i + 1 : Nat) : Int)) old) ∧ IterK kd s2.heap it a (i + 1)) ∧ ∀ b ∈ [e, it], H' b = none) E (by simpa using hi) ⟨he, hit, p⟩ ?_) (fun r s1 q => q) (fun _ _ q => q)
    rintro v h' tk ⟨T, t, v1, rfl, hT, e1, hTT⟩ ⟨g1, g2, _⟩ hk _
    have ev1 : v1 = u := by
      have : its[i]? = some v1 := by simpa using e1
      rw [hu] at this; exact (Option.some.inj this).symm
    subst ev1
    have new : ObjOk X.prog X.w (upd H T (.tup [.int (i : Nat), x])) h' T (.tup [.int (i : Nat), x]) := ⟨by show 2 ≤ sizeLine; decide, [.int (0 + (i : Int)) t, v1], .cons ⟨t, by rw [Int.zero_add]⟩ (.cons ru .nil), hTT⟩
    have I1 : Inv X pins σ (upd H T (.tup [.int (i : Nat), x])) { s with heap := h', toks := tk } :=
      I.turnedNew (ch := [e, it]) (fun c o hb q => hk c o hb q) hf hT new
    refine ⟨.ref T, _, I1, rfl, ⟨T, x, rfl, I.hok.fresh hT, rfl, fun l hl => by rw [injK I hl hq]; exact hx⟩, ⟨g1, g2⟩, fun c hcm => ?_⟩
    have hlt : c < s.heap.objs.size := by
      have e' : c = e ∨ c = it := by simpa using hcm
      rcases e' with q | q
      · rw [q]; obtain ⟨_, he⟩ := he; exact Heap.lt_size he
      · rw [q]; obtain ⟨_, e1, _⟩ := iterK_obj hit; exact Heap.lt_size e1
    rw [upd_ne (Nat.ne_of_lt (Nat.lt_of_lt_of_le hlt hT))]
    exact (hf c hcm).1
  done := by
    intro X hP hw hK hc i pins s σ H E I hf st hg
    subst hP hw hK
    obtain ⟨he, hit⟩ := st
    obtain ⟨xs, hq, hend⟩ := hg
    obtain ⟨its, rv, p, la⟩ := invK I hq
    have hh : X.A.in1.handled = none := I.ok.hd hc
    have hi : i = its.toArray.size := by rw [← hend, rv.length]; simp
    have G := GoesN.enumFrom (elts := elts) (x1 := kk) (pos := tpos) 0 (drawsK (prog := X.prog) (w := X.w) (A := X.A.in1) kd hh it a na its.toArray) e ne (by simp [ne, nea]) (by simp)
    subst hi
    exact G.stops s (fun s1 => Inv X pins σ H s1) E ⟨he, hit, p⟩ fun h' tk hk _ => I.turnedL (t' := tk) (ch := [e, it]) (fun c o hb q => hk c o hb q) hf
  self := fun A i s Q E st h => let ⟨⟨_, he⟩, _⟩ := st; wpAny_pyIter_enum he h
def iEnumK (kd : Bool) (K : PySem.W.Frag) (ta : TA) : L2.TI := fun σ H R => ta σ H fun vs H1 => ∃ a xs, vs = [.ref a] ∧ SqK kd K H1 a xs ∧ R (IteK kd K a) H1
theorem pi_enumK {X : Cx} {e : Expr} {ta : TA} {p pos tpos : Pos} {elts : List Expr} {kk : Nat} {kd : Bool} (hg : Gl X "enumerate") (hm : X.mg "enumerate" = none) (ha : PA X [e] ta) (hs : starEach [e] X.env = [(false, eval e X.env)] := by rfl) :
    PI X (.Tuple elts kk tpos) (.Call (.Name "enumerate" p) [e] [] pos) (iEnumK kd X.K ta) := by
  refine ⟨fun pins s σ H R I h => ?_⟩
  refine PyProof.Rows.Call_ (ld_blt I hg hm PyProof.Rows.boot_enumerate (PyProof.Rows.callWith_type1 (thn (ha.run pos pins s σ H _ I h) fun us s1 ⟨vs, H1, I1, r1, q1⟩ => ?_) hs rfl))
  obtain ⟨a, xs, ex, hq, q⟩ := q1
  subst ex
  cases r1 with
  | cons r rr =>
    cases rr
    cases r
    obtain ⟨its, rv, p', la⟩ := invK I1 hq
    refine call_enumK p' fun h' he hit hsz hk => wpAny_pyIter_enum he ?_
    have I2 : Inv X pins σ H1 { s1 with heap := h' } := I1.kept (t' := s1.toks) hk
    refine ⟨s1.heap.objs.size + 1, [s1.heap.objs.size + 1, s1.heap.objs.size], _, _, H1, rfl, I2, turn_enumK (Nat.ne_of_lt la) (Nat.succ_ne_self _) (Nat.ne_of_gt (Nat.lt_succ_of_lt la)), ⟨⟨.none, he⟩, iterK_new hit⟩, fun b hb => ?_, q⟩
    have e' : b = s1.heap.objs.size + 1 ∨ b = s1.heap.objs.size := by simpa using hb
    have hle : s1.heap.objs.size ≤ b := by
      rcases e' with z | z
      · rw [z]; exact Nat.le_add_right _ _
      · rw [z]; exact Nat.le_refl _
    exact I1.fpOk hle (I1.hok.fresh hle)
section
variable {X : Cx} {B : Bs} {a b c e tg : Expr} {pos p tpos : Pos} {fa fb fc f : F} {K : PySem.W.Frag} {σ : St} {H : Hp}
@[simp] def enumD (n : Nat) : List D → List D
  | [] => []
  | d :: ds => .tup [.int n, d] :: enumD (n + 1) ds
theorem enumD_get : ∀ {ds : List D} {n i : Nat} {d : D}, (enumD n ds)[i]? = some d → ∃ x, ds[i]? = some x ∧ d = .tup [.int ((n + i : Nat) : Int), x]
  | [], _, _, _, h => by simp [enumD] at h
  | x :: ds, n, 0, d, h => by simp [enumD] at h; exact ⟨x, rfl, h.symm⟩
  | x :: ds, n, i + 1, d, h => by
    obtain ⟨y, e1, e2⟩ := enumD_get (ds := ds) (n := n + 1) (i := i) (by simpa [enumD] using h)
    exact ⟨y, by simpa using e1, by rw [e2, show n + 1 + i = n + (i + 1) by omega]⟩
theorem enumD_len : ∀ (ds : List D) (n : Nat), (enumD n ds).length = ds.length
  | [], _ => rfl
  | x :: ds, n => by show (enumD (n + 1) ds).length + 1 = _; rw [enumD_len ds]; rfl
theorem itok_enum {H0 : Hp} {kd : Bool} {q : Addr} {xs : List V} {as : List D} (h1 : SqK kd K H0 q xs) (l1 : RepL K H0 as xs) : ItOk K (IteK kd K q) H0 (enumD 0 as) := fun i H1 H' x1 x2 => by
  have s1 := (x1.trans x2).sqK h1
  refine ⟨fun d hd => ?_, fun hi => ⟨xs, s1, by rw [l1.len, ← hi, enumD_len]⟩⟩
  obtain ⟨x, ex, rfl⟩ := enumD_get hd
  obtain ⟨vx, gx, rx⟩ := l1.get ex
  refine ⟨⟨xs, vx, s1, gx⟩, fun v H2 hy => ?_⟩
  obtain ⟨T, wx, rfl, hT, rfl, f1⟩ := hy
  have e1 := f1 xs s1
  rw [gx] at e1; cases e1
  exact .inr ⟨T, _, hT, rfl, rep_tupNew (.cons (by simp only [Rep]; rw [Nat.zero_add]) (.cons (rx.up x1) .nil)) (x2.back hT)⟩
@[simp] def iEnum (f : F) : FI := fun s => (f s).bind fun a => (seq? a.1).bind fun x => some (enumD 0 x.2, a.2)
theorem ii_enum {elts : List Expr} {kk : Nat} (hg : Gl X "enumerate") (hm : X.mg "enumerate" = none) (ha : PE X a (tF X.K B fa)) (hs : starEach [a] X.env = [(false, eval a X.env)] := by rfl) : PI X (.Tuple elts kk tpos) (.Call (.Name "enumerate" p) [a] [] pos) (tI X.K B (iEnum fa)) := by
  have pa := pa_cons ha pa_nil hs
  refine ((pi_enumK (kd := true) hg hm pa hs).pxor (pi_enumK (kd := false) hg hm pa hs)).pxw fun σ H Q q => ?_
  obtain ⟨s, H0, ds, s', R, ev, k⟩ := q
  obtain ⟨⟨d1, s1⟩, e1, ev1⟩ := bnd ev
  obtain ⟨⟨k1, as⟩, e3, ev3⟩ := bnd ev1
  cases ev3
  have all : ∀ (k1 : Bool), seq? d1 = some (k1, as) → iEnumK k1 X.K (tCons (tF X.K B fa) tNil) σ H Q := fun k1 e3 => by
    refine ⟨s, H0, d1, s1, R, e1, fun v H1 H' R1 x1 r1 => ?_⟩
    obtain ⟨q1, xs, rfl, h1, l1⟩ := seq_rep e3 r1
    exact ⟨q1, xs, rfl, R1.h0.sqK h1, k _ H1 H' R1 x1 (itok_enum h1 l1)⟩
  cases k1
  · exact .inr (all _ e3)
  · exact .inl (all _ e3)
end
end Px
namespace Px
open PySem L2
/-! ### dict([(k, v), ..]) -/
section
variable {X : Cx} {B : Bs} {a : Expr} {pos p : Pos} {pa : FP} {K : PySem.W.Frag}
@[simp] def pairs? : List D → Option (List (Key × D))
  | [] => some []
  | .tup [k, v] :: r => (key? k).bind fun k => (pairs? r).bind fun l => some ((k, v) :: l)
  | _ :: _ => none
@[simp] def mergeD : List Key × List D → List (Key × D) → List Key × List D
  | acc, [] => acc
  | acc, kv :: r => mergeD (putD acc.1 acc.2 kv.1 kv.2) r
theorem pairs_inv {H0 : Hp} : ∀ {ds : List D} {l : List (Key × D)} {xs : List V}, pairs? ds = some l → RepL K H0 ds xs → ∃ (ps : List Addr) (kvs : List (Key × V)), xs = ps.map V.ref ∧ Paired (fun p kv => SqT K H0 p [kV kv.1, kv.2]) ps kvs ∧ kvs.map (·.1) = l.map (·.1) ∧ RepL K H0 (l.map (·.2)) (kvs.map (·.2))
  | [], l, xs, h, r => by cases h; rw [r.of_nil]; exact ⟨[], [], rfl, .nil, rfl, .nil⟩
  | .tup [k, v] :: ds, l, xs, h, r => by
    obtain ⟨x, rs, rfl, r1, r2⟩ := r.of_cons
    obtain ⟨key, ek, h1⟩ := bnd (show (key? k).bind _ = some l from h)
    obtain ⟨l', el, h2⟩ := bnd h1
    cases h2
    obtain ⟨ps, kvs, e1, e2, e3, e4⟩ := pairs_inv el r2
    obtain ⟨q, ys, rfl, ly, hq⟩ := rep_tup_sq r1
    obtain ⟨y1, yr, rfl, ry1, ly2⟩ := ly.of_cons
    obtain ⟨y2, yr2, rfl, ry2, ly3⟩ := ly2.of_cons
    rw [ly3.of_nil] at hq
    rw [key_inv ek ry1] at hq
    exact ⟨q :: ps, (key, y2) :: kvs, by rw [List.map_cons, e1], .cons hq e2, by simp [e3], .cons ry2 e4⟩
  | .non :: _, _, _, h, _ | .bl _ :: _, _, _, h, _ | .str _ :: _, _, _, h, _ | .int _ :: _, _, _, h, _ | .lst _ :: _, _, _, h, _ | .dK _ _ :: _, _, _, h, _ | .dT _ _ :: _, _, _, h, _ | .scr _ :: _, _, _, h, _ => by cases h
  | .tup [] :: _, _, _, h, _ | .tup [_] :: _, _, _, h, _ | .tup (_ :: _ :: _ :: _) :: _, _, _, h, _ => by cases h
theorem merge_rep {H0 : Hp} : ∀ {l : List (Key × D)} {kvs : List (Key × V)} {ks : List Key} {ds : List D} {xs : List V}, kvs.map (·.1) = l.map (·.1) → RepL K H0 (l.map (·.2)) (kvs.map (·.2)) → RepL K H0 ds xs → ks.length = ds.length →
    ∃ ys, RepL K H0 (mergeD (ks, ds) l).2 ys ∧ mergeK (ks.zip xs) kvs = (mergeD (ks, ds) l).1.zip ys ∧ (mergeD (ks, ds) l).1.length = (mergeD (ks, ds) l).2.length
  | [], kvs, ks, ds, xs, e, _, l, hl => by
    have : kvs = [] := by cases kvs with | nil => rfl | cons _ _ => simp at e
    subst this
    exact ⟨xs, l, rfl, hl⟩
  | (k, d) :: r, kvs, ks, ds, xs, e, rr, l, hl => by
    cases kvs with
    | nil => simp at e
    | cons kv kvs =>
      obtain ⟨k', v⟩ := kv
      simp only [List.map_cons, List.cons.injEq] at e
      obtain ⟨e1, e2⟩ := e
      subst e1
      obtain ⟨x, xr, ex, r1, r2⟩ := rr.of_cons
      simp only [List.map_cons, List.cons.injEq] at ex
      obtain ⟨ex1, ex2⟩ := ex
      subst ex1 ex2
      obtain ⟨ys, ry, ey⟩ := put_rep (k := k') l hl r1
      obtain ⟨zs, rz, ez, hz⟩ := merge_rep (ks := (putD ks ds k' d).1) (ds := (putD ks ds k' d).2) e2 r2 ry (putD_len hl)
      refine ⟨zs, rz, ?_, hz⟩
      show mergeK (putK (ks.zip xs) k' v) kvs = _
      rw [ey]
      exact ez
@[simp] def gDictP : D → Option D
  | .lst ds => (pairs? ds).bind fun l => some (.dK (mergeD ([], []) l).1 (mergeD ([], []) l).2)
  | _ => none
theorem cao_dictP : CaO K (fun xs H Q => ∃ (a : Addr) (ps : List Addr) (kvs : List (Key × V)), xs = [.ref a] ∧ SqL K H a (ps.map V.ref) ∧ Paired (fun p kv => SqT K H p [kV kv.1, kv.2]) ps kvs ∧ ∀ p, H p = none → Q (.ref p) (upd H p (.dK (mergeK [] kvs)))) gDictP := fun B s σ H0 H q d d' x Q R r1 g1 e k => by
  cases d with
  | lst ds =>
    obtain ⟨l, el, e2⟩ := bnd (show (pairs? ds).bind _ = some d' from e)
    cases e2
    obtain ⟨a, xs, rfl, lx, h⟩ := r1.lst R g1
    obtain ⟨ps, kvs, e1, e2, e3, e4⟩ := pairs_inv el lx
    subst e1
    refine ⟨a, ps, kvs, rfl, .of h, L2.Paired.mapP e2 fun _ _ z => R.h0.sqT z, fun t ht => ?_⟩
    obtain ⟨ys, ry, ey, hy⟩ := merge_rep (ks := []) (ds := []) (xs := []) e3 e4 .nil rfl
    exact k t _ (R.laidO ht) (R.ownNew (o := .dK (mergeK [] kvs)) ht ⟨ys, by rw [← ey]; rfl, hy, ry⟩)
  | _ => cases e
theorem io_dictP (hc : X.calm = true) (hg : Gl X "dict") (hm : X.mg "dict" = none) (ha : PE X a (tP X.K B pa)) (he : starEach [a] X.env = (false, eval a X.env) :: starEach [] X.env := by rfl) (hpl : (backTo pos (starEach [] X.env)).any (·.1) = false := by rfl) :
    PE X (.Call (.Name "dict" p) [a] [] pos) (tO X.K B (eB1 gDictP pa)) := io_b1 (pe_callTy (call_dictP hc) hg hm (by decide +kernel) (pa_cons ha pa_nil he) (by decide) (by decide) he hpl) cao_dictP
end
end Px

set_option Elab.async false
set_option linter.all false
set_option maxRecDepth 100000
set_option maxHeartbeats 1000000
/-! Px9: the law's end, module constants -/
namespace Px
open PySem L2
/-- a constant of the module -/
def GlobC (K : PySem.W.Frag) (mg : Str → Option Value) (x : Str) (d : D) : Prop := ∃ v u, mg x = some u ∧ RelV v u ∧ ∀ H0, Rep K H0 d v
theorem law_sp {K : PySem.W.Frag} {H : Hp} {a : Addr} {ns : List Int} {G : FnD} {E : XK} (hS : SqL K H a (ns.map V.int)) (h : G [.scr ns] = some (false, .bl true)) : spF K 1 G [.ref a] H (fun v _ => v = .bl true) E :=
  ⟨H, [.scr ns], false, .bl true, rfl, Ex.refl _, .cons (by simp only [Rep]; exact ⟨a, rfl, hS⟩) .nil, h, fun v H1 H' _ _ _ _ r => rep_bl (show Rep K H1 (.bl true) v from r)⟩
section
variable {X : Cx} {B : Bs} {tg : Expr} {pos : Pos}
theorem ie_glob {x : Str} {d : D} (h : GlobC X.K X.mg x d) (hg : Gl X x) (hd : (x == ("__debug__" : Str)) = false := by decide) : PE X (.Name x pos) (tF X.K B (eC d)) := by
  obtain ⟨v, u, h1, h2, h3⟩ := h
  exact ie_c (pe_glob hg h1 h2 hd) h3
theorem sw_trueD {kx vx : Expr} {gs : List Comprehension} {scope : Scope} {pos py : Pos} {y : Str} {l : Nat} {env : Env} (hk : env.scope.kind = .function) (hy : env.scope.names.lookup y = some .local) (hl : (py.line == pos.line) = true)
    (ha : (scope.names.any fun (n, k) => n == y && (k == .local || k == .cell)) = false) : swapsWith (.DictComp kx vx gs scope pos) (some (.Name y py)) l env = pure true := by
  have ky : env.kindOf y = some .local := hy
  have hb : env.blockKind = .function := by unfold Env.blockKind; rw [hk]; rfl
  unfold swapsWith
  simp only [hb, ky, ha, Expr.pos, hl]
  rfl
/-- y = {k: v for ..} -/
theorem is_setDc {i : Nat} {y : Str} {py spos : Pos} {kx vx iter : Expr} {ifs : List Expr} {scope : Scope} {own : List (Str × Nat)} {fi : FI} {ts : List Nat} {g : FG} {t : TB} {fk fv : F} (hc : X.calm = true) (hN : X.N.Nodup) (hy : X.N[i]? = some y) (hyl : X.env.scope.names.lookup y = some .local)
    (hsw : swapsWith (.DictComp kx vx [⟨tg, iter, ifs, 0⟩] scope pos) (some (.Name y py)) spos.line X.env = pure true) (hi : PI X tg iter (tI X.K B fi)) (ok : BlkOk X.N X.env.scope scope own)
    (hg : ∀ (B : Bs) (s : Shared) (H : Hp) (C : Addr) (cl : List (Str × Addr)) (fp : List Addr), PG (X.blk s H scope (compEnvC scope cl C X.env) fp) tg (tG X.K B ts g))
    (ht : ∀ (B : Bs) (s : Shared) (H : Hp) (C : Addr) (cl : List (Str × Addr)) (fp : List Addr), PTs (X.blk s H scope (compEnvC scope cl C X.env) fp) ifs (tT X.K B t))
    (hk : ∀ (B : Bs) (s : Shared) (H : Hp) (C : Addr) (cl : List (Str × Addr)) (fp : List Addr), PE (X.blk s H scope (compEnvC scope cl C X.env) fp) kx (tF X.K B fk))
    (he : ∀ (B : Bs) (s : Shared) (H : Hp) (C : Addr) (cl : List (Str × Addr)) (fp : List Addr), PE (X.blk s H scope (compEnvC scope cl C X.env) fp) vx (tF X.K B fv)) (hts : ∀ i ∈ ts, i ∈ own.map (·.2) := by decide)
    (hs : ∀ x, foldedSetIterable iter X.env x = pure x := by intro _; rfl) : PS X (.Assign [.Name y py] (.DictComp kx vx [⟨tg, iter, ifs, 0⟩] scope pos) spos) (tS X.K B (sSetO i (eDc fi g t fk fv (own.map (·.2))))) := by
  refine ⟨fun pins s σ H D I h => ?_⟩
  rw [exec_Assign_Name_used _ _ _ _ hsw]
  refine wpAny_bind (wpAny_standAt (wpAny_bind ?_))
  show wpAny _ X.A (do let _ ← comprehension (.DictComp kx vx [⟨tg, iter, ifs, 0⟩] scope pos) scope X.env (firstIterPos [⟨tg, iter, ifs, 0⟩] pos) newDict false (eval iter X.env) (some (assign (.Name y py) X.env))) _ _ s
  have h : tDc (tI X.K B fi) (fun v σ H Q => ∃ B, tG X.K B ts g v σ H Q) (fun σ H Q => ∃ B, tT X.K B t σ H Q) (fun σ H Q => ∃ B, tF X.K B fk σ H Q) (fun σ H Q => ∃ B, tF X.K B fv σ H Q) (own.map (·.2)) σ H (fun x H1 => gName i x σ H1 D.nx) := by
    obtain ⟨s, H0, out, R, ev, k⟩ := h
    obtain ⟨a, e1, e2⟩ := bnd ev
    cases e2
    exact rd_dc hts ⟨s, H0, a.1, a.2, R, e1, fun p H1 H' R1 x1 w => k _ H1 H' (R1.setO w) x1⟩
  refine wpAny_bind (thn (dc_core (Qf := fun _ s' => SP X pins D .next s') hc hN I hi ok
    (fun s H C cl fp => ⟨fun pins s' σ H' v u Q I r ⟨B, q⟩ => (hg B s H C cl fp).run pins s' σ H' v u Q I r q⟩)
    (fun s H C cl fp => ⟨fun pins s' σ H' Q I ⟨B, q⟩ => (ht B s H C cl fp).run pins s' σ H' Q I q⟩)
    (fun s H C cl fp => ⟨fun pins s' σ H' Q I ⟨B, q⟩ => (hk B s H C cl fp).run pins s' σ H' Q I q⟩)
    (fun s H C cl fp => ⟨fun pins s' σ H' Q I ⟨B, q⟩ => (he B s H C cl fp).run pins s' σ H' Q I q⟩) hs h fun L C s' m H' I' q hn f => ?_) fun _ s' hq => wpAny_pure (wpAny_pure hq))
  show wpAny _ _ (assign (.Name y py) X.env (.ref L)) _ _ _
  refine wpAny_assign_Name (store_ok2 (v := V.ref L) I' hN hy (.inl hyl) rfl (fun s2 I2 ⟨a, sb, ha⟩ => ?_) (.inr hyl))
  obtain ⟨f0, f1, f2, f3, f4, f5⟩ := f
  have haC : C ≠ a := by
    rcases ha with z | z
    · rw [z]; exact f1
    · exact fun e => f4 y a z e.symm
  refine ⟨m, hn.sameBut sb haC, fun h3 sb3 => ?_⟩
  exact ⟨_, H', I2.turned (t' := s2.toks) (fun b o hb e => (sb3.2 b hb).trans e) f0 f1 f3 f4 f5, q⟩
end
end Px

set_option Elab.async false
set_option linter.all false
set_option maxRecDepth 100000
set_option maxHeartbeats 1000000
/-! Px10: zip of three, in, remove, index by data, a dict display of one pair, tuples repeated -/
namespace Px
open PySem L2
/-! ### zip of three -/
def Itz3 (k1 k2 k3 : Bool) (K : PySem.W.Frag) (a b c : Addr) : It :=
  ⟨fun i H => ∃ (xs ys zs : List V) (x y z : V), SqK k1 K H a xs ∧ SqK k2 K H b ys ∧ SqK k3 K H c zs ∧ xs[i]? = some x ∧ ys[i]? = some y ∧ zs[i]? = some z,
    fun i H v H' => ∃ T x y z, v = .ref T ∧ H T = none ∧ H' = upd H T (.tup [x, y, z]) ∧ (∀ xs, SqK k1 K H a xs → xs[i]? = some x) ∧ (∀ ys, SqK k2 K H b ys → ys[i]? = some y) ∧ ∀ zs, SqK k3 K H c zs → zs[i]? = some z,
    fun i H => ∃ xs ys zs : List V, SqK k1 K H a xs ∧ SqK k2 K H b ys ∧ SqK k3 K H c zs ∧ min (min xs.length ys.length) zs.length = i⟩
theorem turn_zip3 {P : Program} {w : World} {K : PySem.W.Frag} {elts : List Expr} {kk : Nat} {tpos : Pos} {k1 k2 k3 : Bool} {a b c z TI TO i1 i2 i3 : Addr} (S : ZipSep3 z TI TO i1 i2 i3 [i1, a] [i2, b] [i3, c]) (n1 : a ≠ i1) (n2 : b ≠ i2) (n3 : c ≠ i3) :
    Turn P w K (.Tuple elts kk tpos) (Itz3 k1 k2 k3 K a b c) [z, TI, TO, i1, i2, i3] z (fun i h => IsZip h z TI TO .none ∧ IsTupOf3 h TI (.ref i1) (.ref i2) (.ref i3) ∧ (∃ x y u, IsTupOf3 h TO x y u) ∧ IterK k1 h i1 a i ∧ IterK k2 h i2 b i ∧ IterK k3 h i3 c i) where
  mem := by simp
  obj := fun i h st c hc => by
    obtain ⟨hz, hTI, ⟨x, y, u, hTO⟩, h1, h2, h3⟩ := st
    have e' : c = z ∨ c = TI ∨ c = TO ∨ c = i1 ∨ c = i2 ∨ c = i3 := by simpa using hc
    rcases e' with q | q | q | q | q | q
    · rw [q]; exact ⟨_, hz, fun v q => nomatch q⟩
    · rw [q]; exact ⟨_, hTI, fun v q => nomatch q⟩
    · rw [q]; exact ⟨_, hTO, fun v q => nomatch q⟩
    · rw [q]; exact iterK_obj h1
    · rw [q]; exact iterK_obj h2
    · rw [q]; exact iterK_obj h3
  keep := fun i h h' st k => by
    obtain ⟨hz, hTI, ⟨x, y, u, hTO⟩, h1, h2, h3⟩ := st
    exact ⟨k z (by simp) _ hz, k TI (by simp) _ hTI, ⟨x, y, u, k TO (by simp) _ hTO⟩, iterK_at h1 fun o q => k i1 (by simp) o q, iterK_at h2 fun o q => k i2 (by simp) o q, iterK_at h3 fun o q => k i3 (by simp) o q⟩
  item := by
    intro X hP hw hK hc i pins s σ H E I hf st hg
    subst hP hw hK
    obtain ⟨hz, hTI, hTO, h1, h2, h3⟩ := st
    obtain ⟨xs, ys, zs, x, y, z', hqx, hqy, hqz, hx, hy, hzz⟩ := hg
    obtain ⟨its, rv, p, la⟩ := invK I hqx
    obtain ⟨its2, rv2, p2, lb⟩ := invK I hqy
    obtain ⟨its3, rv3, p3, lc⟩ := invK I hqz
    obtain ⟨u, hu, ru⟩ := rv.get hx
    obtain ⟨u2, hu2, ru2⟩ := rv2.get hy
    obtain ⟨u3, hu3, ru3⟩ := rv3.get hzz
    have hh : X.A.in1.handled = none := I.ok.hd hc
    have hi1 : i < its.length := (List.getElem?_eq_some_iff.mp hu).1
    have hi2 : i < its2.length := (List.getElem?_eq_some_iff.mp hu2).1
    have hi3 : i < its3.length := (List.getElem?_eq_some_iff.mp hu3).1
    have G := GoesN.zip3 (elts := elts) (x1 := kk) (pos := tpos) S (drawsK (prog := X.prog) (w := X.w) (A := X.A.in1) k1 hh i1 a n1 its.toArray) (drawsK k2 hh i2 b n2 its2.toArray) (drawsK k3 hh i3 c n3 its3.toArray)
    refine wpAny_mono (G.goes i s (fun v s2 => ∃ x H', Inv X pins σ H' s2 ∧ RelV x v ∧ (Itz3 k1 k2 k3 X.K a b c).yld i H x H' ∧ (IsZip s2.heap z TI TO .none ∧ IsTupOf3 s2.heap TI (.ref i1) (.ref i2) (.ref i3) ∧ (∃ x y u, IsTupOf3 s2.heap TO x y u) ∧ IterK k1 s2.heap i1 a (i + 1) ∧ IterK k2 s2.heap i2 b (i + 1) ∧ IterK k3 s2.heap i3 c (i + 1)) ∧ ∀ b ∈ [z, TI, TO, i1, i2, i3], H' b = none) E (by simp; omega) ⟨hz, hTI, hTO, ⟨h1, p⟩, ⟨h2, p2⟩, ⟨h3, p3⟩⟩ ?_) (fun r s1 q => q) (fun _ _ q => q)
    rintro v h' tk ⟨T, v1, v2, v3, rfl, hT, e1, e2, e3, hTT⟩ ⟨g1, g2, g3, ⟨g4, _⟩, ⟨g5, _⟩, g6, _⟩ hk _
    have ev1 : v1 = u := by
      have : its[i]? = some v1 := by simpa using e1
      rw [hu] at this; exact (Option.some.inj this).symm
    have ev2 : v2 = u2 := by
      have : its2[i]? = some v2 := by simpa using e2
      rw [hu2] at this; exact (Option.some.inj this).symm
    have ev3 : v3 = u3 := by
      have : its3[i]? = some v3 := by simpa using e3
      rw [hu3] at this; exact (Option.some.inj this).symm
    subst ev1 ev2 ev3
    have new : ObjOk X.prog X.w (upd H T (.tup [x, y, z'])) h' T (.tup [x, y, z']) := ⟨by show 3 ≤ sizeLine; decide, [v1, v2, v3], .cons ru (.cons ru2 (.cons ru3 .nil)), hTT⟩
    have I1 : Inv X pins σ (upd H T (.tup [x, y, z'])) { s with heap := h', toks := tk } :=
      I.turnedNew (ch := [z, TI, TO, i1, i2, i3]) (fun c o hb q => hk c o (fun y => hb (by simp at y ⊢; rcases y with y | y | y | y | y <;> simp [y])) q) hf hT new
    refine ⟨.ref T, _, I1, rfl, ⟨T, x, y, z', rfl, I.hok.fresh hT, rfl, fun l hl => by rw [injK I hl hqx]; exact hx, fun l hl => by rw [injK I hl hqy]; exact hy, fun l hl => by rw [injK I hl hqz]; exact hzz⟩, ⟨g1, g2, g3, g4, g5, g6⟩, fun c hcm => ?_⟩
    have hlt : c < s.heap.objs.size := by
      have e' : c = z ∨ c = TI ∨ c = TO ∨ c = i1 ∨ c = i2 ∨ c = i3 := by simpa using hcm
      rcases e' with q | q | q | q | q | q
      · rw [q]; exact Heap.lt_size hz
      · rw [q]; exact Heap.lt_size hTI
      · rw [q]; obtain ⟨_, _, _, hTO⟩ := hTO; exact Heap.lt_size hTO
      · rw [q]; obtain ⟨_, e1, _⟩ := iterK_obj h1; exact Heap.lt_size e1
      · rw [q]; obtain ⟨_, e2, _⟩ := iterK_obj h2; exact Heap.lt_size e2
      · rw [q]; obtain ⟨_, e3, _⟩ := iterK_obj h3; exact Heap.lt_size e3
    rw [upd_ne (Nat.ne_of_lt (Nat.lt_of_lt_of_le hlt hT))]
    exact (hf c hcm).1
  done := by
    intro X hP hw hK hc i pins s σ H E I hf st hg
    subst hP hw hK
    obtain ⟨hz, hTI, hTO, h1, h2, h3⟩ := st
    obtain ⟨xs, ys, zs, hqx, hqy, hqz, hend⟩ := hg
    obtain ⟨its, rv, p, la⟩ := invK I hqx
    obtain ⟨its2, rv2, p2, lb⟩ := invK I hqy
    obtain ⟨its3, rv3, p3, lc⟩ := invK I hqz
    have hh : X.A.in1.handled = none := I.ok.hd hc
    have hi : i = min (min its.toArray.size its2.toArray.size) its3.toArray.size := by
      rw [← hend, rv.length, rv2.length, rv3.length]; simp
    have G := GoesN.zip3 (elts := elts) (x1 := kk) (pos := tpos) S (drawsK (prog := X.prog) (w := X.w) (A := X.A.in1) k1 hh i1 a n1 its.toArray) (drawsK k2 hh i2 b n2 its2.toArray) (drawsK k3 hh i3 c n3 its3.toArray)
    subst hi
    exact G.stops s (fun s1 => Inv X pins σ H s1) E ⟨hz, hTI, hTO, ⟨h1, p⟩, ⟨h2, p2⟩, ⟨h3, p3⟩⟩ fun h' tk hk _ => I.turnedL (t' := tk) (ch := [z, TI, TO, i1, i2, i3]) (fun c o hb q => hk c o (fun y => hb (by simp at y ⊢; rcases y with y | y | y | y | y <;> simp [y])) q) hf
  self := fun A i s Q E st h => wpAny_pyIter_zip st.1 h
def iZipT (k1 k2 k3 : Bool) (K : PySem.W.Frag) (ta : TA) : L2.TI := fun σ H R => ta σ H fun vs H1 => ∃ a b c xs ys zs, vs = [.ref a, .ref b, .ref c] ∧ SqK k1 K H1 a xs ∧ SqK k2 K H1 b ys ∧ SqK k3 K H1 c zs ∧ R (Itz3 k1 k2 k3 K a b c) H1
theorem pi_zip3 {X : Cx} {e e2 e3 : Expr} {ta : TA} {p pos tpos : Pos} {elts : List Expr} {kk : Nat} {k1 k2 k3 : Bool} (hg : Gl X "zip") (hm : X.mg "zip" = none) (ha : PA X [e, e2, e3] ta)
    (hs : starEach [e, e2, e3] X.env = (false, eval e X.env) :: starEach [e2, e3] X.env := by rfl) (hpl : (backTo pos (starEach [e2, e3] X.env)).any (·.1) = false := by rfl) :
    PI X (.Tuple elts kk tpos) (.Call (.Name "zip" p) [e, e2, e3] [] pos) (iZipT k1 k2 k3 X.K ta) := by
  refine ⟨fun pins s σ H R I h => ?_⟩
  refine PyProof.Rows.Call_ (ld_blt I hg hm PyProof.Rows.boot_zip (PyProof.Rows.callWith_type1 (thn (ha.run pos pins s σ H _ I h) fun us s1 ⟨vs, H1, I1, r1, q1⟩ => ?_) hs hpl))
  obtain ⟨a, b, c, xs, ys, zs, ex, hqx, hqy, hqz, q⟩ := q1
  subst ex
  cases r1 with
  | cons r rr =>
    cases rr with
    | cons r' rr =>
      cases rr with
      | cons r'' rr =>
        cases rr
        cases r
        cases r'
        cases r''
        obtain ⟨its, rv, p1, la⟩ := invK I1 hqx
        obtain ⟨its2, rv2, p2, lb⟩ := invK I1 hqy
        obtain ⟨its3, rv3, p3, lc⟩ := invK I1 hqz
        refine zip_begins3 (beginsK k1 a its.toArray) (beginsK k2 b its2.toArray) (beginsK k3 c its3.toArray) p1 p2 p3 fun h' hz hTI hTO h1 h2 h3 hsz hk => wpAny_pyIter_zip hz ?_
        have I2 : Inv X pins σ H1 { s1 with heap := h' } := I1.kept (t' := s1.toks) hk
        refine ⟨s1.heap.objs.size + 5, [s1.heap.objs.size + 5, s1.heap.objs.size + 3, s1.heap.objs.size + 4, s1.heap.objs.size, s1.heap.objs.size + 1, s1.heap.objs.size + 2], _, _, H1, rfl, I2,
          turn_zip3 (zip_sep3 (N := s1.heap.objs.size) (fp1 := [a]) (fp2 := [b]) (fp3 := [c]) (by simpa using la) (by simpa using lb) (by simpa using lc)) (Nat.ne_of_lt la) (Nat.ne_of_lt (Nat.lt_succ_of_lt lb)) (Nat.ne_of_lt (Nat.lt_succ_of_lt (Nat.lt_succ_of_lt lc))), ⟨hz, hTI, ⟨_, _, _, hTO⟩, iterK_new h1, iterK_new h2, iterK_new h3⟩, fun c hcm => ?_, q⟩
        have hle : s1.heap.objs.size ≤ c := by
          have e' : c = s1.heap.objs.size + 5 ∨ c = s1.heap.objs.size + 3 ∨ c = s1.heap.objs.size + 4 ∨ c = s1.heap.objs.size ∨ c = s1.heap.objs.size + 1 ∨ c = s1.heap.objs.size + 2 := by simpa using hcm
          rcases e' with z | z | z | z | z | z
          · rw [z]; exact Nat.le_add_right _ _
          · rw [z]; exact Nat.le_add_right _ _
          · rw [z]; exact Nat.le_add_right _ _
          · rw [z]; exact Nat.le_refl _
          · rw [z]; exact Nat.le_add_right _ _
          · rw [z]; exact Nat.le_add_right _ _
        exact I1.fpOk hle (I1.hok.fresh hle)
section
variable {X : Cx} {B : Bs} {a b c e tg : Expr} {pos p tpos : Pos} {fa fb fc f : F} {K : PySem.W.Frag} {σ : St} {H : Hp}
@[simp] def zip3D : List D → List D → List D → List D
  | x :: as, y :: bs, z :: cs => .tup [x, y, z] :: zip3D as bs cs
  | _, _, _ => []
theorem zip3D_get : ∀ {as bs cs : List D} {i : Nat} {d : D}, (zip3D as bs cs)[i]? = some d → ∃ x y z, as[i]? = some x ∧ bs[i]? = some y ∧ cs[i]? = some z ∧ d = .tup [x, y, z]
  | x :: as, y :: bs, z :: cs, 0, d, h => by
    simp [zip3D] at h
    exact ⟨x, y, z, rfl, rfl, rfl, h.symm⟩
  | x :: as, y :: bs, z :: cs, i + 1, d, h => by
    obtain ⟨x', y', z', h1, h2, h3, h4⟩ := zip3D_get (i := i) (by simpa [zip3D] using h)
    exact ⟨x', y', z', by simpa using h1, by simpa using h2, by simpa using h3, h4⟩
  | [], _, _, _, _, h => by simp [zip3D] at h
  | _ :: _, [], _, _, _, h => by simp [zip3D] at h
  | _ :: _, _ :: _, [], _, _, h => by simp [zip3D] at h
theorem zip3D_length : ∀ (as bs cs : List D), (zip3D as bs cs).length = min (min as.length bs.length) cs.length
  | x :: as, y :: bs, z :: cs => by simp [zip3D, zip3D_length as bs cs]
  | [], _, _ => by simp [zip3D]
  | _ :: _, [], _ => by simp [zip3D]
  | _ :: _, _ :: _, [] => by simp [zip3D]
theorem itok_zip3 {H0 : Hp} {k1 k2 k3 : Bool} {q1 q2 q3 : Addr} {xs ys zs : List V} {as bs cs : List D} (h1 : SqK k1 K H0 q1 xs) (l1 : RepL K H0 as xs) (h2 : SqK k2 K H0 q2 ys) (l2 : RepL K H0 bs ys) (h3 : SqK k3 K H0 q3 zs) (l3 : RepL K H0 cs zs) : ItOk K (Itz3 k1 k2 k3 K q1 q2 q3) H0 (zip3D as bs cs) := fun i H1 H' x1 x2 => by
  have s1 := (x1.trans x2).sqK h1
  have s2 := (x1.trans x2).sqK h2
  have s3 := (x1.trans x2).sqK h3
  refine ⟨fun d hd => ?_, fun hi => ⟨xs, ys, zs, s1, s2, s3, by rw [l1.len, l2.len, l3.len, ← zip3D_length]; exact hi⟩⟩
  obtain ⟨x, y, z, ex, ey, ez, rfl⟩ := zip3D_get hd
  obtain ⟨vx, gx, rx⟩ := l1.get ex
  obtain ⟨vy, gy, ry⟩ := l2.get ey
  obtain ⟨vz, gz, rz⟩ := l3.get ez
  refine ⟨⟨xs, ys, zs, vx, vy, vz, s1, s2, s3, gx, gy, gz⟩, fun v H2 hy => ?_⟩
  obtain ⟨T, wx, wy, wz, rfl, hT, rfl, f1, f2, f3⟩ := hy
  have e1 := f1 xs s1
  rw [gx] at e1; cases e1
  have e2 := f2 ys s2
  rw [gy] at e2; cases e2
  have e3 := f3 zs s3
  rw [gz] at e3; cases e3
  exact .inr ⟨T, _, hT, rfl, rep_tupNew (.cons (rx.up x1) (.cons (ry.up x1) (.cons (rz.up x1) .nil))) (x2.back hT)⟩
/-- zip of three, of told kinds -/
@[simp] def iZip3 (k1 k2 k3 : Bool) (fa fb fc : F) : FI := fun s => (fa s).bind fun a => (fb a.2).bind fun b => (fc b.2).bind fun c => match seq? a.1, seq? b.1, seq? c.1 with
  | some x, some y, some z => if x.1 = k1 ∧ y.1 = k2 ∧ z.1 = k3 then some (zip3D x.2 y.2 z.2, c.2) else none
  | _, _, _ => none
theorem ii_zip3 {elts : List Expr} {kk : Nat} {k1 k2 k3 : Bool} (hg : Gl X "zip") (hm : X.mg "zip" = none) (ha : PE X a (tF X.K B fa)) (hb : PE X b (tF X.K B fb)) (hc : PE X c (tF X.K B fc)) (hs : starEach [a, b, c] X.env = (false, eval a X.env) :: starEach [b, c] X.env := by rfl) (hs2 : starEach [b, c] X.env = (false, eval b X.env) :: starEach [c] X.env := by rfl)
    (hs3 : starEach [c] X.env = (false, eval c X.env) :: starEach [] X.env := by rfl) (hpl : (backTo pos (starEach [b, c] X.env)).any (·.1) = false := by rfl) : PI X (.Tuple elts kk tpos) (.Call (.Name "zip" p) [a, b, c] [] pos) (tI X.K B (iZip3 k1 k2 k3 fa fb fc)) := by
  have pa := pa_cons ha (pa_cons hb (pa_cons hc pa_nil hs3) hs2) hs
  refine (pi_zip3 (k1 := k1) (k2 := k2) (k3 := k3) hg hm pa hs hpl).pxw fun σ H Q q => ?_
  obtain ⟨s, H0, ds, s', R, ev, k⟩ := q
  obtain ⟨⟨d1, s1⟩, e1, ev1⟩ := bnd ev
  obtain ⟨⟨d2, s2⟩, e2, ev2⟩ := bnd ev1
  obtain ⟨⟨d3, s3⟩, e3, ev3⟩ := bnd ev2
  dsimp only at ev3
  split at ev3
  · next x y z g1 g2 g3 =>
    split at ev3
    · next hk =>
      cases ev3
      obtain ⟨xk, xd⟩ := x
      obtain ⟨yk, yd⟩ := y
      obtain ⟨zk, zd⟩ := z
      obtain ⟨rfl, rfl, rfl⟩ := hk
      refine ⟨s, H0, d1, s1, R, e1, fun v H1 H' R1 x1 r1 => ⟨s1, H1, d2, s2, R1, e2, fun w H2 H2' R2 x2 r2 => ⟨s2, H2, d3, _, R2, e3, fun u H3 H3' R3 x3 r3 => ?_⟩⟩⟩
      obtain ⟨q1, xs, rfl, h1, l1⟩ := seq_rep g1 (r1.up (x2.trans x3))
      obtain ⟨q2, ys, rfl, h2, l2⟩ := seq_rep g2 (r2.up x3)
      obtain ⟨q3, zs, rfl, h3, l3⟩ := seq_rep g3 r3
      exact ⟨q1, q2, q3, xs, ys, zs, rfl, R3.h0.sqK h1, R3.h0.sqK h2, R3.h0.sqK h3, k _ H3 H3' R3 ((x1.trans x2).trans x3) (itok_zip3 h1 l1 h2 l2 h3 l3)⟩
    · cases ev3
  · cases ev3
/-! ### in, not in, by data -/
@[simp] def gInQ (neg : Bool) (x c : D) : Option D := match seq? c with
  | some y => if okD x && okD c then some (.bl (if neg then !y.2.any fun z => eqD z x else y.2.any fun z => eqD z x)) else none
  | none => none
def rInP (K : PySem.W.Frag) (neg : Bool) : R2 := fun x y H Q => ∃ d xs, Dp K H x d ∧ (Dp K H y (.list xs) ∨ Dp K H y (.tuple xs)) ∧ d.plain = true ∧ PyData.plainAll xs = true ∧ PyData.depthAll xs ≤ 63 ∧ Q (.bl (if neg then !xs.any fun z => PyData.eqv z d else xs.any fun z => PyData.eqv z d)) H
theorem op_inP (hu : X.A.units + 64 < cLine) : OpR X (compareOp .In) (rInP X.K false) := by
  intro pins s σ H x y v u Q I rx ry h
  obtain ⟨d, xs, hd, he, pd, px, dx, q⟩ := h
  obtain ⟨as, r1⟩ := Dp.reads I d x v hd rx
  rcases he with he | he
  · obtain ⟨bs, r2⟩ := Dp.reads I _ y u he ry
    exact SeqAt.in_list_data r2 r1 px pd (by omega) ⟨.bl _, H, I, rfl, q⟩
  · obtain ⟨bs, r2⟩ := Dp.reads I _ y u he ry
    exact SeqAt.in_tuple_data r2 r1 px pd (by omega) ⟨.bl _, H, I, rfl, q⟩
theorem op_notInP (hu : X.A.units + 64 < cLine) : OpR X (compareOp .NotIn) (rInP X.K true) := by
  intro pins s σ H x y v u Q I rx ry h
  obtain ⟨d, xs, hd, he, pd, px, dx, q⟩ := h
  obtain ⟨as, r1⟩ := Dp.reads I d x v hd rx
  rcases he with he | he
  · obtain ⟨bs, r2⟩ := Dp.reads I _ y u he ry
    exact SeqAt.notIn_list_data r2 r1 px pd (by omega) ⟨.bl _, H, I, rfl, q⟩
  · obtain ⟨bs, r2⟩ := Dp.reads I _ y u he ry
    exact SeqAt.notIn_tuple_data r2 r1 px pd (by omega) ⟨.bl _, H, I, rfl, q⟩
theorem any_pys (f : PyData → Bool) : ∀ ds : List D, (pys ds).any f = ds.any fun z => f z.py
  | [] => rfl
  | d :: ds => by simp [pys, any_pys f ds]
theorem opp_in {neg : Bool} : OpP K (rInP K neg) (gInQ neg) := fun B s σ H0 H p1 p2 d1 d2 d x y Q R r1 r2 g1 g2 e k => by
  unfold gInQ at e
  split at e
  · next z hz =>
    split at e
    · next h =>
      cases e
      rw [Bool.and_eq_true] at h
      have o1 := okD_inv h.1
      have o2 := okD_inv h.2
      have rd1 := rep_dp d1 x o1.1 (r1.rep R g1)
      have rd2 := rep_dp d2 y o2.1 (r2.rep R g2)
      cases d2 with
      | lst es =>
        cases hz
        refine ⟨d1.py, pys es, rd1, .inl rd2, o1.1, o2.1, by have := o2.2; simp only [D.py, PyData.depth] at this; omega, ?_⟩
        refine k _ H0 H R (Ex.refl _) ?_
        simp only [Rep, any_pys]; rfl
      | tup es =>
        cases hz
        refine ⟨d1.py, pys es, rd1, .inr rd2, o1.1, o2.1, by have := o2.2; simp only [D.py, PyData.depth] at this; omega, ?_⟩
        refine k _ H0 H R (Ex.refl _) ?_
        simp only [Rep, any_pys]; rfl
      | _ => cases hz
    · cases e
  · cases e
variable {pa pb : FP}
theorem ie_inQ (hu : X.A.units + 64 < cLine) (ha : PE X a (tP X.K B pa)) (hb : PE X b (tP X.K B pb)) (hm : behindInMarks .In b = false := by rfl) : PE X (.Compare a [.In] [b] pos) (tF X.K B (eOpP (gInQ false) pa pb)) := ie_op2P (fun h1 h2 => pe_cmpR (op_inP hu) h1 h2 hm) opp_in ha hb
theorem ie_inQn (hu : X.A.units + 64 < cLine) (ha : PE X a (tP X.K B pa)) (hb : PE X b (tP X.K B pb)) (hm : behindInMarks .NotIn b = false := by rfl) : PE X (.Compare a [.NotIn] [b] pos) (tF X.K B (eOpP (gInQ true) pa pb)) := ie_op2P (fun h1 h2 => pe_cmpR (op_notInP hu) h1 h2 hm) opp_in ha hb
theorem it_inQ (hu : X.A.units + 64 < cLine) (ha : PE X a (tP X.K B pa)) (hb : PE X b (tP X.K B pb)) (hm : behindInMarks .In b = false := by rfl) : PT X (.Compare a [.In] [b] pos) (tT X.K B (bT (eOpP (gInQ false) pa pb))) := it_of (pt_cmpR (op_inP hu) ha hb hm) fun q => rd_op2P opp_in q
theorem it_inQn (hu : X.A.units + 64 < cLine) (ha : PE X a (tP X.K B pa)) (hb : PE X b (tP X.K B pb)) (hm : behindInMarks .NotIn b = false := by rfl) : PT X (.Compare a [.NotIn] [b] pos) (tT X.K B (bT (eOpP (gInQ true) pa pb))) := it_of (pt_cmpR (op_notInP hu) ha hb hm) fun q => rd_op2P opp_in q
/-! ### list.remove by data -/
def rRemP (K : PySem.W.Frag) : V → List V → Hp → VK → Prop := fun x xs H Q => ∃ (l : Addr) (ys : List V) (y : V) (d : PyData) (ds : List PyData) (j : Nat), x = .ref l ∧ xs = [y] ∧ H l = some (.lst ys) ∧ DpAll K H ys ds ∧ Dp K H y d ∧
  PyData.plainAll ds = true ∧ d.plain = true ∧ PyData.depthAll ds ≤ 63 ∧ SeqAt.dataPlace ds d = some j ∧ Q .non (upd H l (.lst (ys.eraseIdx j)))
theorem mt_removeP (hu : X.A.units + 64 < cLine) : MtM X "list.remove" (rRemP X.K) := by
  intro pins s σ H x xs v us Q I rx rxs h
  obtain ⟨l, ys, y, d, ds, j, rfl, rfl, hH, ha, hd, pds, pd, dep, hj, q⟩ := h
  cases rx
  obtain ⟨u, rfl, ru⟩ := rxs.one
  obtain ⟨z, its, n, r, hl, e⟩ := I.lstM hH
  obtain ⟨as, ra⟩ := Dp.readsAll I ds ys its ha r
  obtain ⟨bs, rb⟩ := Dp.reads I d y u hd ru
  refine SeqAt.remove_list_data (vs := its.toArray) ⟨_, e, rfl, n, rfl⟩ (by simpa using ra) rb pds pd (by omega) hj (by rw [List.size_toArray]; omega) ?_
  have rr := r.eraseIdx j
  refine ⟨.non, _, I.lset (its' := its.eraseIdx j) (t' := s.toks) hH e ?_ rr ?_, rfl, q⟩
  · show its.toArray.eraseIdxIfInBounds j = (its.eraseIdx j).toArray
    rw [List.eraseIdxIfInBounds_toArray]
  · have z2 := List.length_eraseIdx_le ys j
    omega
theorem rep_dpAll {H : Hp} {ds : List D} {xs : List V} (h : PyData.plainAll (pys ds) = true) (r : RepL K H ds xs) : DpAll K H xs (pys ds) := rep_dps ds xs h r
theorem RepL.eraseIdx : ∀ {ds : List D} {xs : List V} (j : Nat), RepL K H ds xs → RepL K H (ds.eraseIdx j) (xs.eraseIdx j)
  | [], xs, j, h => by rw [h.of_nil]; simpa using RepL.nil
  | d :: ds, xs, 0, h => by
    obtain ⟨x, r, rfl, _, h2⟩ := h.of_cons
    exact h2
  | d :: ds, xs, j + 1, h => by
    obtain ⟨x, r, rfl, h1, h2⟩ := h.of_cons
    exact .cons h1 (RepL.eraseIdx j h2)
theorem find_pys (f : PyData → Bool) : ∀ ds : List D, (pys ds).findIdx? f = ds.findIdx? fun z => f z.py
  | [] => rfl
  | d :: ds => by simp [pys, List.findIdx?_cons, find_pys f ds]
/-- x.remove(e) -/
@[simp] def sRemove (i : Nat) (f : F) : FS := fun s => (ownL s i).bind fun _ => (f s).bind fun a => (ownL a.2 i).bind fun m => if okD a.1 && okD (.lst m.2) then (m.2.findIdx? fun z => eqD z a.1).bind fun j => some (.nx (a.2.set i (some (m.1, .lst (m.2.eraseIdx j))))) else none
theorem is_remove {i : Nat} {x : Str} {apos cpos : Pos} {pn : Pos} (hu : X.A.units + 64 < cLine) (hv : PE X (.Name x pn) (tVar i)) (he : PE X e (tF X.K B f)) (hst : starEach [e] X.env = (false, eval e X.env) :: starEach [] X.env := by rfl)
    (hbase : attributeBase (.Name x pn) "remove" X.env (eval (.Name x pn) X.env) = eval (.Name x pn) X.env := by rfl)
    (hfew : ((backTo cpos (starEach [e] X.env)).all (fun x => !x.1) && (backToKw cpos (keywordEach [] X.env)).all (fun x => x.1.isSome) && decide ([e].length + ([] : List Keyword).length + (if ([] : List Keyword).isEmpty then 0 else 1) < 30)) = true := by rfl)
    (hline : (apos.endLine == cpos.line) = true := by rfl) (hplain : (backTo cpos (starEach [] X.env)).any (·.1) = false := by rfl)
    (hs : swapsWith (.Call (.Attribute (.Name x pn) "remove" apos) [e] [] cpos) none pos.line X.env = pure false := by rfl) :
    PS X (.Expr (.Call (.Attribute (.Name x pn) "remove" apos) [e] [] cpos) pos) (tS X.K B (sRemove i f)) :=
  (ps_expr (pe_bm PySem.F.plainAttrs_list PySem.F.slot_list_remove PySem.F.type_list_remove (mt_removeP hu) hv (pa_cons he pa_nil hst) hbase hfew hline hst hplain) hs).pxw fun E σ H q => by
  obtain ⟨s, H0, out, R, ev, k⟩ := q
  obtain ⟨⟨m0, ds0⟩, e0, ev0⟩ := bnd ev
  obtain ⟨⟨d, s1⟩, e1, ev1⟩ := bnd ev0
  obtain ⟨⟨m, ds⟩, e2, ev2⟩ := bnd ev1
  dsimp only at ev2
  split at ev2
  · next hl =>
    obtain ⟨j, ej, ev3⟩ := bnd ev2
    cases ev3
    rw [Bool.and_eq_true] at hl
    have o1 := okD_inv hl.1
    have o2 := okD_inv hl.2
    obtain ⟨p, xs, ep, hp, _⟩ := own_lst R e0
    refine ⟨_, ep, .inl ⟨rfl, xs, .of hp⟩, s, H0, d, s1, R, e1, fun v H1 H' R1 x1 r1 => ?_⟩
    obtain ⟨p', xs', ep', hp', l⟩ := own_lst R1 e2
    rw [ep] at ep'; cases ep'
    obtain ⟨h1, hm⟩ := ownL_inv e2
    refine ⟨p, xs', v, d.py, pys ds, j, rfl, rfl, hp', rep_dpAll o2.1 (l.up R1.h0), rep_dp d v o1.1 (r1.up R1.h0), o2.1, o1.1, by have := o2.2; simp only [D.py, PyData.depth] at this; omega, ?_, ?_⟩
    · unfold SeqAt.dataPlace; rw [find_pys]; exact ej
    · exact k σ H1 _ (R1.mut h1 hm ep ⟨_, rfl, l.eraseIdx j⟩) x1
  · cases ev2
/-! ### {k: c}, both written -/
@[simp] def eDOne (k : Key) (d : D) : F := fun s => some (.dK [k] [d], s)
theorem io_dispIB {i : Int} {j : Nat} {b : Bool} {p1 p2 : Pos} (hall : [some (Expr.Constant (.int i) j p1)].all (·.isSome) = true := by rfl) : PE X (.Dict [some (.Constant (.int i) j p1)] [.Constant (.bool b) 0 p2] pos) (tO X.K B (eDOne (.inl i) (.bl b))) :=
  (pe_disp (pps_cons pe_int pe_bl pps_nil) hall rfl (by simp) (by simp)).pxw fun σ H Q q => by
  obtain ⟨s, H0, r, s', R, ev, k⟩ := q
  cases ev
  intro p hp
  refine ⟨upd_same .., [(.inl i, .bl b)], rfl, by simp, ?_⟩
  have e : upd (upd H p (.dK [])) p (.dK (mergeK [] [(Sum.inl i, V.bl b)])) = upd H p (.dK [(Sum.inl i, V.bl b)]) := by
    funext x; unfold upd; split <;> rfl
  rw [e]
  exact k p H0 _ (R.laidO hp) (Ex.refl _) (R.ownNew (o := .dK [(.inl i, .bl b)]) hp ⟨[.bl b], rfl, rfl, .cons (by simp only [Rep]) .nil⟩)
/-! ### d.get(k, x) -/
@[simp] def isDct : D → Bool
  | .dK _ _ => true
  | .dT _ _ => true
  | _ => false
@[simp] def eGetD (pa : FP) (fk fx : F) : F := fun s => (pa s).bind fun a => (a.1.get a.2).bind fun d0 => if isDct d0 then (fk a.2).bind fun b => (fx b.2).bind fun c => (a.1.get c.2).bind fun d => (gAsk d b.1).bind fun o => some (o.getD c.1, c.2) else none
theorem ie_getD {apos cpos : Pos} (hu : X.A.units + 1 < cLine) (ha : PE X a (tP X.K B pa)) (hb : PE X b (tF X.K B fb)) (hc : PE X c (tF X.K B fc)) (m : M2 X a "get" apos b c cpos) : PE X (.Call (.Attribute a "get" apos) [b, c] [] cpos) (tF X.K B (eGetD pa fb fc)) := (pe_dget2 hu ha hb hc m).pxw fun σ H Q q => by
  obtain ⟨s, H0, d, s', R, ev, k⟩ := q
  obtain ⟨⟨p1, s1⟩, e1, ev1⟩ := bnd ev
  obtain ⟨d0, g0, ev2⟩ := bnd ev1
  dsimp only at ev2
  split at ev2
  · next hd0 =>
    obtain ⟨⟨d2, s2⟩, e2, ev3⟩ := bnd ev2
    obtain ⟨⟨d3, s3⟩, e3, ev4⟩ := bnd ev3
    obtain ⟨d1, g1, ev5⟩ := bnd ev4
    obtain ⟨o, eo, ev6⟩ := bnd ev5
    cases ev6
    refine ⟨s, H0, p1, s1, R, e1, fun v H1 H' R1 x1 r1 => ?_⟩
    have hD : ∃ q, v = .ref q ∧ IsD H' q := by
      cases d0 with
      | dK ks ds => obtain ⟨q, xs, rfl, _, _, h⟩ := r1.dK R1 g0; exact ⟨q, rfl, .inl ⟨_, h⟩⟩
      | dT ks ds => obtain ⟨q, xs, rfl, _, _, h⟩ := r1.dT R1 g0; exact ⟨q, rfl, .inr ⟨_, h⟩⟩
      | _ => cases hd0
    obtain ⟨q, rfl, hq⟩ := hD
    refine ⟨q, rfl, hq, s1, H1, d2, s2, R1, e2, fun v2 H2 H2' R2 x2 r2 => ⟨s2, H2, d3, _, R2, e3, fun v3 H3 H3' R3 x3 r3 => ?_⟩⟩
    obtain ⟨q', ov, eq, dg, _, h⟩ := ask_dget R3 (r1.up (x2.trans x3)) g1 (r2.up x3) eo
    cases eq
    refine ⟨ov, dg, k _ H3 H3' R3 ((x1.trans x2).trans x3) ?_⟩
    cases o with
    | none => rw [show ov = none from h]; exact r3
    | some e => obtain ⟨w, rfl, rw'⟩ := h; exact rw'
  · cases ev2
/-! ### x, y = {}, [] -/
@[simp] def sParDL (i j : Nat) (d : D) : FS := fun s => some (.nx ((s.set i (some (.ow, d))).set j (some (.ow, .lst []))))
theorem is_parTL {i j : Nat} {x y : Str} {px py pt p1 p2 : Pos} {kt k2 pt2} (hc : X.calm = true) (hN : X.N.Nodup) (hi : X.N[i]? = some x) (hj : X.N[j]? = some y) (hij : i ≠ j) (hx : X.env.scope.names.lookup x = some .local) (hy : X.env.scope.names.lookup y = some .local)
    (he : starEach [.Dict [] [] p1, .List [] p2] X.env = (false, eval (.Dict [] [] p1) X.env) :: starEach [.List [] p2] X.env := by rfl) (he2 : starEach [.List [] p2] X.env = (false, eval (.List [] p2) X.env) :: starEach [] X.env := by rfl)
    (hw : swappedStores [.Tuple [.Name x px, .Name y py] kt pt] (.Tuple [.Dict [] [] p1, .List [] p2] k2 pt2) X.env = pure (some [x, y]) := by rfl) (hs : swapsWithSole [.Tuple [.Name x px, .Name y py] kt pt] (.Tuple [.Dict [] [] p1, .List [] p2] k2 pt2) pos.line X.env = pure false := by rfl) :
    PS X (.Assign [.Tuple [.Name x px, .Name y py] kt pt] (.Tuple [.Dict [] [] p1, .List [] p2] k2 pt2) pos) (tS X.K B (sParDL i j (.dT [] []))) := (ps_par hc hN hi hj hij hx hy (pa_cons pe_dnewT (pa_cons (pe_lst pa_nil) pa_nil he2) he) hw hs).pxw fun E σ H q => by
  obtain ⟨s, H0, out, R, ev, k⟩ := q
  cases ev
  intro p hp
  refine ⟨by show 0 ≤ sizeLine; decide, fun p' hp' => ⟨_, _, rfl, ?_⟩⟩
  have R1 := (R.laidO (o := .dT []) hp).setO (i := i) (R.ownNew (o := .dT []) (d := .dT [] []) hp ⟨[], rfl, rfl, .nil⟩)
  have R2 := (R1.laidO (o := .lst []) hp').setO (i := j) (R1.ownNew (o := .lst []) (d := .lst []) hp' ⟨[], rfl, .nil⟩)
  exact k _ H0 _ R2 (Ex.refl _)
end
/-- turns of the common divisor's loop -/
def muG (s : S) : Nat := match (s[3]? : Option (Option Sl)) with
  | some (some (_, .int o)) => o.toNat + 1
  | _ => 0
/-! ### constants of the module -/
theorem globT2 {K : PySem.W.Frag} {mg : Str → Option Value} {x : Str} {a b : Int} {cN : Addr} {dd : Option Addr} {t0 t1 : Tok} {n : Nat} {sl : Array (Option Value)} (h1 : mg x = some (.ref cN)) (h2 : K.lookup cN = some ⟨.type "tuple", dd, .seq #[.int a t0, .int b t1] n, sl⟩) : GlobC K mg x (.tup [.int a, .int b]) :=
  ⟨.ref cN, .ref cN, h1, rfl, fun H0 => by
    simp only [Rep]
    exact ⟨cN, [.int a, .int b], rfl, .cons (by simp only [Rep]) (.cons (by simp only [Rep]) .nil), .inr ⟨.inr ⟨_, _, n, h2, rfl, rfl, by show 2 ≤ sizeLine; decide, .cons ⟨t0, rfl⟩ (.cons ⟨t1, rfl⟩ .nil)⟩, rfl⟩⟩⟩
theorem globI {K : PySem.W.Frag} {mg : Str → Option Value} {x : Str} {i : Int} {t : Tok} (h1 : mg x = some (.int i t)) : GlobC K mg x (.int i) := ⟨.int i, .int i t, h1, ⟨t, rfl⟩, fun H0 => by simp only [Rep]⟩
theorem globS {K : PySem.W.Frag} {mg : Str → Option Value} {x y : Str} {t : Tok} (h1 : mg x = some (.str y t)) : GlobC K mg x (.str y) := ⟨.str y, .str y t, h1, ⟨t, rfl⟩, fun H0 => by simp only [Rep]⟩
end Px

set_option Elab.async false
set_option linter.all false
set_option maxRecDepth 100000
set_option maxHeartbeats 1000000
/-! Px11: for over a list of one's own, read as it stands -/
namespace Px
open PySem L2
def noRf (s : S) : Bool := s.all fun o => match o with | some (.rf, _) => false | _ => true
theorem noRf_inv {s : S} (h : noRf s = true) {j : Nat} {m : Md} {d : D} (e : s[j]? = some (some (m, d))) : m ≠ .rf := by
  intro z
  subst z
  have := List.all_eq_true.mp h (some (.rf, d)) (List.mem_of_getElem? e)
  simp at this
section
variable {K : PySem.W.Frag} {B : Bs} {s : S} {σ : St} {H0 H : Hp} {p : Addr} {d : D} {i : Nat}
def Bs.by (B : Bs) (p : Addr) : Bs := ⟨B.hE, B.hb, B.h0, p⟩
theorem Rel.toRf (R : Rel K B s σ H0 H) (h : s[i]? = some (some (.ow, d))) (e : σ[i]? = some (some (.ref p))) (nr : noRf s = true) : Rel K (B.by p) (s.set i (some (.rf, d))) σ H0 H := by
  have hi : i < s.length := (List.getElem?_eq_some_iff.mp h).1
  refine ⟨R.tp, R.fr, R.dom, R.z0, R.h0, R.new, by simp [R.len], fun j e' q => ?_, fun j m e' q hm => ?_, fun j k m n e' f q h1 hm h2 hn g1 g2 => ?_⟩
  · rcases set_get q with ⟨_, z⟩ | ⟨_, q'⟩
    · cases z
    · exact R.sh j e' q'
  · rcases set_get q with ⟨z, z2⟩ | ⟨z, q'⟩
    · cases z2
      subst z
      obtain ⟨p', e1, w⟩ := R.ow _ .ow d h (by intro z; cases z)
      rw [e] at e1; cases e1
      exact ⟨p, e, w.z, w.b, fun z => (by cases z), fun _ => rfl, w.ob⟩
    · obtain ⟨p', e1, w⟩ := R.ow j m e' q' hm
      exact ⟨p', e1, w.z, w.b, w.ow, fun z => absurd z (noRf_inv nr q'), w.ob⟩
  · have a1 : ∃ m' e'', s[j]? = some (some (m', e'')) ∧ m' ≠ .sh := by
      rcases set_get h1 with ⟨z, z2⟩ | ⟨z, q'⟩
      · subst z; exact ⟨_, _, h, by intro z; cases z⟩
      · exact ⟨_, _, q', hm⟩
    have a2 : ∃ m' e'', s[k]? = some (some (m', e'')) ∧ m' ≠ .sh := by
      rcases set_get h2 with ⟨z, z2⟩ | ⟨z, q'⟩
      · subst z; exact ⟨_, _, h, by intro z; cases z⟩
      · exact ⟨_, _, q', hn⟩
    obtain ⟨m1, d1, b1, c1⟩ := a1
    obtain ⟨m2, d2, b2, c2⟩ := a2
    exact R.ne j k m1 m2 d1 d2 q b1 c1 b2 c2 g1 g2
theorem Rel.ofRf (R : Rel K (B.by p) s σ H0 H) (h : s[i]? = some (some (.rf, d))) (nr : noRf (s.set i none) = true) (hE : B.hE p = none) : Rel K B (s.set i (some (.ow, d))) σ H0 H := by
  have hi : i < s.length := (List.getElem?_eq_some_iff.mp h).1
  refine ⟨R.tp, R.fr, R.dom, R.z0, R.h0, R.new, by simp [R.len], fun j e' q => ?_, fun j m e' q hm => ?_, fun j k m n e' f q h1 hm h2 hn g1 g2 => ?_⟩
  · rcases set_get q with ⟨_, z⟩ | ⟨_, q'⟩
    · cases z
    · exact R.sh j e' q'
  · rcases set_get q with ⟨z, z2⟩ | ⟨z, q'⟩
    · cases z2
      subst z
      obtain ⟨p', e1, w⟩ := R.ow _ .rf d h (by intro z; cases z)
      have : p' = p := w.rf rfl
      subst this
      exact ⟨p', e1, w.z, w.b, fun _ => hE, fun z => (by cases z), w.ob⟩
    · obtain ⟨p', e1, w⟩ := R.ow j m e' q' hm
      have hne : m ≠ .rf := noRf_inv nr (j := j) (d := e') (by rw [List.getElem?_set_ne (fun x => z x.symm)]; exact q')
      exact ⟨p', e1, w.z, w.b, w.ow, fun z => absurd z hne, w.ob⟩
  · have a1 : ∃ m' e'', s[j]? = some (some (m', e'')) ∧ m' ≠ .sh := by
      rcases set_get h1 with ⟨z, z2⟩ | ⟨z, q'⟩
      · subst z; exact ⟨_, _, h, by intro z; cases z⟩
      · exact ⟨_, _, q', hm⟩
    have a2 : ∃ m' e'', s[k]? = some (some (m', e'')) ∧ m' ≠ .sh := by
      rcases set_get h2 with ⟨z, z2⟩ | ⟨z, q'⟩
      · subst z; exact ⟨_, _, h, by intro z; cases z⟩
      · exact ⟨_, _, q', hn⟩
    obtain ⟨m1, d1, b1, c1⟩ := a1
    obtain ⟨m2, d2, b2, c2⟩ := a2
    exact R.ne j k m1 m2 d1 d2 q b1 c1 b2 c2 g1 g2
end
@[simp] def rfL (s : S) (i : Nat) : Option (List D) := match s[i]? with
  | some (some (.rf, .lst ds)) => some ds
  | _ => none
theorem rfL_inv {s : S} {i : Nat} {ds : List D} (h : rfL s i = some ds) : s[i]? = some (some (.rf, .lst ds)) := by
  unfold rfL at h
  split at h
  · next e => cases h; exact e
  · cases h
def liveD (i : Nat) (g : FG) (fb : FS) : Nat → Nat → S → Option S
  | 0, _, _ => none
  | n + 1, k, s => (rfL s i).bind fun ds => match ds[k]? with
    | none => some s
    | some d => (g d s).bind fun s1 => (fb s1).bind fun o => match o with
      | .nx s2 => liveD i g fb n (k + 1) s2
      | _ => none
@[simp] def owL (s : S) (i : Nat) : Option (List D) := match s[i]? with
  | some (some (.ow, .lst ds)) => some ds
  | _ => none
theorem owL_inv {s : S} {i : Nat} {ds : List D} (h : owL s i = some ds) : s[i]? = some (some (.ow, .lst ds)) := by
  unfold owL at h
  split at h
  · next e => cases h; exact e
  · cases h
/-- for x in y, y a list of one's own -/
def sForL (i : Nat) (g : FG) (fb : FS) : FS := fun s => (owL s i).bind fun ds => if noRf s then (liveD i g fb (ds.length + 1) 0 (s.set i (some (.rf, .lst ds)))).bind fun s2 => (rfL s2 i).bind fun d => if noRf (s2.set i none) then some (.nx (s2.set i (some (.ow, .lst d)))) else none else none
section
variable {X : Cx} {B : Bs} {tg : Expr} {pos pn : Pos} {x : Str} {g : FG} {fs : FS}
theorem is_forL {i : Nat} {body : List Stmt} {ts : List Nat} (hp : PassesOwn (model X.prog X.w) X.A X.env X.xe) (hc : X.calm = true) (hv : PE X (.Name x pn) (tVar i)) (hg : ∀ B, PG X tg (tG X.K B ts g)) (hb : ∀ B, PSs X body (tS X.K B fs)) (hs : ∀ y, foldedSetIterable (.Name x pn) X.env y = pure y := by intro _; rfl) :
    PS X (.For tg (.Name x pn) body [] pos) (tS X.K B (sForL i g fs)) :=
  (ps_for (g := fun v σ H Q => ∃ B, tG X.K B ts g v σ H Q) (tb := fun D σ H => ∃ B, tS X.K B fs D σ H) hp hc (pi_list hv) ⟨fun pins s' σ H' v u Q I r ⟨B, q⟩ => (hg B).run pins s' σ H' v u Q I r q⟩ ⟨fun pins s' σ H' D I ⟨B, q⟩ => (hb B).run pins s' σ H' D I q⟩ hs).pxw fun E σ H q => by
  obtain ⟨s, H0, out, R, ev, k⟩ := q
  obtain ⟨ds, e0, ev0⟩ := bnd ev
  try dsimp only at ev0
  split at ev0
  · next nr =>
    obtain ⟨s3, e3, ev3⟩ := bnd ev0
    obtain ⟨dd, e4, ev4⟩ := bnd ev3
    try dsimp only at ev4
    split at ev4
    · next nr3 =>
      cases ev4
      have h0 := owL_inv e0
      obtain ⟨p, ep, w⟩ := R.ow i .ow _ h0 (by intro z; cases z)
      obtain ⟨o, hpo, xs, rfl, l⟩ := w.ob
      have hE := w.ow rfl
      refine ⟨_, ep, p, rfl, ⟨xs, .of hpo⟩, fun kk m σ H => ∃ s2 H2, Rel X.K (B.by p) s2 σ H2 H ∧ Ex H0 H2 ∧ liveD i g fs m kk s2 = some s3, ⟨ds.length + 1, _, H0, R.toRf h0 ep nr, Ex.refl _, e3⟩, fun kk m σ H hW => ?_⟩
      obtain ⟨s2, H2, R2, x2, hl⟩ := hW
      cases m with
      | zero => cases hl
      | succ m =>
        obtain ⟨es, e5, hl1⟩ := bnd (show (rfL s2 i).bind _ = some s3 from hl)
        have h2 := rfL_inv e5
        obtain ⟨p', ep', w'⟩ := R2.ow i .rf _ h2 (by intro z; cases z)
        have : p' = p := w'.rf rfl
        subst this
        obtain ⟨o', hpo', ys, rfl, l'⟩ := w'.ob
        cases hd : es[kk]? with
        | none =>
          simp only [hd] at hl1
          cases hl1
          refine .inl ⟨⟨ys, .of hpo', by rw [l'.len]; simpa using hd⟩, ?_⟩
          have := rfL_inv e4
          exact k σ H2 H (R2.ofRf this nr3 hE) x2
        | some d =>
          simp only [hd] at hl1
          obtain ⟨s4, e6, hl2⟩ := bnd hl1
          obtain ⟨oo, e7, hl3⟩ := bnd hl2
          obtain ⟨v, gv, rv⟩ := l'.get hd
          refine .inr ⟨⟨ys, v, .of hpo', gv⟩, fun σ' H' => ∃ s2 H2, Rel X.K (B.by p') s2 σ' H2 H' ∧ Ex H0 H2 ∧ liveD i g fs m (kk + 1) s2 = some s3, fun σ' H' hN => ⟨m, Nat.lt_succ_self m, hN⟩, fun y Hy hy => ?_⟩
          obtain ⟨rfl, hy2⟩ := hy
          have := hy2 ys (.of hpo')
          rw [gv] at this; cases this
          refine ⟨B.by p', s2, H2, d, s4, R2, rv, e6, fun σ4 H4 H4' R4 x4 _ => ⟨B.by p', s4, H4, oo, R4, e7, ?_⟩⟩
          cases oo with
          | nx s5 => exact fun σ5 H5 H5' R5 x5 => ⟨s5, H5, R5, x2.trans (x4.trans x5), hl3⟩
          | _ => cases hl3
    · cases ev4
  · cases ev0
end
end Px

set_option Elab.async false
set_option linter.all false
set_option maxRecDepth 100000
set_option maxHeartbeats 1000000
/-! Px12: the text of a pair of whole numbers -/
namespace Px
open PySem PySem.Spec PyProof.Rows L2
theorem ten_hide : ∃ P : Nat, P = 10 ^ 4300 := ⟨_, rfl⟩
section
variable {prog : Program} {w : World} {A : Around} {E : Value → Shared → Prop} {s : Shared}
theorem big_repr {a : Int} {t : Tok} {Q : Value → Shared → Prop} (hn : s.heap.NoDigits) (ha : a.natAbs < 10 ^ 4300) (h : Q (.str (toString a) s.toks) { s with toks := s.toks + 1 }) :
    wpAny (model prog w) A (call (.builtin "int.__repr__") [.int a t]) Q E s := by
  refine wpAny_call (codeAny_call_builtin F.slot_int_repr.plain F.entry_int_repr (F.slot_int_repr.check _ _ _ _ _ _ _ _ (typeIs_int _ a t) (F.args_int_repr_1 _) ?_))
  unfold Builtin.«int.__repr__»
  show wpAny _ _ (do let r ← Builtin.overDigitLimit? a; _) _ _ s
  have fits := int_text_fits10 ha
  obtain ⟨P, hP⟩ := ten_hide
  refine wpAny_bind (overDigitLimit_any hn (fun _ => ?_) (fun hge => ?_))
  · exact wpAny_bind (wpAny_mkStr (wpAny_pure h) fits)
  · rw [← hP] at hge ha; exact absurd ha (Nat.not_lt.mpr hge)
theorem big_reprK {a : Int} {t : Tok} {as : List Addr} {h₀ : Heap} {d : Nat} (hn : h₀.NoDigits) (ha : a.natAbs < 10 ^ 4300) : ReprK prog w as h₀ d (.int a t) (toString a) := by
  intro b hb A g E s Q hg hcl hu hk hQ
  have hb' : b ≤ sizeLine := by omega
  rw [pyReprUnder_leaf (v := .int a t) hb' (fun _ e => nomatch e)]
  unfold pyRepr
  refine wpAny_bind (wpAny_pyReprObj_slot (by omega) (typeIs_int s a t) F.slot_int_repr.toG (big_repr (hn.keeps hk) ha ⟨_, _, rfl, ?_⟩))
  exact wpAny_pure (hQ s.heap _ fun _ _ e => e)
theorem str_pair {a : Addr} {o : Obj} {x y : Int} {tx ty : Tok} {items : Array Value} {n : Nat} {Q : Value → Shared → Prop} (hn : s.heap.NoDigits) (hg : A.guards = some []) (hu : A.units + 20 < cLine)
    (ha : s.heap.get? a = some o) (hc : o.cls = .type "tuple") (hd : o.data = .seq items n) (hi : items.toList = [.int x tx, .int y ty]) (hx : x.natAbs < 10 ^ 4300) (hy : y.natAbs < 10 ^ 4300)
    (hsz : (tupleText [(toString x : String), (toString y : String)]).length ≤ sizeLine)
    (hQ : ∀ h' u tk, (∀ b o, s.heap.get? b = some o → h'.get? b = some o) → Q (.str (tupleText [(toString x : String), (toString y : String)]) u) { s with heap := h', toks := tk }) :
    wpAny (model prog w) A (call (.type "str") [.ref a]) Q E s := by
  have all : ∀ prog w, ReprAllK prog w [] s.heap 1 items.toList [(toString x : String), (toString y : String)] := fun prog w => by
    rw [hi]; exact .cons (big_reprK hn hx) (.cons (big_reprK hn hy) .nil)
  refine callType_new F.called_str (by decide) (F.typeCall_str_1 _) (F.newCall_str_1 _) (fun obj => F.args_object_init_2 obj _) F.entry_str_new
    (meets_str_new (S := fun A' R s' => A'.guards = some [] ∧ A'.units + 10 < cLine ∧ (∀ b o, s.heap.get? b = some o → s'.heap.get? b = some o) ∧
        ∀ h' u tk, (∀ b o, s'.heap.get? b = some o → h'.get? b = some o) → R (.ok (.ret (.str (tupleText [(toString x : String), (toString y : String)]) u))) { s' with heap := h', toks := tk })
      fun prog' w' A' R s' hh => ?_) ?_
  · obtain ⟨h1, h2, h3, h4⟩ := hh
    exact wpAny_strOf_slot rfl (by show A'.units + 1 + 1 < cLine; omega) ⟨o, h3 _ _ ha, hc⟩ F.slot_tuple_str F.slot_tuple_repr
      (call_tuple_reprK ha hc hd (by simp) (all prog' w') (g := []) h1 (fun b _ => Clear.nil b) (by show A'.units + 1 + 1 + (1 + 1) < cLine; omega) h3 (fun h' u tk hk => ⟨_, _, rfl, h4 h' u tk hk⟩) hsz)
  · exact ⟨hg, by show A.units + 1 + 10 < cLine; omega, fun _ _ e => e, fun h' u tk hk => ⟨typeIs_str _ _ _, hQ h' u tk hk⟩⟩
end
def txt2 (i j : Int) : Str := tupleText [(toString i : String), (toString j : String)]
theorem txt2_len {i j : Int} (hi : i.natAbs < 10 ^ 4300) (hj : j.natAbs < 10 ^ 4300) : (txt2 i j).length ≤ 9000 := by
  have h1 := int_text_length_le10 (k := 4300) (by decide) hi
  have h2 := int_text_length_le10 (k := 4300) (by decide) hj
  have h3 := fmt_text [(toString i : String), (toString j : String)]
  rw [piled_cons, piled_cons, piled_nil, PySem.ofString_length, PySem.ofString_length] at h3
  clear hi hj
  unfold txt2
  omega
section
variable {X : Cx} {B : Bs} {a : Expr} {pos p : Pos} {pa : FP} {K : PySem.W.Frag}
theorem call_str2 (hg : X.A.guards = some []) (hn : X.base.NoDigits) (hu : X.A.units + 20 < cLine) : CallR X (.type "str") (fun xs H Q => ∃ p i j, xs = [.ref p] ∧ SqT X.K H p [.int i, .int j] ∧ i.natAbs < 10 ^ 4300 ∧ j.natAbs < 10 ^ 4300 ∧ Q (.str (txt2 i j)) H) := by
  intro pins s σ H xs us Q I r h
  obtain ⟨q, i, j, rfl, hs, hi, hj, hq⟩ := h
  obtain ⟨u, rfl, ru⟩ := vals1 r
  cases ru
  obtain ⟨its, r2, ⟨o, e1, e2, n, e3⟩, _⟩ := I.tuple hs
  obtain ⟨u1, u2, rfl, ⟨t1, rfl⟩, ⟨t2, rfl⟩⟩ := vals2 r2
  have hl := txt2_len hi hj
  refine str_pair (hn.keeps I.bk) hg hu e1 e2 e3 rfl hi hj (Nat.le_trans hl (by decide)) fun h' u tk k => ⟨.str (txt2 i j), H, I.kept k, ⟨_, rfl⟩, hq⟩
def cTen (i : Int) : Bool := decide (i.natAbs < 10 ^ 4300)
@[simp] def gStr : D → Option D
  | .tup [.int i, .int j] => if cTen i && cTen j then some (.str (txt2 i j)) else none
  | _ => none
theorem cap_str : CaP K (fun xs H Q => ∃ p i j, xs = [.ref p] ∧ SqT K H p [.int i, .int j] ∧ i.natAbs < 10 ^ 4300 ∧ j.natAbs < 10 ^ 4300 ∧ Q (.str (txt2 i j)) H) gStr := .flat fun B s σ H0 H q d d' x R r1 g1 e => by
  unfold gStr at e
  split at e
  · next i j =>
    split at e
    · next hc =>
      cases e
      rw [Bool.and_eq_true] at hc
      obtain ⟨a, xs, rfl, l, h⟩ := rep_tup_sq (r1.frozen R g1 (fun o z => z))
      simp only [RepL] at l
      obtain ⟨x1, l1, rfl, z1, x2, l2, rfl, z2, rfl⟩ := l
      cases rep_int z1
      cases rep_int z2
      exact ⟨.str (txt2 i j), fun _ => by simp only [Rep], fun Q z => ⟨a, i, j, rfl, R.h0.sqT h, of_decide_eq_true hc.1, of_decide_eq_true hc.2, z⟩⟩
    · cases e
  · cases e
theorem ie_strp (hgd : X.A.guards = some []) (hn : X.base.NoDigits) (hu : X.A.units + 20 < cLine) (hg : Gl X "str") (hm : X.mg "str" = none) (ha : PE X a (tP X.K B pa)) (he : starEach [a] X.env = (false, eval a X.env) :: starEach [] X.env := by rfl) (hpl : (backTo pos (starEach [] X.env)).any (·.1) = false := by rfl) :
    PE X (.Call (.Name "str" p) [a] [] pos) (tF X.K B (eB1 gStr pa)) := ie_b1 (pe_callTy (call_str2 hgd hn hu) hg hm PySem.Pv.boot_str (pa_cons ha pa_nil he) (by decide) (by decide) he hpl) cap_str
end
/-! ### defs that rest on what is under way (no text of a tuple is) -/
structure FnG (P : Program) (w : World) (K : PySem.W.Frag) (mg : Str → Option Value) (base : Heap) (k : Nat) (f : Addr) (fd : FuncData) (ps : List Str) (sp : Sp) : Prop where
  many : ∀ vs H Q E, sp vs H Q E → vs.length = ps.length
  goes : ∀ {A : Around} {outer : List Env} {s : Shared} {H : Hp} {args : Args} {us : List Value} {vs : List V} {Q : VK} {E : XK}, A.guards = some [] → Room k A → Env0 P w K mg base A outer s H → BindsTo s fd args (ps.zip us) → Vals vs us → sp vs H Q E →
    codeAny (model P w) A (.call (.ref f) args) (CR CX0 outer P w H s Q E) s
section
variable {P : Program} {w : World} {K : PySem.W.Frag} {mg : Str → Option Value} {base : Heap}
theorem Fun.okG {x qual : Str} {st : Stmt} {f : Addr} {fd : FuncData} {N ps : List Str} {k : Nat} {sp : Sp} (F : Fun K x qual st f fd) (S : FnScope N ps (defScope st)) (many : ∀ vs H Q E, sp vs H Q E → vs.length = ps.length)
    (body : ∀ (cdv : Value) (A : Around) (outer : List Env) (s : Shared) (H : Hp) (vs : List V) (Q : VK) (E : XK), A.guards = some [] → Room k (A.deeper (envOfC qual (defScope st) s.heap.objs.size f cdv)) → sp vs H Q E →
      ∃ t, PSs (cxOf CX0 P w K mg base N qual (defScope st) f cdv A outer s H E).nox (defBody st) t ∧ t { nx := fun _ H' => Q .non H', rt := Q } (start N vs) H) : FnG P w K mg base (k + 1) f fd ps sp := by
  obtain ⟨oc, od, kV, doc, pm, an, cdv, ct, osl, e, lk, hcd⟩ := F.ex
  subst e
  refine ⟨many, fun {A outer s H args us vs Q E} hgd hr e0 hb r hsp => ?_⟩
  have kept : ∀ b o, base.get? b = some o → s.heap.get? b = some o := fun b o e => (e0.bs b o e).1
  have inK := e0.mod.kin.keeps kept
  have inL := e0.mod.nolimit.keeps kept
  refine codeAny_call_function hr.depth (inK _ _ lk) rfl S.co S.gen rfl (PySem.W.codeRec_of inK hcd) (hb _ _ _ _ (wpAny_newFunctionEnv_cells S.kind (fun y hy => ?_) fun env he s1 x => ?_))
  · exact (S.par y.1 (List.of_mem_zip (a := y.1) (b := y.2) hy).1).elim .inl fun q => .inr ⟨q, PySem.W.cellsFrom_some _ _ _ (.inl q)⟩
  subst he
  obtain ⟨t, ht, hq⟩ := body cdv A outer s H vs Q E hgd (hr.deeper _) hsp
  refine ⟨inL.keeps x.toInCall.keep, codeAny_func (wpAny_mono (ht.nox.run [] s1 (start N vs) H _ (inv_start S hr.hd e0 (many _ _ _ _ hsp) r x) hq) (fun fl s' hs => ?_) fun e s' hs => hs)⟩
  match fl, hs with
  | .ret u, ⟨v, σ', H', J, rv, q⟩ => exact ⟨v, H', J.os, J.bare, J.base, J.hok, rv, q⟩
  | .next, ⟨σ', H', J, q⟩ => exact ⟨.non, H', J.os, J.bare, J.base, J.hok, rfl, q⟩
  | .brk, ⟨_, _, _, q⟩ => exact q.elim
  | .cont, ⟨_, _, _, q⟩ => exact q.elim
def HasG (P : Program) (w : World) (K : PySem.W.Frag) (mg : Str → Option Value) (base : Heap) (k : Nat) (x : Str) (sp : Sp) : Prop :=
  ∃ f fd ps, FnG P w K mg base k f fd ps sp ∧ mg x = some (.ref f) ∧ PySem.W.keepIn K (.ref f) = true ∧ Binds K fd ps []
end
section
variable {X : Cx} {B : Bs} {e : Expr} {es : List Expr} {pos p : Pos} {ga : FA} {x y : Str} {k n : Nat}
theorem pe_fnG {sp : Sp} {t : TA} (hgd : X.A.guards = some []) (h : HasG X.prog X.w X.K X.mg X.base k x sp) (hr : Room k X.A) (hg : Gl X x) (ha : PA X (e :: es) t) (hdb : (x == ("__debug__" : Str)) = false := by decide)
    (he : starEach (e :: es) X.env = (false, eval e X.env) :: starEach es X.env := by rfl) (hpl : (backTo pos (starEach es X.env)).any (·.1) = false := by rfl) : PE X (.Call (.Name x p) (e :: es) [] pos) (fun σ H Q => t σ H fun vs H1 => sp vs H1 Q E0) := by
  obtain ⟨f, fd, ps, F, hm, hk, hb⟩ := h
  constructor
  intro pins s σ H Q I q0
  have arg := ha.run pos pins s σ H _ I q0
  refine wpAny_Call_Name_kw (ld_glob I hg hm (PySem.W.callWith_K (h₀ := X.base) I.ok.mod.kin hk (thn arg ?_) he hpl) hdb)
  rintro us s1 ⟨vs, H1, J, r, q⟩
  have many := F.many _ _ _ _ q
  have bnd1 := hb s1 us J.kIn (by rw [List.append_nil, ← r.length]; exact many)
  rw [List.append_nil] at bnd1
  refine ⟨J.kIn, wpAny_call (codeAny_mono (F.goes (args := ⟨us, []⟩) hgd hr J.env0 bnd1 r q) fun res s' hq => ?_)⟩
  match res, hq with
  | .ok (.ret u), hq => exact J.after hq
  | .ok .next, hq => exact False.elim hq
  | .ok .brk, hq => exact False.elim hq
  | .ok .cont, hq => exact False.elim hq
  | .error e, hq => exact (pass0 (X := X)) pins σ H1 s1 e s' J hq
end
end Px

set_option Elab.async false
set_option linter.all false
set_option maxRecDepth 100000
set_option maxHeartbeats 1000000
/-! Px13: defs that rest on what is under way: calls, entries, the head -/
namespace Px
open PySem PySem.Spec PyProof.Rows L2
section
variable {X : Cx} {B : Bs} {e : Expr} {es : List Expr} {pos p : Pos} {ga : FA} {x y : Str} {k n : Nat}
theorem ie_callBG {G : FnB} {i : Nat} {pn : Pos} (hgd : X.A.guards = some []) (h : HasG X.prog X.w X.K X.mg X.base k x (spB X.K n G)) (hr : Room k X.A) (hg : Gl X x) (hv : PE X (.Name y pn) (tVar i)) (ha : PA X es (tA X.K B ga)) (hla : ∀ s r s', ga s = some (r, s') → r.length = n) (hdb : (x == ("__debug__" : Str)) = false := by decide)
    (he : starEach (.Name y pn :: es) X.env = (false, eval (.Name y pn) X.env) :: starEach es X.env := by rfl) (hpl : (backTo pos (starEach es X.env)).any (·.1) = false := by rfl) : PE X (.Call (.Name x p) (.Name y pn :: es) [] pos) (tF X.K B (eCallB G i ga)) := (pe_fnG hgd h hr hg (pa_cons hv ha he) hdb he hpl).pxw fun σ H Q q => by
  obtain ⟨s, H0, d, s', R, ev, k⟩ := q
  obtain ⟨⟨m', d'⟩, e0, ev0⟩ := bnd ev
  obtain ⟨⟨ds, s1⟩, e1, ev1⟩ := bnd ev0
  obtain ⟨⟨m, d0⟩, e2, ev2⟩ := bnd ev1
  obtain ⟨⟨o, d2, d1⟩, e3, ev3⟩ := bnd ev2
  cases ev3
  obtain ⟨h0, hm0⟩ := ownAt_inv e0
  obtain ⟨h1, hm⟩ := ownAt_inv e2
  obtain ⟨q, ep, _⟩ := R.ow i m' d' h0 hm0
  refine ⟨_, ep, s, H0, ds, s1, R, e1, fun vs H1 H' R1 x1 r1 => ?_⟩
  obtain ⟨q', ep', w⟩ := R1.ow i m d0 h1 hm
  rw [ep] at ep'; cases ep'
  obtain ⟨c, hc, hcc⟩ := w.ob
  refine ⟨q, vs, H1, c, d0, ds, o, _, d1, rfl, by rw [r1.len]; exact hla _ _ _ e1, R1.h0, w.z, hc, hcc, r1, e3, fun v H2 H2' c' y1 y2 y3 yq y4 y5 y6 r2 => ?_⟩
  have R2 := R1.callB h1 hm ep y1 y2 y3 yq y4 y5 y6
  unfold Res at r2
  split at r2
  · obtain ⟨t, u, rfl, z1, z2, z3, z4⟩ := r2
    have w2 : OwnAt X.K B (s1.set i (some (m, d1))) σ H2 H2' t _ := ⟨z2, R1.dom t z1, R1.fr.back z1, ⟨u, z3, z4⟩, fun j m2 e' hj hm2 zz => by
      have : ∃ y, s1[j]? = some (some (m2, y)) := by
        rcases set_get hj with ⟨rfl, z⟩ | ⟨_, hj'⟩
        · cases z; exact ⟨d0, h1⟩
        · exact ⟨e', hj'⟩
      obtain ⟨y, hj'⟩ := this
      obtain ⟨q2, ev2, w2⟩ := R1.ow j m2 y hj' hm2
      rw [ev2] at zz; cases zz
      obtain ⟨o2, ho2, _⟩ := w2.ob
      rw [z1] at ho2; cases ho2⟩
    obtain ⟨H3, R3, x3, r3⟩ := R2.freeze w2
    exact k _ H3 H2' R3 ((x1.trans y2).trans x3) r3
  · exact k v H2 H2' R2 (x1.trans y2) r2

end
section
variable {P : Program} {w : World} {K : PySem.W.Frag} {mg : Str → Option Value} {base : Heap}
theorem fn_okFG {x qual : Str} {st : Stmt} {f : Addr} {fd : FuncData} {N ps : List Str} {k : Nat} {fs : FS} (F : Fun K x qual st f fd) (S : FnScope N ps (defScope st))
    (hb : ∀ (cdv : Value) (A : Around) (outer : List Env) (s : Shared) (H : Hp) (E : XK) (B : Bs), A.guards = some [] → Room k (A.deeper (PyProof.Rows.envOfC qual (defScope st) s.heap.objs.size f cdv)) →
      PSs (cxOf CX0 P w K mg base N qual (defScope st) f cdv A outer s H E).nox (defBody st) (tS K B fs)) : FnG P w K mg base (k + 1) f fd ps (spF K ps.length (runF N.length fs)) := by
  refine Fun.okG F S (fun vs H Q E h => ?_) fun cdv A outer s H vs Q E hgd hr h => ?_
  · obtain ⟨_, _, _, _, hl, _⟩ := h; exact hl
  · obtain ⟨H0, ds, o, d, hl, e, r, hG, k⟩ := h
    refine ⟨_, hb cdv A outer s H E ⟨H, H, H0, 0⟩ hgd hr, init N.length ds, H0, ?_⟩
    obtain ⟨out, e1, e2⟩ := bnd hG
    refine ⟨out, rel_init e r N rfl, e1, ?_⟩
    cases out with
    | nx s' =>
      cases e2
      exact fun σ' H1 H' R1 x1 => k .non H1 H' R1.fr x1 R1.h0 R1.new (iteF (by simp only [Rep]))
    | ret oo dd s' =>
      cases e2
      refine fun v σ' H1 H' R1 x1 r1 => k v H1 H' R1.fr x1 R1.h0 R1.new ?_
      cases o with
      | true => obtain ⟨q, rfl, w⟩ := r1; obtain ⟨u, hu, hc⟩ := w.ob; exact ⟨q, u, rfl, w.e, w.z, hu, hc⟩
      | false => exact r1
    | bk s' => cases e2
    | ct s' => cases e2
theorem fn_okBG {x qual : Str} {st : Stmt} {f : Addr} {fd : FuncData} {N ps : List Str} {k n : Nat} {fs : FS} (F : Fun K x qual st f fd) (S : FnScope N ps (defScope st)) (hn : ps.length = n + 1)
    (hb : ∀ (cdv : Value) (A : Around) (outer : List Env) (s : Shared) (H : Hp) (E : XK) (B : Bs), A.guards = some [] → Room k (A.deeper (PyProof.Rows.envOfC qual (defScope st) s.heap.objs.size f cdv)) →
      PSs (cxOf CX0 P w K mg base N qual (defScope st) f cdv A outer s H E).nox (defBody st) (tS K B fs)) : FnG P w K mg base (k + 1) f fd ps (spB K n (runB N.length fs)) := by
  refine Fun.okG F S (fun vs H Q E h => ?_) fun cdv A outer s H vs Q E hgd hr h => ?_
  · obtain ⟨q, ws, _, _, _, _, _, _, _, rfl, hl, _⟩ := h; rw [List.length_cons, hl, hn]
  · obtain ⟨q, ws, H0, c, d0, ds, o, d, d1, rfl, hl, e, hq, hc, cc, r, hG, k⟩ := h
    refine ⟨_, hb cdv A outer s H E ⟨H, hole H q, H0, q⟩ hgd hr, initB N.length d0 ds, H0, ?_⟩
    obtain ⟨out, e1, e2⟩ := bnd hG
    refine ⟨out, rel_initB e hq hc cc r N rfl, e1, ?_⟩
    have fin : ∀ {s' : Px.S} {dd : D}, s'[0]? = some (some (.rf, dd)) → ∀ {σ' H1 H'}, Rel K ⟨H, hole H q, H0, q⟩ s' σ' H1 H' → Ex H0 H1 → ∃ c', (∀ b u, b ≠ q → H b = some u → H' b = some u) ∧ H1 q = none ∧ H' q = some c' ∧ Cell K H1 c' dd := fun {s' dd} h0 {σ' H1 H'} R1 x1 => by
      obtain ⟨p, ep, w⟩ := R1.ow 0 .rf dd h0 (by decide)
      have : p = q := w.rf rfl
      subst this
      obtain ⟨c', hc', cc'⟩ := w.ob
      exact ⟨c', fun b u nb hb' => R1.fr b u (show hole H p b = some u by rw [hole_ne nb]; exact hb'), w.z, hc', cc'⟩
    cases out with
    | nx s' =>
      dsimp only at e2
      split at e2
      · next dd h0 =>
        cases e2
        exact fun σ' H1 H' R1 x1 => by
          obtain ⟨c', g1, g2, g3, g4⟩ := fin h0 R1 x1
          exact k .non H1 H' c' g1 x1 R1.h0 g2 R1.new g3 g4 (iteF (by simp only [Rep]))
      · cases e2
    | ret oo dd' s' =>
      dsimp only at e2
      split at e2
      · next dd h0 =>
        cases e2
        refine fun v σ' H1 H' R1 x1 r1 => ?_
        obtain ⟨c', g1, g2, g3, g4⟩ := fin h0 R1 x1
        refine k v H1 H' c' g1 x1 R1.h0 g2 R1.new g3 g4 ?_
        cases o with
        | true => obtain ⟨t, rfl, w⟩ := r1; obtain ⟨u, hu, hc⟩ := w.ob; exact ⟨t, u, rfl, w.e, w.z, hu, hc⟩
        | false => exact r1
      · cases e2
    | bk s' => cases e2
    | ct s' => cases e2
end
/-- the script alone is tracked, if it is none of the module's own objects -/
def scrH (K : PySem.W.Frag) (a : Addr) (ob : Obj) (ns : List Int) : Hp := fun b => if K.lookup a = none ∧ b = a then some (.frz ob (.lst (ns.map V.int))) else none
theorem scrH_inv {K : PySem.W.Frag} {a b : Addr} {ob : Obj} {ns : List Int} {u : HO} (h : scrH K a ob ns b = some u) : K.lookup a = none ∧ b = a ∧ u = .frz ob (.lst (ns.map V.int)) := by
  unfold scrH at h
  split at h
  · next q => cases h; exact ⟨q.1, q.2, rfl⟩
  · cases h
theorem head_G {P : Program} {w : World} {K : PySem.W.Frag} {mg mb : Str → Option Value} {k : Nat} {fa a : Addr} {fd : FuncData} {x : Str} {sp : Sp} {s₁ : Shared} {vs : List Value} {ns : List Int}
    (KX : K.In s₁.heap) (hns : s₁.heap.Ns mainGlobals mg) (hb : s₁.heap.Ns builtinsNs mb) (hbb : ∀ x : Str, x ≠ "__name__" → mb x = bootBuiltins x) (hlim : s₁.heap.NoLimit) (hdig : s₁.heap.NoDigits) (hg : s₁.gens = #[])
    (ha : s₁.heap.get? a = some { cls := .type "list", data := .seq vs.toArray }) (hi : IntsAre vs ns) (hl : ns.length ≤ sizeLine) (hr : Room k callerA)
    (F : ∀ base : Heap, K.In base → base.Ns mainGlobals mg → base.NoDigits → FnG P w K mg base k fa fd [x] sp) (hbind : ∀ (s : Shared) (u : Value), BindsTo s fd ⟨[u], []⟩ [(x, u)])
    (hsp : ∀ H : Hp, SqL K H a (ns.map V.int) → sp [.ref a] H (fun v _ => v = .bl true) fun _ _ _ => False) :
    codeAny (model P w) callerA (.call (.ref fa) ⟨[.ref a], []⟩) (fun r s' => r = .ok (.ret (.bool true)) ∧ OldK s₁.heap s'.heap ∧ s'.os = s₁.os ∧ AllBare s'.gens) s₁ := by
  obtain ⟨ob, hob⟩ : ∃ ob : Obj, ob = { cls := .type "list", data := .seq vs.toArray } := ⟨_, rfl⟩
  rw [← hob] at ha
  obtain ⟨H, hH⟩ : ∃ H, H = scrH K a ob ns := ⟨_, rfl⟩
  have inv : ∀ {b u}, H b = some u → K.lookup a = none ∧ b = a ∧ u = .frz ob (.lst (ns.map V.int)) := fun h => scrH_inv (hH ▸ h)
  have rv := vals_ints hi
  have lenV := hi.length
  have obd : ob.data = .seq vs.toArray 0 := by rw [hob]
  have sq : SqL K H a (ns.map V.int) := by
    cases hk : K.lookup a with
    | some o =>
      have e := KX a o hk
      rw [ha] at e
      cases e
      exact .inr ⟨_, vs.toArray, _, hk, by rw [hob], by rw [hob], by rw [hob], by rw [List.size_toArray, lenV]; exact hl, by simpa using rv⟩
    | none =>
      refine .inl (.inr ⟨ob, ?_⟩)
      rw [hH]; unfold scrH; rw [if_pos ⟨hk, rfl⟩]
  have hok : HOk P w H s₁.heap := fun b u z => by
    obtain ⟨_, rfl, rfl⟩ := inv z
    exact ⟨ha, by rw [List.length_map]; exact hl, vs, _, rv, by rw [ha, hob]⟩
  have free : ∀ {b : Addr} {o : Obj} {es : Array DictEntry} {n : Nat}, s₁.heap.get? b = some o → o.data = .dict es n → H b = none := fun {b o es n} e d => by
    cases q : H b with
    | none => rfl
    | some u =>
      obtain ⟨_, rfl, _⟩ := inv q
      rw [ha] at e; cases e
      rw [obd] at d; cases d
  have nsB : ∀ {b : Addr} {m : Str → Option Value}, s₁.heap.Ns b m → (hidT s₁.heap H).Ns b m := fun {b m} ⟨o, es, n, e, d, r⟩ => ⟨o, es, n, hidT_get e (free e d), d, r⟩
  have inB : K.In (hidT s₁.heap H) := fun b o e => hidT_get (KX b o e) (by
    cases q : H b with
    | none => rfl
    | some u => obtain ⟨z, rfl, _⟩ := inv q; rw [z] at e; cases e)
  have mo : Mod K mg (hidT s₁.heap H) := ⟨inB, nsB hns, ⟨mb, nsB hb, hbb⟩, by obtain ⟨mc, h1, h2⟩ := hlim; exact ⟨mc, nsB h1, h2⟩⟩
  have dg : (hidT s₁.heap H).NoDigits := by obtain ⟨mc, h1, h2⟩ := hdig; exact ⟨mc, nsB h1, h2⟩
  have env : Env0 P w K mg (hidT s₁.heap H) callerA [] s₁ H := ⟨rfl, mo, fun b o e => of_hidT e, Nat.le_of_eq (hidT_size _ _), trivial, fun b z => absurd z (List.not_mem_nil), hok, .of_eq hg⟩
  refine codeAny_mono ((F _ inB (nsB hns) dg).goes (args := ⟨[.ref a], []⟩) (us := [.ref a]) (vs := [.ref a]) (A := callerA) rfl hr env (hbind s₁ (.ref a)) (.cons rfl .nil) (hsp H sq)) fun r s' h => ?_
  match r, h with
  | .error e, h => exact h.elim
  | .ok .next, h => exact False.elim h
  | .ok .brk, h => exact False.elim h
  | .ok .cont, h => exact False.elim h
  | .ok (.ret u), ⟨v, H', os, bare, un, hok', r', q⟩ =>
    have q' : v = .bl true := q
    subst q'
    obtain rfl : u = Value.bool true := r'
    refine ⟨rfl, OldK.of_keep fun b o e => ?_, os, bare⟩
    cases q : H b with
    | none => exact un.keep b o e q (fun z => absurd z List.not_mem_nil) (fun z => absurd z List.not_mem_nil)
    | some u =>
      obtain ⟨_, rfl, rfl⟩ := inv q
      obtain ⟨e2, _⟩ := hok' b _ (un.frzs b ob _ q)
      rw [ha] at e; cases e
      exact e2
theorem walk_G {l : PySem.W.OpenLaw} {n k : Nat} {q : Program} {loose : List Str} {XP : (Str → Option Value) → Heap → Prop} {YP : World → Heap → Prop} {d : DefRec} {K : Params → PySem.W.Frag} {sp : World → Sp} {x : Str}
    (hn : l.most = some n) (hn2 : n ≤ sizeLine) (hdf : d.params.defaults = []) (hr : Room k callerA)
    (hY : ∀ (w : World) (h : Heap), YP w h → (K w.params).In h)
    (F : ∀ (w : World) (mg : Str → Option Value) (fa : Addr) (h : Heap), (K w.params).In h → h.Ns mainGlobals mg → mg d.name = some (.ref fa) →
      ∃ fd : FuncData, (∀ (s : Shared) (u : Value), BindsTo s fd ⟨[u], []⟩ [(x, u)]) ∧ ∀ base : Heap, (K w.params).In base → base.Ns mainGlobals mg → base.NoDigits → FnG l.prog w (K w.params) mg base k fa fd [x] (sp w))
    (hsp : ∀ (w : World) (H : Hp) (a : Addr) (ns : List Int), ns.length ≤ n → SqL (K w.params) H a (ns.map V.int) → sp w [.ref a] H (fun v _ => v = .bl true) fun _ _ _ => False) :
    PySem.W.WalkO q loose XP YP l.row.toRowW d [] (fun f vs => PySem.call f vs) :=
  Att.attach_call hn hdf fun w s₀ s₁ mg mb fa o pm cd doc a vs ns gr Y ho hd hcd hmg hobj hints hlen hg =>
    let ⟨fd, hb, hF⟩ := F w mg fa _ (hY w _ Y) gr.T.g hmg
    head_G (hY w _ Y) gr.T.g gr.T.b gr.T.builtins gr.T.nolimit gr.T.nodigits hg hobj hints (Nat.le_trans hlen hn2) hr hF hb fun H hS => hsp w H a ns hlen hS
end Px
namespace Px
open PySem L2
theorem hu20_of {A : Around} {k : Nat} (hr : Room k A) : A.units + 20 < cLine := by have := hr.units; omega
end Px

set_option Elab.async false
set_option linter.all false
set_option maxRecDepth 100000
set_option maxHeartbeats 1000000
/-! Px14: for x in d, d a dict: the dict is locked while it is walked -/
namespace Px
open PySem L2
def keyD : Key → D
  | .inl i => .int i
  | .inr x => .str x
/-- the object at d exchanged -/
def sw (d : Addr) (n : HO) (G : Hp) : Hp := fun b => if b = d then (G d).map (fun _ => n) else G b
section
variable {d a b : Addr} {n m : HO} {G G' : Hp} {K : PySem.W.Frag}
theorem sw_ne (h : b ≠ d) : sw d n G b = G b := by unfold sw; rw [if_neg h]
theorem sw_at : sw d n G d = (G d).map (fun _ => n) := by unfold sw; rw [if_pos rfl]
theorem sw_some (h : G d = some m) : sw d n G d = some n := by rw [sw_at, h]; rfl
theorem sw_none : sw d n G b = none ↔ G b = none := by
  by_cases h : b = d
  · subst h; rw [sw_at]; cases G b <;> simp
  · rw [sw_ne h]
theorem sw_upd (h : G d = some m) : sw d n G = upd G d n := by
  funext b
  by_cases hb : b = d
  · subst hb; rw [sw_some h, upd_same]
  · rw [sw_ne hb, upd_ne hb]
def Two (d : Addr) (m : HO) (G : Hp) : Prop := G d = none ∨ G d = some m
theorem Two.of {H : Hp} (e : Ex G H) (h : H d = some m) : Two d m G := by
  cases q : G d with
  | none => exact .inl q
  | some u => have := e d u q; rw [h] at this; cases this; exact .inr q
theorem sw_back (h : Two d m G) : sw d m (sw d n G) = G := by
  funext b
  by_cases hb : b = d
  · subst hb
    rw [sw_at, sw_at]
    rcases h with h | h <;> rw [h] <;> rfl
  · rw [sw_ne hb, sw_ne hb]
theorem sw_ex (e : Ex G G') (h : Two d m G') : Ex (sw d n G) (sw d n G') := fun b u q => by
  by_cases hb : b = d
  · subst hb
    rw [sw_at] at q ⊢
    cases z : G b with
    | none => rw [z] at q; cases q
    | some v => rw [z] at q; rw [e b v z]; exact q
  · rw [sw_ne hb] at q ⊢; exact e b u q
/-- n reads as m does -/
structure Alike (kvs : List (Key × V)) (m n : HO) : Prop where
  m1 : m = .dK kvs ∨ ∃ o, m = .frz o (.dK kvs)
  n1 : n = .dK kvs ∨ ∃ o, n = .frz o (.dK kvs)
theorem Alike.rd {kvs : List (Key × V)} (al : Alike kvs m n) (h : Two d m G) {u : HO} (nf : ∀ o v, u ≠ .frz o v) (r : Rd G a u) : Rd (sw d n G) a u := by
  by_cases z : a = d
  · subst z
    have hm : G a = some m := by
      rcases h with h | h
      · rcases r with r | ⟨o, r⟩ <;> rw [h] at r <;> cases r
      · exact h
    have hu : u = .dK kvs := by
      rcases al.m1 with e | ⟨o', e⟩
      · rcases r with r | ⟨o, r⟩
        · rw [hm, e] at r; cases r; rfl
        · rw [hm, e] at r; cases r
      · rcases r with r | ⟨o, r⟩
        · rw [hm, e] at r; cases r
          exact absurd rfl (nf _ _)
        · rw [hm, e] at r; cases r; rfl
    subst hu
    rcases al.n1 with e | ⟨o', e⟩
    · exact .inl (by rw [sw_some hm, e])
    · exact .inr ⟨o', by rw [sw_some hm, e]⟩
  · rcases r with r | ⟨o, r⟩
    · exact .inl (by rw [sw_ne z]; exact r)
    · exact .inr ⟨o, by rw [sw_ne z]; exact r⟩
theorem Alike.ne {kvs : List (Key × V)} (al : Alike kvs m n) (h : Two d m G) {u : HO} (r : G a = some u) (hu : ∀ z, u ≠ .dK z) (hf : ∀ o v, u ≠ .frz o v) : sw d n G a = some u := by
  have z : a ≠ d := fun z => by
    subst z
    rcases h with h | h
    · rw [h] at r; cases r
    · rw [h] at r
      cases r
      rcases al.m1 with e | ⟨o, e⟩
      · exact hu _ e
      · exact hf _ _ e
  rw [sw_ne z]; exact r
theorem Alike.sqT {kvs : List (Key × V)} (al : Alike kvs m n) (h : Two d m G) {xs : List V} (r : SqT K G a xs) : SqT K (sw d n G) a xs := by
  rcases r with r | r
  · exact .inl (al.rd h (fun _ _ z => nomatch z) r)
  · exact .inr r
theorem Alike.sqL {kvs : List (Key × V)} (al : Alike kvs m n) (h : Two d m G) {xs : List V} (r : SqL K G a xs) : SqL K (sw d n G) a xs := by
  rcases r with r | r
  · exact .inl (al.rd h (fun _ _ z => nomatch z) r)
  · exact .inr r
mutual
theorem Alike.rep {kvs : List (Key × V)} (al : Alike kvs m n) (h : Two d m G) : ∀ (e : D) (v : V), Rep K G e v → Rep K (sw d n G) e v
  | .non, v, r => by simpa only [Rep] using r
  | .bl _, v, r => by simpa only [Rep] using r
  | .int _, v, r => by simpa only [Rep] using r
  | .str _, v, r => by simpa only [Rep] using r
  | .tup ds, v, r => by
    simp only [Rep] at r ⊢
    obtain ⟨a, xs, e1, l, q⟩ := r
    refine ⟨a, xs, e1, Alike.repL al h ds xs l, ?_⟩
    rcases q with q | ⟨q, q2⟩
    · exact .inl (al.ne h q (fun _ z => nomatch z) (fun _ _ z => nomatch z))
    · exact .inr ⟨al.sqT h q, q2⟩
  | .lst ds, v, r => by
    simp only [Rep] at r ⊢
    obtain ⟨a, xs, e1, l, q⟩ := r
    exact ⟨a, xs, e1, Alike.repL al h ds xs l, al.ne h q (fun _ z => nomatch z) (fun _ _ z => nomatch z)⟩
  | .dK ks ds, v, r => by
    simp only [Rep] at r ⊢
    obtain ⟨a, xs, e1, l, hl, q⟩ := r
    exact ⟨a, xs, e1, Alike.repL al h ds xs l, hl, al.rd h (fun _ _ z => nomatch z) q⟩
  | .dT ks ds, v, r => by
    simp only [Rep] at r ⊢
    obtain ⟨a, xs, e1, l, hl, q⟩ := r
    exact ⟨a, xs, e1, Alike.repL al h ds xs l, hl, al.rd h (fun _ _ z => nomatch z) q⟩
  | .scr ns, v, r => by
    simp only [Rep] at r ⊢
    obtain ⟨a, e1, q⟩ := r
    exact ⟨a, e1, al.sqL h q⟩
theorem Alike.repL {kvs : List (Key × V)} (al : Alike kvs m n) (h : Two d m G) : ∀ (ds : List D) (xs : List V), RepL K G ds xs → RepL K (sw d n G) ds xs
  | [], xs, r => by simpa only [RepL] using r
  | e :: ds, xs, r => by
    simp only [RepL] at r ⊢
    obtain ⟨x, r', e1, r1, r2⟩ := r
    exact ⟨x, r', e1, Alike.rep al h e x r1, Alike.repL al h ds r' r2⟩
end
theorem Alike.cell {kvs : List (Key × V)} (al : Alike kvs m n) (h : Two d m G) {o : HO} {e : D} (c : Cell K G o e) : Cell K (sw d n G) o e := by
  cases e <;> try exact c
  · obtain ⟨xs, e1, r⟩ := c; exact ⟨xs, e1, al.repL h _ _ r⟩
  · obtain ⟨xs, e1, l, r⟩ := c; exact ⟨xs, e1, l, al.repL h _ _ r⟩
  · obtain ⟨xs, e1, l, r⟩ := c; exact ⟨xs, e1, l, al.repL h _ _ r⟩
def Bs.sw (B : Bs) (d : Addr) (n : HO) : Bs := ⟨B.hE, Px.sw d n B.hb, Px.sw d n B.h0, B.rp⟩
theorem Rel.sw {B : Bs} {s : S} {σ : St} {H0 H : Hp} {kvs : List (Key × V)} (al : Alike kvs m n) (R : Rel K B s σ H0 H) (h : H0 d = some m) : Rel K (B.sw d n) s σ (sw d n H0) (sw d n H) := by
  have hH : H d = some m := R.h0 d m h
  have t0 : Two d m H0 := .inr h
  have tH : Two d m H := .inr hH
  have noN : ∀ xs, n ≠ .tup xs := fun xs z => by
    rcases al.n1 with e | ⟨o, e⟩ <;> rw [e] at z <;> cases z
  have noM : ∀ xs, m ≠ .tup xs := fun xs z => by
    rcases al.m1 with e | ⟨o, e⟩ <;> rw [e] at z <;> cases z
  have tp : ∀ b xs, Px.sw d n H b = some (.tup xs) → Nw B.hE b (.tup xs) := fun b xs hb => by
    by_cases z : b = d
    · subst z; rw [sw_some hH] at hb; cases hb; exact absurd rfl (noN _)
    · rw [sw_ne z] at hb; exact R.tp b xs hb
  refine ⟨tp, sw_ex R.fr tH, fun b hb => R.dom b (sw_none.mp hb), sw_ex R.z0 t0, sw_ex R.h0 tH, fun b o hb => ?_, R.len, fun i e hi => ?_, fun i mm e hi hm => ?_, R.ne⟩
  · by_cases z : b = d
    · subst z
      rw [sw_some h] at hb
      cases hb
      rcases R.new b m h with q | q | ⟨xs, z, _⟩
      · exact .inl (sw_some q)
      · exact .inr (.inl q)
      · exact absurd z (noM xs)
    · rw [sw_ne z] at hb
      rcases R.new b o hb with q | q
      · exact .inl (by show Px.sw d n B.h0 b = some o; rw [sw_ne z]; exact q)
      · exact .inr q
  · obtain ⟨v, ev, r⟩ := R.sh i e hi
    exact ⟨v, ev, al.rep t0 e v r⟩
  · obtain ⟨p, ep, w⟩ := R.ow i mm e hi hm
    have z : p ≠ d := fun z => by have q := w.z; rw [z, h] at q; cases q
    obtain ⟨o, ho, hc⟩ := w.ob
    exact ⟨p, ep, sw_none.mpr w.z, sw_none.mpr w.b, w.ow, w.rf, o, by rw [sw_ne z]; exact ho, al.cell t0 hc⟩
theorem itok_keys {H0 : Hp} {o : Obj} {ks : List Key} {xs : List V} (h : H0 d = some (.frz o (.dK (ks.zip xs)))) (hl : ks.length = xs.length) : ItOk K (Itk d o (ks.zip xs)) H0 (ks.map keyD) := fun i H1 H' x1 x2 => by
  have hd := x2 _ _ (x1 _ _ h)
  have zl : (ks.zip xs).length = ks.length := zip_length hl
  refine ⟨fun e he => ?_, fun hi => ⟨hd, by rw [List.length_map] at hi; omega⟩⟩
  rw [List.getElem?_map] at he
  obtain ⟨k, hk, rfl⟩ := Option.map_eq_some_iff.mp he
  have hi := (List.getElem?_eq_some_iff.mp hk).1
  refine ⟨⟨hd, by omega⟩, fun y H2 hy => ?_⟩
  obtain ⟨e1, k', v', hz, rfl⟩ := hy
  refine .inl ⟨e1, ?_⟩
  have : k' = k := by
    have := (List.getElem?_zip_eq_some.mp hz).1
    rw [hk] at this; cases this; rfl
  subst this
  cases k' <;> simp only [Rep, kV, keyD]
end
@[simp] def keysOf (s : S) (i : Nat) : Option (List Key) := match s[i]? with
  | some (some (.sh, .dK ks _)) => some ks
  | _ => none
/-- for x in y, y a frozen dict -/
def sForK (i : Nat) (g : FG) (fb : FS) : FS := fun s => (keysOf s i).bind fun ks => (loopD g fb (ks.map keyD) s).bind fun o => match o with
  | .nx s2 => some (.nx s2)
  | _ => none
section
variable {X : Cx} {B : Bs} {tg : Expr} {pos pn : Pos} {x : Str} {g : FG} {fs : FS} {ts : List Nat}
theorem for_core {J : It} {D0 : Ends} {σ0 : St} {H1 H2 : Hp} {ds : List D} {s1 s3 : S} (R1 : Rel X.K B s1 σ0 H1 H2) (ok : ItOk X.K J H1 ds) (ev : loopD g fs ds s1 = some (.nx s3)) (k : ∀ σ5 H5 H5', Rel X.K B s3 σ5 H5 H5' → Ex H1 H5 → D0.nx σ5 H5') :
    tFor (fun _ H R => R J H) (fun v σ H Q => ∃ B, tG X.K B ts g v σ H Q) (fun D σ H => ∃ B, tS X.K B fs D σ H) D0 σ0 H2 := by
  refine ⟨fun i m σ H => i + m = ds.length ∧ ∃ s2 H3, Rel X.K B s2 σ H3 H ∧ Ex H1 H3 ∧ loopD g fs (ds.drop i) s2 = some (.nx s3), ⟨ds.length, by omega, s1, H1, R1, Ex.refl _, by rw [List.drop_zero]; exact ev⟩, fun i m σ H hW => ?_⟩
  obtain ⟨hm, s2, H3, R2, x2, hl⟩ := hW
  cases hd : ds[i]? with
  | none =>
    have hi : ds.length ≤ i := by simpa using hd
    rw [List.drop_eq_nil_of_le hi] at hl
    cases hl
    exact .inl ⟨(ok i H3 H x2 R2.h0).2 (by omega), k σ H3 H R2 x2⟩
  | some d =>
    have hi : i < ds.length := (List.getElem?_eq_some_iff.mp hd).1
    rw [List.drop_eq_getElem_cons hi] at hl
    have ed : ds[i] = d := (List.getElem?_eq_some_iff.mp hd).2
    rw [ed] at hl
    obtain ⟨s4, e3, hl1⟩ := bnd hl
    obtain ⟨o, e4, hl2⟩ := bnd hl1
    obtain ⟨hgo, hy⟩ := (ok i H3 H x2 R2.h0).1 d hd
    refine .inr ⟨hgo, fun σ' H' => i + 1 + (m - 1) = ds.length ∧ ∃ s2 H3, Rel X.K B s2 σ' H3 H' ∧ Ex H1 H3 ∧ loopD g fs (ds.drop (i + 1)) s2 = some (.nx s3), fun σ' H' hN => ⟨m - 1, by omega, hN⟩, fun y Hy hyx => ?_⟩
    have key : ∃ H4, Rel X.K B s2 σ H4 Hy ∧ Ex H3 H4 ∧ Rep X.K H4 d y := by
      rcases hy y Hy hyx with ⟨rfl, r⟩ | ⟨T, o, hT, rfl, r⟩
      · exact ⟨H3, R2, Ex.refl _, r⟩
      · exact ⟨_, R2.laid hT, Ex.new (R2.fresh0 hT), r⟩
    obtain ⟨H4, R4, x4, r4⟩ := key
    refine ⟨B, s2, H4, d, s4, R4, r4, e3, fun σ6 H6 H6' R6 x6 _ => ⟨B, s4, H6, o, R6, e4, ?_⟩⟩
    have x14 : Ex H1 H6 := (x2.trans x4).trans x6
    cases o with
    | nx s5 => exact fun σ5 H5 H5' R5 x5 => ⟨by omega, s5, H5, R5, x14.trans x5, hl2⟩
    | ct s5 => exact fun σ5 H5 H5' R5 x5 => ⟨by omega, s5, H5, R5, x14.trans x5, hl2⟩
    | bk s5 => cases hl2; exact fun σ5 H5 H5' R5 x5 => k σ5 H5 H5' R5 (x14.trans x5)
    | ret oo dd s5 => cases hl2
theorem is_forK {i : Nat} {body : List Stmt} (hp : PassesOwn (model X.prog X.w) X.A X.env X.xe) (hc : X.calm = true) (hv : PE X (.Name x pn) (tVar i)) (hg : ∀ B, PG X tg (tG X.K B ts g)) (hb : ∀ B, PSs X body (tS X.K B fs)) (hs : ∀ y, foldedSetIterable (.Name x pn) X.env y = pure y := by intro _; rfl) :
    PS X (.For tg (.Name x pn) body [] pos) (tS X.K B (sForK i g fs)) := by
  have base := ps_for (pos := pos) (g := fun v σ H Q => ∃ B, tG X.K B ts g v σ H Q) (tb := fun D σ H => ∃ B, tS X.K B fs D σ H) hp hc (pi_keys hv) ⟨fun pins s' σ H' v u Q I r ⟨B, q⟩ => (hg B).run pins s' σ H' v u Q I r q⟩ ⟨fun pins s' σ H' D I ⟨B, q⟩ => (hb B).run pins s' σ H' D I q⟩ hs
  have both : PS X (.For tg (.Name x pn) body [] pos) (fun D σ H => tFor (iKeys (tVar i)) (fun v σ H Q => ∃ B, tG X.K B ts g v σ H Q) (fun D σ H => ∃ B, tS X.K B fs D σ H) D σ H ∨ tLock (tFor (iKeys (tVar i)) (fun v σ H Q => ∃ B, tG X.K B ts g v σ H Q) (fun D σ H => ∃ B, tS X.K B fs D σ H)) D σ H) := ⟨fun pins s σ H D I q => q.elim (base.run pins s σ H D I) ((ps_lock base).run pins s σ H D I)⟩
  refine both.pxw fun E σ H q => ?_
  obtain ⟨s, H0, out, R, ev, k⟩ := q
  obtain ⟨ks, e0, ev0⟩ := bnd ev
  obtain ⟨o1, e1, ev1⟩ := bnd ev0
  have hsl : ∃ es, s[i]? = some (some (.sh, .dK ks es)) := by
    unfold keysOf at e0
    split at e0
    · next ks' es' h => cases e0; exact ⟨_, h⟩
    · cases e0
  obtain ⟨es, hsl⟩ := hsl
  cases o1 with
  | nx s3 =>
    cases ev1
    obtain ⟨v, ev, rv⟩ := R.sh i _ hsl
    simp only [Rep] at rv
    obtain ⟨d, xs, rfl, l, hl, rd⟩ := rv
    have hlx : ks.length = xs.length := hl.trans l.len.symm
    rcases rd with rd | ⟨o, rd⟩
    · right
      have al : ∀ od, Alike (ks.zip xs) (.dK (ks.zip xs)) (.frz od (.dK (ks.zip xs))) := fun od => ⟨.inl rfl, .inr ⟨od, rfl⟩⟩
      have la : ∀ od, Alike (ks.zip xs) (.frz od (.dK (ks.zip xs))) (.dK (ks.zip xs)) := fun od => ⟨.inr ⟨od, rfl⟩, .inl rfl⟩
      have hH := R.h0 _ _ rd
      refine ⟨d, _, hH, trivial, fun od => ?_⟩
      have RL := R.sw (al od) rd
      rw [← sw_upd (n := .frz od (.dK (ks.zip xs))) hH]
      have h0L : sw d (.frz od (.dK (ks.zip xs))) H0 d = some (.frz od (.dK (ks.zip xs))) := sw_some rd
      refine ⟨_, ev, d, od, rfl, .inl ⟨ks.zip xs, RL.h0 _ _ h0L, for_core RL (itok_keys h0L hlx) e1 fun σ5 H5 H5' R5 x5 => ?_⟩⟩
      have h5 : H5 d = some (.frz od (.dK (ks.zip xs))) := x5 _ _ h0L
      have h5' := R5.h0 _ _ h5
      refine ⟨h5', ?_⟩
      have RU := R5.sw (la od) h5
      have eB : (B.sw d (.frz od (.dK (ks.zip xs)))).sw d (.dK (ks.zip xs)) = B := by
        unfold Bs.sw
        rw [sw_back (Two.of R.fr hH), sw_back (Two.of R.z0 rd)]
      rw [eB] at RU
      rw [← sw_upd (n := .dK (ks.zip xs)) h5']
      refine k σ5 _ _ RU ?_
      have := sw_ex (n := HO.dK (ks.zip xs)) x5 (.inr h5)
      rw [sw_back (.inr rd)] at this
      exact this
    · left
      exact ⟨_, ev, d, o, rfl, .inl ⟨ks.zip xs, R.h0 _ _ rd, for_core R (itok_keys rd hlx) e1 fun σ5 H5 H5' R5 x5 => k σ5 H5 H5' R5 x5⟩⟩
  | _ => cases ev1
end
end Px

set_option Elab.async false
set_option linter.all false
set_option maxRecDepth 100000
set_option maxHeartbeats 1000000
/-! Px15: list(d), d a dict with tuple keys -/
namespace Px
open PySem L2
def keyTD (k : List Key) : D := .tup (k.map keyD)
section
variable {K : PySem.W.Frag} {B : Bs} {s : S} {σ : St} {H0 H : Hp} {q : Addr} {xs : List V}
theorem Rel.thaw (R : Rel K B s σ H0 H) (h : H q = some (.tup xs)) : ∃ H1, Rel K B s σ H1 H ∧ Ex H0 H1 ∧ H1 q = some (.tup xs) := by
  cases z : H0 q with
  | some u =>
    have := R.h0 q u z
    rw [h] at this; cases this
    exact ⟨H0, R, Ex.refl _, z⟩
  | none =>
    refine ⟨upd H0 q (.tup xs), ⟨R.tp, R.fr, R.dom, R.z0.trans (Ex.new z), fun a u g => ?_, fun b u g => ?_, R.len, fun i d g => ?_, fun i m d g hm => ?_, R.ne⟩, Ex.new z, upd_same⟩
    · by_cases y : a = q
      · subst y; rw [upd_same] at g; cases g; exact h
      · rw [upd_ne y] at g; exact R.h0 a u g
    · by_cases y : b = q
      · subst y; rw [upd_same] at g; cases g; exact .inr (R.tp b xs h)
      · rw [upd_ne y] at g; exact R.new b u g
    · obtain ⟨v, e1, r⟩ := R.sh i d g
      exact ⟨v, e1, r.up (Ex.new z)⟩
    · obtain ⟨p, e1, w⟩ := R.ow i m d g hm
      obtain ⟨o, ho, hc⟩ := w.ob
      have ne : p ≠ q := fun y => by rw [y, h] at ho; cases ho; exact hc.noTup.elim
      exact ⟨p, e1, w.up (Ex.new z) (by rw [upd_ne ne]; exact w.z) rfl⟩
theorem repL_keys : ∀ (k : List Key), RepL K H0 (k.map keyD) (k.map kV)
  | [] => by simp only [List.map_nil, RepL]
  | x :: k => by
    simp only [List.map_cons, RepL]
    refine ⟨_, _, rfl, ?_, repL_keys k⟩
    cases x <;> simp only [Rep, keyD, kV]
theorem Rel.thaws : ∀ (ks : List (List Key)) (xs : List V) (bs : List Addr) (H0 : Hp), Rel K B s σ H0 H → ks.length = xs.length → IsKeys H (ks.zip xs) bs → ∃ H1, Rel K B s σ H1 H ∧ Ex H0 H1 ∧ RepL K H1 (ks.map keyTD) (bs.map V.ref)
  | [], xs, bs, H0, R, _, h => by
    rw [List.zip_nil_left] at h
    cases h
    exact ⟨H0, R, Ex.refl _, by simp only [List.map_nil, RepL]⟩
  | k :: ks, [], bs, H0, R, hl, h => by simp at hl
  | k :: ks, x :: xs, bs, H0, R, hl, h => by
    rw [List.zip_cons_cons] at h
    cases h with
    | cons hb ht =>
      rename_i b bs
      obtain ⟨H1, R1, x1, h1⟩ := R.thaw hb
      obtain ⟨H2, R2, x2, l2⟩ := Rel.thaws ks xs bs H1 R1 (by simpa using hl) ht
      refine ⟨H2, R2, x1.trans x2, ?_⟩
      simp only [List.map_cons, RepL]
      refine ⟨_, _, rfl, ?_, l2⟩
      simp only [keyTD, Rep]
      exact ⟨b, _, rfl, repL_keys k, .inl (x2 _ _ h1)⟩
end
@[simp] def gListD : D → Option D
  | .dT ks _ => some (.lst (ks.map keyTD))
  | _ => none
section
variable {X : Cx} {B : Bs} {a : Expr} {pos p : Pos} {pa : FP}
theorem io_listD (hc : X.calm = true) (hg : Gl X "list") (hm : X.mg "list" = none) (ha : PE X a (tP X.K B pa)) (he : starEach [a] X.env = (false, eval a X.env) :: starEach [] X.env := by rfl) (hpl : (backTo pos (starEach [] X.env)).any (·.1) = false := by rfl) :
    PE X (.Call (.Name "list" p) [a] [] pos) (tO X.K B (eB1 gListD pa)) := (pe_callTy (call_list_dT hc) hg hm (by decide +kernel) (pa_cons ha pa_nil he) (by decide) (by decide) he hpl).pxw fun σ H Q q => by
  obtain ⟨s, H0, d, s', R, ev, k⟩ := q
  obtain ⟨⟨p1, s1⟩, e1, ev1⟩ := bnd ev
  obtain ⟨d1, g1, ev2⟩ := bnd ev1
  obtain ⟨d', e3, ev3⟩ := bnd ev2
  cases ev3
  refine ⟨s, H0, p1, s1, R, e1, fun x H1 H' R1 x1 r1 => ?_⟩
  cases d1 with
  | dT ks ds =>
    cases e3
    obtain ⟨t, xs, rfl, l, hl, rd⟩ := r1.dT R1 g1
    refine ⟨t, ks.zip xs, rfl, rd, fun u bs hu hk => ?_⟩
    obtain ⟨H2, R2, x2, l2⟩ := Rel.thaws ks xs bs H1 R1 (hl.trans l.len.symm) hk
    exact k u H2 _ (R2.laidO hu) (x1.trans x2) (R2.ownNew (o := .lst (bs.map V.ref)) hu ⟨_, rfl, l2⟩)
  | _ => cases e3
end
end Px

set_option Elab.async false
set_option linter.all false
set_option maxRecDepth 100000
set_option maxHeartbeats 1000000
/-! Px16: tuple * int -/
namespace Px
open PySem L2 PySem.Spec PyProof.Rows
theorem tuple_mul1 (l : Addr) (items : Array Value) (n : Nat) (dd : Option Addr) (sl : Array (Option Value)) (u : Tok) :
    Meets (Builtin.«tuple.__mul__» ⟨[.ref l, .int 1 u], []⟩) (fun _ R s => s.heap.get? l = some { cls := .type "tuple", dict := dd, data := .seq items n, slots := sl } ∧
      R (.ok (.ret (Value.ref l))) s) :=
  .of_wp fun prog w A R s h => by
    obtain ⟨hp, g, d, tk, os⟩ := s
    obtain ⟨hl, h⟩ := h
    have f1 := AutoSeq1.idx_int
    have c1 : (items.isEmpty || (1 : Int) == 1) = true := by simp
    wp_walk using wpAny_loadPart' hl
    repeat (first
      | (refine wpAny_ite_false (decide_eq_false (by decide)) ?_; wp_walk using wpAny_loadPart' hl)
      | (refine wpAny_ite_true (decide_eq_true c1) ?_; wp_walk using wpAny_loadPart' hl))
    exact ⟨_, rfl, h⟩
def rRepT1 (K : PySem.W.Frag) : R2 := fun x y H Q => ∃ l k xs, x = .ref l ∧ y = .int k ∧ SqT K H l xs ∧ xs ≠ [] ∧ 1 ≤ k ∧ k ≤ 1000 ∧ xs.length ≤ 1000 ∧ (k = 1 → Q x H) ∧ (2 ≤ k → ∀ p, H p = none → Q (.ref p) (upd H p (.tup (List.replicate k.toNat xs).flatten)))
section
variable {X : Cx}
theorem op_repT1 : OpR X (binaryOp .Mult) (rRepT1 X.K) := by
  intro pins s σ H x y v u Q I rx ry h
  obtain ⟨l, k, xs, ex, ey, hT, hne, h1, h2, hz, q1, q2⟩ := h
  by_cases hk : 2 ≤ k
  · exact op_repT pins s σ H x y v u Q I rx ry ⟨l, k, xs, ex, ey, hT, hne, hk, h2, hz, q2 hk⟩
  · have e : k = 1 := by omega
    subst e
    have q := q1 rfl
    subst ex ey
    cases rx
    obtain ⟨t, rfl⟩ := ry
    obtain ⟨its, r, ⟨⟨cls, dd, data, sl⟩, ho, hc, n, hd⟩, hs⟩ := I.tuple hT
    simp only at hc hd
    subst hc hd
    refine wpAny_binaryOp_repeat_ref (T := "tuple") (U := "int") (by decide) ⟨_, ho, rfl⟩ (fun s' => typeIs_int s' 1 t) noFill_tuple_mul F.fills_int_mul F.slot_int_rmul repeat_tuple F.slot_int_index.lookup
      (call_meets F.slot_int_rmul (typeIs_int s 1 t) F.entry_int_rmul (F.args_int_rmul_2 _ _) (int_rmul_tuple 1 t l its.toArray n dd sl)
        ⟨ho, rfl, ⟨_, ho, rfl⟩, call_meets F.slot_tuple_mul ⟨_, ho, rfl⟩ F.entry_tuple_mul (F.args_tuple_mul_2 _ _) (tuple_mul1 l its.toArray n dd sl t) ⟨ho, ?_⟩⟩)
    exact ⟨.ref l, _, I, rfl, q⟩
end
@[simp] def gRepT : D → D → Option D
  | .tup ds, .int k => if ds ≠ [] ∧ ds.length ≤ 1000 ∧ 1 ≤ k ∧ k ≤ 1000 then some (.tup (List.replicate k.toNat ds).flatten) else none
  | _, _ => none
section
variable {K : PySem.W.Frag}
theorem RepL.rep {H0 : Hp} {ds : List D} {xs : List V} (h : RepL K H0 ds xs) : ∀ n, RepL K H0 (List.replicate n ds).flatten (List.replicate n xs).flatten
  | 0 => by simp [RepL]
  | n + 1 => by
    rw [List.replicate_succ, List.replicate_succ, List.flatten_cons, List.flatten_cons]
    exact h.append (RepL.rep h n)
theorem opd_repT : OpD K (rRepT1 K) gRepT := fun B s σ H0 H d1 d2 d x y Q R r1 r2 e k => by
  unfold gRepT at e
  split at e
  · next ds n =>
    split at e
    · next hl =>
      obtain ⟨a1, a2, a3, a4⟩ := hl
      cases e
      obtain ⟨p, xs, rfl, l1, h1⟩ := rep_tup_sq r1
      refine ⟨p, n, xs, rfl, rep_int r2, R.h0.sqT h1, fun z => a1 (l1.nil_iff.mp z), a3, a4, by rw [l1.len]; exact a2, fun z => ?_, fun _ t ht => ?_⟩
      · subst z
        have e1 : (List.replicate (1 : Int).toNat ds).flatten = ds := by simp
        rw [e1] at k
        exact k _ H0 H R (Ex.refl _) r1
      · exact k _ _ _ (R.laid ht) (Ex.new (R.fresh0 ht)) (rep_tupNew (l1.rep _) (R.fresh0 ht))
    · cases e
  · cases e
end
section
variable {X : Cx} {a b : Expr} {B : Bs} {fa fb : Px.F} {pos : Pos}
theorem ie_repT (ha : PE X a (tF X.K B fa)) (hb : PE X b (tF X.K B fb)) : PE X (.BinOp a .Mult b pos) (tF X.K B (eOp gRepT fa fb)) := ie_op2 (pe_op op_repT1) opd_repT ha hb
end
end Px

set_option Elab.async false
set_option linter.all false
set_option maxRecDepth 100000
set_option maxHeartbeats 1000000
/-! Px17: isinstance, all, a text's signs, text in text -/
namespace Px
open PySem L2
/-! ### isinstance -/
@[simp] def gIsi (T : String) : D → Option D
  | .int _ => if T = "int" then some (.bl true) else if T = "bool" ∨ T = "str" ∨ T = "tuple" then some (.bl false) else none
  | .bl _ => if T = "int" ∨ T = "bool" then some (.bl true) else if T = "str" ∨ T = "tuple" then some (.bl false) else none
  | .str _ => if T = "str" then some (.bl true) else if T = "int" ∨ T = "bool" ∨ T = "tuple" then some (.bl false) else none
  | .non => if T = "int" ∨ T = "bool" ∨ T = "str" ∨ T = "tuple" then some (.bl false) else none
  | .tup _ => if T = "tuple" then some (.bl true) else if T = "int" ∨ T = "bool" ∨ T = "str" then some (.bl false) else none
  | _ => none
section
variable {K : PySem.W.Frag}
theorem kitI {T : String} {b : Bool} : (if T = "int" then some (D.bl true) else if T = "bool" ∨ T = "str" ∨ T = "tuple" then some (.bl false) else none) = some (.bl b) → kitB "int" T = some b := fun e => by
  split at e
  · next h => subst h; cases e; decide +kernel
  · split at e
    · next h => rcases h with h | h | h <;> subst h <;> cases e <;> decide +kernel
    · cases e
theorem kitBo {T : String} {b : Bool} : (if T = "int" ∨ T = "bool" then some (D.bl true) else if T = "str" ∨ T = "tuple" then some (.bl false) else none) = some (.bl b) → kitB "bool" T = some b := fun e => by
  split at e
  · next h => rcases h with h | h <;> subst h <;> cases e <;> decide +kernel
  · split at e
    · next h => rcases h with h | h <;> subst h <;> cases e <;> decide +kernel
    · cases e
theorem kitS {T : String} {b : Bool} : (if T = "str" then some (D.bl true) else if T = "int" ∨ T = "bool" ∨ T = "tuple" then some (.bl false) else none) = some (.bl b) → kitB "str" T = some b := fun e => by
  split at e
  · next h => subst h; cases e; decide +kernel
  · split at e
    · next h => rcases h with h | h | h <;> subst h <;> cases e <;> decide +kernel
    · cases e
theorem kitN {T : String} {b : Bool} : (if T = "int" ∨ T = "bool" ∨ T = "str" ∨ T = "tuple" then some (D.bl false) else none) = some (.bl b) → kitB "NoneType" T = some b := fun e => by
  split at e
  · next h => rcases h with h | h | h | h <;> subst h <;> cases e <;> decide +kernel
  · cases e
theorem kitT {T : String} {b : Bool} : (if T = "tuple" then some (D.bl true) else if T = "int" ∨ T = "bool" ∨ T = "str" then some (.bl false) else none) = some (.bl b) → kitB "tuple" T = some b := fun e => by
  split at e
  · next h => subst h; cases e; decide +kernel
  · split at e
    · next h => rcases h with h | h | h <;> subst h <;> cases e <;> decide +kernel
    · cases e
theorem isi_bl {T : String} {d d' : D} (h : gIsi T d = some d') : ∃ b, d' = .bl b := by
  cases d with
  | int i => simp only [gIsi] at h; split at h; cases h; exact ⟨_, rfl⟩; split at h; cases h; exact ⟨_, rfl⟩; cases h
  | bl i => simp only [gIsi] at h; split at h; cases h; exact ⟨_, rfl⟩; split at h; cases h; exact ⟨_, rfl⟩; cases h
  | str i => simp only [gIsi] at h; split at h; cases h; exact ⟨_, rfl⟩; split at h; cases h; exact ⟨_, rfl⟩; cases h
  | non => simp only [gIsi] at h; split at h; cases h; exact ⟨_, rfl⟩; cases h
  | tup i => simp only [gIsi] at h; split at h; cases h; exact ⟨_, rfl⟩; split at h; cases h; exact ⟨_, rfl⟩; cases h
  | _ => cases h
theorem isi_ty {T : String} {B : Bs} {s : S} {σ : St} {H0 H : Hp} {q : PR} {d : D} {b : Bool} {x : V} (R : Rel K B s σ H0 H) (r1 : PRep K σ H0 q x) (g1 : q.get s = some d) (e : gIsi T d = some (.bl b)) : ∃ t : String, TyX K H x (.type t) ∧ kitB t T = some b := by
  cases d with
  | int i =>
    rw [rep_int (r1.frozen R g1 (fun o z => z))]
    exact ⟨_, .base (.int i), kitI e⟩
  | bl i =>
    have : x = .bl i := by simpa only [Rep] using r1.frozen R g1 (fun o z => z)
    rw [this]
    exact ⟨_, .base (.bl i), kitBo e⟩
  | str i =>
    rw [rep_str (r1.frozen R g1 (fun o z => z))]
    exact ⟨_, .base (.str i), kitS e⟩
  | non =>
    have : x = .non := by simpa only [Rep] using r1.frozen R g1 (fun o z => z)
    rw [this]
    exact ⟨_, .base .non, kitN e⟩
  | tup ds =>
    obtain ⟨a, xs, rfl, l, h⟩ := rep_tup_sq (r1.frozen R g1 (fun o z => z))
    refine ⟨"tuple", ?_, kitT e⟩
    rcases R.h0.sqT h with h | ⟨o, its, n, h1, h2, _⟩
    · rcases h with h | ⟨o, h⟩
      · exact .base (.tup h)
      · exact .fTuple h
    · exact .kTuple h1 h2
  | _ => cases e
end
section
variable {X : Cx} {B : Bs} {a : Expr} {p pT pos : Pos} {pa : FP}
theorem ie_isi {T : String} {x : Str} (hb : bootBuiltins x = some (.type T)) (hg : Gl X "isinstance") (hm : X.mg "isinstance" = none) (hgT : Gl X x) (hmT : X.mg x = none) (ha : PE X a (tP X.K B pa)) (hn : x ≠ "__name__" := by decide) (hdb : (x == ("__debug__" : Str)) = false := by decide)
    (he : starEach [a, .Name x pT] X.env = (false, eval a X.env) :: starEach [.Name x pT] X.env := by rfl) (he2 : starEach [.Name x pT] X.env = (false, eval (.Name x pT) X.env) :: starEach [] X.env := by rfl) (hpl : (backTo pos (starEach [.Name x pT] X.env)).any (·.1) = false := by rfl) :
    PE X (.Call (.Name "isinstance" p) [a, .Name x pT] [] pos) (tF X.K B (eB1 (gIsi T) pa)) :=
  (pe_callB call_isi hg hm (by decide +kernel) (pa_cons ha (pa_cons (pe_bltn (v := .ty T) hgT hmT hb rfl hn hdb) pa_nil he2) he) (by decide) (by decide) he hpl).pxw fun σ H Q q => by
    obtain ⟨s, H0, d, s', R, ev, k⟩ := q
    obtain ⟨⟨p1, s1⟩, e1, ev1⟩ := bnd ev
    obtain ⟨d1, g1, ev2⟩ := bnd ev1
    obtain ⟨d', e3, ev3⟩ := bnd ev2
    cases ev3
    obtain ⟨b, rfl⟩ := isi_bl e3
    refine ⟨s, H0, p1, s1, R, e1, fun x H1 H' R1 x1 r1 => ?_⟩
    obtain ⟨t, ty, kb⟩ := isi_ty R1 r1 g1 e3
    exact ⟨x, .ty T, .type t, .type T, b, rfl, .ty T, ty, kit_ty kb, k _ _ _ R1 x1 (by simp only [Rep])⟩
end
/-! ### all -/
@[simp] def bls? : List D → Option (List Bool)
  | [] => some []
  | .bl i :: r => (bls? r).bind fun l => some (i :: l)
  | _ :: _ => none
theorem bls_inv : ∀ {ds : List D} {ns : List Bool}, bls? ds = some ns → ds = ns.map D.bl
  | [], ns, h => by cases h; rfl
  | .bl i :: r, ns, h => by
    obtain ⟨l, e, h'⟩ := bnd (show (bls? r).bind _ = some ns from h)
    cases h'
    rw [List.map_cons, ← bls_inv e]
  | .non :: _, _, h | .int _ :: _, _, h | .str _ :: _, _, h | .tup _ :: _, _, h | .lst _ :: _, _, h | .dK _ _ :: _, _, h | .dT _ _ :: _, _, h | .scr _ :: _, _, h => by cases h
theorem bls_map : ∀ (ns : List Bool), bls? (ns.map D.bl) = some ns
  | [] => rfl
  | n :: ns => by rw [List.map_cons]; show (bls? (ns.map D.bl)).bind _ = _; rw [bls_map ns]; rfl
@[simp] def gAll : D → Option D
  | .lst ds => (bls? ds).bind fun ns => some (.bl (ns.all id))
  | _ => none
section
variable {K : PySem.W.Frag}
theorem RepL.bls {H : Hp} : ∀ {ns : List Bool} {xs : List V}, RepL K H (ns.map D.bl) xs → xs = ns.map V.bl
  | [], xs, h => h.of_nil
  | n :: ns, xs, h => by
    obtain ⟨x, r, rfl, h1, h2⟩ := h.of_cons
    simp only [Rep] at h1
    rw [List.map_cons, h1, RepL.bls h2]
theorem cap_all : CaP K (rAll K) gAll := .flat fun B s σ H0 H q d d' x R r1 g1 e => by
  cases d with
  | lst ds =>
    obtain ⟨ns, en, e2⟩ := bnd (show (bls? ds).bind _ = some d' from e)
    cases e2
    have := bls_inv en
    subst this
    obtain ⟨a, xs, rfl, l, h⟩ := r1.lst R g1
    rw [l.bls] at h
    exact ⟨_, fun _ => by simp only [Rep], fun Q z => ⟨a, ns, rfl, .of h, z⟩⟩
  | _ => cases e
end
section
variable {X : Cx} {B : Bs} {a b : Expr} {p pos : Pos} {pa pb : FP} {fa : Px.F} {tg : Expr}
theorem ie_all (hc : X.calm = true) (hg : Gl X "all") (hm : X.mg "all" = none) (ha : PE X a (tP X.K B pa)) (he : starEach [a] X.env = (false, eval a X.env) :: starEach [] X.env := by rfl) (hpl : (backTo pos (starEach [] X.env)).any (·.1) = false := by rfl) :
    PE X (.Call (.Name "all" p) [a] [] pos) (tF X.K B (eB1 gAll pa)) := ie_b1 (pe_callB (cr_all hc) hg hm (by decide +kernel) (pa_cons ha pa_nil he) (by decide) (by decide) he hpl) cap_all
/-! ### text in text -/
@[simp] def gInS : D → D → Option D
  | .str i, .str j => some (.bl (!(Builtin.Str.occurrences j i 0 j.length 1).isEmpty))
  | _, _ => none
theorem opp_inS {K : PySem.W.Frag} : OpP K (fun x y H Q => ∃ i j, x = .str i ∧ y = .str j ∧ Q (.bl (!(Builtin.Str.occurrences j i 0 j.length 1).isEmpty)) H) gInS := fun B s σ H0 H q1 q2 d1 d2 d x y Q R r1 r2 g1 g2 e k => by
  cases d1 with
  | str i =>
    cases d2 with
    | str j =>
      cases e
      exact ⟨i, j, rep_str (r1.frozen R g1 (fun o z => z)), rep_str (r2.frozen R g2 (fun o z => z)), k _ H0 H R (Ex.refl _) (by simp only [Rep])⟩
    | _ => cases e
  | _ => cases e
theorem ie_inS (ha : PE X a (tP X.K B pa)) (hb : PE X b (tP X.K B pb)) (hm : behindInMarks .In b = false := by rfl) : PE X (.Compare a [.In] [b] pos) (tF X.K B (eOpP gInS pa pb)) := ie_op2P (fun h1 h2 => pe_cmpR op_in_str h1 h2 hm) opp_inS ha hb
theorem it_inS (ha : PE X a (tP X.K B pa)) (hb : PE X b (tP X.K B pb)) (hm : behindInMarks .In b = false := by rfl) : PT X (.Compare a [.In] [b] pos) (tT X.K B (bT (eOpP gInS pa pb))) := it_of (pt_cmpR op_in_str ha hb hm) fun q => rd_op2P opp_inS q
/-! ### a text's signs -/
def signs (x : Str) : List D := x.cps.toList.map fun c => .str ⟨#[c]⟩
@[simp] def iTxt (f : Px.F) : FI := fun s => (f s).bind fun a => match a.1 with | .str x => some (signs x, a.2) | _ => none
theorem itok_txt {K : PySem.W.Frag} {H0 : Hp} {x : Str} : ItOk K (Its x) H0 (signs x) := fun i H1 H' x1 x2 => by
  refine ⟨fun d hd => ?_, fun hi => show x.cps.size ≤ i from Nat.le_of_eq (by simpa [signs] using hi)⟩
  unfold signs at hd
  rw [List.getElem?_map] at hd
  cases hc : x.cps.toList[i]? with
  | none => rw [hc] at hd; cases hd
  | some c =>
    rw [hc] at hd
    cases hd
    have hi : i < x.cps.size := by simpa using (List.getElem?_eq_some_iff.mp hc).1
    refine ⟨hi, fun v H2 hy => .inl ⟨hy.1, ?_⟩⟩
    obtain ⟨c', e1, e2⟩ := hy.2
    have : c' = c := by
      rw [Array.getElem?_toList] at hc
      rw [hc] at e1; cases e1; rfl
    rw [e2, this]
    simp only [Rep]
theorem ii_txt (ha : PE X a (tF X.K B fa)) : PI X tg a (tI X.K B (iTxt fa)) := (pi_str ha).pxw fun σ H Q q => by
  obtain ⟨s, H0, ds, s', R, ev, k⟩ := q
  obtain ⟨⟨d, s1⟩, e1, ev1⟩ := bnd ev
  cases d with
  | str x =>
    cases ev1
    exact ⟨s, H0, _, _, R, e1, fun v H1 H' R1 x1 r1 => ⟨x, rep_str r1, k _ H1 H' R1 x1 itok_txt⟩⟩
  | _ => cases ev1
end
end Px

set_option Elab.async false
set_option linter.all false
set_option maxRecDepth 100000
set_option maxHeartbeats 1000000
/-! Px18: sorted of tuples (text, whole number) -/
namespace Px.SI
open PySem PyProof.Rows
abbrev SN := Str × Int
/-- by the text, then by the number -/
def ltSI (p q : SN) : Prop := p.1.cps.toList < q.1.cps.toList ∨ (p.1 = q.1 ∧ p.2 < q.2)
instance (p q : SN) : Decidable (ltSI p q) := by unfold ltSI; infer_instance
theorem list_tri : ∀ (a b : List Nat), a < b ∨ a = b ∨ b < a
  | [], [] => .inr (.inl rfl)
  | [], _ :: _ => .inl (List.nil_lt_cons _ _)
  | _ :: _, [] => .inr (.inr (List.nil_lt_cons _ _))
  | x :: a, y :: b => by
    rcases Nat.lt_trichotomy x y with h | h | h
    · exact .inl (List.cons_lt_cons_iff.mpr (.inl h))
    · subst h
      rcases list_tri a b with h | h | h
      · exact .inl (List.cons_lt_cons_iff.mpr (.inr ⟨rfl, h⟩))
      · exact .inr (.inl (by rw [h]))
      · exact .inr (.inr (List.cons_lt_cons_iff.mpr (.inr ⟨rfl, h⟩)))
    · exact .inr (.inr (List.cons_lt_cons_iff.mpr (.inl h)))
theorem cps_inj {x y : Str} (h : x.cps.toList = y.cps.toList) : x = y := by
  have : x.cps = y.cps := Array.toList_inj.mp h
  cases x; cases y; simp only at this; rw [this]
theorem ltSI_irrefl (p : SN) : ¬ ltSI p p := fun h => by
  rcases h with h | h
  · exact List.lt_irrefl _ h
  · omega
theorem ltSI_trans {p q r : SN} (h : ltSI p q) (k : ltSI q r) : ltSI p r := by
  rcases h with h | ⟨h1, h2⟩ <;> rcases k with k | ⟨k1, k2⟩
  · exact .inl (List.lt_trans h k)
  · exact .inl (by rw [← k1]; exact h)
  · exact .inl (by rw [h1]; exact k)
  · exact .inr ⟨h1.trans k1, by omega⟩
theorem ltSI_tri (p q : SN) : ltSI p q ∨ p = q ∨ ltSI q p := by
  rcases list_tri p.1.cps.toList q.1.cps.toList with h | h | h
  · exact .inl (.inl h)
  · have e := cps_inj h
    rcases Int.lt_trichotomy p.2 q.2 with k | k | k
    · exact .inl (.inr ⟨e, k⟩)
    · exact .inr (.inl (Prod.ext e k))
    · exact .inr (.inr (.inr ⟨e.symm, k⟩))
  · exact .inr (.inr (.inl h))
/-- a tuple of a text and a number -/
def TupSI (h : Heap) (v : Value) (p : SN) : Prop := ∃ (a : Addr) (t u : Tok), v = .ref a ∧ IsTup h a #[.str p.1 t, .int p.2 u]
theorem TupSI.keeps {h h' : Heap} {v : Value} {p : SN} (x : TupSI h v p) (k : ∀ b o, h.get? b = some o → o.cls = .type "tuple" → h'.get? b = some o) : TupSI h' v p := by
  obtain ⟨a, t, u, e, o, ho, hc, hd⟩ := x
  exact ⟨a, t, u, e, o, k _ _ ho hc, hc, hd⟩
def pick : List Value → SN
  | [.str x _, .int n _] => (x, n)
  | _ => (⟨#[]⟩, 0)
/-- read off the heap -/
def rd (h : Heap) (v : Value) : SN := match v with
  | .ref a => match h.get? a with
    | some o => match o.data with
      | .seq xs _ => pick xs.toList
      | _ => pick []
    | none => pick []
  | _ => pick []
theorem TupSI.rd {h : Heap} {v : Value} {p : SN} (x : TupSI h v p) : rd h v = p := by
  obtain ⟨a, t, u, rfl, o, ho, hc, n, hd⟩ := x
  simp only [SI.rd, ho, hd]
  rfl
def rank (f : Value → SN) (vs : List Value) (v : Value) : Int := (vs.countP fun u => decide (ltSI (f u) (f v)) : Nat)
theorem countP_lt {α : Type} {p q : α → Bool} : ∀ {l : List α} {v : α}, (∀ x ∈ l, p x = true → q x = true) → v ∈ l → q v = true → p v = false → l.countP p < l.countP q
  | [], v, _, h, _, _ => by cases h
  | x :: l, v, hm, h, hq, hp => by
    rcases List.mem_cons.mp h with e | h
    · subst e
      rw [List.countP_cons_of_neg (by rw [hp]; decide), List.countP_cons_of_pos hq]
      have := List.countP_mono_left (l := l) (p := p) (q := q) fun x hx => hm x (.tail _ hx)
      omega
    · have ih := countP_lt (fun x hx => hm x (.tail _ hx)) h hq hp
      rw [List.countP_cons, List.countP_cons]
      have h0 := hm x (.head _)
      by_cases c : p x = true
      · rw [if_pos c, if_pos (h0 c)]; omega
      · rw [if_neg c]; split <;> omega
theorem rank_lt {f : Value → SN} {vs : List Value} {v u : Value} (hv : v ∈ vs) (h : ltSI (f v) (f u)) : rank f vs v < rank f vs u := by
  unfold rank
  have : (vs.countP fun w => decide (ltSI (f w) (f v))) < (vs.countP fun w => decide (ltSI (f w) (f u))) :=
    countP_lt (fun x _ hx => decide_eq_true (ltSI_trans (of_decide_eq_true hx) h)) hv (decide_eq_true h) (decide_eq_false (ltSI_irrefl _))
  omega
theorem rank_iff {f : Value → SN} {vs : List Value} {v u : Value} (hv : v ∈ vs) (hu : u ∈ vs) : rank f vs v < rank f vs u ↔ ltSI (f v) (f u) := by
  constructor
  · intro h
    rcases ltSI_tri (f v) (f u) with k | k | k
    · exact k
    · unfold rank at h; rw [k] at h; omega
    · have := rank_lt hu k; omega
  · exact rank_lt hv
theorem firsts_of {h : Heap} : ∀ vs : List Value, (∀ v ∈ vs, ∃ p, TupSI h v p) → ∃ fs, PySem.W.KatTups h vs fs ∧ fs.length = vs.length ∧ ∀ f, f ∈ fs → ∃ x t, f = Value.str x t
  | [], _ => ⟨[], PySem.W.KatTups.nil, rfl, fun f hf => by simp at hf⟩
  | v :: vs, x => by
    obtain ⟨fs, k, hl, hi⟩ := firsts_of vs fun u hu => x u (List.mem_cons_of_mem _ hu)
    obtain ⟨p, a, t, u, rfl, o, ho, hc, n, hdt⟩ := x v (List.mem_cons_self ..)
    refine ⟨.str p.1 t :: fs, PySem.W.KatTups.cons ho hc hdt rfl k, by simp [hl], ?_⟩
    intro f hf
    rcases List.mem_cons.mp hf with rfl | hf
    · exact ⟨p.1, t, rfl⟩
    · exact hi f hf
section
variable {prog : Program} {w : World} {A : Around} {E : Value → Shared → Prop} {s : Shared}
theorem kind_si {vs : List Value} (h2 : 2 ≤ vs.length) (x : ∀ v ∈ vs, ∃ p, TupSI s.heap v p) (r : Value → Int) (hr : ∀ v ∈ vs, ∀ u ∈ vs, ∀ p q, TupSI s.heap v p → TupSI s.heap u q → (r v < r u ↔ ltSI p q)) (Q : SortKind → Shared → Prop)
    (h : ∀ κ, TS.Cmp prog w A s κ (pairsOf vs) r → Q κ s) : wpAny (model prog w) A (keyKind' vs.toArray) Q E s := by
  obtain ⟨fs, k, hl, hi⟩ := firsts_of vs x
  refine PySem.W.kat_kind (T := Value.type "str") k (by omega) (fun f hf => ?_) rfl (h _ ?_)
  · obtain ⟨n, t, rfl⟩ := hi f hf
    exact PySem.W.Looks.of_pure rfl
  · intro p q hp hq Q' E' hQ
    rw [pairsOf_toList] at hp hq
    obtain ⟨np, tp⟩ := x _ (mem_zip_self hp).2
    obtain ⟨nq, tq⟩ := x _ (mem_zip_self hq).2
    have hQ' : Q' (decide (ltSI np nq)) s := by
      have z : decide (r p.1 < r q.1) = decide (ltSI np nq) := decide_eq_decide.mpr (hr _ (mem_zip_self hp).2 _ (mem_zip_self hq).2 _ _ tp tq)
      rw [← z]; exact hQ
    obtain ⟨a, t, u, e1, o, ho, hc, n, hdt⟩ := tp
    obtain ⟨a', t', u', e2, o', ho', hc', n', hdt'⟩ := tq
    rw [e1, e2]
    refine PySem.W.kat_lt ho hdt ho' hdt' ?_
    show PySem.W.KatLex prog w A _ (decide (2 < 2)) Q' [(Value.str np.1 t, Value.str nq.1 t'), (Value.int np.2 u, Value.int nq.2 u')] 0 s
    refine PySem.W.kat_cons (PySem.wpAny_eqBool_str ?_)
    by_cases e : np.1 = nq.1
    · rw [decide_eq_true e]
      refine PySem.W.kat_yes (PySem.W.kat_cons (wpAny_eqBool_int ?_))
      by_cases e2 : np.2 = nq.2
      · have : (np.2 == nq.2) = true := by rw [e2]; exact beq_self_eq_true _
        rw [this]
        refine PySem.W.kat_yes (PySem.W.kat_nil ?_)
        have z : decide (ltSI np nq) = false := decide_eq_false (by rw [show np = nq from Prod.ext e e2]; exact ltSI_irrefl _)
        rw [z] at hQ'
        exact hQ'
      · rw [show (np.2 == nq.2) = false from beq_eq_false_iff_ne.mpr e2]
        refine PySem.W.kat_no (TS.oneLt_ints _ ?_)
        have z : decide (ltSI np nq) = decide (np.2 < nq.2) := decide_eq_decide.mpr ⟨fun k => by
          rcases k with k | k
          · rw [e] at k; exact absurd k (List.lt_irrefl _)
          · exact k.2, fun k => .inr ⟨e, k⟩⟩
        rw [z] at hQ'
        exact hQ'
    · rw [decide_eq_false e]
      refine PySem.W.kat_no ?_
      refine oneLt_str (E := fun _ _ => False) ?_
      have z : decide (ltSI np nq) = decide (np.1.cps.toList < nq.1.cps.toList) := decide_eq_decide.mpr ⟨fun k => by
        rcases k with k | k
        · exact k
        · exact absurd k.1 e, fun k => .inl k⟩
      rw [z] at hQ'
      exact hQ'
theorem sort_si {a : Addr} {vs : List Value} {n : Nat} {P : PySem.Fin → Shared → Prop} (ho : s.heap.get? a = some (seqObj "list" vs.toArray n)) (h64 : vs.length < 64) (x : ∀ v ∈ vs, ∃ p, TupSI s.heap v p)
    (h : ∀ out : Array Value, out.toList.Perm vs → out.toList.Pairwise (fun u v => ¬ ltSI (rd s.heap v) (rd s.heap u)) → P (.done (.ret .none)) { s with heap := sortedHeap s.heap a vs out }) :
    wpAny (model prog w) A (Builtin.«list.sort» ⟨[.ref a], []⟩) P E s := by
  have keep : ∀ b o, s.heap.get? b = some o → o.cls = .type "tuple" → (TS.midHeap s.heap a vs).get? b = some o := fun b o e hc => by
    refine TS.midHeap_old ?_ e
    rintro rfl
    rw [ho] at e
    have e' : seqObj "list" vs.toArray n = o := Option.some.inj e
    rw [← e'] at hc
    have c' : Value.type "list" = Value.type "tuple" := hc
    injection c' with c''
    exact absurd c'' (by decide)
  refine SK.plain_sort (r := rank (rd s.heap) vs) ho h64 (fun h2 Q hQ => ?_) fun ps out h1 h2 h3 => ?_
  · refine kind_si (s := { s with heap := TS.midHeap s.heap a vs }) h2 (fun v hv => ?_) _ (fun v hv u hu p q tp tq => ?_) Q hQ
    · obtain ⟨p, t⟩ := x v hv
      exact ⟨p, t.keeps keep⟩
    · obtain ⟨p0, t0⟩ := x v hv
      obtain ⟨q0, t1⟩ := x u hu
      rw [rank_iff hv hu, t0.rd, t1.rd, ← (t0.keeps keep).rd, ← (t1.keeps keep).rd]
      have e1 : SI.rd (TS.midHeap s.heap a vs) v = p := tp.rd
      have e2 : SI.rd (TS.midHeap s.heap a vs) u = q := tq.rd
      rw [e1, e2]
  · obtain ⟨p, o⟩ := TS.out_rank h1 h2 h3
    refine h out p (List.Pairwise.imp_of_mem (fun {u v} hu hv huv k => ?_) o)
    have := rank_lt (f := rd s.heap) (p.mem_iff.mp hv) k
    omega
/-- the end of sorted: what was collected, sorted in a new list -/
theorem sorted_end {vs : List Value} {Q : Value → Shared → Prop} (h64 : vs.length < 64) (x : ∀ v ∈ vs, ∃ p, TupSI s.heap v p)
    (h : ∀ out : Array Value, out.toList.Perm vs → out.toList.Pairwise (fun u v => ¬ ltSI (rd s.heap v) (rd s.heap u)) → Q .none { s with heap := sortedHeap (s.heap.push (seqObj "list" vs.toArray 0)) s.heap.objs.size vs out }) :
    wpAny (model prog w) A (call (.builtin "list.sort") [.ref s.heap.objs.size]) Q E { s with heap := s.heap.push (seqObj "list" vs.toArray 0) } := by
  have hoL : (s.heap.push (seqObj "list" vs.toArray 0)).get? s.heap.objs.size = some (seqObj "list" vs.toArray 0) := Heap.get?_push_size _ rfl
  have keep : ∀ b o, s.heap.get? b = some o → o.cls = .type "tuple" → (s.heap.push (seqObj "list" vs.toArray 0)).get? b = some o := fun b o e _ => Heap.get?_push_of_some _ e
  refine wpAny_call_entry slot_list_sort ⟨_, hoL, rfl⟩ entry_list_sort (sort_si (s := { s with heap := s.heap.push (seqObj "list" vs.toArray 0) }) hoL h64 (fun v hv => ?_) fun out a1 a2 => ⟨_, rfl, h out a1 (a2.imp_of_mem fun {u v} hu hv huv => ?_)⟩) (args_list_sort _)
  · obtain ⟨p, t⟩ := x v hv
    exact ⟨p, t.keeps keep⟩
  · obtain ⟨p, t⟩ := x u (a1.mem_iff.mp hu)
    obtain ⟨q, t'⟩ := x v (a1.mem_iff.mp hv)
    rw [t.rd, t'.rd]
    have e1 : SI.rd (s.heap.push (seqObj "list" vs.toArray 0)) u = p := (t.keeps keep).rd
    have e2 : SI.rd (s.heap.push (seqObj "list" vs.toArray 0)) v = q := (t'.keeps keep).rd
    rw [← e1, ← e2]
    exact huv
end
end Px.SI

set_option Elab.async false
set_option linter.all false
set_option maxRecDepth 100000
set_option maxHeartbeats 1000000
/-! Px19: sorted(xs), sorted(d) of tuples (text, whole number): the rules -/
namespace Px.SI
open PySem L2 Px
/-! ### the order's own arrangement -/
def insSI (p : SN) : List SN → List SN
  | [] => [p]
  | q :: l => if ltSI p q then p :: q :: l else q :: insSI p l
def sortSI : List SN → List SN
  | [] => []
  | p :: l => insSI p (sortSI l)
theorem ins_perm (p : SN) : ∀ l : List SN, (insSI p l).Perm (p :: l)
  | [] => .refl _
  | q :: l => by
    unfold insSI
    split
    · exact .refl _
    · exact ((ins_perm p l).cons q).trans (.swap p q l)
theorem sort_perm : ∀ l : List SN, (sortSI l).Perm l
  | [] => .refl _
  | p :: l => (ins_perm p _).trans ((sort_perm l).cons p)
theorem ins_up (p : SN) : ∀ l : List SN, (∀ q ∈ l, q ≠ p) → l.Pairwise ltSI → (insSI p l).Pairwise ltSI
  | [], _, _ => by simp [insSI]
  | q :: l, hn, h => by
    rw [List.pairwise_cons] at h
    unfold insSI
    split
    · next k =>
      rw [List.pairwise_cons, List.pairwise_cons]
      refine ⟨fun r hr => ?_, h.1, h.2⟩
      rcases List.mem_cons.mp hr with e | hr
      · rw [e]; exact k
      · exact ltSI_trans k (h.1 r hr)
    · next k =>
      rw [List.pairwise_cons]
      refine ⟨fun r hr => ?_, ins_up p l (fun r hr => hn r (.tail _ hr)) h.2⟩
      rcases List.mem_cons.mp ((ins_perm p l).mem_iff.mp hr) with e | hr
      · rw [e]
        rcases ltSI_tri q p with z | z | z
        · exact z
        · exact absurd z (hn q (.head _))
        · exact absurd z k
      · exact h.1 r hr
theorem sort_up : ∀ l : List SN, l.Nodup → (sortSI l).Pairwise ltSI
  | [], _ => by simp [sortSI]
  | p :: l, h => by
    rw [List.nodup_cons] at h
    exact ins_up p _ (fun q hq e => h.1 (by rw [← e]; exact (sort_perm l).mem_iff.mp hq)) (sort_up l h.2)
theorem up_uniq : ∀ {a b : List SN}, a.Perm b → a.Pairwise ltSI → b.Pairwise ltSI → a = b
  | [], b, h, _, _ => (List.nil_perm.mp h).symm
  | x :: a, [], h, _, _ => by have := h.length_eq; simp at this
  | x :: a, y :: b, h, ha, hb => by
    have e : x = y := by
      rw [List.pairwise_cons] at ha hb
      rcases List.mem_cons.mp (h.mem_iff.mp (List.mem_cons_self ..)) with z | z
      · exact z
      · rcases List.mem_cons.mp (h.mem_iff.mpr (List.mem_cons_self ..)) with w | w
        · exact w.symm
        · exact absurd (ltSI_trans (ha.1 y w) (hb.1 x z)) (ltSI_irrefl _)
    subst e
    rw [up_uniq ((List.perm_cons _).mp h) (List.pairwise_cons.mp ha).2 (List.pairwise_cons.mp hb).2]
theorem sort_is {a l : List SN} (hp : a.Perm l) (nd : l.Nodup) (h : a.Pairwise fun p q => ¬ ltSI q p) : a = sortSI l := by
  refine up_uniq (hp.trans (sort_perm l).symm) ?_ (sort_up l nd)
  have na : a.Nodup := hp.nodup_iff.mpr nd
  refine (List.Pairwise.and h na).imp fun {p q} z => ?_
  rcases ltSI_tri p q with w | w | w
  · exact w
  · exact absurd w z.2
  · exact absurd w z.1
/-! ### the rules by values -/
def TI (K : PySem.W.Frag) (H : Hp) (x : V) (p : SN) : Prop := ∃ t, x = .ref t ∧ SqT K H t [.str p.1, .int p.2]
section
variable {X : Cx} {pins : List (Addr × Obj)} {σ : St} {H : Hp} {s : Shared} {Q : VK}
theorem TI.raw (I : Inv X pins σ H s) {x : V} {p : SN} (h : TI X.K H x p) : ∃ t, x = .ref t ∧ TupSI s.heap (.ref t) p := by
  obtain ⟨t, e, h⟩ := h
  obtain ⟨its, rv, hT, _⟩ := I.tuple h
  obtain ⟨u1, u2, rfl, r1, r2⟩ := vals2 rv
  obtain ⟨t1, rfl⟩ := r1
  obtain ⟨t2, rfl⟩ := r2
  exact ⟨t, e, t, t1, t2, rfl, hT⟩
theorem raws (I : Inv X pins σ H s) {xs : List V} {its : List Value} (rv : Vals xs its) (hx : ∀ x ∈ xs, ∃ p, TI X.K H x p) : xs = its.map bkV ∧ (∀ u ∈ its, ∃ a, u = Value.ref a) ∧ ∀ v ∈ its, ∃ p, TupSI s.heap v p := by
  obtain ⟨e1, e2⟩ := bkV_refs rv fun x m => by
    obtain ⟨p, t, e, _⟩ := hx x m
    exact ⟨t, e⟩
  refine ⟨e1, e2, fun v hv => ?_⟩
  obtain ⟨t, rfl⟩ := e2 v hv
  have hm : V.ref t ∈ xs := by rw [e1]; exact List.mem_map.mpr ⟨_, hv, rfl⟩
  obtain ⟨p, h⟩ := hx _ hm
  obtain ⟨t', e, h'⟩ := h.raw I
  cases e
  exact ⟨p, h'⟩
/-- what is wanted of the sorted list -/
def Wish (K : PySem.W.Frag) (xs : List V) (H : Hp) (Q : VK) : Prop := ∀ (ys : List V) (q : Addr), ys.Perm xs → ys.Pairwise (fun x y => ∀ p r, TI K H x p → TI K H y r → ¬ ltSI r p) → H q = none → Q (.ref q) (upd H q (.lst ys))
theorem laid_sorted (I : Inv X pins σ H s) {xs : List V} {its : List Value} (rv : Vals xs its) (h64 : its.length < 64) (hx : ∀ x ∈ xs, ∃ p, TI X.K H x p) (q : Wish X.K xs H Q) {out : Array Value} (h1 : out.toList.Perm its)
    (h2 : out.toList.Pairwise (fun u v => ¬ ltSI (rd s.heap v) (rd s.heap u))) : EP X pins σ Q (.ref s.heap.objs.size) { s with heap := PyProof.Rows.sortedHeap (s.heap.push (PyProof.Rows.seqObj "list" its.toArray 0)) s.heap.objs.size its out } := by
  obtain ⟨e1, e2, _⟩ := raws I rv hx
  have hoL : (s.heap.push (PyProof.Rows.seqObj "list" its.toArray 0)).get? s.heap.objs.size = some (PyProof.Rows.seqObj "list" its.toArray 0) := Heap.get?_push_size _ rfl
  obtain ⟨e', he'⟩ := PyProof.Rows.sortedHeap_at (vs := its) (out := out) hoL
  have h3 : ∀ u ∈ out.toList, ∃ a, u = Value.ref a := fun u hu => e2 u (h1.mem_iff.mp hu)
  have hp : (out.toList.map bkV).Perm xs := by rw [e1]; exact h1.map bkV
  have hlen : (out.toList.map bkV).length ≤ sizeLine := by
    rw [List.length_map, h1.length_eq]
    exact Nat.le_trans (Nat.le_of_lt h64) (by decide)
  refine ⟨.ref _, upd H s.heap.objs.size (.lst (out.toList.map bkV)), I.laid (t' := s.toks) (fun b u e => ?_) (Nat.le_refl _) ⟨hlen, out.toList, e', bkV_vals h3, by rw [Array.toArray_toList]; exact he'⟩, rfl, q _ _ hp ?_ (I.hok.fresh (Nat.le_refl _))⟩
  · have hb : b < s.heap.objs.size := Heap.lt_size e
    rw [PyProof.Rows.sortedHeap_old (Nat.ne_of_lt hb) (by rw [PyProof.Rows.size_push']; exact Nat.lt_succ_of_lt hb)]
    exact Heap.get?_push_of_some _ e
  · rw [List.pairwise_map]
    refine h2.imp fun {u v} huv p r hp hr => ?_
    obtain ⟨t, et, ht⟩ := hp.raw I
    obtain ⟨t', et', ht'⟩ := hr.raw I
    have eu := bkV_ref et
    have ev := bkV_ref et'
    rw [eu, ev, ht.rd, ht'.rd] at huv
    exact huv
def rSortL (K : PySem.W.Frag) : List V → Hp → VK → Prop := fun vs H Q => ∃ (a : Addr) (xs : List V), vs = [V.ref a] ∧ SqL K H a xs ∧ xs.length < 64 ∧ (∀ x ∈ xs, ∃ p, TI K H x p) ∧ Wish K xs H Q
theorem cr_sortL : CallR X (.builtin "sorted") (rSortL X.K) := by
  intro pins s σ H vs us Q I r h
  obtain ⟨a, xs, rfl, hs, h64, hx, q⟩ := h
  obtain ⟨its, rv, hl, hz⟩ := I.list hs
  rw [Vals.ref1 r]
  have h64' : its.length < 64 := by rw [← rv.length]; exact h64
  refine Calls.call_function_entry PyProof.Rows.kind_sorted PyProof.Rows.plain_sorted PyProof.Rows.entry_sorted (PyProof.Rows.args_sorted1 _) ?_
  unfold Builtin.«sorted»
  refine wpAny_bind (m := checkCount "sorted" 1 1 _) (wpAny_pure ?_)
  refine wpAny_bind (PyProof.Rows.collect_list hl.isList ?_ (by rw [sizeLine_eq]; omega))
  have I1 : Inv X pins σ H { s with heap := (s.heap.push (PyProof.Rows.seqObj "list" #[] 0)).update s.heap.objs.size (Obj.mapSeq (· ++ its.toArray)) } := I.kept (t' := s.toks) fun b o e => by
    rw [Heap.get?_update_ne _ _ _ _ (Nat.ne_of_lt (Heap.lt_size e))]
    exact Heap.get?_push_of_some _ e
  refine wpAny_bind (wpAny_newList ?_ (by rw [sizeLine_eq]; omega))
  refine wpAny_bind (wpAny_holding (sorted_end (s := { s with heap := (s.heap.push (PyProof.Rows.seqObj "list" #[] 0)).update s.heap.objs.size (Obj.mapSeq (· ++ its.toArray)) }) h64' (raws I1 rv hx).2.2 fun out h1 h2 => ?_))
  exact wpAny_pure ⟨_, rfl, laid_sorted I1 rv h64' hx q h1 h2⟩
def rSortD (K : PySem.W.Frag) : List V → Hp → VK → Prop := fun vs H Q => ∃ (d : Addr) (kvs : List (List Key × V)), vs = [V.ref d] ∧ Rd H d (.dT kvs) ∧ kvs.length < 64 ∧ ∀ bs, IsKeys H kvs bs → (∀ x ∈ bs.map V.ref, ∃ p, TI K H x p) ∧ Wish K (bs.map V.ref) H Q
theorem cr_sortD (hc : X.calm = true) : CallR X (.builtin "sorted") (rSortD X.K) := by
  intro pins s σ H vs us Q I r h
  obtain ⟨d, kvs, rfl, hd, h64, q⟩ := h
  rw [Vals.ref1 r]
  obtain ⟨z, hs, ks, pr, o, es, ep, ho, hx, hdt, he, hn⟩ := (show ObjOk X.prog X.w H s.heap d (.dT kvs) from hd.ok I.hok)
  have l1 : es.size = ks.length := size_of_entries he
  have l2 : kvs.length = ks.length := Paired.length pr
  refine Calls.call_function_entry PyProof.Rows.kind_sorted PyProof.Rows.plain_sorted PyProof.Rows.entry_sorted (PyProof.Rows.args_sorted1 _) ?_
  unfold Builtin.«sorted»
  refine wpAny_bind (m := checkCount "sorted" 1 1 _) (wpAny_pure ?_)
  refine wpAny_bind (PySem.W.kdu_collect (A := X.A.in1) (kdl_raw hs hx hdt) (I.ok.hd hc) ho (by omega) fun h' tk acc' kp it => ?_)
  have ea : acc'.toList = ks.map fun x => Value.ref x.2.1 := by
    have hl : acc'.toList.length = ks.length := by rw [Array.length_toList, it.1]; exact l1
    apply List.ext_getElem?
    intro j
    rw [List.getElem?_map]
    cases hj : acc'.toList[j]? with
    | none =>
      have h1 := List.getElem?_eq_none_iff.mp hj
      rw [List.getElem?_eq_none (by omega)]
      all_goals rfl
    | some v =>
      obtain ⟨en, hen, hv⟩ := it.2 j v (by rw [← Array.getElem?_toList]; exact hj)
      have qe := entry_at he j
      rw [hen] at qe
      cases hb : ks[j]? with
      | none =>
        rw [hb] at qe
        exact nomatch (show some en = none from qe)
      | some b =>
        rw [hb] at qe
        have e2 : en = entryOfKey (tupleKind (mixKind X.prog X.w)) b := Option.some.inj qe
        rw [hv, e2]
        all_goals rfl
  have eb : acc'.toList = (ks.map fun x => x.2.1).map Value.ref := by rw [ea, List.map_map]; all_goals rfl
  have rv : Vals ((ks.map fun x => x.2.1).map V.ref) acc'.toList := by rw [eb]; exact vals_refs _
  obtain ⟨hx, q⟩ := q _ (isKeys_of pr)
  have h64' : acc'.toList.length < 64 := by rw [eb, List.length_map, List.length_map]; omega
  have I1 : Inv X pins σ H { s with heap := h', toks := tk } := I.kept kp
  refine wpAny_bind (wpAny_newList ?_ (by rw [sizeLine_eq]; omega))
  refine wpAny_bind (wpAny_holding (sorted_end (s := { s with heap := h', toks := tk }) h64' (raws I1 rv hx).2.2 fun out h1 h2 => ?_))
  exact wpAny_pure ⟨_, rfl, laid_sorted I1 rv h64' hx q h1 h2⟩
end
end Px.SI
namespace Px
open PySem L2 SI
/-! ### as data -/
def siOf : D → Option SN
  | .tup [.str x, .int n] => some (x, n)
  | _ => none
def siL : List D → Option (List SN)
  | [] => some []
  | d :: ds => (siOf d).bind fun p => (siL ds).bind fun l => some (p :: l)
def siD (p : SN) : D := .tup [.str p.1, .int p.2]
theorem siOf_inv {d : D} {p : SN} (h : siOf d = some p) : d = siD p := by
  unfold siOf at h
  split at h
  · cases h; rfl
  · cases h
theorem siL_inv : ∀ {ds : List D} {l : List SN}, siL ds = some l → ds = l.map siD
  | [], l, h => by cases h; rfl
  | d :: ds, l, h => by
    simp only [siL] at h
    obtain ⟨p, h1, h⟩ := bnd h
    obtain ⟨l', h2, h⟩ := bnd h
    cases h
    rw [siOf_inv h1, siL_inv h2]; rfl
theorem siL_map : ∀ (l : List SN), siL (l.map siD) = some l
  | [] => rfl
  | p :: l => by simp only [List.map_cons, siL, siL_map l]; rfl
def sortT? (ds : List D) : Option D := (siL ds).bind fun l => if l.length < 64 ∧ l.Nodup then some (.lst ((sortSI l).map siD)) else none
@[simp] def gSortT : D → Option D
  | .lst ds => sortT? ds
  | _ => none
@[simp] def gSortTD : D → Option D
  | .dT ks _ => sortT? (ks.map keyTD)
  | _ => none
section
variable {K : PySem.W.Frag} {B : Bs} {s : S} {σ : St} {H0 H : Hp}
theorem rep_si {p : SN} {v : V} (h : Rep K H0 (siD p) v) : ∃ a, v = .ref a ∧ H0 a = some (.tup [.str p.1, .int p.2]) := by
  unfold siD at h
  simp only [Rep] at h
  obtain ⟨a, xs, rfl, l, h⟩ := h
  obtain ⟨x1, r1, rfl, e1, l⟩ := l.of_cons
  obtain ⟨x2, r2, rfl, e2, l⟩ := l.of_cons
  rw [l.of_nil] at h
  simp only [Rep] at e1 e2
  subst e1 e2
  rcases h with h | h
  · exact ⟨a, rfl, h⟩
  · have := h.2; simp [allI, isI] at this
theorem RepL.perm {ds : List D} {xs ys : List V} (hp : ys.Perm xs) : ∀ {ds : List D}, RepL K H0 ds xs → ∃ es, es.Perm ds ∧ RepL K H0 es ys := by
  induction hp with
  | nil => intro ds h; exact ⟨ds, .refl _, h⟩
  | cons x _ ih =>
    intro ds h
    cases ds with
    | nil => have := h.of_nil; cases this
    | cons d ds =>
      obtain ⟨x', r, e, h1, h2⟩ := h.of_cons
      cases e
      obtain ⟨es, p, l⟩ := ih h2
      exact ⟨d :: es, p.cons d, .cons h1 l⟩
  | swap x y l =>
    intro ds h
    cases ds with
    | nil => have := h.of_nil; cases this
    | cons d ds =>
      obtain ⟨x', r, e, h1, h2⟩ := h.of_cons
      cases e
      cases ds with
      | nil => have := h2.of_nil; cases this
      | cons d2 ds =>
        obtain ⟨x', r, e, h3, h4⟩ := h2.of_cons
        cases e
        exact ⟨d2 :: d :: ds, .swap d d2 ds, .cons h3 (.cons h1 h4)⟩
  | trans _ _ ih1 ih2 =>
    intro ds h
    obtain ⟨es, p, l⟩ := ih2 h
    obtain ⟨fs, p2, l2⟩ := ih1 l
    exact ⟨fs, p2.trans p, l2⟩
theorem si_list : ∀ {es : List D} {l : List SN}, es.Perm (l.map siD) → ∃ a : List SN, es = a.map siD ∧ a.Perm l := fun {es l} h => by
  have inj : ∀ p q : SN, siD p = siD q → p = q := fun p q e => by
    unfold siD at e
    injection e with e
    injection e with e1 e2
    injection e1 with e1
    injection e2 with e2 _
    injection e2 with e2
    exact Prod.ext e1 e2
  have all : ∀ es : List D, (∀ d ∈ es, ∃ p, d = siD p) → ∃ a : List SN, es = a.map siD := by
    intro es
    induction es with
    | nil => exact fun _ => ⟨[], rfl⟩
    | cons d es ih =>
      intro hd
      obtain ⟨p, e⟩ := hd d (.head _)
      obtain ⟨a, e2⟩ := ih fun x hx => hd x (.tail _ hx)
      exact ⟨p :: a, by rw [e, e2]; rfl⟩
  obtain ⟨a, e⟩ := all es fun d hd => by
    obtain ⟨p, _, e⟩ := List.mem_map.mp (h.mem_iff.mp hd)
    exact ⟨p, e.symm⟩
  refine ⟨a, e, ?_⟩
  rw [e] at h
  have h2 : ((a.map siD).map siOf).Perm ((l.map siD).map siOf) := h.map siOf
  rw [List.map_map, List.map_map] at h2
  have h3 := h2.filterMap id
  have z : ∀ k : List SN, (k.map (siOf ∘ siD)).filterMap id = k := by
    intro k
    induction k with
    | nil => rfl
    | cons p k ih => rw [List.map_cons, List.filterMap_cons]; show p :: _ = _; rw [ih]
  rwa [z, z] at h3
theorem wish_of {l : List SN} {xs : List V} (hx : Ex H0 H) (r : RepL K H0 (l.map siD) xs) (nd : l.Nodup) {Q : VK} (h : ∀ ys q, RepL K H0 ((sortSI l).map siD) ys → H q = none → Q (.ref q) (upd H q (.lst ys))) : (∀ x ∈ xs, ∃ p, TI K H x p) ∧ Wish K xs H Q := by
  have one : ∀ {k : List SN} {ys : List V}, RepL K H0 (k.map siD) ys → ∀ (i : Nat) (y : V), ys[i]? = some y → ∃ p, k[i]? = some p ∧ TI K H y p := by
    intro k ys r i y hy
    obtain ⟨d, hd, hr⟩ := r.getV hy
    rw [List.getElem?_map] at hd
    obtain ⟨p, hp, rfl⟩ := Option.map_eq_some_iff.mp hd
    obtain ⟨a, rfl, ha⟩ := rep_si hr
    exact ⟨p, hp, a, rfl, .of (hx _ _ ha)⟩
  refine ⟨fun x hm => ?_, fun ys q hp hs hq => ?_⟩
  · obtain ⟨i, hi⟩ := List.getElem?_of_mem hm
    obtain ⟨p, _, h⟩ := one r i x hi
    exact ⟨p, h⟩
  · obtain ⟨es, pe, re⟩ := RepL.perm (ds := []) hp r
    obtain ⟨a, rfl, pa⟩ := si_list pe
    have ea : a = sortSI l := sort_is pa nd (by
      rw [List.pairwise_iff_getElem] at hs ⊢
      intro i j hi hj hij
      have le := re.len
      rw [List.length_map] at le
      obtain ⟨p, hp, tp⟩ := one re i ys[i] (List.getElem?_eq_getElem (by omega))
      obtain ⟨r, hr, tr⟩ := one re j ys[j] (List.getElem?_eq_getElem (by omega))
      rw [List.getElem?_eq_getElem hi] at hp
      rw [List.getElem?_eq_getElem hj] at hr
      cases hp; cases hr
      exact hs i j (by omega) (by omega) hij _ _ tp tr)
    rw [ea] at re
    exact h ys q re hq
theorem cao_sortT : CaO K (rSortL K) gSortT := fun B s σ H0 H q d d' x Q R r1 g1 e k => by
  cases d with
  | lst ds =>
    obtain ⟨l, el, e2⟩ := bnd (show (siL ds).bind _ = some d' from e)
    split at e2
    · next h64 =>
      cases e2
      have := siL_inv el
      subst this
      obtain ⟨a, xs, rfl, rl, h⟩ := r1.lst R g1
      obtain ⟨w1, w2⟩ := wish_of (K := K) (H := H) (Q := Q) R.h0 rl h64.2 fun ys t ry ht => k t _ (R.laidO ht) (R.ownNew (o := .lst ys) ht ⟨ys, rfl, ry⟩)
      exact ⟨a, xs, rfl, .of h, by rw [rl.len, List.length_map]; exact h64.1, w1, w2⟩
    · cases e2
  | _ => cases e
end
section
variable {X : Cx} {B : Bs} {a : Expr} {pos p : Pos} {pa : FP}
theorem io_sortT (hg : Gl X "sorted") (hm : X.mg "sorted" = none) (ha : PE X a (tP X.K B pa)) (he : starEach [a] X.env = (false, eval a X.env) :: starEach [] X.env := by rfl) (hpl : (backTo pos (starEach [] X.env)).any (·.1) = false := by rfl) :
    PE X (.Call (.Name "sorted" p) [a] [] pos) (tO X.K B (eB1 gSortT pa)) := io_b1 (pe_callB cr_sortL hg hm (by decide +kernel) (pa_cons ha pa_nil he) (by decide) (by decide) he hpl) cao_sortT
theorem io_sortTD (hc : X.calm = true) (hg : Gl X "sorted") (hm : X.mg "sorted" = none) (ha : PE X a (tP X.K B pa)) (he : starEach [a] X.env = (false, eval a X.env) :: starEach [] X.env := by rfl) (hpl : (backTo pos (starEach [] X.env)).any (·.1) = false := by rfl) :
    PE X (.Call (.Name "sorted" p) [a] [] pos) (tO X.K B (eB1 gSortTD pa)) := (pe_callB (cr_sortD hc) hg hm (by decide +kernel) (pa_cons ha pa_nil he) (by decide) (by decide) he hpl).pxw fun σ H Q q => by
  obtain ⟨s, H0, d, s', R, ev, k⟩ := q
  obtain ⟨⟨p1, s1⟩, e1, ev1⟩ := bnd ev
  obtain ⟨d1, g1, ev2⟩ := bnd ev1
  obtain ⟨d', e3, ev3⟩ := bnd ev2
  cases ev3
  refine ⟨s, H0, p1, s1, R, e1, fun x H1 H' R1 x1 r1 => ?_⟩
  cases d1 with
  | dT ks ds =>
    obtain ⟨l, el, e2⟩ := bnd (show (siL (ks.map keyTD)).bind _ = some _ from e3)
    split at e2
    · next h64 =>
      cases e2
      have ek := siL_inv el
      obtain ⟨t, xs, rfl, rl, hl, rd⟩ := r1.dT R1 g1
      have lk : ks.length = l.length := by have := congrArg List.length ek; simpa using this
      refine ⟨t, ks.zip xs, rfl, rd, by rw [List.length_zip, lk]; have := h64.1; omega, fun bs hk => ?_⟩
      obtain ⟨H2, R2, x2, l2⟩ := Rel.thaws ks xs bs H1 R1 (hl.trans rl.len.symm) hk
      rw [ek] at l2
      exact wish_of (K := X.K) (H := H') (Q := Q) R2.h0 l2 h64.2 fun ys u ry hu => k u H2 _ (R2.laidO hu) (x1.trans x2) (R2.ownNew (o := .lst ys) hu ⟨ys, rfl, ry⟩)
    · cases e2
  | _ => cases e3
end
end Px

set_option Elab.async false
set_option linter.all false
set_option maxRecDepth 100000
set_option maxHeartbeats 1000000
/-! Px20: xs.index(y) of texts; a comprehension of two fors -/
namespace Px
open PySem L2
section
variable {X : Cx} {B : Bs} {a b c e tg : Expr} {pos p apos cpos : Pos} {fa fb fc f : F} {K : PySem.W.Frag} {σ : St} {H : Hp}
def strs? : List D → Option (List Str)
  | [] => some []
  | .str x :: ds => (strs? ds).bind fun l => some (x :: l)
  | _ => none
theorem strs_map : ∀ l : List Str, strs? (l.map D.str) = some l
  | [] => rfl
  | x :: l => by simp only [List.map_cons, strs?, strs_map l]; rfl
theorem strs_inv : ∀ {ds : List D} {l : List Str}, strs? ds = some l → ds = l.map D.str
  | [], l, h => by cases h; rfl
  | d :: ds, l, h => by
    cases d with
    | str x =>
      simp only [strs?] at h
      obtain ⟨l', h1, h⟩ := bnd h
      cases h
      rw [strs_inv h1]; rfl
    | _ => cases h
theorem RepL.strs {H0 : Hp} : ∀ {l : List Str} {xs : List V}, RepL K H0 (l.map D.str) xs → xs = l.map V.str
  | [], xs, h => h.of_nil
  | x :: l, xs, h => by
    obtain ⟨y, r, rfl, h1, h2⟩ := h.of_cons
    simp only [Rep] at h1
    rw [h1, RepL.strs h2]; rfl
@[simp] def gIdx (d e : D) : Option D := match d, e with
  | .lst ds, .str x => (strs? ds).bind fun l => (l.findIdx? fun y => y == x).bind fun j => some (.int j)
  | _, _ => none
@[simp] def eIndex (fa fb : F) : F := fun s => (fa s).bind fun a => (fb a.2).bind fun b => match a.1 with
  | .lst ds => (gIdx (.lst ds) b.1).bind fun d => some (d, b.2)
  | _ => none
theorem ie_index (ha : PE X a (tF X.K B fa)) (hb : PE X b (tF X.K B fb)) (hst : starEach [b] X.env = (false, eval b X.env) :: starEach [] X.env := by rfl)
    (hbase : attributeBase a "index" X.env (eval a X.env) = eval a X.env := by rfl)
    (hfew : ((backTo cpos (starEach [b] X.env)).all (fun x => !x.1) && (backToKw cpos (keywordEach [] X.env)).all (fun x => x.1.isSome) && decide ([b].length + ([] : List Keyword).length + (if ([] : List Keyword).isEmpty then 0 else 1) < 30)) = true := by rfl)
    (hline : (apos.endLine == cpos.line) = true := by rfl) (hplain : (backTo cpos (starEach [] X.env)).any (·.1) = false := by rfl) :
    PE X (.Call (.Attribute a "index" apos) [b] [] cpos) (tF X.K B (eIndex fa fb)) :=
  (pe_bm PySem.F.plainAttrs_list PySem.F.slot_list_index PySem.F.type_list_index mt_index ha (pa_cons hb pa_nil hst) hbase hfew hline hst hplain).pxw fun σ H Q q => by
  obtain ⟨s, H0, d, s', R, ev, k⟩ := q
  obtain ⟨⟨d1, s1⟩, e1, ev1⟩ := bnd ev
  obtain ⟨⟨d2, s2⟩, e3, ev2⟩ := bnd ev1
  cases d1 with
  | lst ds =>
    obtain ⟨d3, e4, ev3⟩ := bnd (show (gIdx (.lst ds) d2).bind _ = some (d, s') from ev2)
    cases ev3
    cases d2 with
    | str x =>
      obtain ⟨l, e5, e6⟩ := bnd (show (strs? ds).bind _ = some d from e4)
      obtain ⟨j, e7, e8⟩ := bnd e6
      cases e8
      have ed := strs_inv e5
      subst ed
      refine ⟨s, H0, .lst (l.map D.str), s1, R, e1, fun v H1 H' R1 x1 r1 => ?_⟩
      simp only [Rep] at r1
      obtain ⟨q, vs, rfl, lv, hq⟩ := r1
      have ev := lv.strs
      subst ev
      refine ⟨.inl ⟨rfl, _, .of (R1.h0 _ _ hq)⟩, s1, H1, .str x, _, R1, e3, fun w H2 H2' R2 x2 r2 => ?_⟩
      simp only [Rep] at r2
      subst r2
      rw [List.findIdx?_eq_some_iff_getElem] at e7
      obtain ⟨hj, ej, hno⟩ := e7
      refine ⟨q, l.map V.str, .str x, j, .str x, rfl, rfl, .of (R2.h0 _ _ (x2 _ _ hq)), rfl, ?_, ?_, ?_, fun m z' hm hz => ?_, k (.int j) H2 H2' R2 (x1.trans x2) (by simp only [Rep])⟩
      · rw [List.all_eq_true]
        intro y hy
        obtain ⟨z, _, rfl⟩ := List.mem_map.mp hy
        rfl
      · rw [List.getElem?_map, List.getElem?_eq_getElem hj]
        have : l[j] = x := by simpa using ej
        rw [this]; rfl
      · show (x == x) = true
        exact beq_self_eq_true _
      · rw [List.getElem?_map] at hz
        obtain ⟨y, hy, rfl⟩ := Option.map_eq_some_iff.mp hz
        have hml : m < l.length := by omega
        rw [List.getElem?_eq_getElem hml] at hy
        cases hy
        have := hno m hm
        show (l[m] == x) = false
        simpa using this
    | _ => cases e4
  | _ => cases ev2
/-! ### two fors -/
theorem wipe_wipe {σ : St} {vs vs1 : List Nat} (h : ∀ i ∈ vs1, i ∈ vs) : L2.wipe (L2.wipe σ vs1) vs = L2.wipe σ vs := by
  refine List.ext_getElem? fun i => ?_
  by_cases z : i ∈ vs
  · by_cases hi : i < σ.length
    · rw [wipe_get z hi, wipe_get z (by rw [wipe_length]; exact hi)]
    · rw [List.getElem?_eq_none (by rw [wipe_length, wipe_length]; omega), List.getElem?_eq_none (by rw [wipe_length]; omega)]
  · rw [wipe_out z, wipe_out z, wipe_out (fun k => z (h i k))]
@[simp] def comp2D (g : FG) (fi1 : FI) (g1 : FG) (fe : F) (vs vs1 : List Nat) : List D → S → List D → Option (List D × S)
  | [], s, acc => some (acc, s)
  | d :: ds, s, acc => (g d s).bind fun s1 => (fi1 s1).bind fun a => (compD g1 bYes fe vs1 a.1 (wipeS a.2 vs1) acc).bind fun r => comp2D g fi1 g1 fe vs vs1 ds (wipeS r.2 vs) r.1
@[simp] def eLc2 (fi : FI) (g : FG) (fi1 : FI) (g1 : FG) (fe : F) (vs vs1 : List Nat) : F := fun s => (fi s).bind fun a => if noOwn a.2 vs then (comp2D g fi1 g1 fe vs vs1 a.1 (wipeS a.2 vs) []).bind fun r => some (.lst r.1, restS a.2 r.2 vs) else none
theorem rd_lc2 {K : PySem.W.Frag} {fi fi1 : FI} {ts ts1 : List Nat} {g g1 : FG} {fe : F} {vs vs1 : List Nat} {σ : St} {H : Hp} {Q : VK} (hts : ∀ i ∈ ts, i ∈ vs) (hts1 : ∀ i ∈ ts1, i ∈ vs1) (h1v : ∀ i ∈ vs1, i ∈ vs) (q : tO K B (eLc2 fi g fi1 g1 fe vs vs1) σ H Q) :
    tLc2 (tI K B fi) (fun v σ H Q => ∃ B, tG K B ts g v σ H Q) (fun σ H Q => ∃ B, tT K B bYes σ H Q) (fun σ H Q => ∃ B, tI K B fi1 σ H Q) (fun v σ H Q => ∃ B, tG K B ts1 g1 v σ H Q) (fun σ H Q => ∃ B, tT K B bYes σ H Q) (fun σ H Q => ∃ B, tF K B fe σ H Q) vs vs1 σ H Q := by
  obtain ⟨s, H0, r, s', R, ev, k⟩ := q
  obtain ⟨⟨ds, s1⟩, e1, ev1⟩ := bnd ev
  dsimp only at ev1
  split at ev1
  · next hno =>
    have hv := noOwn_inv hno
    obtain ⟨⟨out, sf⟩, e2, ev2⟩ := bnd ev1
    cases ev2
    refine ⟨s, H0, ds, s1, R, e1, fun J H1 H' R1 x1 ok D hD => ?_⟩
    refine ⟨fun i m H => i + m = ds.length ∧ ∃ s2 H2 acc xs, Rel K B s2 (L2.wipe σ vs) H2 H ∧ Ex H1 H2 ∧ OwnAt K B s2 (L2.wipe σ vs) H2 H D (.lst acc) ∧ H D = some (.lst xs) ∧ RepL K H2 acc xs ∧ comp2D g fi1 g1 fe vs vs1 (ds.drop i) s2 acc = some (out, sf),
      ⟨ds.length, by omega, wipeS s1 vs, H1, [], [], (R1.laidO hD).wipe vs, Ex.refl _, (R1.ownNew (o := .lst []) (d := .lst []) hD ⟨[], rfl, .nil⟩).wipe vs, upd_same, .nil, by rw [List.drop_zero]; exact e2⟩, fun i m H hW => ?_⟩
    obtain ⟨hm, s2, H2, acc, xs, R2, x2, w2, hD2, l2, hc⟩ := hW
    cases hd : ds[i]? with
    | none =>
      have hi : ds.length ≤ i := by simpa using hd
      rw [List.drop_eq_nil_of_le hi] at hc
      cases hc
      refine .inl ⟨(ok i H2 H x2 R2.h0).2 (by omega), k D H2 H (R1.rest hv x2 R2) (x1.trans x2) (OwnAt.rest (Ha := H1) (Hb := H') hv w2)⟩
    | some d =>
      have hi : i < ds.length := (List.getElem?_eq_some_iff.mp hd).1
      rw [List.drop_eq_getElem_cons hi, (List.getElem?_eq_some_iff.mp hd).2] at hc
      obtain ⟨s3, e3, hc1⟩ := bnd hc
      obtain ⟨⟨es, s4⟩, e4, hc2⟩ := bnd hc1
      dsimp only at hc2
      obtain ⟨hgo, hy⟩ := (ok i H2 H x2 R2.h0).1 d hd
      refine .inr ⟨hgo, fun H' => i + 1 + (m - 1) = ds.length ∧ ∃ s2 H2 acc xs, Rel K B s2 (L2.wipe σ vs) H2 H' ∧ Ex H1 H2 ∧ OwnAt K B s2 (L2.wipe σ vs) H2 H' D (.lst acc) ∧ H' D = some (.lst xs) ∧ RepL K H2 acc xs ∧ comp2D g fi1 g1 fe vs vs1 (ds.drop (i + 1)) s2 acc = some (out, sf),
        fun H' hN => ⟨m - 1, by omega, hN⟩, fun x Hy hyx => ?_⟩
      have key : ∃ H3, Rel K B s2 (L2.wipe σ vs) H3 Hy ∧ Ex H2 H3 ∧ Rep K H3 d x ∧ OwnAt K B s2 (L2.wipe σ vs) H3 Hy D (.lst acc) ∧ Hy D = some (.lst xs) := by
        rcases hy x Hy hyx with ⟨rfl, r⟩ | ⟨T, o, hT, rfl, r⟩
        · exact ⟨H2, R2, Ex.refl _, r, w2, hD2⟩
        · have ne : D ≠ T := ne_of_none hD2 hT
          refine ⟨_, R2.laid hT, Ex.new (R2.fresh0 hT), r, ⟨by rw [upd_ne ne]; exact w2.z, w2.e, w2.b, ⟨_, by rw [upd_ne ne]; exact hD2, xs, rfl, l2.up (Ex.new (R2.fresh0 hT))⟩, w2.ne⟩, by rw [upd_ne ne]; exact hD2⟩
      obtain ⟨H3, R3, x3, r3, w3, hD3⟩ := key
      have zE : B.hE D = none := w3.e
      have zb : B.hb D = none := w3.b
      have z0 : B.h0 D = none := R3.z0.back w3.z
      refine ⟨B.pin D (.lst xs), s2, H3, d, s3, R3.pin w3 hD3, r3, e3, fun σ4 H4 H4' R4 x4 k4 => ⟨k4.wipe hts, ?_⟩⟩
      refine ⟨B.pin D (.lst xs), s3, H4, true, s3, R4, rfl, fun H5 H5' R5 x5 => ?_⟩
      refine iteT ?_
      refine ⟨B.pin D (.lst xs), s3, H5, es, s4, R5, e4, fun J1 H6 H6' R6 x6 ok1 => ?_⟩
      have x26 : Ex H2 H6 := ((x3.trans x4).trans x5).trans x6
      have x16 : Ex H1 H6 := x2.trans x26
      obtain ⟨R7, w7, hD7⟩ := R6.unpin zE zb z0 (d := .lst acc) ⟨xs, rfl, l2.up x26⟩
      refine ⟨fun j n H => j + n = es.length ∧ ∃ s2 H2 acc xs, Rel K B s2 (L2.wipe σ4 vs1) H2 H ∧ Ex H6 H2 ∧ OwnAt K B s2 (L2.wipe σ4 vs1) H2 H D (.lst acc) ∧ H D = some (.lst xs) ∧ RepL K H2 acc xs ∧ (compD g1 bYes fe vs1 (es.drop j) s2 acc).bind (fun r => comp2D g fi1 g1 fe vs vs1 (ds.drop (i + 1)) (wipeS r.2 vs) r.1) = some (out, sf),
        ⟨es.length, by omega, wipeS s4 vs1, H6, acc, xs, R7.wipe vs1, Ex.refl _, w7.wipe vs1, hD7, l2.up x26, by rw [List.drop_zero]; exact hc2⟩, fun j n Hj hWj => ?_⟩
      obtain ⟨hn, t2, G2, ac, ys, S2, y2, v2, hE2, m2, hcj⟩ := hWj
      cases he : es[j]? with
      | none =>
        have hj : es.length ≤ j := by simpa using he
        rw [List.drop_eq_nil_of_le hj] at hcj
        refine .inl ⟨(ok1 j G2 Hj y2 S2.h0).2 (by omega), by omega, wipeS t2 vs, G2, ac, ys, ?_, x16.trans y2, ?_, hE2, m2, hcj⟩
        · have := S2.wipe vs; rw [wipe_wipe h1v, k4.wipe hts] at this; exact this
        · have := v2.wipe vs; rw [wipe_wipe h1v, k4.wipe hts] at this; exact this
      | some d1 =>
        have hj : j < es.length := (List.getElem?_eq_some_iff.mp he).1
        rw [List.drop_eq_getElem_cons hj, (List.getElem?_eq_some_iff.mp he).2] at hcj
        obtain ⟨⟨out1, sf1⟩, hcj0, hcj9⟩ := bnd hcj
        obtain ⟨t3, f3, hcj1⟩ := bnd hcj0
        obtain ⟨hgo1, hy1⟩ := (ok1 j G2 Hj y2 S2.h0).1 d1 he
        refine .inr ⟨hgo1, fun H' => j + 1 + (n - 1) = es.length ∧ ∃ s2 H2 acc xs, Rel K B s2 (L2.wipe σ4 vs1) H2 H' ∧ Ex H6 H2 ∧ OwnAt K B s2 (L2.wipe σ4 vs1) H2 H' D (.lst acc) ∧ H' D = some (.lst xs) ∧ RepL K H2 acc xs ∧ (compD g1 bYes fe vs1 (es.drop (j + 1)) s2 acc).bind (fun r => comp2D g fi1 g1 fe vs vs1 (ds.drop (i + 1)) (wipeS r.2 vs) r.1) = some (out, sf),
          fun H' hN => ⟨n - 1, by omega, hN⟩, fun x1' Hz hzx => ?_⟩
        have key1 : ∃ G3, Rel K B t2 (L2.wipe σ4 vs1) G3 Hz ∧ Ex G2 G3 ∧ Rep K G3 d1 x1' ∧ OwnAt K B t2 (L2.wipe σ4 vs1) G3 Hz D (.lst ac) ∧ Hz D = some (.lst ys) := by
          rcases hy1 x1' Hz hzx with ⟨rfl, r⟩ | ⟨T, o, hT, rfl, r⟩
          · exact ⟨G2, S2, Ex.refl _, r, v2, hE2⟩
          · have ne : D ≠ T := ne_of_none hE2 hT
            refine ⟨_, S2.laid hT, Ex.new (S2.fresh0 hT), r, ⟨by rw [upd_ne ne]; exact v2.z, v2.e, v2.b, ⟨_, by rw [upd_ne ne]; exact hE2, ys, rfl, m2.up (Ex.new (S2.fresh0 hT))⟩, v2.ne⟩, by rw [upd_ne ne]; exact hE2⟩
        obtain ⟨G3, S3, y3, r3', v3, hE3⟩ := key1
        refine ⟨B.pin D (.lst ys), t2, G3, d1, t3, S3.pin v3 hE3, r3', f3, fun σ5 G4 G4' S4 y4 k5 => ⟨k5.wipe hts1, ?_⟩⟩
        refine ⟨B.pin D (.lst ys), t3, G4, true, t3, S4, rfl, fun G5 G5' S5 y5 => ?_⟩
        have y25 : Ex G2 G5 := (y3.trans y4).trans y5
        refine iteT ?_
        obtain ⟨⟨re, t5⟩, f5, hcj3⟩ := bnd (show (fe t3).bind _ = some (out1, sf1) from hcj1)
        dsimp only at hcj3
        split at hcj3
        · next hsm =>
          refine ⟨B.pin D (.lst ys), t3, G5, re, t5, S5, f5, fun y G6 G6' S6 y6 r6 => ?_⟩
          have l6 := m2.up (y25.trans y6)
          obtain ⟨S7, v7, hE7⟩ := S6.unpin v3.e v3.b (S3.z0.back v3.z) (d := .lst ac) ⟨ys, rfl, l6⟩
          obtain ⟨S8, v8⟩ := S7.grow v7 (o' := .lst (ys ++ [y])) (d' := .lst (ac ++ [re])) ⟨_, rfl, l6.append (.cons r6 .nil)⟩
          refine ⟨ys, hE7, by rw [l6.len]; exact small_lt hsm, by omega, wipeS t5 vs1, G6, ac ++ [re], ys ++ [y], ?_, y2.trans (y25.trans y6), ?_, upd_same, l6.append (.cons r6 .nil), ?_⟩
          · have := S8.wipe vs1; rw [k5.wipe hts1] at this; exact this
          · have := v8.wipe vs1; rw [k5.wipe hts1] at this; exact this
          · rw [hcj3]; exact hcj9
        · cases hcj3
  · cases ev1
theorem io_lc2 {elt iter tg1 iter1 : Expr} {scope : Scope} {own : List (Str × Nat)} {vs1 : List Nat} {fi fi1 : FI} {ts ts1 : List Nat} {g g1 : FG} {fe : F} (hc : X.calm = true) (hN : X.N.Nodup) (hi : PI X tg iter (tI X.K B fi)) (ok : BlkOk X.N X.env.scope scope own)
    (hg : ∀ (B : Bs) (s : Shared) (H : Hp) (C : Addr) (cl : List (Str × Addr)) (fp : List Addr), PG (X.blk s H scope (compEnvC scope cl C X.env) fp) tg (tG X.K B ts g))
    (hi1 : ∀ (B : Bs) (s : Shared) (H : Hp) (C : Addr) (cl : List (Str × Addr)) (fp : List Addr), PI (X.blk s H scope (compEnvC scope cl C X.env) fp) tg1 iter1 (tI X.K B fi1))
    (hg1 : ∀ (B : Bs) (s : Shared) (H : Hp) (C : Addr) (cl : List (Str × Addr)) (fp : List Addr), PG (X.blk s H scope (compEnvC scope cl C X.env) fp) tg1 (tG X.K B ts1 g1))
    (he : ∀ (B : Bs) (s : Shared) (H : Hp) (C : Addr) (cl : List (Str × Addr)) (fp : List Addr), PE (X.blk s H scope (compEnvC scope cl C X.env) fp) elt (tF X.K B fe)) (hts : ∀ i ∈ ts, i ∈ own.map (·.2) := by decide) (hts1 : ∀ i ∈ ts1, i ∈ vs1 := by decide) (h1v : ∀ i ∈ vs1, i ∈ own.map (·.2) := by decide)
    (hs : ∀ x, foldedSetIterable iter X.env x = pure x := by intro _; rfl) (hs1 : ∀ env x, foldedSetIterable iter1 env x = pure x := by intro _ _; rfl) : PE X (.ListComp elt [⟨tg, iter, [], 0⟩, ⟨tg1, iter1, [], 0⟩] scope pos) (tO X.K B (eLc2 fi g fi1 g1 fe (own.map (·.2)) vs1)) :=
  (pe_lc2 hc hN hi ok h1v (g := fun v σ H Q => ∃ B, tG X.K B ts g v σ H Q) (tt := fun σ H Q => ∃ B, tT X.K B bYes σ H Q) (wi1 := fun σ H Q => ∃ B, tI X.K B fi1 σ H Q) (g1 := fun v σ H Q => ∃ B, tG X.K B ts1 g1 v σ H Q) (tt1 := fun σ H Q => ∃ B, tT X.K B bYes σ H Q) (te := fun σ H Q => ∃ B, tF X.K B fe σ H Q)
    (fun s H C cl fp => ⟨fun pins s' σ H' v u Q I r ⟨B, q⟩ => (hg B s H C cl fp).run pins s' σ H' v u Q I r q⟩)
    (fun s H C cl fp => ⟨fun pins s' σ H' Q I ⟨B, q⟩ => its_nil.run pins s' σ H' Q I q⟩)
    (fun s H C cl fp => ⟨fun pins s' σ H' Q I ⟨B, q⟩ => (hi1 B s H C cl fp).run pins s' σ H' Q I q⟩)
    (fun s H C cl fp => ⟨fun pins s' σ H' v u Q I r ⟨B, q⟩ => (hg1 B s H C cl fp).run pins s' σ H' v u Q I r q⟩)
    (fun s H C cl fp => ⟨fun pins s' σ H' Q I ⟨B, q⟩ => its_nil.run pins s' σ H' Q I q⟩)
    (fun s H C cl fp => ⟨fun pins s' σ H' Q I ⟨B, q⟩ => (he B s H C cl fp).run pins s' σ H' Q I q⟩) hs hs1).pxw fun σ H Q q => rd_lc2 hts hts1 h1v q
end
end Px

set_option Elab.async false
set_option linter.all false
set_option maxRecDepth 100000
set_option maxHeartbeats 1000000
/-! Px21: truth values among numbers, texts of them, parts of texts, isinstance with lists -/
namespace Px
open PySem L2
def b2n (k : Bool) : Int := if k = true then 1 else 0
section
variable {X : Cx} {B : Bs} {a b : Expr} {pos p pT apos : Pos} {fa fb : F} {pa pb : FP} {K : PySem.W.Frag}
def rBI (f : Int → Int → Int) : R2 := fun x y H Q => (∃ i j, x = .int i ∧ y = .int j ∧ Q (.int (f i j)) H) ∨ ∃ k j, x = .bl k ∧ y = .int j ∧ Q (.int (f (b2n k) j)) H
theorem op_addB : OpR X (binaryOp .Add) (rBI fun i j => i + j) := by
  intro pins s σ H x y v u Q I rx ry h
  rcases h with ⟨i, j, rfl, rfl, q⟩ | ⟨k, j, rfl, rfl, q⟩
  · exact op_add pins s σ H _ _ v u Q I rx ry ⟨i, j, rfl, rfl, q⟩
  · cases rx
    obtain ⟨t, rfl⟩ := ry
    exact PySem.IntBool.add_bool_int ⟨.int (b2n k + j), H, I.tok _, ⟨_, rfl⟩, q⟩
theorem op_subB : OpR X (binaryOp .Sub) (rBI fun i j => i - j) := by
  intro pins s σ H x y v u Q I rx ry h
  rcases h with ⟨i, j, rfl, rfl, q⟩ | ⟨k, j, rfl, rfl, q⟩
  · exact op_sub pins s σ H _ _ v u Q I rx ry ⟨i, j, rfl, rfl, q⟩
  · cases rx
    obtain ⟨t, rfl⟩ := ry
    exact PySem.IntBool.sub_bool_int ⟨.int (b2n k - j), H, I.tok _, ⟨_, rfl⟩, q⟩
@[simp] def gBI (f : Int → Int → Int) : D → D → Option D
  | .int i, .int j => some (.int (f i j))
  | .bl k, .int j => some (.int (f (b2n k) j))
  | _, _ => none
theorem opd_BI {f : Int → Int → Int} : OpD K (rBI f) (gBI f) := .flat fun H0 d1 d2 d x y r1 r2 e => by
  unfold gBI at e
  split at e
  · next i j => cases e; exact ⟨.int (f i j), fun _ => by simp only [Rep], fun H Q q => .inl ⟨i, j, rep_int r1, rep_int r2, q⟩⟩
  · next k j =>
    cases e
    have : x = .bl k := by simpa only [Rep] using r1
    exact ⟨.int (f (b2n k) j), fun _ => by simp only [Rep], fun H Q q => .inr ⟨k, j, this, rep_int r2, q⟩⟩
  · cases e
theorem ie_addB (ha : PE X a (tF X.K B fa)) (hb : PE X b (tF X.K B fb)) : PE X (.BinOp a .Add b pos) (tF X.K B (eOp (gBI fun i j => i + j) fa fb)) := ie_op2 (pe_op op_addB) opd_BI ha hb
theorem ie_subB (ha : PE X a (tF X.K B fa)) (hb : PE X b (tF X.K B fb)) : PE X (.BinOp a .Sub b pos) (tF X.K B (eOp (gBI fun i j => i - j) fa fb)) := ie_op2 (pe_op op_subB) opd_BI ha hb
theorem neg_bool {prog : Program} {w : World} {A : Around} {E : Value → Shared → Prop} {s : Shared} {k : Bool} {Q : Value → Shared → Prop} (h : Q (.int (-(b2n k)) s.toks) { s with toks := s.toks + 1 }) : wpAny (model prog w) A (unaryOp .USub (.bool k)) Q E s :=
  unaryOp_gives (op := .USub) (typeIs_bool s k) rfl F.slot_bool_neg F.entry_int_neg (F.args_int_neg_1 _) (show Gives (Builtin.«int.__neg__» ⟨[.bool k], []⟩) (.int (-(b2n k))) from .of_eq rfl) h
theorem un_negB : UnR X (unaryOp .USub) (fun x H Q => (∃ i, x = .int i ∧ Q (.int (-i)) H) ∨ ∃ k, x = .bl k ∧ Q (.int (-(b2n k))) H) := by
  intro pins s σ H x v Q I rx h
  rcases h with ⟨i, rfl, q⟩ | ⟨k, rfl, q⟩
  · exact un_neg pins s σ H _ v Q I rx ⟨i, rfl, q⟩
  · cases rx
    exact neg_bool ⟨.int (-(b2n k)), H, I.tok _, ⟨_, rfl⟩, q⟩
@[simp] def gNegB : D → Option D
  | .int i => some (.int (-i))
  | .bl k => some (.int (-(b2n k)))
  | _ => none
theorem ie_negB (ha : PE X a (tF X.K B fa)) : PE X (.UnaryOp .USub a pos) (tF X.K B (eUn gNegB fa)) := (pe_un un_negB ha).pxw fun σ H Q q => by
  obtain ⟨s, H0, d, s', R, ev, k⟩ := q
  obtain ⟨⟨d1, s1⟩, e1, ev⟩ := bnd ev
  obtain ⟨d', e3, ev⟩ := bnd ev
  cases ev
  refine ⟨s, H0, d1, s1, R, e1, fun x H1 H' R1 x1 r1 => ?_⟩
  cases d1 with
  | int i => cases e3; exact .inl ⟨_, rep_int r1, k _ H1 H' R1 x1 (by simp only [Rep])⟩
  | bl kk =>
    cases e3
    have : x = .bl kk := by simpa only [Rep] using r1
    exact .inr ⟨kk, this, k _ H1 H' R1 x1 (by simp only [Rep])⟩
  | _ => cases e3
/-! ### str of a number, of a truth value -/
def rStrB : List V → Hp → VK → Prop := fun xs H Q => (∃ i, xs = [.int i] ∧ i.natAbs.log2 < 1920 ∧ Q (.str (toString i)) H) ∨ ∃ k : Bool, xs = [.bl k] ∧ Q (.str (if k then "True" else "False")) H
theorem call_strB : CallR X (.type "str") rStrB := by
  intro pins s σ H xs us Q I r h
  rcases h with ⟨i, rfl, hz, q⟩ | ⟨k, rfl, q⟩
  · exact call_str_int pins s σ H _ us Q I r ⟨i, rfl, hz, q⟩
  · obtain ⟨u, rfl, r1⟩ := vals1 r
    cases r1
    exact PySem.P.str_of_bool ⟨.str _, H, I.tok _, ⟨_, rfl⟩, q⟩
@[simp] def gStrB : D → Option D
  | .int i => if i.natAbs.log2 < 1920 then some (.str (toString i)) else none
  | .bl k => some (.str (if k then "True" else "False"))
  | _ => none
theorem cap_strB : CaP K rStrB gStrB := .flat fun B s σ H0 H q d d' x R r1 g1 e => by
  cases d with
  | int i =>
    simp only [gStrB] at e
    split at e
    · next h =>
      cases e
      exact ⟨_, fun _ => by simp only [Rep], fun Q z => .inl ⟨i, by rw [rep_int (r1.frozen R g1 (fun o z => z))], h, z⟩⟩
    · cases e
  | bl k =>
    cases e
    have : x = .bl k := by simpa only [Rep] using r1.frozen R g1 (fun o z => z)
    exact ⟨_, fun _ => by simp only [Rep], fun Q z => .inr ⟨k, by rw [this], z⟩⟩
  | _ => cases e
theorem ie_strB (hg : Gl X "str") (hm : X.mg "str" = none) (ha : PE X a (tP X.K B pa)) (he : starEach [a] X.env = (false, eval a X.env) :: starEach [] X.env := by rfl) (hpl : (backTo pos (starEach [] X.env)).any (·.1) = false := by rfl) :
    PE X (.Call (.Name "str" p) [a] [] pos) (tF X.K B (eB1 gStrB pa)) := ie_b1 (pe_callTy call_strB hg hm PySem.Pv.boot_str (pa_cons ha pa_nil he) (by decide) (by decide) he hpl) cap_strB
/-! ### parts of a text -/
@[simp] def eSlS (pa : FP) (l h : FO) : F := fun s => (pa s).bind fun a => (l a.2).bind fun b => (h b.2).bind fun c => (a.1.get c.2).bind fun d => match d with
  | .str z => if small z.length then some (.str (cutS z b.1 c.1), c.2) else none
  | _ => none
theorem ie_slS {lo hi : Option Expr} {p2 : Pos} {l h : FO} (ha : PE X a (tP X.K B pa)) (hl : PO X lo (tOo X.K B l)) (hh : PO X hi (tOo X.K B h)) : PE X (.Subscript a (.Slice lo hi none p2) pos) (tF X.K B (eSlS pa l h)) := (pe_slice sl_str ha hl hh).pxw fun σ H Q q => by
  obtain ⟨s, H0, d, s', R, ev, k⟩ := q
  obtain ⟨⟨p1, s1⟩, e1, ev⟩ := bnd ev
  obtain ⟨⟨o2, s2⟩, e2, ev⟩ := bnd ev
  obtain ⟨⟨o3, s3⟩, e3, ev⟩ := bnd ev
  obtain ⟨d1, g1, ev⟩ := bnd ev
  cases d1 with
  | str z =>
    simp only at ev
    split at ev
    · next hsm =>
      cases ev
      refine ⟨s, H0, p1, s1, R, e1, fun x H1 H' R1 x1 r1 => ⟨s1, H1, o2, s2, R1, e2, fun H2 H'' R2 x2 => ⟨s2, H2, o3, s', R2, e3, fun H3 H3' R3 x3 => ?_⟩⟩⟩
      have r1' := (r1.up x2).up x3
      have x13 := (x1.trans x2).trans x3
      exact ⟨z, rep_str (r1'.frozen R3 g1 (fun o z => z)), small_le hsm, k _ H3 H3' R3 x13 (by simp only [Rep])⟩
    · cases ev
  | _ => cases ev
@[simp] def eUpper (fa : F) : F := fun s => (fa s).bind fun a => match a.1 with
  | .str z => if z.length ≤ 5000000 then some (.str (Txt.upper z), a.2) else none
  | _ => none
theorem ie_upper (ha : PE X a (tF X.K B fa)) (hbase : attributeBase a "upper" X.env (eval a X.env) = eval a X.env := by rfl) (hline : (apos.endLine == pos.line) = true := by rfl) : PE X (.Call (.Attribute a "upper" apos) [] [] pos) (tF X.K B (eUpper fa)) := (pe_upper ha hbase hline).pxw fun σ H Q q => by
  obtain ⟨s, H0, d, s', R, ev, k⟩ := q
  obtain ⟨⟨d1, s1⟩, e1, ev⟩ := bnd ev
  cases d1 with
  | str z =>
    simp only at ev
    split at ev
    · next hz =>
      cases ev
      refine ⟨s, H0, .str z, s', R, e1, fun x H1 H' R1 x1 r1 => ?_⟩
      have := rep_str r1
      subst this
      exact ⟨⟨_, rfl⟩, z, rfl, rfl, by omega, k _ H1 H' R1 x1 (by simp only [Rep])⟩
    · cases ev
  | _ => cases ev
/-! ### isinstance, lists among the things -/
@[simp] def gIsL (T : String) : D → Option D
  | .lst _ => if T = "list" then some (.bl true) else if T = "int" ∨ T = "bool" ∨ T = "str" ∨ T = "tuple" then some (.bl false) else none
  | .int i => gIsi T (.int i)
  | .bl i => gIsi T (.bl i)
  | .str i => gIsi T (.str i)
  | .non => gIsi T .non
  | .tup i => gIsi T (.tup i)
  | _ => none
theorem isl_bl {T : String} {d d' : D} (h : gIsL T d = some d') : ∃ b, d' = .bl b := by
  cases d with
  | lst i => simp only [gIsL] at h; split at h; cases h; exact ⟨_, rfl⟩; split at h; cases h; exact ⟨_, rfl⟩; cases h
  | int i => exact isi_bl (T := T) (show gIsi T (.int i) = some d' from h)
  | bl i => exact isi_bl (T := T) (show gIsi T (.bl i) = some d' from h)
  | str i => exact isi_bl (T := T) (show gIsi T (.str i) = some d' from h)
  | non => exact isi_bl (T := T) (show gIsi T .non = some d' from h)
  | tup i => exact isi_bl (T := T) (show gIsi T (.tup i) = some d' from h)
  | _ => cases h
theorem kitL {T : String} {b : Bool} : (if T = "list" then some (D.bl true) else if T = "int" ∨ T = "bool" ∨ T = "str" ∨ T = "tuple" then some (.bl false) else none) = some (.bl b) → kitB "list" T = some b := fun e => by
  split at e
  · next h => subst h; cases e; decide +kernel
  · split at e
    · next h => rcases h with h | h | h | h <;> subst h <;> cases e <;> decide +kernel
    · cases e
theorem isl_ty {T : String} {B : Bs} {s : S} {σ : St} {H0 H : Hp} {q : PR} {d : D} {b : Bool} {x : V} (R : Rel K B s σ H0 H) (r1 : PRep K σ H0 q x) (g1 : q.get s = some d) (e : gIsL T d = some (.bl b)) : ∃ t : String, TyX K H x (.type t) ∧ kitB t T = some b := by
  cases d with
  | lst ds =>
    obtain ⟨a, xs, rfl, l, h⟩ := r1.lst R g1
    exact ⟨"list", .base (.lst h), kitL e⟩
  | int i => exact isi_ty R r1 g1 (show gIsi T (.int i) = some (.bl b) from e)
  | bl i => exact isi_ty R r1 g1 (show gIsi T (.bl i) = some (.bl b) from e)
  | str i => exact isi_ty R r1 g1 (show gIsi T (.str i) = some (.bl b) from e)
  | non => exact isi_ty R r1 g1 (show gIsi T .non = some (.bl b) from e)
  | tup i => exact isi_ty R r1 g1 (show gIsi T (.tup i) = some (.bl b) from e)
  | _ => cases e
theorem ie_isL {T : String} {x : Str} (hb : bootBuiltins x = some (.type T)) (hg : Gl X "isinstance") (hm : X.mg "isinstance" = none) (hgT : Gl X x) (hmT : X.mg x = none) (ha : PE X a (tP X.K B pa)) (hn : x ≠ "__name__" := by decide) (hdb : (x == ("__debug__" : Str)) = false := by decide)
    (he : starEach [a, .Name x pT] X.env = (false, eval a X.env) :: starEach [.Name x pT] X.env := by rfl) (he2 : starEach [.Name x pT] X.env = (false, eval (.Name x pT) X.env) :: starEach [] X.env := by rfl) (hpl : (backTo pos (starEach [.Name x pT] X.env)).any (·.1) = false := by rfl) :
    PE X (.Call (.Name "isinstance" p) [a, .Name x pT] [] pos) (tF X.K B (eB1 (gIsL T) pa)) :=
  (pe_callB call_isi hg hm (by decide +kernel) (pa_cons ha (pa_cons (pe_bltn (v := .ty T) hgT hmT hb rfl hn hdb) pa_nil he2) he) (by decide) (by decide) he hpl).pxw fun σ H Q q => by
    obtain ⟨s, H0, d, s', R, ev, k⟩ := q
    obtain ⟨⟨p1, s1⟩, e1, ev1⟩ := bnd ev
    obtain ⟨d1, g1, ev2⟩ := bnd ev1
    obtain ⟨d', e3, ev3⟩ := bnd ev2
    cases ev3
    obtain ⟨b, rfl⟩ := isl_bl e3
    refine ⟨s, H0, p1, s1, R, e1, fun x H1 H' R1 x1 r1 => ?_⟩
    obtain ⟨t, ty, kb⟩ := isl_ty R1 r1 g1 e3
    exact ⟨x, .ty T, .type t, .type T, b, rfl, .ty T, ty, kit_ty kb, k _ _ _ R1 x1 (by simp only [Rep])⟩
end
end Px

set_option Elab.async false
set_option linter.all false
set_option maxRecDepth 100000
set_option maxHeartbeats 3200000
/-! Px22: set(xs) of a list of whole numbers; sorted of it -/
namespace Px.SetL
open PySem PySem.Spec PyProof.Rows L2
section
variable {P : Program} {w : World} {A : Around} {E : Value → Shared → Prop} {s : Shared}
abbrev eO (w : World) : Obj := { cls := .type "set", dict := none, data := .set #[] 0 (.fresh 0 0 (!w.params.followText "set-order")) }
abbrev eH (w : World) (h : Heap) : Heap := h.push (eO w)
/-- the loop that fills the new set from the list -/
theorem filled {l : Addr} {items : Array Value} {ns : List Int} {R : Result → Shared → Prop} (hh : A.handled = none) (hl : s.heap.IsList l items) (hit : IntsAre items.toList ns) (hb : ns.length + 1 < scanBound)
    (h : ∀ (h' : Heap) (tk c : Nat), SetR w h' s.heap.objs.size (fun j => decide (j ∈ ns)) c → c ≤ ns.length → (∀ b o, s.heap.get? b = some o → h'.get? b = some o) → R (.ok (.ret .none)) { s with heap := h', toks := tk }) :
    codeAny (model P w) A (.builtin "set.update.loop" ⟨[.ref s.heap.objs.size, .ref (s.heap.objs.size + 1)], []⟩) R
      { s with heap := (eH w s.heap).push { cls := .type "list_iterator", data := .fields #[.ref l, .int 0 0] } } := by
  have len : items.size = ns.length := by
    rw [← Array.length_toList]; exact IntsAre.length hit
  have below : l < s.heap.objs.size := by
    obtain ⟨o, ho, _⟩ := hl; exact Heap.lt_size ho
  have z1 : (eH w s.heap).objs.size = s.heap.objs.size + 1 := Heap.size_push ..
  have hS : (eH w s.heap).get? s.heap.objs.size = some (eO w) := Heap.get?_push_size _ rfl
  have W := (Walks.list (prog := P) (w := w) (A := A.in1) (by simpa using hh) (s.heap.objs.size + 1) l (Nat.ne_of_lt (Nat.lt_succ_of_lt below)) items).toS
  have vals : ∀ (i : Nat) (v : Value), items[i]? = some v → ∃ k t, ns[i]? = some k ∧ v = .int k t := fun i v hv => by
    have hi : i < ns.length := by rw [← len]; exact (Array.getElem?_eq_some_iff.mp hv).1
    obtain ⟨t, e⟩ := IntsAre.int_at hit i v (by rw [Array.getElem?_toList]; exact hv)
    exact ⟨ns[i], t, List.getElem?_eq_getElem hi, by rw [e, List.getD_eq_getElem?_getD, List.getElem?_eq_getElem hi]; rfl⟩
  have itAt : ((eH w s.heap).push { cls := .type "list_iterator", data := .fields #[.ref l, .int 0 0] }).get? (s.heap.objs.size + 1) = some { cls := .type "list_iterator", data := .fields #[.ref l, .int 0 0] } := by
    rw [← z1]; exact Heap.get?_push_size _ rfl
  have lst1 : (eH w s.heap).IsList l items := by
    obtain ⟨o, ho, r⟩ := hl
    exact ⟨o, Heap.get?_push_of_some _ ho, r⟩
  refine set_update_ints W s.heap.objs.size (by simp only [List.mem_cons, List.not_mem_nil, or_false, not_or]; exact ⟨Nat.ne_of_lt (Nat.lt_succ_self _), Nat.ne_of_gt below⟩) ns len hb vals items.size 0 _ (by omega) (Nat.zero_le _) ⟨⟨_, itAt, rfl, rfl⟩, lst1.push _⟩ ⟨0, Nat.le_refl 0, setR_new_at (Heap.get?_push_of_some _ hS)⟩ fun s' c m hc hR => ?_
  obtain ⟨h', g, d, tk, os⟩ := s'
  have eg : g = s.gens := m.gens
  have ed : d = s.drawn := m.drawn
  have eo : os = s.os := m.os
  subst eg ed eo
  refine h h' tk c hR (by rw [← len]; exact hc) fun b o e => ?_
  have hb0 : b < s.heap.objs.size := Heap.lt_size e
  exact m.heap b o (by simp only [List.mem_cons, List.not_mem_nil, or_false, not_or]; exact ⟨Nat.ne_of_lt hb0, Nat.ne_of_lt (Nat.lt_succ_of_lt hb0)⟩) (Heap.get?_push_of_some _ (Heap.get?_push_of_some _ e))
/-- set(xs) -/
theorem call_setL {l : Addr} {items : Array Value} {ns : List Int} {Q : Value → Shared → Prop} (hh : A.handled = none) (hl : s.heap.IsList l items) (hit : IntsAre items.toList ns) (hb : ns.length + 1 < scanBound)
    (h : ∀ (h' : Heap) (tk c : Nat), SetR w h' s.heap.objs.size (fun j => decide (j ∈ ns)) c → c ≤ ns.length → (∀ b o, s.heap.get? b = some o → h'.get? b = some o) → Q (.ref s.heap.objs.size) { s with heap := h', toks := tk }) :
    wpAny (model P w) A (call (.type "set") [.ref l]) Q E s := by
  obtain ⟨c, tl, hmro⟩ := F.called_set.mro
  have made := F.called_set.made
  have sub := F.called_set.sub
  refine wpAny_call (codeAny_of_tree (show wpAny _ _ (callAny (.type "set") _) _ _ _ from wpAny_pure ⟨Code.quiet_builtin _ (by decide +kernel), codeAny_builtin F.entry_type_call ?_⟩))
  rw [Around.under_plain (weight_type_call_type "set" [.ref l] []) rfl]
  have n1 := F.called_set.notType
  have n2 := F.called_set.canCreate
  have n3 := F.typeCall_set_1 (.ref l)
  repeat (any_goals (first | assumption | wp_step))
  refine codeAny_mono (code_set_led1 (.ref l) (E := E) (Q₁ := fun obj s₁ => obj = .ref s.heap.objs.size ∧ s₁ = { s with heap := eH w s.heap }) ⟨rfl, rfl⟩) fun r s₁ hr => ?_
  cases r with
  | error e => exact hr
  | ok fl =>
    cases fl with
    | ret obj =>
      obtain ⟨rfl, rfl⟩ := hr
      have hS : (eH w s.heap).get? s.heap.objs.size = some (eO w) := Heap.get?_push_size _ rfl
      have hT : Shared.TypeIs { s with heap := eH w s.heap } (.ref s.heap.objs.size) "set" := ⟨_, hS, rfl⟩
      have i1 := F.called_set.init.lookup
      have i2 := F.called_set.init.bind (.ref s.heap.objs.size)
      repeat (any_goals (first | assumption | wp_step))
      refine codeAny_mono (codeAny_call_builtin (R := wants (fun r s₂ => r = .none ∧ ∃ h' tk c, s₂ = { s with heap := h', toks := tk } ∧ SetR w h' s.heap.objs.size (fun j => decide (j ∈ ns)) c ∧ c ≤ ns.length ∧ ∀ b o, s.heap.get? b = some o → h'.get? b = some o) E) F.called_set.init.plain F.entry_set_init (check_set_init_1 hT ?_)) fun r₂ s₂ hr₂ => ?_
      · obtain ⟨⟨oc, od, oa, os⟩, hol, hcl, nl, hdl⟩ := id hl
        simp only at hcl hdl
        subst hcl hdl
        have hol1 : (eH w s.heap).get? l = some { cls := .type "list", dict := od, data := .seq items nl, slots := os } := Heap.get?_push_of_some _ hol
        have l1 : (eH w s.heap).IsList l items := ⟨_, hol1, rfl, nl, rfl⟩
        have c1 := F.sub_list_set
        have c2 := F.sub_list_frozenset
        have c3 : (Value.type "list" == Value.type "dict") = false := by decide
        unfold Builtin.«set.__init__» noKeywords Builtin.Frozenset.updateFrom
        generalize hPI : pyIter = PI
        wp_walk
        subst hPI
        refine wpAny_pyIter_list l1 (wpAny_bind (wpAny_runValue ?_))
        have z1 : (eH w s.heap).objs.size = s.heap.objs.size + 1 := Heap.size_push ..
        show codeAny _ _ (.builtin "set.update.loop" ⟨[.ref s.heap.objs.size, .ref (eH w s.heap).objs.size], []⟩) _ _
        rw [z1]
        refine filled (by simpa using hh) hl hit hb fun h' tk c q1 q2 q3 => ?_
        exact wpAny_pure (show wpAny _ _ (ret Value.none) _ _ _ from wpAny_pure ⟨rfl, h', tk, c, rfl, q1, q2, q3⟩)
      · cases r₂ with
        | error e => exact hr₂
        | ok fl₂ =>
          cases fl₂ with
          | ret r =>
            obtain ⟨rfl, h', tk, c', rfl, q1, q2, q3⟩ := hr₂
            repeat (any_goals (first | assumption | wp_step))
            exact h _ _ _ q1 q2 q3
          | _ => exact hr₂.elim
    | _ => exact hr.elim
end
/-! ### the rule: sorted(set(xs)) -/
section
variable {X : Cx}
def rSetL (K : PySem.W.Frag) (w : World) : List V → Hp → VK → Prop := fun vs H Q => ∃ (l : Addr) (ns : List Int), vs = [V.ref l] ∧ SqL K H l (ns.map V.int) ∧ ns.length < 60 ∧ ∀ (p : Addr) (c : Nat), H p = none → c ≤ ns.length → Q (.ref p) (upd H p (SetO w p (fun j => decide (j ∈ ns)) c))
theorem cr_setL (hc : X.calm = true) : CallR X (.type "set") (rSetL X.K X.w) := by
  intro pins s σ H vs us Q I r h
  obtain ⟨l, ns, rfl, hs, h60, q⟩ := h
  obtain ⟨its, rv, pl, hz⟩ := I.list hs
  rw [Vals.ref1 r]
  refine call_setL (ns := ns) (I.ok.hd hc) pl.isList (by simpa using rv.ints) (by unfold scanBound; omega) fun h' tk c R1 hcn k => ?_
  have hn : H s.heap.objs.size = none := I.hok.fresh (Nat.le_refl _)
  exact ⟨.ref s.heap.objs.size, _, I.laid (t' := tk) k (Nat.le_refl _) (setO_new R1), rfl, q _ c hn hcn⟩
end
end Px.SetL

set_option Elab.async false
set_option linter.all false
set_option maxRecDepth 100000
set_option maxHeartbeats 1000000
/-! Px23: sorted(set(xs)), isinstance of two classes, not in a text, unpacking a list -/
namespace Px
open PySem L2
/-! ### as data -/
/-- the numbers, rising, each once -/
def insU (x : Int) : List Int → List Int
  | [] => [x]
  | y :: l => if x < y then x :: y :: l else if x = y then y :: l else y :: insU x l
def sortU : List Int → List Int
  | [] => []
  | x :: l => insU x (sortU l)
theorem insU_mem (x : Int) : ∀ (l : List Int) (k : Int), k ∈ insU x l ↔ k = x ∨ k ∈ l
  | [], k => by simp [insU]
  | y :: l, k => by
    unfold insU
    split
    · simp
    · split
      · next h => subst h; simp
      · have := insU_mem x l k
        simp only [List.mem_cons, this]
        constructor
        · rintro (h | h | h)
          · exact .inr (.inl h)
          · exact .inl h
          · exact .inr (.inr h)
        · rintro (h | h | h)
          · exact .inr (.inl h)
          · exact .inl h
          · exact .inr (.inr h)
theorem sortU_mem : ∀ (l : List Int) (k : Int), k ∈ sortU l ↔ k ∈ l
  | [], k => by simp [sortU]
  | x :: l, k => by rw [sortU, insU_mem, sortU_mem l k, List.mem_cons]
theorem insU_up (x : Int) : ∀ l : List Int, l.Pairwise (· < ·) → (insU x l).Pairwise (· < ·)
  | [], _ => by simp [insU]
  | y :: l, h => by
    rw [List.pairwise_cons] at h
    unfold insU
    split
    · next k =>
      rw [List.pairwise_cons, List.pairwise_cons]
      exact ⟨fun z hz => by rcases List.mem_cons.mp hz with e | e; omega; have := h.1 z e; omega, h.1, h.2⟩
    · split
      · rw [List.pairwise_cons]; exact h
      · rw [List.pairwise_cons]
        refine ⟨fun z hz => ?_, insU_up x l h.2⟩
        rcases (insU_mem x l z).mp hz with e | e
        · omega
        · exact h.1 z e
theorem sortU_up : ∀ l : List Int, (sortU l).Pairwise (· < ·)
  | [] => by simp [sortU]
  | x :: l => insU_up x _ (sortU_up l)
theorem up_same : ∀ {a b : List Int}, a.Pairwise (· < ·) → b.Pairwise (· < ·) → (∀ k, k ∈ a ↔ k ∈ b) → a = b
  | [], [], _, _, _ => rfl
  | [], y :: b, _, _, h => absurd ((h y).mpr (.head _)) (by simp)
  | x :: a, [], _, _, h => absurd ((h x).mp (.head _)) (by simp)
  | x :: a, y :: b, ha, hb, h => by
    rw [List.pairwise_cons] at ha hb
    have e : x = y := by
      rcases List.mem_cons.mp ((h x).mp (.head _)) with z | z
      · exact z
      · rcases List.mem_cons.mp ((h y).mpr (.head _)) with w | w
        · exact w.symm
        · have := ha.1 y w; have := hb.1 x z; omega
    subst e
    rw [up_same ha.2 hb.2 fun k => ?_]
    constructor
    · intro hk
      rcases List.mem_cons.mp ((h k).mp (.tail _ hk)) with z | z
      · subst z; have := ha.1 k hk; omega
      · exact z
    · intro hk
      rcases List.mem_cons.mp ((h k).mpr (.tail _ hk)) with z | z
      · subst z; have := hb.1 k hk; omega
      · exact z
@[simp] def gSortU : D → Option D
  | .lst ds => (ints? ds).bind fun l => if l.length < 60 then some (.lst ((sortU l).map D.int)) else none
  | _ => none
section
variable {X : Cx} {B : Bs} {a : Expr} {pos p p2 q2 : Pos} {pa : FP}
theorem io_sortU (hc : X.calm = true) (hg : Gl X "sorted") (hm : X.mg "sorted" = none) (hg2 : Gl X "set") (hm2 : X.mg "set" = none) (ha : PE X a (tP X.K B pa))
    (he : starEach [a] X.env = (false, eval a X.env) :: starEach [] X.env := by rfl) (hpl : (backTo q2 (starEach [] X.env)).any (·.1) = false := by rfl)
    (he2 : starEach [.Call (.Name "set" p2) [a] [] q2] X.env = (false, eval (.Call (.Name "set" p2) [a] [] q2) X.env) :: starEach [] X.env := by rfl) (hpl2 : (backTo pos (starEach [] X.env)).any (·.1) = false := by rfl) :
    PE X (.Call (.Name "sorted" p) [.Call (.Name "set" p2) [a] [] q2] [] pos) (tO X.K B (eB1 gSortU pa)) :=
  (pe_callB (cr_sortedSet hc) hg hm (by decide +kernel) (pa_cons (pe_callTy (SetL.cr_setL hc) hg2 hm2 (by decide +kernel) (pa_cons ha pa_nil he) (by decide) (by decide) he hpl) pa_nil he2) (by decide) (by decide) he2 hpl2).pxw fun σ H Q q => by
  obtain ⟨s, H0, d, s', R, ev, k⟩ := q
  obtain ⟨⟨p1, s1⟩, e1, ev1⟩ := bnd ev
  obtain ⟨d1, g1, ev2⟩ := bnd ev1
  obtain ⟨d', e3, ev3⟩ := bnd ev2
  cases ev3
  refine ⟨s, H0, p1, s1, R, e1, fun x H1 H' R1 x1 r1 => ?_⟩
  cases d1 with
  | lst ds =>
    obtain ⟨l, el, e2⟩ := bnd (show (ints? ds).bind _ = some _ from e3)
    split at e2
    · next h60 =>
      cases e2
      have ed := ints_inv el
      subst ed
      obtain ⟨t, xs, rfl, rl, h⟩ := r1.lst R1 g1
      have ex : xs = l.map V.int := rl.ints
      subst ex
      refine ⟨t, l, rfl, .of h, h60, fun u c hu hcl => ?_⟩
      refine ⟨u, fun j => decide (j ∈ l), c, rfl, upd_same .., by omega, fun ns v hs hm hl hv => ?_⟩
      have en : ns = sortU l := up_same hs (sortU_up l) fun j => by rw [hm j, sortU_mem, decide_eq_true_eq]
      subst en
      have R2 := R1.laidO (o := SetO X.w u (fun j => decide (j ∈ l)) c) hu
      exact k v H1 _ (R2.laidO hv) x1 (R2.ownNew (o := .lst _) hv ⟨_, rfl, RepL.of_ints _⟩)
    · cases e2
  | _ => cases e3
end
end Px

set_option Elab.async false
set_option linter.all false
set_option maxRecDepth 100000
set_option maxHeartbeats 1000000
/-! Px24: isinstance of two classes, not in a text, three at once, unpacking a list, xs[i], xs[j] = .. -/
namespace Px
open PySem L2
section
variable {X : Cx} {B : Bs} {a b c e tg : Expr} {es : List Expr} {pos p pT pU tpos apos : Pos} {fa fb fc f : F} {pa pb : FP} {K : PySem.W.Frag} {x : Str}
/-! ### isinstance(x, (tuple, list)) -/
@[simp] def gIsTL : D → Option D
  | .tup _ => some (.bl true)
  | .lst _ => some (.bl true)
  | .int _ => some (.bl false)
  | .bl _ => some (.bl false)
  | .str _ => some (.bl false)
  | .non => some (.bl false)
  | _ => none
def anyTL (t : String) : Option Bool := match kitB t "tuple" with
  | some true => some true
  | some false => kitB t "list"
  | none => none
theorem anyTL_kit {t : String} {b : Bool} (h : anyTL t = some b) : PySem.W.kitAny K (.type t) [.type "tuple", .type "list"] = some b := by
  unfold anyTL at h
  unfold PySem.W.kitAny
  cases q : kitB t "tuple" with
  | none => rw [q] at h; cases h
  | some r =>
    rw [q] at h
    rw [kit_ty (K := K) q]
    cases r with
    | true => exact h
    | false =>
      simp only at h ⊢
      unfold PySem.W.kitAny
      rw [kit_ty (K := K) h]
      cases b <;> rfl
theorem isTL_ty {B : Bs} {s : S} {σ : St} {H0 H : Hp} {q : PR} {d : D} {b : Bool} {x : V} (R : Rel K B s σ H0 H) (r1 : PRep K σ H0 q x) (g1 : q.get s = some d) (e : gIsTL d = some (.bl b)) : ∃ t : String, TyX K H x (.type t) ∧ anyTL t = some b := by
  cases d with
  | lst ds =>
    cases e
    obtain ⟨a, xs, rfl, l, h⟩ := r1.lst R g1
    exact ⟨"list", .base (.lst h), by decide +kernel⟩
  | tup ds =>
    cases e
    obtain ⟨t, ty, kb⟩ := isi_ty (T := "tuple") R r1 g1 (b := true) rfl
    refine ⟨t, ty, ?_⟩
    unfold anyTL
    rw [kb]
  | int i =>
    cases e
    rw [rep_int (r1.frozen R g1 (fun o z => z))]
    exact ⟨_, .base (.int i), by decide +kernel⟩
  | bl i =>
    cases e
    have : x = .bl i := by simpa only [Rep] using r1.frozen R g1 (fun o z => z)
    rw [this]
    exact ⟨_, .base (.bl i), by decide +kernel⟩
  | str i =>
    cases e
    rw [rep_str (r1.frozen R g1 (fun o z => z))]
    exact ⟨_, .base (.str i), by decide +kernel⟩
  | non =>
    cases e
    have : x = .non := by simpa only [Rep] using r1.frozen R g1 (fun o z => z)
    rw [this]
    exact ⟨_, .base .non, by decide +kernel⟩
  | _ => cases e
theorem isTL_bl {d d' : D} (h : gIsTL d = some d') : ∃ b, d' = .bl b := by
  cases d <;> first | (cases h; exact ⟨_, rfl⟩) | cases h
theorem ie_isTL {kk : Nat} (hg : Gl X "isinstance") (hm : X.mg "isinstance" = none) (hgT : Gl X "tuple") (hmT : X.mg "tuple" = none) (hgL : Gl X "list") (hmL : X.mg "list" = none) (ha : PE X a (tP X.K B pa))
    (he : starEach [a, .Tuple [.Name "tuple" pT, .Name "list" pU] kk tpos] X.env = (false, eval a X.env) :: starEach [.Tuple [.Name "tuple" pT, .Name "list" pU] kk tpos] X.env := by rfl)
    (he2 : starEach [.Tuple [.Name "tuple" pT, .Name "list" pU] kk tpos] X.env = (false, eval (.Tuple [.Name "tuple" pT, .Name "list" pU] kk tpos) X.env) :: starEach [] X.env := by rfl)
    (he3 : starEach [.Name "tuple" pT, .Name "list" pU] X.env = (false, eval (.Name "tuple" pT) X.env) :: starEach [.Name "list" pU] X.env := by rfl) (he4 : starEach [.Name "list" pU] X.env = (false, eval (.Name "list" pU) X.env) :: starEach [] X.env := by rfl)
    (hpl : (backTo pos (starEach [.Tuple [.Name "tuple" pT, .Name "list" pU] kk tpos] X.env)).any (·.1) = false := by rfl) :
    PE X (.Call (.Name "isinstance" p) [a, .Tuple [.Name "tuple" pT, .Name "list" pU] kk tpos] [] pos) (tF X.K B (eB1 gIsTL pa)) :=
  (pe_callB call_isiT hg hm (by decide +kernel) (pa_cons ha (pa_cons (pe_tup (pa_cons (pe_bltn (v := .ty "tuple") hgT hmT (by decide +kernel) rfl (by decide) (by decide)) (pa_cons (pe_bltn (v := .ty "list") hgL hmL (by decide +kernel) rfl (by decide) (by decide)) pa_nil he4) he3)) pa_nil he2) he) (by decide) (by decide) he hpl).pxw fun σ H Q q => by
    obtain ⟨s, H0, d, s', R, ev, k⟩ := q
    obtain ⟨⟨p1, s1⟩, e1, ev1⟩ := bnd ev
    obtain ⟨d1, g1, ev2⟩ := bnd ev1
    obtain ⟨d', e3, ev3⟩ := bnd ev2
    cases ev3
    obtain ⟨b, rfl⟩ := isTL_bl e3
    refine ⟨s, H0, p1, s1, R, e1, fun x H1 H' R1 x1 r1 => ?_⟩
    refine ⟨by decide, fun u hu => ?_⟩
    have R2 := R1.laidO (o := .tup [.ty "tuple", .ty "list"]) hu
    obtain ⟨t, ty, kb⟩ := isTL_ty R2 r1 g1 e3
    exact ⟨x, u, [.ty "tuple", .ty "list"], .type t, [.type "tuple", .type "list"], b, rfl, upd_same .., .cons (.ty _) (.cons (.ty _) .nil), ty, anyTL_kit kb, k _ _ _ R2 x1 (by simp only [Rep])⟩
/-! ### not in, texts -/
@[simp] def gNinS : D → D → Option D
  | .str i, .str j => some (.bl (!(!(Builtin.Str.occurrences j i 0 j.length 1).isEmpty)))
  | _, _ => none
theorem opp_ninS : OpP K (fun x y H Q => ∃ i j, x = .str i ∧ y = .str j ∧ Q (.bl (!(!(Builtin.Str.occurrences j i 0 j.length 1).isEmpty))) H) gNinS := fun B s σ H0 H q1 q2 d1 d2 d x y Q R r1 r2 g1 g2 e k => by
  cases d1 with
  | str i =>
    cases d2 with
    | str j =>
      cases e
      exact ⟨i, j, rep_str (r1.frozen R g1 (fun o z => z)), rep_str (r2.frozen R g2 (fun o z => z)), k _ H0 H R (Ex.refl _) (by simp only [Rep])⟩
    | _ => cases e
  | _ => cases e
theorem ie_ninS (ha : PE X a (tP X.K B pa)) (hb : PE X b (tP X.K B pb)) (hm : behindInMarks .NotIn b = false := by rfl) : PE X (.Compare a [.NotIn] [b] pos) (tF X.K B (eOpP gNinS pa pb)) := ie_op2P (fun h1 h2 => pe_cmpR op_notin_str h1 h2 hm) opp_ninS ha hb
theorem it_ninS (ha : PE X a (tP X.K B pa)) (hb : PE X b (tP X.K B pb)) (hm : behindInMarks .NotIn b = false := by rfl) : PT X (.Compare a [.NotIn] [b] pos) (tT X.K B (bT (eOpP gNinS pa pb))) := it_of (pt_cmpR op_notin_str ha hb hm) fun q => rd_op2P opp_ninS q
/-! ### a, b, c = e1, e2, e3 -/
@[simp] def sPar3 (i j l : Nat) (fa fb fc : F) : FS := fun s => (fa s).bind fun a => (fb a.2).bind fun b => (fc b.2).bind fun c => some (.nx (((c.2.set i (some (.sh, a.1))).set j (some (.sh, b.1))).set l (some (.sh, c.1))))
theorem is_par3 {i j l : Nat} {x y z : Str} {px py pz pt : Pos} {kt k2 pt2} (hc : X.calm = true) (hN : X.N.Nodup) (hi : X.N[i]? = some x) (hj : X.N[j]? = some y) (hl : X.N[l]? = some z) (hij : i ≠ j) (hil : i ≠ l) (hjl : j ≠ l)
    (hx : X.env.scope.names.lookup x = some .local) (hy : X.env.scope.names.lookup y = some .local) (hz : X.env.scope.names.lookup z = some .local)
    (ha : PE X a (tF X.K B fa)) (hb : PE X b (tF X.K B fb)) (hcc : PE X c (tF X.K B fc)) (he : starEach [a, b, c] X.env = (false, eval a X.env) :: starEach [b, c] X.env := by rfl) (he2 : starEach [b, c] X.env = (false, eval b X.env) :: starEach [c] X.env := by rfl) (he3 : starEach [c] X.env = (false, eval c X.env) :: starEach [] X.env := by rfl)
    (hw : swappedStores [.Tuple [.Name x px, .Name y py, .Name z pz] kt pt] (.Tuple [a, b, c] k2 pt2) X.env = pure (some [x, y, z]) := by rfl) (hs : swapsWithSole [.Tuple [.Name x px, .Name y py, .Name z pz] kt pt] (.Tuple [a, b, c] k2 pt2) pos.line X.env = pure false := by rfl) :
    PS X (.Assign [.Tuple [.Name x px, .Name y py, .Name z pz] kt pt] (.Tuple [a, b, c] k2 pt2) pos) (tS X.K B (sPar3 i j l fa fb fc)) := (ps_par3 hc hN hi hj hl hij hil hjl hx hy hz (pa_cons ha (pa_cons hb (pa_cons hcc pa_nil he3) he2) he) hw hs).pxw fun E σ H q => by
  obtain ⟨s, H0, out, R, ev, k⟩ := q
  obtain ⟨⟨d1, s1⟩, e1, ev1⟩ := bnd ev
  obtain ⟨⟨d2, s2⟩, e2, ev2⟩ := bnd ev1
  obtain ⟨⟨d3, s3⟩, e3, ev3⟩ := bnd ev2
  cases ev3
  exact ⟨s, H0, d1, s1, R, e1, fun v H1 H' R1 x1 r1 => ⟨s1, H1, d2, s2, R1, e2, fun w H2 H2' R2 x2 r2 => ⟨s2, H2, d3, s3, R2, e3, fun u H3 H3' R3 x3 r3 => ⟨v, w, u, rfl, k _ H3 H3' (((R3.set ((r1.up x2).up x3)).set (r2.up x3)).set r3) ((x1.trans x2).trans x3)⟩⟩⟩⟩
/-! ### (a, b, ..) = a list -/
@[simp] def hUnl (h : FGs) : FG := fun d s => match d with | .lst ds => h ds s | _ => none
theorem ig_unl {kk : Nat} {ts : List Nat} {h : FGs} {n : Nat} (hc : X.calm = true) (h1 : PGs X es (tGs X.K B ts h)) (hlen : ∀ ds s s', h ds s = some s' → ds.length = n) (hn : (assignEach es X.env).length = n := by rfl) (hst : (assignEach es X.env).findIdx? (·.1) = none := by rfl) : PG X (.Tuple es kk pos) (tG X.K B ts (hUnl h)) :=
  (pg_unl hc h1 hn hst).pxw fun v σ H Q q => by
    obtain ⟨s, H0, d, s', R, r, e, k⟩ := q
    cases d with
    | lst ds =>
      simp only [Rep] at r
      obtain ⟨a, xs, rfl, l, hq⟩ := r
      exact ⟨a, xs, rfl, .of (R.h0 _ _ hq), by rw [l.len]; exact hlen _ _ _ e, s, H0, ds, s', R, l, e, k⟩
    | _ => cases e
/-! ### x[i] as a target -/
@[simp] def hPut (i : Nat) (fi : F) : FG := fun d s => (ownL s i).bind fun _ => (fi s).bind fun k => (ownL k.2 i).bind fun m => match k.1 with
  | .int j => (ixN m.2.length j).bind fun jj => some (k.2.set i (some (m.1, .lst (m.2.set jj d))))
  | _ => none
theorem ig_put {i : Nat} {pn pos' : Pos} (hv : PE X (.Name x pn) (tVar i)) (hi : PE X b (tF X.K B fb))
    (ha : ∀ v, assign (.Subscript (.Name x pn) b pos') X.env v = (do let ov ← holding [v] (eval (.Name x pn) X.env); let iv ← holding [v, ov] (eval b X.env); standAt pos'; holding [v, ov, iv] (setItem ov iv v); release [v, ov, iv] []) := by intro _; rfl) :
    PG X (.Subscript (.Name x pn) b pos') (tG X.K B [] (hPut i fb)) := (pg_sub hv hi set_list ha).pxw fun v σ H Q q => by
  obtain ⟨s, H0, d, s', R, r1, ev, k⟩ := q
  obtain ⟨⟨m0, ds0⟩, e0, ev0⟩ := bnd ev
  obtain ⟨⟨dk, s2⟩, e2, ev2⟩ := bnd ev0
  obtain ⟨⟨m, ds⟩, e3, ev3⟩ := bnd ev2
  cases dk with
  | int j =>
    obtain ⟨jj, ej, ev4⟩ := bnd ev3
    cases ev4
    obtain ⟨p, xs, ep, hp, _⟩ := own_lst R e0
    refine ⟨_, ep, s, H0, _, s2, R, e2, fun w H2 H2' R2 x2 r2 => ?_⟩
    obtain ⟨p', xs', ep', hp', l⟩ := own_lst R2 e3
    rw [ep] at ep'; cases ep'
    obtain ⟨h1, hm⟩ := ownL_inv e3
    refine ⟨p, xs', j, jj, rfl, rep_int r2, hp', by rw [l.len]; exact ej, ?_⟩
    exact k σ H2 _ (R2.mut h1 hm ep ⟨_, rfl, l.set jj (r1.up x2)⟩) x2 ⟨rfl, fun _ _ => rfl⟩
  | _ => cases ev3
end
end Px

set_option Elab.async false
set_option linter.all false
set_option maxRecDepth 100000
set_option maxHeartbeats 1000000
/-! Px25: t[::-1] of a tuple -/
namespace Px.RevT
open PySem PySem.Spec PyProof.Rows L2
section
variable {prog : Program} {w : World} {A : Around} {E : Value → Shared → Prop} {s : Shared}
theorem applied_back {sl : Addr} {vl vu vs : Value} {n : Nat} {Q : Int × Int × Nat → Shared → Prop} (hs : s.heap.IsSliceOf sl vl vu vs) (pl : IsPart vl none) (pu : IsPart vu none) (ps : IsPart vs (some (-1)))
    (h : Q ((n : Int) - 1, -1, n) s) : wpAny (model prog w) A (Builtin.Slice.sliceApplied (.ref sl) (pure (n : Int))) Q E s := by
  obtain ⟨os, hos, hcs, hds⟩ := id hs
  unfold Builtin.Slice.sliceApplied Builtin.Slice.sliceFields
  refine wpAny_bind (wpAny_bind (wpAny_field hos hds (x := vl) rfl (wpAny_bind (wpAny_field hos hds (x := vu) rfl (wpAny_bind (wpAny_field hos hds (x := vs) rfl (wpAny_pure ?_)))))))
  refine wpAny_bind (HT.slicePart_ ps ?_)
  show wpAny _ _ (if ((-1 : Int) == 0) = true then _ else _) _ _ s
  rw [if_neg (by decide)]
  refine wpAny_bind (HT.slicePart_ pl (wpAny_bind (HT.slicePart_ pu (wpAny_bind (wpAny_pure ?_)))))
  show wpAny _ _ (pure ((n : Int) - 1, (-1 : Int), Builtin.Slice.slicePlaces ((n : Int) - 1) (-1) (-1))) _ _ s
  have e : Builtin.Slice.slicePlaces ((n : Int) - 1) (-1) (-1) = n := by
    unfold Builtin.Slice.slicePlaces
    rw [if_neg (by decide)]
    by_cases z : (n : Int) - 1 > -1
    · rw [if_pos z, show -(-1 : Int) = 1 from rfl, Int.ediv_one]; omega
    · rw [if_neg z]; omega
  rw [e]
  exact wpAny_pure h
theorem fm_map {α β : Type} (f : α → Option β) (g : α → β) : ∀ l : List α, (∀ a ∈ l, f a = some (g a)) → l.filterMap f = l.map g
  | [], _ => rfl
  | a :: l, h => by rw [List.filterMap_cons, h a (.head _), List.map_cons, fm_map f g l fun b hb => h b (.tail _ hb)]
theorem pick_back (xs : Array Value) : ((List.range xs.size).filterMap fun (k : Nat) => xs[((xs.size : Int) - 1 + (k : Int) * (-1)).toNat]?).toArray = xs.toList.reverse.toArray := by
  congr 1
  rw [fm_map _ (fun k => xs.toList.reverse.getD k Value.none) _ (fun k hk => by
    have hk' := List.mem_range.mp hk
    have e : ((xs.size : Int) - 1 + (k : Int) * (-1)).toNat = xs.size - 1 - k := by omega
    rw [e, Array.getElem?_eq_getElem (by omega), List.getD_eq_getElem?_getD, List.getElem?_reverse (by simpa using hk'), Array.length_toList, Array.getElem?_toList, Array.getElem?_eq_getElem (by omega)]
    rfl)]
  apply List.ext_getElem
  · simp
  intro i h1 h2
  have h3 : i < xs.toList.reverse.length := h2
  rw [List.getElem_map, List.getElem_range, List.getD_eq_getElem?_getD, List.getElem?_eq_getElem h3]
  rfl
theorem getItem_back {t sl : Addr} {items : Array Value} {vl vu vs : Value} {Q : Value → Shared → Prop} (ht : IsTup s.heap t items) (hs : s.heap.IsSliceOf sl vl vu vs) (pl : IsPart vl none) (pu : IsPart vu none) (ps : IsPart vs (some (-1)))
    (h : Q (.ref s.heap.objs.size) { s with heap := s.heap.push { cls := .type "tuple", data := .seq items.toList.reverse.toArray } }) (hsz : items.size ≤ sizeLine) : wpAny (model prog w) A (getItem (.ref t) (.ref sl)) Q E s := by
  have hok : sizeOk (.seq items.toList.reverse.toArray) := by
    show items.toList.reverse.toArray.size ≤ sizeLine
    simpa using hsz
  obtain ⟨os, hos, hcs, hds⟩ := id hs
  have hTs : s.TypeIs (.ref sl) "slice" := ⟨os, hos, hcs⟩
  unfold getItem
  try with_reducible refine wpAny_holding ?_
  first | refine wpAny_bind (wpAny_pure ?_) | skip
  refine wpAny_bind (wpAny_sequenceKey ht.typeIs (by decide) (wpAny_bind (wpAny_callSpecial?_slot (name := Str.ofString "__getitem__") ht.typeIs PyProof.Rows.slot_tuple_getitem
    (wpAny_call_entry PyProof.Rows.slot_tuple_getitem ht.typeIs entry_tuple_getitem ?_ (args_tuple_getitem _ _)))))
  show wpAny _ _ (Builtin.Tuple.tupleItemsOf (.ref t) >>= _) _ _ s
  refine wpAny_bind (tupleItemsOf_ ht (wpAny_bind (wpAny_typeOf hTs ?_)))
  rw [if_pos (by decide)]
  refine wpAny_bind (applied_back hs pl pu ps ?_)
  show wpAny _ _ (if (((items.size : Int) - 1) == 0 && (-1 : Int) == 1 && items.size == items.size) = true then _ else _) _ _ s
  have hno : ¬ ((((items.size : Int) - 1) == 0 && (-1 : Int) == 1 && items.size == items.size) = true) := by
    rw [show ((-1 : Int) == 1) = false from by decide, Bool.and_false, Bool.false_and]; decide
  rw [if_neg hno, pick_back]
  first
    | exact wpAny_bind (m := Builtin.Tuple.tupleExact _) (wpAny_newObj_type (wpAny_pure ⟨_, rfl, wpAny_pure h⟩) hok)
    | exact wpAny_bind (m := Builtin.Tuple.tupleExact _) (wpAny_newObj_type (wpAny_bind (wpAny_pure (wpAny_pure ⟨_, rfl, wpAny_pure h⟩))) hok)
    | exact wpAny_bind (wpAny_bind (m := Builtin.Tuple.tupleExact _) (wpAny_newObj_type (wpAny_pure (wpAny_pure ⟨_, rfl, wpAny_pure h⟩)) hok))
    | exact wpAny_bind (wpAny_bind (m := Builtin.Tuple.tupleExact _) (wpAny_newObj_type (wpAny_pure ⟨_, rfl, wpAny_pure h⟩) hok))
end
section
variable {X : Cx}
def tRevT (K : PySem.W.Frag) (te : TE) : TE := fun σ H Q => te σ H fun x H1 => ∃ a xs, x = .ref a ∧ SqT K H1 a xs ∧ ∀ p, H1 p = none → Q (.ref p) (upd H1 p (.tup xs.reverse))
theorem pe_revT {e : Expr} {te : TE} {k : Nat} {p1 p2 p3 pos : Pos} (he : PE X e te) : PE X (.Subscript e (.Slice none none (some (.UnaryOp .USub (.Constant (.int 1) k p1) p2)) p3) pos) (tRevT X.K te) := by
  refine ⟨fun pins s σ H Q I h => Subscript_ (thn (he.run pins s σ H _ I h) fun v s1 ⟨x, H1, I1, r1, q1⟩ => ?_)⟩
  obtain ⟨a, xs, ex, hx, q⟩ := q1
  subst ex
  cases r1
  have hst : PO X (some (.UnaryOp .USub (.Constant (.int 1) k p1) p2)) (tPart (tUn (rU fun i => .int (-i)) (tC (.int 1)))) := po_some (pe_un un_neg pe_int)
  refine wpAny_Slice (thn (po_none.run pins s1 σ H1 (fun o H2 => o = none ∧ H2 = H1) I1 ⟨rfl, rfl⟩) fun vl s2 ⟨l, H2, I2, pl, el, e2⟩ => ?_)
  subst el e2
  refine thn (po_none.run pins s2 σ H2 (fun o H3 => o = none ∧ H3 = H2) I2 ⟨rfl, rfl⟩) fun vu s3 ⟨u, H3, I3, pu, eu, e3⟩ => ?_
  subst eu e3
  refine thn (hst.run pins s3 σ H3 (fun o H4 => o = some (-1) ∧ H4 = H3) I3 ⟨1, rfl, -1, rfl, rfl, rfl⟩) fun vs s4 ⟨o, H4, I4, ps, eo, e4⟩ => ?_
  subst eo e4
  have I5 : Inv X pins σ H4 { s4 with heap := s4.heap.push { cls := .type "slice", data := .fields #[vl, vu, vs] } } := I4.kept (t' := s4.toks) fun b ob q => Heap.get?_push_of_some _ q
  obtain ⟨its, r, ht, hz⟩ := I5.tuple hx
  have hlen := r.length
  show wpAny (model X.prog X.w) X.A (subscriptTail e (.Slice none none (some (.UnaryOp .USub (.Constant (.int 1) k p1) p2)) p3) (.ref a) (.ref s4.heap.objs.size)) (EP X pins σ Q) X.xe { s4 with heap := s4.heap.push { cls := .type "slice", data := .fields #[vl, vu, vs] } }
  refine tail_any (ops := [.ref a, .ref s4.heap.objs.size]) ht.typeIs (PyProof.Rows.slot_tuple_getitem.lookup) ?_ (by with_unfolding_all rfl)
  refine getItem_back ht (Heap.IsSliceOf.new _ vl vu vs) pl pu ps ?_ (by rw [List.size_toArray]; omega)
  refine ⟨.ref _, _, I5.laid (t' := s4.toks) (o := .tup xs.reverse) (fun b ob q => Heap.get?_push_of_some _ q) (Nat.le_refl _) ?_, rfl, q _ (I5.hok.fresh (Nat.le_refl _))⟩
  exact ⟨by rw [List.length_reverse]; exact hz, _, r.reverse, IsTup.new _ _⟩
end
end Px.RevT
namespace Px
open PySem L2
section
variable {X : Cx} {B : Bs} {a : Expr} {pos p1 p2 p3 : Pos} {pa : FP} {K : PySem.W.Frag}
@[simp] def gRev : D → Option D
  | .tup ds => some (.tup ds.reverse)
  | _ => none
theorem RepL.rev {H : Hp} : ∀ {ds : List D} {xs : List V}, RepL K H ds xs → RepL K H ds.reverse xs.reverse
  | [], xs, h => by rw [h.of_nil]; exact .nil
  | d :: ds, xs, h => by
    obtain ⟨x, r, rfl, h1, h2⟩ := h.of_cons
    rw [List.reverse_cons, List.reverse_cons]
    exact (RepL.rev h2).append (.cons h1 .nil)
theorem ie_rev {k : Nat} (ha : PE X a (tP X.K B pa)) : PE X (.Subscript a (.Slice none none (some (.UnaryOp .USub (.Constant (.int 1) k p1) p2)) p3) pos) (tF X.K B (eB1 gRev pa)) := (RevT.pe_revT ha).pxw fun σ H Q q => by
  obtain ⟨s, H0, d, s', R, ev, kk⟩ := q
  obtain ⟨⟨q1, s1⟩, e1, ev1⟩ := bnd ev
  obtain ⟨d1, g1, ev2⟩ := bnd ev1
  obtain ⟨d', e3, ev3⟩ := bnd ev2
  cases ev3
  refine ⟨s, H0, q1, s1, R, e1, fun x H1 H' R1 x1 r1 => ?_⟩
  cases d1 with
  | tup ds =>
    cases e3
    obtain ⟨t, xs, rfl, l, h⟩ := rep_tup_sq (r1.frozen R1 g1 (fun o z => z))
    refine ⟨t, xs, rfl, R1.h0.sqT h, fun u hu => ?_⟩
    exact kk _ _ _ (R1.laid hu) (x1.trans (Ex.new (R1.fresh0 hu))) (by
      simp only [Rep]
      exact ⟨u, xs.reverse, rfl, (RepL.rev l).up (Ex.new (R1.fresh0 hu)), .inl upd_same⟩)
  | _ => cases e3
end
end Px

set_option Elab.async false
set_option linter.all false
set_option maxRecDepth 100000
set_option maxHeartbeats 4000000
namespace Px.S
open PySem L2 Px
def c_LETTERS : D := .str "abcdefghijklmnopqrstuvwxyz"
def c_MOST_TUBS : D := .int 3
def c_MOST_HOLES : D := .int 3
def c_MOST_PART : D := .int 1000
def c_MOST_RATE : D := .int 100
def c_MOST_ROWS : D := .int 4
def f__law_bag : FS :=
  (sSeq (sSet 2 (eC (.int 0)))
    (sSeq (sIf (bT (eLt (eVar 1) (eB1 gLen (pVar 0)))) (sSet 2 (eB1 gAbs (pE (eIx (pVar 0) (eVar 1))))) sNil)
    (sSeq (sIf (bT (eLt (eVar 2) (ePow (eC (.int 10)) (eC (.int 18))))) (sRetO (eLst (aCons (eC (.int 0)) (aCons (eAdd (eC (.int 1)) (eMod (eAdd (eMul (eVar 2) (eC (.int 7919))) (eMul (eC (.int 104729)) (eVar 1))) (eC (.int 2147483646)))) aNil)))) sNil)
    (sRetO (eLst (aCons (eVar 2) (aCons (eAdd (eC (.int 1)) (eMod (eAdd (eVar 2) (eVar 1)) (eC (.int 2147483646)))) aNil)))))))
def F__law_bag : FnD := runF 3 f__law_bag
def f__law_take : FS :=
  (sSeq (sIf (bT (eGt (eIx (pVar 0) (eC (.int 0))) (eC (.int 0)))) (sSeq (sSet 2 (eMod (eIx (pVar 0) (eC (.int 0))) (eVar 1)))
    (sSeq (sLPut 0 (eC (.int 0)) (eDiv (eIx (pVar 0) (eC (.int 0))) (eVar 1)))
    (sRet (eVar 2)))) sNil)
    (sSeq (sLPut 0 (eC (.int 1)) (eMod (eMul (eIx (pVar 0) (eC (.int 1))) (eC (.int 48271))) (eC (.int 2147483647))))
    (sRet (eMod (eDiv (eMod (eMul (eIx (pVar 0) (eC (.int 1))) (eIx (pVar 0) (eC (.int 1)))) (eC (.int 2147483629))) (eC (.int 64))) (eVar 1)))))
def F__law_take : FnB := runB 3 f__law_take
def f__law_of : FS :=
  (sRet (eIx (pVar 1) (eCallB F__law_take 0 (aCons (eB1 gLen (pVar 1)) aNil))))
def F__law_of : FnB := runB 2 f__law_of
def L__law_tubs_1 : FS :=
  (sSeq (sSet 11 (eAdd (eC (.int 1)) (eCallB F__law_take 0 (aCons (eIx (pE (eLst (aCons (eC (.int 4)) (aCons (eC (.int 100)) aNil)))) (eCallB F__law_take 0 (aCons (eC (.int 2)) aNil))) aNil))))
    (sApp 9 (eTup (aCons (eVar 10) (aCons (eVar 11) (aCons (eCallB F__law_of 0 (aCons (eOp gCatL (eOp gCatL (eLst (aCons (eC (.str "")) aNil)) (eSl (pVar 2) (oSome (eAdd (eVar 4) (eC (.int 1)))) oNone)) (eSl (pVar 2) (oSome (eAdd (eVar 4) (eC (.int 1)))) oNone)) aNil)) aNil))))))
def L__law_tubs_2 : FS :=
  (sDPut 6 (eCallB F__law_take 0 (aCons (eVar 7) aNil)) (eC (.bl true)))
def L__law_tubs_3 : FS :=
  (sSeq (sSetO 6 eDNewK)
    (sSeq (sSet 7 (eIx (pE (eLst (aCons (eC (.int 4)) (aCons (eC (.int 12)) (aCons (eC (.int 1001)) aNil))))) (eCallB F__law_take 0 (aCons (eC (.int 3)) aNil))))
    (sSeq (sFor (iRng1 (eCallB F__law_take 0 (aCons (eC (.int 4)) aNil))) (hName 8) L__law_tubs_2)
    (sSeq (sSetO 9 (eLst aNil))
    (sSeq (sFor (iSeq (eB1 gSortedD (pVar 6))) (hName 10) L__law_tubs_1)
    (sApp 3 (eTup (aCons (eVar 5) (aCons (eAdd (eC (.int 1)) (eCallB F__law_take 0 (aCons (eIx (pE (eLst (aCons (eC (.int 3)) (aCons (eC (.int 30)) aNil)))) (eCallB F__law_take 0 (aCons (eC (.int 2)) aNil))) aNil))) (aCons (eB1 gTuple (pVar 9)) aNil))))))))))
def f__law_tubs : FS :=
  (sSeq (sSet 2 (eSl (pE (eCallB F__law_of 0 (aCons (eLst (aCons (eLst (aCons (eC (.str "ann")) (aCons (eC (.str "bo")) (aCons (eC (.str "cy")) aNil)))) (aCons (eLst (aCons (eC (.str "cy")) (aCons (eC (.str "ann")) (aCons (eC (.str "bo")) aNil)))) aNil))) aNil))) oNone (oSome (eAdd (eC (.int 1)) (eCallB F__law_take 0 (aCons (eVar 1) aNil))))))
    (sSeq (sSetO 3 (eLst aNil))
    (sSeq (sFor (iEnum (eVar 2)) (hTup (hCons (hName 4) (hCons (hName 5) hNil))) L__law_tubs_3)
    (sRet (eB1 gTuple (pVar 3))))))
def F__law_tubs : FnB := runB 12 f__law_tubs
def L__law_rain_1 : FS :=
  (sSeq (sSet 7 (eAdd (eVar 7) (eIx (pVar 8) (eC (.int 1)))))
    (sApp 6 (eVar 7)))
def L__law_rain_2 : FS :=
  (sSeq (sParO 6 7 (eLst (aCons (eC (.int 0)) aNil)) (.int 0))
    (sSeq (sFor (iSeq (eVar 5)) (hName 8) L__law_rain_1)
    (sApp 2 (eIx (pE (eLst (aCons (eCallB F__law_of 0 (aCons (eVar 6) aNil)) (aCons (eCallB F__law_take 0 (aCons (eC (.int 8)) aNil)) (aCons (eCallB F__law_take 0 (aCons (eC (.int 200)) aNil)) (aCons (eC (.int 0)) aNil)))))) (eCallB F__law_take 0 (aCons (eC (.int 4)) aNil))))))
def f__law_rain : FS :=
  (sSeq (sSetO 2 (eLst aNil))
    (sSeq (sFor (iSeq (eVar 1)) (hTup (hCons (hName 3) (hCons (hName 4) (hCons (hName 5) hNil)))) L__law_rain_2)
    (sRet (eB1 gTuple (pVar 2)))))
def F__law_rain : FnB := runB 9 f__law_rain
def L__law_weather_1 : FS :=
  (sDPut 2 (eAdd (eC (.int 1)) (eCallB F__law_take 0 (aCons (eIx (pE (eLst (aCons (eC (.int 6)) (aCons (eC (.int 60)) aNil)))) (eCallB F__law_take 0 (aCons (eC (.int 2)) aNil))) aNil))) (eC (.bl true)))
def f__law_weather : FS :=
  (sSeq (sSetO 2 (eDOne (.inl 0) (.bl true)))
    (sSeq (sFor (iRng1 (eCallB F__law_take 0 (aCons (eC (.int 4)) aNil))) (hName 3) L__law_weather_1)
    (sRet (eB1 gTuple (pE (eLc (iSeq (eB1 gSortedD (pVar 2))) (hName 4) bYes (eTup (aCons (eVar 4) (aCons (eCallB F__law_rain 0 (aCons (eVar 1) aNil)) aNil))) [4]))))))
def F__law_weather : FnB := runB 5 f__law_weather
def L__law_lowest_1 : FS :=
  (sPar 2 3 (eVar 3) (eMod (eVar 2) (eVar 3)))
def f__law_lowest : FS :=
  (sSeq (sPar 2 3 (eB1 gAbs (pVar 0)) (eVar 1))
    (sSeq (sWhile muG (bT (eGt (eVar 3) (eC (.int 0)))) L__law_lowest_1)
    (sRet (eTup (aCons (eDiv (eVar 0) (eVar 2)) (aCons (eDiv (eVar 1) (eVar 2)) aNil))))))
def F__law_lowest : FnD := runF 4 f__law_lowest
def f__law_part : FS :=
  (sRet (eCall F__law_lowest (aCons (eCallB F__law_take 0 (aCons (eAdd (eVar 1) (eC (.int 1))) aNil)) (aCons (eAdd (eC (.int 1)) (eCallB F__law_take 0 (aCons (eIx (pE (eLst (aCons (eC (.int 1)) (aCons (eC (.int 4)) aNil)))) (eCallB F__law_take 0 (aCons (eC (.int 2)) aNil))) aNil))) aNil))))
def F__law_part : FnB := runB 2 f__law_part
def L__law_beginning_1 : FS :=
  (sSeq (sSet 6 (eOp gCatL (eLst (aCons (eTup (aCons (eC (.int 0)) (aCons (eC (.int 1)) aNil))) (aCons (eCallB F__law_part 0 (aCons (eC (.int 15)) aNil)) aNil))) (eLc (iSeq (eVar 5)) (hName 7) bYes (eTup (aCons (eIx (pVar 7) (eC (.int 0))) (aCons (eC (.int 1)) aNil))) [7])))
    (sApp 2 (eCallB F__law_of 0 (aCons (eVar 6) aNil))))
def f__law_beginning : FS :=
  (sSeq (sSetO 2 (eLst aNil))
    (sSeq (sFor (iSeq (eVar 1)) (hTup (hCons (hName 3) (hCons (hName 4) (hCons (hName 5) hNil)))) L__law_beginning_1)
    (sRet (eB1 gTuple (pVar 2)))))
def F__law_beginning : FnB := runB 8 f__law_beginning
def f__law_odd : FS :=
  (sSeq (sSetO 1 (eLst (aCons (eC .non) (aCons (eC (.bl true)) (aCons (eC (.bl false)) (aCons (eC (.int 0)) (aCons (eC (.int 1)) (aCons (eUn gNeg (eC (.int 1))) (aCons (eC (.int 5)) (aCons (ePow (eC (.int 10)) (eC (.int 30))) (aCons (eC (.str "")) (aCons (eC (.str "ann")) (aCons (eTup aNil) (aCons (eLst aNil) (aCons (eTup (aCons (eC (.int 1)) (aCons (eC (.int 2)) aNil))) (aCons (eTup (aCons (eUn gNeg (eC (.int 1))) (aCons (eC (.int 2)) aNil))) (aCons (eTup (aCons (eC (.int 2)) (aCons (eC (.int 4)) aNil))) (aCons (eTup (aCons (eC (.int 0)) (aCons (eC (.int 2)) aNil))) (aCons (eTup (aCons (eC (.int 0)) (aCons (eC (.int 1)) aNil))) aNil)))))))))))))))))))
    (sSeq (sSet 1 (eOp gCatL (eVar 1) (eLst (aCons (eTup (aCons (eC .non) aNil)) (aCons (eTup (aCons (eC (.str "ann")) (aCons (eC (.int 1)) (aCons (eTup aNil) aNil)))) (aCons (eTup (aCons (eTup (aCons (eC (.str "ann")) (aCons (eC (.int 1)) (aCons (eTup aNil) aNil)))) aNil)) (aCons (eTup (aCons (eTup (aCons (eC (.int 0)) (aCons (eTup (aCons (eC (.int 0)) aNil)) aNil))) aNil)) (aCons (eTup (aCons (eC (.str "ann")) (aCons (eC (.int 0)) aNil))) (aCons (eTup (aCons (eC (.str "ann")) (aCons (eC (.bl true)) aNil))) (aCons (eTup (aCons (eC (.int 1)) (aCons (eC (.int 1)) (aCons (eC (.str "")) aNil)))) aNil))))))))))
    (sRet (eIx (pVar 1) (eCallB F__law_take 0 (aCons (eB1 gLen (pVar 1)) aNil))))))
def F__law_odd : FnB := runB 2 f__law_odd
def f_is_whole : FS :=
  (sRet (eAndV (eB1 (gIsL "int") (pVar 0)) (eNotV (eB1 (gIsL "bool") (pVar 0)))))
def F_is_whole : FnD := runF 1 f_is_whole
def L_lowest_1 : FS :=
  (sPar 2 3 (eVar 3) (eMod (eVar 2) (eVar 3)))
def f_lowest : FS :=
  (sSeq (sPar 2 3 (eB1 gAbs (pVar 0)) (eVar 1))
    (sSeq (sWhile muG (bT (eGt (eVar 3) (eC (.int 0)))) L_lowest_1)
    (sRet (eTup (aCons (eDiv (eVar 0) (eVar 2)) (aCons (eDiv (eVar 1) (eVar 2)) aNil))))))
def F_lowest : FnD := runF 4 f_lowest
def f_is_fraction : FS :=
  (sSeq (sIf (bOr (bNot (bT (eB1 (gIsL "tuple") (pVar 0)))) (bOr (bT (eOpP gNe (pE (eB1 gLen (pVar 0))) (pE (eC (.int 2))))) (bOr (bNot (bT (eCall F_is_whole (aCons (eIx (pVar 0) (eC (.int 0))) aNil)))) (bNot (bT (eCall F_is_whole (aCons (eIx (pVar 0) (eC (.int 1))) aNil))))))) (sRet (eC (.bl false))) sNil)
    (sRet (eAndV (eGe (eIx (pVar 0) (eC (.int 0))) (eC (.int 0))) (eAndV (eGe (eIx (pVar 0) (eC (.int 1))) (eC (.int 1))) (eOpP gEq (pE (eCall F_lowest (aCons (eIx (pVar 0) (eC (.int 0))) (aCons (eIx (pVar 0) (eC (.int 1))) aNil)))) (pVar 0))))))
def F_is_fraction : FnD := runF 1 f_is_fraction
def f_is_beginning : FS :=
  (sRet (eAndV (eB1 (gIsL "tuple") (pVar 1)) (eAndV (eOpP gEq (pE (eB1 gLen (pVar 1))) (pE (eB1 gLen (pVar 0)))) (eB1 gAll (pE (eLc (iSeq (eVar 1)) (hName 2) bYes (eCall F_is_fraction (aCons (eVar 2) aNil)) [2]))))))
def F_is_beginning : FnD := runF 3 f_is_beginning
def f__law_whole : FS :=
  (sRet (eAndV (eB1 (gIsL "int") (pVar 0)) (eNotV (eB1 (gIsL "bool") (pVar 0)))))
def F__law_whole : FnD := runF 1 f__law_whole
def L__law_is_beginning_1 : FS :=
  (sSeq (sIf (bOr (bNot (bT (eB1 (gIsL "tuple") (pVar 2)))) (bOr (bT (eOpP gNe (pE (eB1 gLen (pVar 2))) (pE (eC (.int 2))))) (bOr (bNot (bT (eCall F__law_whole (aCons (eIx (pVar 2) (eC (.int 0))) aNil)))) (bNot (bT (eCall F__law_whole (aCons (eIx (pVar 2) (eC (.int 1))) aNil))))))) (sRet (eC (.bl false))) sNil)
    (sIf (bOr (bT (eLt (eIx (pVar 2) (eC (.int 0))) (eC (.int 0)))) (bOr (bT (eLt (eIx (pVar 2) (eC (.int 1))) (eC (.int 1)))) (bT (eOpP gNe (pE (eCall F__law_lowest (aCons (eIx (pVar 2) (eC (.int 0))) (aCons (eIx (pVar 2) (eC (.int 1))) aNil)))) (pVar 2))))) (sRet (eC (.bl false))) sNil))
def f__law_is_beginning : FS :=
  (sSeq (sIf (bOr (bNot (bT (eB1 (gIsL "tuple") (pVar 1)))) (bT (eOpP gNe (pE (eB1 gLen (pVar 1))) (pE (eB1 gLen (pVar 0)))))) (sRet (eC (.bl false))) sNil)
    (sSeq (sFor (iSeq (eVar 1)) (hName 2) L__law_is_beginning_1)
    (sRet (eC (.bl true)))))
def F__law_is_beginning : FnD := runF 3 f__law_is_beginning
def f_are_rising : FS :=
  (sRet (eB1 gAll (pE (eLc (iZip (eVar 0) (eSl (pVar 0) (oSome (eC (.int 1))) oNone)) (hTup (hCons (hName 1) (hCons (hName 2) hNil))) bYes (eLt (eVar 1) (eVar 2)) [1, 2]))))
def F_are_rising : FnD := runF 3 f_are_rising
def f_is_within : FS :=
  (sRet (eAndV (eCall F_is_whole (aCons (eVar 0) aNil)) (eChain (fun i j => decide (i ≤ j)) (fun i j => decide (i ≤ j)) (eVar 1) (eVar 0) (eVar 2))))
def F_is_within : FnD := runF 3 f_is_within
def f_is_name : FS :=
  (sRet (eAndV (eB1 (gIsL "str") (pVar 0)) (eAndV (eChain (fun i j => decide (i ≤ j)) (fun i j => decide (i ≤ j)) (eC (.int 1)) (eB1 gLen (pVar 0)) (eC (.int 8))) (eB1 gAll (pE (eLc (iTxt (eVar 0)) (hName 1) bYes (eOpP gInS (pVar 1) (pE (eC c_LETTERS))) [1]))))))
def F_is_name : FnD := runF 2 f_is_name
def f_is_tub : FS :=
  (sSeq (sIf (bOr (bNot (bT (eB1 (gIsL "tuple") (pVar 0)))) (bOr (bT (eOpP gNe (pE (eB1 gLen (pVar 0))) (pE (eC (.int 3))))) (bNot (bT (eCall F_is_name (aCons (eIx (pVar 0) (eC (.int 0))) aNil)))))) (sRet (eC (.bl false))) sNil)
    (sRet (eAndV (eCall F_is_within (aCons (eIx (pVar 0) (eC (.int 1))) (aCons (eC (.int 1)) (aCons (eC c_MOST_PART) aNil)))) (eAndV (eB1 (gIsL "tuple") (pE (eIx (pVar 0) (eC (.int 2))))) (eLe (eB1 gLen (pE (eIx (pVar 0) (eC (.int 2))))) (eC c_MOST_HOLES))))))
def F_is_tub : FnD := runF 1 f_is_tub
def f_is_hole : FS :=
  (sSeq (sIf (bOr (bNot (bT (eB1 (gIsL "tuple") (pVar 0)))) (bOr (bT (eOpP gNe (pE (eB1 gLen (pVar 0))) (pE (eC (.int 3))))) (bNot (bT (eCall F_is_within (aCons (eIx (pVar 0) (eC (.int 0))) (aCons (eC (.int 0)) (aCons (eC c_MOST_PART) aNil)))))))) (sRet (eC (.bl false))) sNil)
    (sRet (eAndV (eCall F_is_within (aCons (eIx (pVar 0) (eC (.int 1))) (aCons (eC (.int 1)) (aCons (eC c_MOST_RATE) aNil)))) (eAndV (eB1 (gIsL "str") (pE (eIx (pVar 0) (eC (.int 2))))) (eOpP (gInQ false) (pE (eIx (pVar 0) (eC (.int 2)))) (pE (eOp gCatL (eLst (aCons (eC (.str "")) aNil)) (eVar 1))))))))
def F_is_hole : FnD := runF 2 f_is_hole
def L_are_tubs_1 : FS :=
  (sIf (bOr (bNot (bT (eB1 gAll (pE (eLc (iSeq (eIx (pVar 3) (eC (.int 2)))) (hName 5) bYes (eCall F_is_hole (aCons (eVar 5) (aCons (eSl (pVar 1) (oSome (eAdd (eVar 2) (eC (.int 1)))) oNone) aNil))) [5]))))) (bNot (bT (eCall F_are_rising (aCons (eLc (iSeq (eIx (pVar 3) (eC (.int 2)))) (hName 5) bYes (eIx (pVar 5) (eC (.int 0))) [5]) aNil))))) (sRet (eC (.bl false))) sNil)
def f_are_tubs : FS :=
  (sSeq (sIf (bOr (bNot (bT (eB1 (gIsL "tuple") (pVar 0)))) (bOr (bNot (bT (eChain (fun i j => decide (i ≤ j)) (fun i j => decide (i ≤ j)) (eC (.int 1)) (eB1 gLen (pVar 0)) (eC c_MOST_TUBS)))) (bNot (bT (eB1 gAll (pE (eLc (iSeq (eVar 0)) (hName 3) bYes (eCall F_is_tub (aCons (eVar 3) aNil)) [3]))))))) (sRet (eC (.bl false))) sNil)
    (sSeq (sSetO 1 (eLc (iSeq (eVar 0)) (hName 3) bYes (eIx (pVar 3) (eC (.int 0))) [3]))
    (sSeq (sIf (bT (eLt (eB1 gLen (pE (eDc (iSeq (eVar 1)) (hName 4) bYes (eVar 4) (eC (.bl true)) [4]))) (eB1 gLen (pVar 1)))) (sRet (eC (.bl false))) sNil)
    (sSeq (sFor (iEnum (eVar 0)) (hTup (hCons (hName 2) (hCons (hName 3) hNil))) L_are_tubs_1)
    (sRet (eC (.bl true)))))))
def F_are_tubs : FnD := runF 6 f_are_tubs
def f_is_rain : FS :=
  (sSeq (sIf (bOr (bNot (bT (eB1 (gIsL "tuple") (pVar 1)))) (bT (eOpP gNe (pE (eB1 gLen (pVar 1))) (pE (eB1 gLen (pVar 0)))))) (sRet (eC (.bl false))) sNil)
    (sRet (eB1 gAll (pE (eLc (iSeq (eVar 1)) (hName 2) bYes (eCall F_is_within (aCons (eVar 2) (aCons (eC (.int 0)) (aCons (eC c_MOST_PART) aNil)))) [2])))))
def F_is_rain : FnD := runF 3 f_is_rain
def L_is_weather_1 : FS :=
  (sSeq (sIf (bOr (bNot (bT (eB1 (gIsL "tuple") (pVar 2)))) (bOr (bT (eOpP gNe (pE (eB1 gLen (pVar 2))) (pE (eC (.int 2))))) (bNot (bT (eCall F_is_within (aCons (eIx (pVar 2) (eC (.int 0))) (aCons (eC (.int 0)) (aCons (eC c_MOST_PART) aNil)))))))) (sRet (eC (.bl false))) sNil)
    (sIf (bNot (bT (eCall F_is_rain (aCons (eVar 0) (aCons (eIx (pVar 2) (eC (.int 1))) aNil))))) (sRet (eC (.bl false))) sNil))
def f_is_weather : FS :=
  (sSeq (sIf (bOr (bNot (bT (eB1 (gIsL "tuple") (pVar 1)))) (bNot (bT (eChain (fun i j => decide (i ≤ j)) (fun i j => decide (i ≤ j)) (eC (.int 1)) (eB1 gLen (pVar 1)) (eC c_MOST_ROWS))))) (sRet (eC (.bl false))) sNil)
    (sSeq (sFor (iSeq (eVar 1)) (hName 2) L_is_weather_1)
    (sRet (eAndV (eOpP gEq (pE (eIx (pE (eIx (pVar 1) (eC (.int 0)))) (eC (.int 0)))) (pE (eC (.int 0)))) (eCall F_are_rising (aCons (eLc (iSeq (eVar 1)) (hName 2) bYes (eIx (pVar 2) (eC (.int 0))) [2]) aNil))))))
def F_is_weather : FnD := runF 3 f_is_weather
def f__law_spoilt (G_ : FnB) : FS :=
  (sSeq (sSet 2 (eCallB F__law_take 0 (aCons (eC (.int 9)) aNil)))
    (sSeq (sIf (bAnd (bT (eB1 gIsTL (pVar 1))) (bAnd (bT (eGt (eB1 gLen (pVar 1)) (eC (.int 0)))) (bT (eGt (eVar 2) (eC (.int 0)))))) (sSeq (sSetO 3 (eB1 gList (pVar 1)))
    (sSeq (sSet 4 (eCallB F__law_take 0 (aCons (eB1 gLen (pVar 3)) aNil)))
    (sSeq (sIf (bT (eOpP gEq (pVar 2) (pE (eC (.int 1))))) (sSetO 3 (eOp gCatL (eSl (pVar 3) oNone (oSome (eVar 4))) (eSl (pVar 3) (oSome (eAdd (eVar 4) (eC (.int 1)))) oNone))) (sIf (bT (eOpP gEq (pVar 2) (pE (eC (.int 2))))) (sSetO 3 (eOp gCatL (eSl (pVar 3) oNone (oSome (eAdd (eVar 4) (eC (.int 1))))) (eSl (pVar 3) (oSome (eVar 4)) oNone))) (sIf (bT (eOpP gEq (pVar 2) (pE (eC (.int 3))))) (sSeq (sSet 5 (eCallB F__law_take 0 (aCons (eB1 gLen (pVar 3)) aNil)))
    (sAsg (eTup (aCons (eIx (pVar 3) (eVar 5)) (aCons (eIx (pVar 3) (eVar 4)) aNil))) (hTup (hCons (hPut 3 (eVar 4)) (hCons (hPut 3 (eVar 5)) hNil))))) (sIf (bT (eOpP gEq (pVar 2) (pE (eC (.int 4))))) (sRet (eIf (bT (eB1 (gIsL "tuple") (pVar 1))) (eVar 3) (eB1 gTuple (pVar 3)))) (sLPut 3 (eVar 4) (eCallB G_ 0 (aCons (eIx (pVar 3) (eVar 4)) aNil)))))))
    (sRet (eIf (bT (eB1 (gIsL "tuple") (pVar 1))) (eB1 gTuple (pVar 3)) (eVar 3)))))) sNil)
    (sSeq (sIf (bAnd (bT (eB1 (gIsL "str") (pVar 1))) (bT (eGt (eVar 2) (eC (.int 1))))) (sRet (eIx (pE (eLst (aCons (eOp gCatS (eVar 1) (eC (.str "a"))) (aCons (eSlS (pVar 1) oNone (oSome (eUn gNeg (eC (.int 1))))) (aCons (eOp gCatS (eVar 1) (eC (.str " "))) (aCons (eUpper (eVar 1)) (aCons (eOp gCatS (eVar 1) (eVar 1)) (aCons (eOp gCatS (eC (.str "z")) (eVar 1)) (aCons (eC (.str "")) aNil))))))))) (eSub (eVar 2) (eC (.int 2))))) sNil)
    (sSeq (sIf (bAnd (bT (eB1 (gIsL "int") (pVar 1))) (bT (eGt (eVar 2) (eC (.int 1))))) (sRet (eIx (pE (eLst (aCons (eOp (gBI fun i j => i + j) (eVar 1) (eC (.int 1))) (aCons (eOp (gBI fun i j => i - j) (eVar 1) (eC (.int 1))) (aCons (eUn gNegB (eVar 1)) (aCons (eOp (gBI fun i j => i + j) (eVar 1) (eC (.int 1000))) (aCons (eB1 gStrB (pVar 1)) (aCons (eOp (gBI fun i j => i + j) (eVar 1) (eC (.int 50))) (aCons (eTup (aCons (eVar 1) aNil)) aNil))))))))) (eSub (eVar 2) (eC (.int 2))))) sNil)
    (sRet (eCallB F__law_odd 0 aNil))))))
def F__law_spoilt : Nat → FnB
  | 0 => fun _ _ => none
  | n + 1 => runB 6 (f__law_spoilt (F__law_spoilt n))
def f__law_is_name : FS :=
  (sSeq (sIf (bOr (bNot (bT (eB1 (gIsL "str") (pVar 0)))) (bNot (bT (eChain (fun i j => decide (i ≤ j)) (fun i j => decide (i ≤ j)) (eC (.int 1)) (eB1 gLen (pVar 0)) (eC (.int 8)))))) (sRet (eC (.bl false))) sNil)
    (sRet (eOpP gEq (pE (eLc (iTxt (eVar 0)) (hName 1) (bT (eOpP gNinS (pVar 1) (pE (eC (.str "abcdefghijklmnopqrstuvwxyz"))))) (eVar 1) [1])) (pE (eLst aNil)))))
def F__law_is_name : FnD := runF 2 f__law_is_name
def f__law_within : FS :=
  (sRet (eAndV (eB1 (gIsL "int") (pVar 0)) (eAndV (eNotV (eB1 (gIsL "bool") (pVar 0))) (eChain (fun i j => decide (i ≤ j)) (fun i j => decide (i ≤ j)) (eVar 1) (eVar 0) (eVar 2)))))
def F__law_within : FnD := runF 3 f__law_within
def f__law_is_hole : FS :=
  (sSeq (sIf (bOr (bNot (bT (eB1 (gIsL "tuple") (pVar 0)))) (bOr (bT (eOpP gNe (pE (eB1 gLen (pVar 0))) (pE (eC (.int 3))))) (bNot (bT (eCall F__law_within (aCons (eIx (pVar 0) (eC (.int 0))) (aCons (eC (.int 0)) (aCons (eC (.int 1000)) aNil)))))))) (sRet (eC (.bl false))) sNil)
    (sRet (eAndV (eCall F__law_within (aCons (eIx (pVar 0) (eC (.int 1))) (aCons (eC (.int 1)) (aCons (eC (.int 100)) aNil)))) (eAndV (eB1 (gIsL "str") (pE (eIx (pVar 0) (eC (.int 2))))) (eOpP (gInQ false) (pE (eIx (pVar 0) (eC (.int 2)))) (pE (eOp gCatL (eLst (aCons (eC (.str "")) aNil)) (eVar 1))))))))
def F__law_is_hole : FnD := runF 2 f__law_is_hole
def L__law_are_tubs_1 : FS :=
  (sSeq (sIf (bT (eOpP gNe (pE (eLc (iSeq (eIx (pVar 2) (eC (.int 2)))) (hName 5) (bNot (bT (eCall F__law_is_hole (aCons (eVar 5) (aCons (eSl (pVar 1) (oSome (eAdd (eVar 3) (eC (.int 1)))) oNone) aNil))))) (eVar 5) [5])) (pE (eLst aNil)))) (sRet (eC (.bl false))) sNil)
    (sSeq (sSetO 4 (eLc (iSeq (eIx (pVar 2) (eC (.int 2)))) (hName 5) bYes (eIx (pVar 5) (eC (.int 0))) [5]))
    (sIf (bT (eOpP gNe (pVar 4) (pE (eB1 gSortU (pVar 4))))) (sRet (eC (.bl false))) sNil)))
def L__law_are_tubs_2 : FS :=
  (sSeq (sIf (bOr (bNot (bT (eB1 (gIsL "tuple") (pVar 2)))) (bOr (bT (eOpP gNe (pE (eB1 gLen (pVar 2))) (pE (eC (.int 3))))) (bOr (bNot (bT (eCall F__law_is_name (aCons (eIx (pVar 2) (eC (.int 0))) aNil)))) (bNot (bT (eCall F__law_within (aCons (eIx (pVar 2) (eC (.int 1))) (aCons (eC (.int 1)) (aCons (eC (.int 1000)) aNil))))))))) (sRet (eC (.bl false))) sNil)
    (sSeq (sIf (bOr (bNot (bT (eB1 (gIsL "tuple") (pE (eIx (pVar 2) (eC (.int 2))))))) (bOr (bT (eGt (eB1 gLen (pE (eIx (pVar 2) (eC (.int 2))))) (eC (.int 3)))) (bT (eOpP (gInQ false) (pE (eIx (pVar 2) (eC (.int 0)))) (pVar 1))))) (sRet (eC (.bl false))) sNil)
    (sApp 1 (eIx (pVar 2) (eC (.int 0))))))
def f__law_are_tubs : FS :=
  (sSeq (sIf (bOr (bNot (bT (eB1 (gIsL "tuple") (pVar 0)))) (bNot (bT (eChain (fun i j => decide (i ≤ j)) (fun i j => decide (i ≤ j)) (eC (.int 1)) (eB1 gLen (pVar 0)) (eC (.int 3)))))) (sRet (eC (.bl false))) sNil)
    (sSeq (sSetO 1 (eLst aNil))
    (sSeq (sFor (iSeq (eVar 0)) (hName 2) L__law_are_tubs_2)
    (sSeq (sFor (iEnum (eVar 0)) (hTup (hCons (hName 3) (hCons (hName 2) hNil))) L__law_are_tubs_1)
    (sRet (eC (.bl true)))))))
def F__law_are_tubs : FnD := runF 6 f__law_are_tubs
def f__law_is_rain : FS :=
  (sSeq (sIf (bOr (bNot (bT (eB1 (gIsL "tuple") (pVar 1)))) (bT (eOpP gNe (pE (eB1 gLen (pVar 1))) (pE (eB1 gLen (pVar 0)))))) (sRet (eC (.bl false))) sNil)
    (sRet (eOpP gEq (pE (eLc (iSeq (eVar 1)) (hName 2) (bNot (bT (eCall F__law_within (aCons (eVar 2) (aCons (eC (.int 0)) (aCons (eC (.int 1000)) aNil)))))) (eVar 2) [2])) (pE (eLst aNil)))))
def F__law_is_rain : FnD := runF 3 f__law_is_rain
def L__law_is_weather_1 : FS :=
  (sSeq (sIf (bOr (bNot (bT (eB1 (gIsL "tuple") (pVar 2)))) (bOr (bT (eOpP gNe (pE (eB1 gLen (pVar 2))) (pE (eC (.int 2))))) (bNot (bT (eCall F__law_within (aCons (eIx (pVar 2) (eC (.int 0))) (aCons (eC (.int 0)) (aCons (eC (.int 1000)) aNil)))))))) (sRet (eC (.bl false))) sNil)
    (sIf (bNot (bT (eCall F__law_is_rain (aCons (eVar 0) (aCons (eIx (pVar 2) (eC (.int 1))) aNil))))) (sRet (eC (.bl false))) sNil))
def f__law_is_weather : FS :=
  (sSeq (sIf (bOr (bNot (bT (eB1 (gIsL "tuple") (pVar 1)))) (bNot (bT (eChain (fun i j => decide (i ≤ j)) (fun i j => decide (i ≤ j)) (eC (.int 1)) (eB1 gLen (pVar 1)) (eC (.int 4)))))) (sRet (eC (.bl false))) sNil)
    (sSeq (sFor (iSeq (eVar 1)) (hName 2) L__law_is_weather_1)
    (sSeq (sSetO 3 (eLc (iSeq (eVar 1)) (hName 2) bYes (eIx (pVar 2) (eC (.int 0))) [2]))
    (sRet (eAndV (eOpP gEq (pE (eIx (pVar 3) (eC (.int 0)))) (pE (eC (.int 0)))) (eOpP gEq (pVar 3) (pE (eB1 gSortU (pVar 3)))))))))
def F__law_is_weather : FnD := runF 4 f__law_is_weather
def L_law_1 : FS :=
  (sSeq (sSetO 13 (eLst (aCons (eCall F_are_tubs (aCons (eVar 4) aNil)) (aCons (eCall F_is_weather (aCons (eVar 3) (aCons (eVar 5) aNil))) (aCons (eCall F_is_beginning (aCons (eVar 3) (aCons (eVar 6) aNil))) aNil)))))
    (sSeq (sIf (bT (eOpP gNe (pE (eLc (iSeq (eVar 13)) (hName 15) (bNot (bT (eB1 (gIsL "bool") (pVar 15)))) (eVar 15) [15])) (pE (eLst aNil)))) (sRet (eC (.bl false))) sNil)
    (sSeq (sIf (bT (eOpP gNe (pVar 13) (pE (eLst (aCons (eCall F__law_are_tubs (aCons (eVar 4) aNil)) (aCons (eCall F__law_is_weather (aCons (eVar 3) (aCons (eVar 5) aNil))) (aCons (eCall F__law_is_beginning (aCons (eVar 3) (aCons (eVar 6) aNil))) aNil))))))) (sRet (eC (.bl false))) sNil)
    (sAsg (eLc (iSeq (eLst (aCons (eVar 4) (aCons (eVar 5) (aCons (eVar 6) aNil))))) (hName 11) bYes (eCallB (F__law_spoilt 30) 2 (aCons (eVar 11) aNil)) [11]) (hUnl (hCons (hName 4) (hCons (hName 5) (hCons (hName 6) hNil))))))))
def L_law_2 : FS :=
  (sSeq (sIf (bOr (bT (eOpP gNe (pE (eCall F_are_tubs (aCons (eVar 11) aNil))) (pE (eCall F__law_are_tubs (aCons (eVar 11) aNil))))) (bT (eOpP gNe (pE (eCall F_is_weather (aCons (eVar 3) (aCons (eVar 11) aNil)))) (pE (eCall F__law_is_weather (aCons (eVar 3) (aCons (eVar 11) aNil))))))) (sRet (eC (.bl false))) sNil)
    (sIf (bT (eOpP gNe (pE (eCall F_is_beginning (aCons (eVar 3) (aCons (eVar 11) aNil)))) (pE (eCall F__law_is_beginning (aCons (eVar 3) (aCons (eVar 11) aNil)))))) (sRet (eC (.bl false))) sNil))
def L_law_3 : FS :=
  (sSeq (sSetO 2 (eCallO F__law_bag (aCons (eVar 0) (aCons (eVar 1) aNil))))
    (sSeq (sSet 3 (eCallB F__law_tubs 2 (aCons (eC (.int 3)) aNil)))
    (sSeq (sPar3 4 5 6 (eVar 3) (eCallB F__law_weather 2 (aCons (eVar 3) aNil)) (eCallB F__law_beginning 2 (aCons (eVar 3) aNil)))
    (sSeq (sSet 7 (eTup (aCons (eCallB F__law_of 2 (aCons (eLst (aCons (eC (.int 0)) (aCons (eC (.int 1000)) (aCons (eC (.int 1001)) aNil)))) aNil)) (aCons (eCallB F__law_of 2 (aCons (eLst (aCons (eC (.int 0)) (aCons (eC (.int 1)) (aCons (eC (.int 100)) (aCons (eC (.int 101)) aNil))))) aNil)) (aCons (eCallB F__law_of 2 (aCons (eLst (aCons (eC (.str "")) (aCons (eC (.str "ann")) (aCons (eC (.str "bo")) aNil)))) aNil)) aNil)))))
    (sSeq (sSet 8 (eTup (aCons (eTup (aCons (eC (.str "ann")) (aCons (eCallB F__law_of 2 (aCons (eLst (aCons (eC (.int 0)) (aCons (eC (.int 1)) (aCons (eC (.int 1000)) (aCons (eC (.int 1001)) aNil))))) aNil)) (aCons (eTup (aCons (eVar 7) aNil)) aNil)))) (aCons (eTup (aCons (eC (.str "bo")) (aCons (eC (.int 1)) (aCons (eTup aNil) aNil)))) aNil))))
    (sSeq (sSet 9 (eB1 gTuple (pE (eLc (iSeq (eLst (aCons (eC (.str "a")) (aCons (eC (.str "b")) (aCons (eC (.str "c")) (aCons (eC (.str "d")) aNil)))))) (hName 14) bYes (eTup (aCons (eVar 14) (aCons (eC (.int 1)) (aCons (eTup aNil) aNil)))) [14]))))
    (sSeq (sSetO 10 (eLst (aCons (eVar 9) (aCons (eSl (pVar 9) oNone (oSome (eC (.int 3)))) (aCons (eVar 8) (aCons (eB1 gRev (pVar 3)) (aCons (eOp gCatT (eVar 3) (eSl (pVar 3) (oSome (eUn gNeg (eC (.int 1)))) oNone)) (aCons (eB1 gList (pVar 3)) (aCons (eOp gCatT (eVar 5) (eVar 5)) (aCons (eSl (pVar 5) (oSome (eC (.int 1))) oNone) (aCons (eOp gRepT (eSl (pVar 5) oNone (oSome (eC (.int 1)))) (eC (.int 5))) aNil)))))))))))
    (sSeq (sFor (iSeq (eOp gCatL (eVar 10) (eLst (aCons (eCallB F__law_odd 2 aNil) (aCons (eTup aNil) aNil))))) (hName 11) L_law_2)
    (sFor (iRng1 (eC (.int 6))) (hName 12) L_law_1)))))))))
def f_law : FS :=
  (sSeq (sFor (iRng1 (eAdd (eC (.int 1)) (eMin (eB1 gLen (pVar 0)) (eC (.int 30))))) (hName 1) L_law_3)
    (sRet (eC (.bl true))))
def F_law : FnD := runF 16 f_law
def f__law_less : FS :=
  (sRet (eLt (eMul (eIx (pVar 0) (eC (.int 0))) (eIx (pVar 1) (eC (.int 1)))) (eMul (eIx (pVar 1) (eC (.int 0))) (eIx (pVar 0) (eC (.int 1))))))
def F__law_less : FnD := runF 2 f__law_less
def L__law_sum_1 : FS :=
  (sSet 7 (eAdd (eVar 7) (eIx (pE (eLc (iSeq (eVar 2)) (hName 8) (bNot (bT (eCall F__law_less (aCons (eVar 5) (aCons (eIx (pVar 8) (eC (.int 0))) aNil))))) (eIx (pVar 8) (eC (.int 1))) [8])) (eUn gNeg (eC (.int 1))))))
def L__law_sum_2 : FS :=
  (sSet 5 (eIf (bT (eCall F__law_less (aCons (eVar 6) (aCons (eVar 5) aNil)))) (eVar 6) (eVar 5)))
def L__law_sum_3 : FS :=
  (sSeq (sSet 5 (eIx (pVar 4) (eC (.int 0))))
    (sSeq (sForL 4 (hName 6) L__law_sum_2)
    (sSeq (sRemove 4 (eVar 5))
    (sSeq (sSet 7 (eC (.int 0)))
    (sSeq (sFor (iSeq (eVar 0)) (hName 2) L__law_sum_1)
    (sApp 3 (eTup (aCons (eVar 5) (aCons (eVar 7) aNil)))))))))
def L__law_sum_4 : FS :=
  (sSet 1 (eOp gCatL (eVar 1) (eLc (iSeq (eVar 2)) (hName 8) (bT (eOpP (gInQ true) (pE (eIx (pVar 8) (eC (.int 0)))) (pVar 1))) (eIx (pVar 8) (eC (.int 0))) [8])))
def f__law_sum : FS :=
  (sSeq (sSetO 1 (eLst aNil))
    (sSeq (sFor (iSeq (eVar 0)) (hName 2) L__law_sum_4)
    (sSeq (sSetO 3 (eLst aNil))
    (sSeq (sSetO 4 (eB1 gList (pVar 1)))
    (sSeq (sWhile (fun _ => 10000) (bT (eOpP gNe (pVar 4) (pE (eLst aNil)))) L__law_sum_3)
    (sRet (eVar 3)))))))
def F__law_sum : FnD := runF 9 f__law_sum
def L__law_lets_1 : FS :=
  (sSeq (sSet 6 (eTup (aCons (eIx (pVar 5) (eC (.int 0))) (aCons (eC (.int 1)) aNil))))
    (sSeq (sSet 7 (eSub (eVar 2) (eB1 gSum (pVar 3))))
    (sIf (bT (eCall F__law_less (aCons (eVar 6) (aCons (eVar 1) aNil)))) (sApp 3 (eIx (pVar 5) (eC (.int 1)))) (sIf (bT (eOpP gEq (pVar 6) (pVar 1))) (sApp 3 (eMax (eC (.int 0)) (eMin (eIx (pVar 5) (eC (.int 1))) (eVar 7)))) (sApp 3 (eC (.int 0)))))))
def f__law_lets : FS :=
  (sSeq (sSetO 3 (eLst aNil))
    (sSeq (sFor (iEnum (eVar 0)) (hTup (hCons (hName 4) (hCons (hName 5) hNil))) L__law_lets_1)
    (sRet (eVar 3))))
def F__law_lets : FnD := runF 8 f__law_lets
def f__law_minus : FS :=
  (sRet (eCall F__law_lowest (aCons (eSub (eMul (eIx (pVar 0) (eC (.int 0))) (eIx (pVar 1) (eC (.int 1)))) (eMul (eIx (pVar 1) (eC (.int 0))) (eIx (pVar 0) (eC (.int 1))))) (aCons (eMul (eIx (pVar 0) (eC (.int 1))) (eIx (pVar 1) (eC (.int 1)))) aNil))))
def F__law_minus : FnD := runF 2 f__law_minus
def f__law_plus : FS :=
  (sRet (eCall F__law_lowest (aCons (eAdd (eMul (eIx (pVar 0) (eC (.int 0))) (eIx (pVar 1) (eC (.int 1)))) (eMul (eIx (pVar 1) (eC (.int 0))) (eIx (pVar 0) (eC (.int 1))))) (aCons (eMul (eIx (pVar 0) (eC (.int 1))) (eIx (pVar 1) (eC (.int 1)))) aNil))))
def F__law_plus : FnD := runF 2 f__law_plus
def L__law_one_tub_1 : FS :=
  (sSeq (sSet 17 (eCall F__law_minus (aCons (eTup (aCons (eIx (pVar 16) (eC (.int 0))) (aCons (eC (.int 1)) aNil))) (aCons (eVar 7) aNil))))
    (sIf (bT (eGt (eMul (eIx (pVar 17) (eC (.int 0))) (eVar 14)) (eC (.int 0)))) (sSeq (sSet 18 (eCall F__law_lowest (aCons (eMul (eB1 gAbs (pE (eIx (pVar 17) (eC (.int 0))))) (eVar 4)) (aCons (eMul (eIx (pVar 17) (eC (.int 1))) (eB1 gAbs (pVar 14))) aNil))))
    (sSet 15 (eIf (bOr (bT (eIsN false (pVar 15))) (bT (eCall F__law_less (aCons (eVar 18) (aCons (eVar 15) aNil))))) (eVar 18) (eVar 15)))) sNil))
def L__law_one_tub_2 : FS :=
  (sSeq (sSet 13 (eCall F__law_lets (aCons (eVar 5) (aCons (eVar 7) (aCons (eVar 10) aNil)))))
    (sSeq (sSet 14 (eSub (eVar 10) (eB1 gSum (pVar 13))))
    (sSeq (sApp 6 (eTup (aCons (eVar 11) (aCons (eVar 7) (aCons (eVar 14) (aCons (eVar 13) aNil))))))
    (sSeq (sSet 15 (eC .non))
    (sSeq (sFor (iSeq (eVar 5)) (hName 16) L__law_one_tub_1)
    (sSeq (sSet 19 (eIf (bT (eIsN false (pVar 15))) (eC .non) (eCall F__law_plus (aCons (eVar 11) (aCons (eVar 15) aNil)))))
    (sSeq (sIf (bAnd (bT (eIsN true (pVar 12))) (bOr (bT (eIsN false (pVar 19))) (bNot (bT (eCall F__law_less (aCons (eVar 19) (aCons (eVar 12) aNil))))))) (sSet 19 (eVar 12)) sNil)
    (sSeq (sIf (bT (eIsN true (pVar 19))) (sSeq (sSet 20 (eCall F__law_minus (aCons (eVar 19) (aCons (eVar 11) aNil))))
    (sSet 7 (eCall F__law_plus (aCons (eVar 7) (aCons (eCall F__law_lowest (aCons (eMul (eVar 14) (eIx (pVar 20) (eC (.int 0)))) (aCons (eMul (eVar 4) (eIx (pVar 20) (eC (.int 1)))) aNil))) aNil))))) sNil)
    (sSet 11 (eIf (bOr (bT (eIsN false (pVar 19))) (bT (eOpP gEq (pVar 19) (pVar 12)))) (eC .non) (eVar 19)))))))))))
def L__law_one_tub_3 : FS :=
  (sSeq (sSet 11 (eVar 9))
    (sSeq (sSet 12 (eIf (bT (eLt (eAdd (eVar 8) (eC (.int 1))) (eB1 gLen (pVar 1)))) (eIx (pE (eIx (pVar 1) (eAdd (eVar 8) (eC (.int 1))))) (eC (.int 0))) (eC .non)))
    (sWhile (fun _ => 10) (bT (eIsN true (pVar 11))) L__law_one_tub_2)))
def f__law_one_tub : FS :=
  (sSeq (sAsg (eVar 0) (hTup (hCons (hName 3) (hCons (hName 4) (hCons (hName 5) hNil)))))
    (sSeq (sSetO 6 (eLst aNil))
    (sSeq (sSet 7 (eVar 2))
    (sSeq (sFor (iEnum (eVar 1)) (hTup (hCons (hName 8) (hCons (hTup (hCons (hName 9) (hCons (hName 10) hNil))) hNil))) L__law_one_tub_3)
    (sRet (eVar 6))))))
def F__law_one_tub : FnD := runF 21 f__law_one_tub
def L__law_ways_1 : FS :=
  (sIf (bT (eOpP gNe (pE (eIx (pVar 11) (eC (.int 2)))) (pE (eC (.str ""))))) (sSeq (sSetO 12 (eLc (iSeq (eVar 9)) (hName 14) bYes (eTup (aCons (eIx (pVar 14) (eC (.int 0))) (aCons (eIx (pE (eIx (pVar 14) (eC (.int 3)))) (eVar 10)) aNil))) [14]))
    (sDPut 4 (eIx (pVar 11) (eC (.int 2))) (eOp gCatL (eGetD (pVar 4) (eIx (pVar 11) (eC (.int 2))) (eLst aNil)) (eLst (aCons (eVar 12) aNil))))) sNil)
def L__law_ways_2 : FS :=
  (sSeq (sSetO 7 (eLc (iSeq (eVar 1)) (hTup (hCons (hName 13) (hCons (hName 14) hNil))) bYes (eTup (aCons (eTup (aCons (eVar 13) (aCons (eC (.int 1)) aNil))) (aCons (eIx (pVar 14) (eVar 5)) aNil))) [13, 14]))
    (sSeq (sSet 8 (eCall F__law_sum (aCons (eOp gCatL (eLst (aCons (eVar 7) aNil)) (eGetD (pVar 4) (eIx (pVar 6) (eC (.int 0))) (eLst aNil))) aNil)))
    (sSeq (sSet 9 (eCall F__law_one_tub (aCons (eVar 6) (aCons (eVar 8) (aCons (eIx (pVar 2) (eVar 5)) aNil)))))
    (sSeq (sDPut 3 (eIx (pVar 6) (eC (.int 0))) (eVar 9))
    (sFor (iEnum (eIx (pVar 6) (eC (.int 2)))) (hTup (hCons (hName 10) (hCons (hName 11) hNil))) L__law_ways_1)))))
def f__law_ways : FS :=
  (sSeq (sSetO 3 eDNewK)
    (sSeq (sSetO 4 eDNewK)
    (sSeq (sFor (iEnum (eVar 0)) (hTup (hCons (hName 5) (hCons (hName 6) hNil))) L__law_ways_2)
    (sRet (eVar 3)))))
def F__law_ways : FnD := runF 15 f__law_ways
def L__law_turns_1 : FS :=
  (sIf (bOr (bT (eCall F__law_less (aCons (eIx (pVar 10) (eC (.int 0))) (aCons (eIx (pVar 9) (eC (.int 0))) aNil)))) (bAnd (bT (eOpP gEq (pE (eIx (pVar 10) (eC (.int 0)))) (pE (eIx (pVar 9) (eC (.int 0)))))) (bT (eLt (eIx (pVar 10) (eC (.int 1))) (eIx (pVar 9) (eC (.int 1))))))) (sSet 9 (eVar 10)) sNil)
def L__law_turns_2 : FS :=
  (sSeq (sSet 9 (eIx (pVar 2) (eC (.int 0))))
    (sSeq (sFor (iSeq (eVar 2)) (hName 10) L__law_turns_1)
    (sSeq (sApp 8 (eVar 9))
    (sSetO 2 (eLc (iSeq (eVar 2)) (hName 10) (bT (eOpP gNe (pVar 10) (pVar 9))) (eVar 10) [10])))))
def L__law_turns_3 : FS :=
  (sIf (bT (eOpP gNe (pE (eIx (pVar 6) (eC (.int 2)))) (pE (eIx (pVar 7) (eC (.int 2)))))) (sApp 2 (eTup (aCons (eIx (pVar 7) (eC (.int 0))) (aCons (eVar 3) aNil)))) sNil)
def L__law_turns_4 : FS :=
  (sSeq (sSet 5 (eGet (pVar 1) (eIx (pVar 4) (eC (.int 0)))))
    (sFor (iZip (eVar 5) (eSl (pVar 5) (oSome (eC (.int 1))) oNone)) (hTup (hCons (hName 6) (hCons (hName 7) hNil))) L__law_turns_3))
def f__law_turns : FS :=
  (sSeq (sSetO 2 (eLst aNil))
    (sSeq (sFor (iEnum (eVar 0)) (hTup (hCons (hName 3) (hCons (hName 4) hNil))) L__law_turns_4)
    (sSeq (sSetO 8 (eLst aNil))
    (sSeq (sWhile (fun _ => 10000) (bT (eOpP gNe (pVar 2) (pE (eLst aNil)))) L__law_turns_2)
    (sRet (eLc (iSeq (eVar 8)) (hTup (hCons (hName 11) (hCons (hName 3) hNil))) bYes (eTup (aCons (eVar 11) (aCons (eIx (pE (eIx (pVar 0) (eVar 3))) (eC (.int 0))) aNil))) [11, 3]))))))
def F__law_turns : FnD := runF 12 f__law_turns
def f_is_lesser : FS :=
  (sRet (eLt (eMul (eIx (pVar 0) (eC (.int 0))) (eIx (pVar 1) (eC (.int 1)))) (eMul (eIx (pVar 1) (eC (.int 0))) (eIx (pVar 0) (eC (.int 1))))))
def F_is_lesser : FnD := runF 2 f_is_lesser
def L_lets_of_1 : FS :=
  (sSeq (sIf (bT (eCall F_is_lesser (aCons (eTup (aCons (eIx (pVar 5) (eC (.int 0))) (aCons (eC (.int 1)) aNil))) (aCons (eVar 1) aNil)))) (sApp 3 (eIx (pVar 5) (eC (.int 1)))) (sIf (bT (eOpP gEq (pE (eTup (aCons (eIx (pVar 5) (eC (.int 0))) (aCons (eC (.int 1)) aNil)))) (pVar 1))) (sApp 3 (eMin (eIx (pVar 5) (eC (.int 1))) (eMax (eC (.int 0)) (eVar 4)))) (sApp 3 (eC (.int 0)))))
    (sAug (fun i j => i - j) 4 (eIx (pVar 3) (eUn gNeg (eC (.int 1))))))
def f_lets_of : FS :=
  (sSeq (sSetO 3 (eLst aNil))
    (sSeq (sSet 4 (eVar 2))
    (sSeq (sFor (iSeq (eVar 0)) (hName 5) L_lets_of_1)
    (sRet (eVar 3)))))
def F_lets_of : FnD := runF 6 f_lets_of
def f_plus : FS :=
  (sRet (eCall F_lowest (aCons (eAdd (eMul (eIx (pVar 0) (eC (.int 0))) (eIx (pVar 1) (eC (.int 1)))) (eMul (eIx (pVar 1) (eC (.int 0))) (eIx (pVar 0) (eC (.int 1))))) (aCons (eMul (eIx (pVar 0) (eC (.int 1))) (eIx (pVar 1) (eC (.int 1)))) aNil))))
def F_plus : FnD := runF 2 f_plus
def f_less : FS :=
  (sRet (eCall F_lowest (aCons (eSub (eMul (eIx (pVar 0) (eC (.int 0))) (eIx (pVar 1) (eC (.int 1)))) (eMul (eIx (pVar 1) (eC (.int 0))) (eIx (pVar 0) (eC (.int 1))))) (aCons (eMul (eIx (pVar 0) (eC (.int 1))) (eIx (pVar 1) (eC (.int 1)))) aNil))))
def F_less : FnD := runF 2 f_less
end Px.S

set_option Elab.async false
set_option linter.all false
set_option maxRecDepth 100000
set_option maxHeartbeats 4000000
namespace Px.S
open PySem L2 Px
def topS (i : Nat) : Stmt := PySem.Challenge.pw_holetubs_k01_tubs_weather_beginnings_tol.main.body.getD i (.Pass ⟨0, 0, 0, 0⟩)
structure Bt (K : PySem.W.Frag) (mg : Str → Option Value) : Prop where
  abs_ : mg "abs" = none
  all_ : mg "all" = none
  bool_ : mg "bool" = none
  enumerate_ : mg "enumerate" = none
  int_ : mg "int" = none
  isinstance_ : mg "isinstance" = none
  len_ : mg "len" = none
  list_ : mg "list" = none
  min_ : mg "min" = none
  range_ : mg "range" = none
  set_ : mg "set" = none
  sorted_ : mg "sorted" = none
  str_ : mg "str" = none
  tuple_ : mg "tuple" = none
  zip_ : mg "zip" = none
  g_LETTERS : GlobC K mg "LETTERS" c_LETTERS
  g_MOST_HOLES : GlobC K mg "MOST_HOLES" c_MOST_HOLES
  g_MOST_PART : GlobC K mg "MOST_PART" c_MOST_PART
  g_MOST_RATE : GlobC K mg "MOST_RATE" c_MOST_RATE
  g_MOST_ROWS : GlobC K mg "MOST_ROWS" c_MOST_ROWS
  g_MOST_TUBS : GlobC K mg "MOST_TUBS" c_MOST_TUBS
section
variable {P : Program} {w : World} {K : PySem.W.Frag} {mg : Str → Option Value} {base : Heap}
abbrev s__law_bag : Stmt := topS 20
abbrev N__law_bag : List Str := ["script", "k", "cell"]
theorem sc__law_bag : FnScope N__law_bag ["script", "k"] (defScope s__law_bag) := ⟨rfl, rfl, rfl, by decide +kernel, rfl, by decide +kernel, by decide +kernel⟩
theorem ok__law_bag {f : Addr} {fd : FuncData} (F : Fun K "_law_bag" "_law_bag" s__law_bag f fd) (Z : Bt K mg)  : FnOk P w K mg base CX0 1 f fd ["script", "k"] (spF K 2 F__law_bag) :=
  fn_okF F sc__law_bag fun cdv A outer s H E B hr =>
    have hu := hu_of hr
    (iss_cons (is_set (i := 2) sc__law_bag.nd rfl (.inl rfl) ie_int)
    (iss_cons (is_if (it_lt (ie_var 1 (pv 1)) (ie_len (by rfl) Z.len_ (ip_var 0 (pv 0)))) (iss_one (is_set (i := 2) sc__law_bag.nd rfl (.inl rfl) (ie_abs (by rfl) Z.abs_ (ip_of (ie_ix (ip_var 0 (pv 0)) (ie_var 1 (pv 1))))))) iss_nil)
    (iss_cons (is_if (it_lt (ie_var 2 (pv 2)) (ie_pow ie_int ie_int)) (iss_one (is_retO (io_lst (ia_cons ie_int (ia_cons (ie_add ie_int (ie_mod (ie_add (ie_mul (ie_var 2 (pv 2)) ie_int) (ie_mul ie_int (ie_var 1 (pv 1)))) ie_int)) ia_nil))))) iss_nil)
    (iss_one (is_retO (io_lst (ia_cons (ie_var 2 (pv 2)) (ia_cons (ie_add ie_int (ie_mod (ie_add (ie_var 2 (pv 2)) (ie_var 1 (pv 1))) ie_int)) ia_nil))))))))
abbrev s__law_take : Stmt := topS 21
abbrev N__law_take : List Str := ["bag", "many", "found"]
theorem sc__law_take : FnScope N__law_take ["bag", "many"] (defScope s__law_take) := ⟨rfl, rfl, rfl, by decide +kernel, rfl, by decide +kernel, by decide +kernel⟩
theorem ok__law_take {f : Addr} {fd : FuncData} (F : Fun K "_law_take" "_law_take" s__law_take f fd) (Z : Bt K mg)  : FnOk P w K mg base CX0 1 f fd ["bag", "many"] (spB K 1 F__law_take) :=
  fn_okB F sc__law_take rfl fun cdv A outer s H E B hr =>
    have hu := hu_of hr
    (iss_cons (is_if (it_gt (ie_ix (ip_var 0 (pv 0)) ie_int) ie_int) (iss_cons (is_set (i := 2) sc__law_take.nd rfl (.inl rfl) (ie_mod (ie_ix (ip_var 0 (pv 0)) ie_int) (ie_var 1 (pv 1))))
    (iss_cons (is_lput (pv 0) ie_int (ie_fdiv (ie_ix (ip_var 0 (pv 0)) ie_int) (ie_var 1 (pv 1))))
    (iss_one (is_ret (ie_var 2 (pv 2)))))) iss_nil)
    (iss_cons (is_lput (pv 0) ie_int (ie_mod (ie_mul (ie_ix (ip_var 0 (pv 0)) ie_int) ie_int) ie_int))
    (iss_one (is_ret (ie_mod (ie_fdiv (ie_mod (ie_mul (ie_ix (ip_var 0 (pv 0)) ie_int) (ie_ix (ip_var 0 (pv 0)) ie_int)) ie_int) ie_int) (ie_var 1 (pv 1)))))))
abbrev s__law_of : Stmt := topS 22
abbrev N__law_of : List Str := ["bag", "some"]
theorem sc__law_of : FnScope N__law_of ["bag", "some"] (defScope s__law_of) := ⟨rfl, rfl, rfl, by decide +kernel, rfl, by decide +kernel, by decide +kernel⟩
theorem ok__law_of {f : Addr} {fd : FuncData} (F : Fun K "_law_of" "_law_of" s__law_of f fd) (Z : Bt K mg) (h__law_take : HasFn P w K mg base 1 "_law_take" (spB K 1 F__law_take)) : FnOk P w K mg base CX0 2 f fd ["bag", "some"] (spB K 1 F__law_of) :=
  fn_okB F sc__law_of rfl fun cdv A outer s H E B hr =>
    have hu := hu_of hr
    (iss_one (is_ret (ie_ix (ip_var 1 (pv 1)) (ie_callB h__law_take (hr.mono (by decide)) (by rfl) (pv 0) (ia_cons (ie_len (by rfl) Z.len_ (ip_var 1 (pv 1))) ia_nil) (la_cons la_nil)))))
abbrev s__law_tubs : Stmt := topS 30
abbrev N__law_tubs : List Str := ["bag", "most", "names", "found", "at", "name", "levels", "wide", "turn", "holes", "level", "rate"]
theorem sc__law_tubs : FnScope N__law_tubs ["bag", "most"] (defScope s__law_tubs) := ⟨rfl, rfl, rfl, by decide +kernel, rfl, by decide +kernel, by decide +kernel⟩
theorem ok__law_tubs {f : Addr} {fd : FuncData} (F : Fun K "_law_tubs" "_law_tubs" s__law_tubs f fd) (Z : Bt K mg) (h__law_of : HasFn P w K mg base 2 "_law_of" (spB K 1 F__law_of)) (h__law_take : HasFn P w K mg base 1 "_law_take" (spB K 1 F__law_take)) : FnOk P w K mg base CX0 3 f fd ["bag", "most"] (spB K 1 F__law_tubs) :=
  fn_okB F sc__law_tubs rfl fun cdv A outer s H E B hr =>
    have hu := hu_of hr
    (iss_cons (is_set (i := 2) sc__law_tubs.nd rfl (.inl rfl) (ie_sl (ip_of (ie_callB h__law_of (hr.mono (by decide)) (by rfl) (pv 0) (ia_cons (ie_own (io_lst (ia_cons (ie_own (io_lst (ia_cons ie_str (ia_cons ie_str (ia_cons ie_str ia_nil))))) (ia_cons (ie_own (io_lst (ia_cons ie_str (ia_cons ie_str (ia_cons ie_str ia_nil))))) ia_nil)))) ia_nil) (la_cons la_nil))) iq_none (iq_some (ie_add ie_int (ie_callB h__law_take (hr.mono (by decide)) (by rfl) (pv 0) (ia_cons (ie_var 1 (pv 1)) ia_nil) (la_cons la_nil))))))
    (iss_cons (is_setO (i := 3) sc__law_tubs.nd rfl (.inl rfl) (io_lst ia_nil))
    (iss_cons (is_for PassesOwn.never rfl (ii_enum (by rfl) Z.enumerate_ (ie_var 2 (pv 2))) (ig_tup rfl (igs_cons (ig_name sc__law_tubs.nd rfl (.inl rfl)) (igs_cons (ig_name sc__law_tubs.nd rfl (.inl rfl)) igs_nil)) (ln_cons (ln_cons ln_nil))) (iss_cons (is_setO (i := 6) sc__law_tubs.nd rfl (.inl rfl) io_dnewK)
    (iss_cons (is_set (i := 7) sc__law_tubs.nd rfl (.inl rfl) (ie_ix (ip_of (ie_own (io_lst (ia_cons ie_int (ia_cons ie_int (ia_cons ie_int ia_nil)))))) (ie_callB h__law_take (hr.mono (by decide)) (by rfl) (pv 0) (ia_cons ie_int ia_nil) (la_cons la_nil))))
    (iss_cons (is_for PassesOwn.never rfl (ii_range1 (by rfl) Z.range_ (ie_callB h__law_take (hr.mono (by decide)) (by rfl) (pv 0) (ia_cons ie_int ia_nil) (la_cons la_nil))) (ig_name sc__law_tubs.nd rfl (.inl rfl)) (iss_one (is_dput hu (pv 6) (ie_callB h__law_take (hr.mono (by decide)) (by rfl) (pv 0) (ia_cons (ie_var 7 (pv 7)) ia_nil) (la_cons la_nil)) ie_bl)))
    (iss_cons (is_setO (i := 9) sc__law_tubs.nd rfl (.inl rfl) (io_lst ia_nil))
    (iss_cons (is_for PassesOwn.never rfl (ii_seq (ie_own (io_sortedD rfl (by rfl) Z.sorted_ (ip_var 6 (pv 6))))) (ig_name sc__law_tubs.nd rfl (.inl rfl)) (iss_cons (is_set (i := 11) sc__law_tubs.nd rfl (.inl rfl) (ie_add ie_int (ie_callB h__law_take (hr.mono (by decide)) (by rfl) (pv 0) (ia_cons (ie_ix (ip_of (ie_own (io_lst (ia_cons ie_int (ia_cons ie_int ia_nil))))) (ie_callB h__law_take (hr.mono (by decide)) (by rfl) (pv 0) (ia_cons ie_int ia_nil) (la_cons la_nil))) ia_nil) (la_cons la_nil))))
    (iss_one (is_app (pv 9) (ie_tup (ia_cons (ie_var 10 (pv 10)) (ia_cons (ie_var 11 (pv 11)) (ia_cons (ie_callB h__law_of (hr.mono (by decide)) (by rfl) (pv 0) (ia_cons (ie_own (io_catL (ie_own (io_catL (ie_own (io_lst (ia_cons ie_str ia_nil))) (ie_sl (ip_var 2 (pv 2)) (iq_some (ie_add (ie_var 4 (pv 4)) ie_int)) iq_none))) (ie_sl (ip_var 2 (pv 2)) (iq_some (ie_add (ie_var 4 (pv 4)) ie_int)) iq_none))) ia_nil) (la_cons la_nil)) ia_nil))))))))
    (iss_one (is_app (pv 3) (ie_tup (ia_cons (ie_var 5 (pv 5)) (ia_cons (ie_add ie_int (ie_callB h__law_take (hr.mono (by decide)) (by rfl) (pv 0) (ia_cons (ie_ix (ip_of (ie_own (io_lst (ia_cons ie_int (ia_cons ie_int ia_nil))))) (ie_callB h__law_take (hr.mono (by decide)) (by rfl) (pv 0) (ia_cons ie_int ia_nil) (la_cons la_nil))) ia_nil) (la_cons la_nil))) (ia_cons (ie_tuple (by rfl) Z.tuple_ (ip_var 9 (pv 9))) ia_nil))))))))))))
    (iss_one (is_ret (ie_tuple (by rfl) Z.tuple_ (ip_var 3 (pv 3))))))))
abbrev s__law_rain : Stmt := topS 31
abbrev N__law_rain : List Str := ["bag", "tubs", "found", "name", "ground", "holes", "sums", "total", "hole"]
theorem sc__law_rain : FnScope N__law_rain ["bag", "tubs"] (defScope s__law_rain) := ⟨rfl, rfl, rfl, by decide +kernel, rfl, by decide +kernel, by decide +kernel⟩
theorem ok__law_rain {f : Addr} {fd : FuncData} (F : Fun K "_law_rain" "_law_rain" s__law_rain f fd) (Z : Bt K mg) (h__law_take : HasFn P w K mg base 1 "_law_take" (spB K 1 F__law_take)) (h__law_of : HasFn P w K mg base 2 "_law_of" (spB K 1 F__law_of)) : FnOk P w K mg base CX0 3 f fd ["bag", "tubs"] (spB K 1 F__law_rain) :=
  fn_okB F sc__law_rain rfl fun cdv A outer s H E B hr =>
    have hu := hu_of hr
    (iss_cons (is_setO (i := 2) sc__law_rain.nd rfl (.inl rfl) (io_lst ia_nil))
    (iss_cons (is_for PassesOwn.never rfl (ii_seq (ie_var 1 (pv 1))) (ig_tup rfl (igs_cons (ig_name sc__law_rain.nd rfl (.inl rfl)) (igs_cons (ig_name sc__law_rain.nd rfl (.inl rfl)) (igs_cons (ig_name sc__law_rain.nd rfl (.inl rfl)) igs_nil))) (ln_cons (ln_cons (ln_cons ln_nil)))) (iss_cons (is_parO (i := 6) (j := 7) rfl sc__law_rain.nd rfl rfl (by decide) rfl rfl (io_lst (ia_cons ie_int ia_nil)) pe_int (fun _ => by simp only [Rep]))
    (iss_cons (is_for PassesOwn.never rfl (ii_seq (ie_var 5 (pv 5))) (ig_name sc__law_rain.nd rfl (.inl rfl)) (iss_cons (is_set (i := 7) sc__law_rain.nd rfl (.inl rfl) (ie_add (ie_var 7 (pv 7)) (ie_ix (ip_var 8 (pv 8)) ie_int)))
    (iss_one (is_app (pv 6) (ie_var 7 (pv 7))))))
    (iss_one (is_app (pv 2) (ie_ix (ip_of (ie_own (io_lst (ia_cons (ie_callB h__law_of (hr.mono (by decide)) (by rfl) (pv 0) (ia_cons (ie_var 6 (pv 6)) ia_nil) (la_cons la_nil)) (ia_cons (ie_callB h__law_take (hr.mono (by decide)) (by rfl) (pv 0) (ia_cons ie_int ia_nil) (la_cons la_nil)) (ia_cons (ie_callB h__law_take (hr.mono (by decide)) (by rfl) (pv 0) (ia_cons ie_int ia_nil) (la_cons la_nil)) (ia_cons ie_int ia_nil))))))) (ie_callB h__law_take (hr.mono (by decide)) (by rfl) (pv 0) (ia_cons ie_int ia_nil) (la_cons la_nil))))))))
    (iss_one (is_ret (ie_tuple (by rfl) Z.tuple_ (ip_var 2 (pv 2)))))))
abbrev s__law_weather : Stmt := topS 32
abbrev N__law_weather : List Str := ["bag", "tubs", "hours", "turn", "hour"]
theorem sc__law_weather : FnScope N__law_weather ["bag", "tubs"] (defScope s__law_weather) := ⟨rfl, rfl, rfl, by decide +kernel, rfl, by decide +kernel, by decide +kernel⟩
theorem ok__law_weather {f : Addr} {fd : FuncData} (F : Fun K "_law_weather" "_law_weather" s__law_weather f fd) (Z : Bt K mg) (h__law_take : HasFn P w K mg base 1 "_law_take" (spB K 1 F__law_take)) (h__law_rain : HasFn P w K mg base 3 "_law_rain" (spB K 1 F__law_rain)) : FnOk P w K mg base CX0 4 f fd ["bag", "tubs"] (spB K 1 F__law_weather) :=
  fn_okB F sc__law_weather rfl fun cdv A outer s H E B hr =>
    have hu := hu_of hr
    (iss_cons (is_setO (i := 2) sc__law_weather.nd rfl (.inl rfl) io_dispIB)
    (iss_cons (is_for PassesOwn.never rfl (ii_range1 (by rfl) Z.range_ (ie_callB h__law_take (hr.mono (by decide)) (by rfl) (pv 0) (ia_cons ie_int ia_nil) (la_cons la_nil))) (ig_name sc__law_weather.nd rfl (.inl rfl)) (iss_one (is_dput hu (pv 2) (ie_add ie_int (ie_callB h__law_take (hr.mono (by decide)) (by rfl) (pv 0) (ia_cons (ie_ix (ip_of (ie_own (io_lst (ia_cons ie_int (ia_cons ie_int ia_nil))))) (ie_callB h__law_take (hr.mono (by decide)) (by rfl) (pv 0) (ia_cons ie_int ia_nil) (la_cons la_nil))) ia_nil) (la_cons la_nil))) ie_bl)))
    (iss_one (is_ret (ie_tuple (by rfl) Z.tuple_ (ip_of (ie_own (io_lc (own := [("hour", 4)]) rfl sc__law_weather.nd (ii_seq (ie_own (io_sortedD rfl (by rfl) Z.sorted_ (ip_var 2 (pv 2))))) (blkOk_by (N := N__law_weather) (sc := defScope s__law_weather) (by decide +kernel)) (fun _ _ _ _ _ _ => (ig_name sc__law_weather.nd rfl (.inl rfl))) (fun _ _ _ _ _ _ => its_nil) (fun _ _ _ _ _ _ => (ie_tup (ia_cons (ie_var 4 (pv 4)) (ia_cons (ie_callB h__law_rain (hr.mono (by decide)) (by rfl) (pv 0) (ia_cons (ie_var 1 (pv 1)) ia_nil) (la_cons la_nil)) ia_nil))))))))))))
abbrev s__law_lowest : Stmt := topS 28
abbrev N__law_lowest : List Str := ["top", "bottom", "one", "other"]
theorem sc__law_lowest : FnScope N__law_lowest ["top", "bottom"] (defScope s__law_lowest) := ⟨rfl, rfl, rfl, by decide +kernel, rfl, by decide +kernel, by decide +kernel⟩
theorem ok__law_lowest {f : Addr} {fd : FuncData} (F : Fun K "_law_lowest" "_law_lowest" s__law_lowest f fd) (Z : Bt K mg)  : FnOk P w K mg base CX0 1 f fd ["top", "bottom"] (spF K 2 F__law_lowest) :=
  fn_okF F sc__law_lowest fun cdv A outer s H E B hr =>
    have hu := hu_of hr
    (iss_cons (is_par (i := 2) (j := 3) rfl sc__law_lowest.nd rfl rfl (by decide) rfl rfl (ie_abs (by rfl) Z.abs_ (ip_var 0 (pv 0))) (ie_var 1 (pv 1)))
    (iss_cons (is_while PassesOwn.never (it_gt (ie_var 3 (pv 3)) ie_int) (iss_one (is_par (i := 2) (j := 3) rfl sc__law_lowest.nd rfl rfl (by decide) rfl rfl (ie_var 3 (pv 3)) (ie_mod (ie_var 2 (pv 2)) (ie_var 3 (pv 3))))))
    (iss_one (is_ret (ie_tup (ia_cons (ie_fdiv (ie_var 0 (pv 0)) (ie_var 2 (pv 2))) (ia_cons (ie_fdiv (ie_var 1 (pv 1)) (ie_var 2 (pv 2))) ia_nil)))))))
abbrev s__law_part : Stmt := topS 29
abbrev N__law_part : List Str := ["bag", "wide"]
theorem sc__law_part : FnScope N__law_part ["bag", "wide"] (defScope s__law_part) := ⟨rfl, rfl, rfl, by decide +kernel, rfl, by decide +kernel, by decide +kernel⟩
theorem ok__law_part {f : Addr} {fd : FuncData} (F : Fun K "_law_part" "_law_part" s__law_part f fd) (Z : Bt K mg) (h__law_lowest : HasFn P w K mg base 1 "_law_lowest" (spF K 2 F__law_lowest)) (h__law_take : HasFn P w K mg base 1 "_law_take" (spB K 1 F__law_take)) : FnOk P w K mg base CX0 2 f fd ["bag", "wide"] (spB K 1 F__law_part) :=
  fn_okB F sc__law_part rfl fun cdv A outer s H E B hr =>
    have hu := hu_of hr
    (iss_one (is_ret (ie_call h__law_lowest (hr.mono (by decide)) (by rfl) rfl (ia_cons (ie_callB h__law_take (hr.mono (by decide)) (by rfl) (pv 0) (ia_cons (ie_add (ie_var 1 (pv 1)) ie_int) ia_nil) (la_cons la_nil)) (ia_cons (ie_add ie_int (ie_callB h__law_take (hr.mono (by decide)) (by rfl) (pv 0) (ia_cons (ie_ix (ip_of (ie_own (io_lst (ia_cons ie_int (ia_cons ie_int ia_nil))))) (ie_callB h__law_take (hr.mono (by decide)) (by rfl) (pv 0) (ia_cons ie_int ia_nil) (la_cons la_nil))) ia_nil) (la_cons la_nil))) ia_nil)) (la_cons (la_cons la_nil)))))
abbrev s__law_beginning : Stmt := topS 33
abbrev N__law_beginning : List Str := ["bag", "tubs", "found", "name", "ground", "holes", "some", "hole"]
theorem sc__law_beginning : FnScope N__law_beginning ["bag", "tubs"] (defScope s__law_beginning) := ⟨rfl, rfl, rfl, by decide +kernel, rfl, by decide +kernel, by decide +kernel⟩
theorem ok__law_beginning {f : Addr} {fd : FuncData} (F : Fun K "_law_beginning" "_law_beginning" s__law_beginning f fd) (Z : Bt K mg) (h__law_of : HasFn P w K mg base 2 "_law_of" (spB K 1 F__law_of)) (h__law_part : HasFn P w K mg base 2 "_law_part" (spB K 1 F__law_part)) : FnOk P w K mg base CX0 3 f fd ["bag", "tubs"] (spB K 1 F__law_beginning) :=
  fn_okB F sc__law_beginning rfl fun cdv A outer s H E B hr =>
    have hu := hu_of hr
    (iss_cons (is_setO (i := 2) sc__law_beginning.nd rfl (.inl rfl) (io_lst ia_nil))
    (iss_cons (is_for PassesOwn.never rfl (ii_seq (ie_var 1 (pv 1))) (ig_tup rfl (igs_cons (ig_name sc__law_beginning.nd rfl (.inl rfl)) (igs_cons (ig_name sc__law_beginning.nd rfl (.inl rfl)) (igs_cons (ig_name sc__law_beginning.nd rfl (.inl rfl)) igs_nil))) (ln_cons (ln_cons (ln_cons ln_nil)))) (iss_cons (is_set (i := 6) sc__law_beginning.nd rfl (.inl rfl) (ie_own (io_catL (ie_own (io_lst (ia_cons (ie_tup (ia_cons ie_int (ia_cons ie_int ia_nil))) (ia_cons (ie_callB h__law_part (hr.mono (by decide)) (by rfl) (pv 0) (ia_cons ie_int ia_nil) (la_cons la_nil)) ia_nil)))) (ie_own (io_lc (own := [("hole", 7)]) rfl sc__law_beginning.nd (ii_seq (ie_var 5 (pv 5))) (blkOk_by (N := N__law_beginning) (sc := defScope s__law_beginning) (by decide +kernel)) (fun _ _ _ _ _ _ => (ig_name sc__law_beginning.nd rfl (.inl rfl))) (fun _ _ _ _ _ _ => its_nil) (fun _ _ _ _ _ _ => (ie_tup (ia_cons (ie_ix (ip_var 7 (pv 7)) ie_int) (ia_cons ie_int ia_nil)))))))))
    (iss_one (is_app (pv 2) (ie_callB h__law_of (hr.mono (by decide)) (by rfl) (pv 0) (ia_cons (ie_var 6 (pv 6)) ia_nil) (la_cons la_nil))))))
    (iss_one (is_ret (ie_tuple (by rfl) Z.tuple_ (ip_var 2 (pv 2)))))))
abbrev s__law_odd : Stmt := topS 27
abbrev N__law_odd : List Str := ["bag", "some"]
theorem sc__law_odd : FnScope N__law_odd ["bag"] (defScope s__law_odd) := ⟨rfl, rfl, rfl, by decide +kernel, rfl, by decide +kernel, by decide +kernel⟩
theorem ok__law_odd {f : Addr} {fd : FuncData} (F : Fun K "_law_odd" "_law_odd" s__law_odd f fd) (Z : Bt K mg) (h__law_take : HasFn P w K mg base 1 "_law_take" (spB K 1 F__law_take)) : FnOk P w K mg base CX0 2 f fd ["bag"] (spB K 0 F__law_odd) :=
  fn_okB F sc__law_odd rfl fun cdv A outer s H E B hr =>
    have hu := hu_of hr
    (iss_cons (is_setO (i := 1) sc__law_odd.nd rfl (.inl rfl) (io_lst (ia_cons ie_non (ia_cons ie_bl (ia_cons ie_bl (ia_cons ie_int (ia_cons ie_int (ia_cons (ie_neg ie_int) (ia_cons ie_int (ia_cons (ie_pow ie_int ie_int) (ia_cons ie_str (ia_cons ie_str (ia_cons (ie_tup ia_nil) (ia_cons (ie_own (io_lst ia_nil)) (ia_cons (ie_tup (ia_cons ie_int (ia_cons ie_int ia_nil))) (ia_cons (ie_tup (ia_cons (ie_neg ie_int) (ia_cons ie_int ia_nil))) (ia_cons (ie_tup (ia_cons ie_int (ia_cons ie_int ia_nil))) (ia_cons (ie_tup (ia_cons ie_int (ia_cons ie_int ia_nil))) (ia_cons (ie_tup (ia_cons ie_int (ia_cons ie_int ia_nil))) ia_nil)))))))))))))))))))
    (iss_cons (is_set (i := 1) sc__law_odd.nd rfl (.inl rfl) (ie_own (io_catL (ie_var 1 (pv 1)) (ie_own (io_lst (ia_cons (ie_tup (ia_cons ie_non ia_nil)) (ia_cons (ie_tup (ia_cons ie_str (ia_cons ie_int (ia_cons (ie_tup ia_nil) ia_nil)))) (ia_cons (ie_tup (ia_cons (ie_tup (ia_cons ie_str (ia_cons ie_int (ia_cons (ie_tup ia_nil) ia_nil)))) ia_nil)) (ia_cons (ie_tup (ia_cons (ie_tup (ia_cons ie_int (ia_cons (ie_tup (ia_cons ie_int ia_nil)) ia_nil))) ia_nil)) (ia_cons (ie_tup (ia_cons ie_str (ia_cons ie_int ia_nil))) (ia_cons (ie_tup (ia_cons ie_str (ia_cons ie_bl ia_nil))) (ia_cons (ie_tup (ia_cons ie_int (ia_cons ie_int (ia_cons ie_str ia_nil)))) ia_nil))))))))))))
    (iss_one (is_ret (ie_ix (ip_var 1 (pv 1)) (ie_callB h__law_take (hr.mono (by decide)) (by rfl) (pv 0) (ia_cons (ie_len (by rfl) Z.len_ (ip_var 1 (pv 1))) ia_nil) (la_cons la_nil)))))))
abbrev s_is_whole : Stmt := topS 7
abbrev N_is_whole : List Str := ["thing"]
theorem sc_is_whole : FnScope N_is_whole ["thing"] (defScope s_is_whole) := ⟨rfl, rfl, rfl, by decide +kernel, rfl, by decide +kernel, by decide +kernel⟩
theorem ok_is_whole {f : Addr} {fd : FuncData} (F : Fun K "is_whole" "is_whole" s_is_whole f fd) (Z : Bt K mg)  : FnOk P w K mg base CX0 1 f fd ["thing"] (spF K 1 F_is_whole) :=
  fn_okF F sc_is_whole fun cdv A outer s H E B hr =>
    have hu := hu_of hr
    (iss_one (is_ret (ie_and (ie_isL (T := "int") (by decide +kernel) (by rfl) Z.isinstance_ (by rfl) Z.int_ (ip_var 0 (pv 0))) (ie_one (ie_not (ie_isL (T := "bool") (by decide +kernel) (by rfl) Z.isinstance_ (by rfl) Z.bool_ (ip_var 0 (pv 0))))))))
abbrev s_lowest : Stmt := topS 11
abbrev N_lowest : List Str := ["top", "bottom", "one", "other"]
theorem sc_lowest : FnScope N_lowest ["top", "bottom"] (defScope s_lowest) := ⟨rfl, rfl, rfl, by decide +kernel, rfl, by decide +kernel, by decide +kernel⟩
theorem ok_lowest {f : Addr} {fd : FuncData} (F : Fun K "lowest" "lowest" s_lowest f fd) (Z : Bt K mg)  : FnOk P w K mg base CX0 1 f fd ["top", "bottom"] (spF K 2 F_lowest) :=
  fn_okF F sc_lowest fun cdv A outer s H E B hr =>
    have hu := hu_of hr
    (iss_cons (is_par (i := 2) (j := 3) rfl sc_lowest.nd rfl rfl (by decide) rfl rfl (ie_abs (by rfl) Z.abs_ (ip_var 0 (pv 0))) (ie_var 1 (pv 1)))
    (iss_cons (is_while PassesOwn.never (it_gt (ie_var 3 (pv 3)) ie_int) (iss_one (is_par (i := 2) (j := 3) rfl sc_lowest.nd rfl rfl (by decide) rfl rfl (ie_var 3 (pv 3)) (ie_mod (ie_var 2 (pv 2)) (ie_var 3 (pv 3))))))
    (iss_one (is_ret (ie_tup (ia_cons (ie_fdiv (ie_var 0 (pv 0)) (ie_var 2 (pv 2))) (ia_cons (ie_fdiv (ie_var 1 (pv 1)) (ie_var 2 (pv 2))) ia_nil)))))))
abbrev s_is_fraction : Stmt := topS 12
abbrev N_is_fraction : List Str := ["thing"]
theorem sc_is_fraction : FnScope N_is_fraction ["thing"] (defScope s_is_fraction) := ⟨rfl, rfl, rfl, by decide +kernel, rfl, by decide +kernel, by decide +kernel⟩
theorem ok_is_fraction {f : Addr} {fd : FuncData} (F : Fun K "is_fraction" "is_fraction" s_is_fraction f fd) (Z : Bt K mg) (h_is_whole : HasFn P w K mg base 1 "is_whole" (spF K 1 F_is_whole)) (h_lowest : HasFn P w K mg base 1 "lowest" (spF K 2 F_lowest)) : FnOk P w K mg base CX0 2 f fd ["thing"] (spF K 1 F_is_fraction) :=
  fn_okF F sc_is_fraction fun cdv A outer s H E B hr =>
    have hu := hu_of hr
    (iss_cons (is_if (PW.pt (iw_or (it_not (it_val (ie_isL (T := "tuple") (by decide +kernel) (by rfl) Z.isinstance_ (by rfl) Z.tuple_ (ip_var 0 (pv 0))))) (iw_or (it_ne hr.units (ip_of (ie_len (by rfl) Z.len_ (ip_var 0 (pv 0)))) (ip_of ie_int)) (iw_or (it_not (it_val (ie_call h_is_whole (hr.mono (by decide)) (by rfl) rfl (ia_cons (ie_ix (ip_var 0 (pv 0)) ie_int) ia_nil) (la_cons la_nil)))) (iw_or1 (it_not (it_val (ie_call h_is_whole (hr.mono (by decide)) (by rfl) rfl (ia_cons (ie_ix (ip_var 0 (pv 0)) ie_int) ia_nil) (la_cons la_nil))))))))) (iss_one (is_ret ie_bl)) iss_nil)
    (iss_one (is_ret (ie_and (ie_ge (ie_ix (ip_var 0 (pv 0)) ie_int) ie_int) (ie_and (ie_ge (ie_ix (ip_var 0 (pv 0)) ie_int) ie_int) (ie_one (ie_eq hr.units (ip_of (ie_call h_lowest (hr.mono (by decide)) (by rfl) rfl (ia_cons (ie_ix (ip_var 0 (pv 0)) ie_int) (ia_cons (ie_ix (ip_var 0 (pv 0)) ie_int) ia_nil)) (la_cons (la_cons la_nil)))) (ip_var 0 (pv 0)))))))))
abbrev s_is_beginning : Stmt := topS 18
abbrev N_is_beginning : List Str := ["tubs", "thing", "one"]
theorem sc_is_beginning : FnScope N_is_beginning ["tubs", "thing"] (defScope s_is_beginning) := ⟨rfl, rfl, rfl, by decide +kernel, rfl, by decide +kernel, by decide +kernel⟩
theorem ok_is_beginning {f : Addr} {fd : FuncData} (F : Fun K "is_beginning" "is_beginning" s_is_beginning f fd) (Z : Bt K mg) (h_is_fraction : HasFn P w K mg base 2 "is_fraction" (spF K 1 F_is_fraction)) : FnOk P w K mg base CX0 3 f fd ["tubs", "thing"] (spF K 2 F_is_beginning) :=
  fn_okF F sc_is_beginning fun cdv A outer s H E B hr =>
    have hu := hu_of hr
    (iss_one (is_ret (ie_and (ie_isL (T := "tuple") (by decide +kernel) (by rfl) Z.isinstance_ (by rfl) Z.tuple_ (ip_var 1 (pv 1))) (ie_and (ie_eq hr.units (ip_of (ie_len (by rfl) Z.len_ (ip_var 1 (pv 1)))) (ip_of (ie_len (by rfl) Z.len_ (ip_var 0 (pv 0))))) (ie_one (ie_all rfl (by rfl) Z.all_ (ip_of (ie_own (io_lc (own := [("one", 2)]) rfl sc_is_beginning.nd (ii_seq (ie_var 1 (pv 1))) (blkOk_by (N := N_is_beginning) (sc := defScope s_is_beginning) (by decide +kernel)) (fun _ _ _ _ _ _ => (ig_name sc_is_beginning.nd rfl (.inl rfl))) (fun _ _ _ _ _ _ => its_nil) (fun _ _ _ _ _ _ => (ie_call h_is_fraction (hr.mono (by decide)) (by rfl) rfl (ia_cons (ie_var 2 (pv 2)) ia_nil) (la_cons la_nil))))))))))))
abbrev s__law_whole : Stmt := topS 23
abbrev N__law_whole : List Str := ["thing"]
theorem sc__law_whole : FnScope N__law_whole ["thing"] (defScope s__law_whole) := ⟨rfl, rfl, rfl, by decide +kernel, rfl, by decide +kernel, by decide +kernel⟩
theorem ok__law_whole {f : Addr} {fd : FuncData} (F : Fun K "_law_whole" "_law_whole" s__law_whole f fd) (Z : Bt K mg)  : FnOk P w K mg base CX0 1 f fd ["thing"] (spF K 1 F__law_whole) :=
  fn_okF F sc__law_whole fun cdv A outer s H E B hr =>
    have hu := hu_of hr
    (iss_one (is_ret (ie_and (ie_isL (T := "int") (by decide +kernel) (by rfl) Z.isinstance_ (by rfl) Z.int_ (ip_var 0 (pv 0))) (ie_one (ie_not (ie_isL (T := "bool") (by decide +kernel) (by rfl) Z.isinstance_ (by rfl) Z.bool_ (ip_var 0 (pv 0))))))))
abbrev s__law_is_beginning : Stmt := topS 38
abbrev N__law_is_beginning : List Str := ["tubs_so", "thing", "part"]
theorem sc__law_is_beginning : FnScope N__law_is_beginning ["tubs_so", "thing"] (defScope s__law_is_beginning) := ⟨rfl, rfl, rfl, by decide +kernel, rfl, by decide +kernel, by decide +kernel⟩
theorem ok__law_is_beginning {f : Addr} {fd : FuncData} (F : Fun K "_law_is_beginning" "_law_is_beginning" s__law_is_beginning f fd) (Z : Bt K mg) (h__law_whole : HasFn P w K mg base 1 "_law_whole" (spF K 1 F__law_whole)) (h__law_lowest : HasFn P w K mg base 1 "_law_lowest" (spF K 2 F__law_lowest)) : FnOk P w K mg base CX0 2 f fd ["tubs_so", "thing"] (spF K 2 F__law_is_beginning) :=
  fn_okF F sc__law_is_beginning fun cdv A outer s H E B hr =>
    have hu := hu_of hr
    (iss_cons (is_if (PW.pt (iw_or (it_not (it_val (ie_isL (T := "tuple") (by decide +kernel) (by rfl) Z.isinstance_ (by rfl) Z.tuple_ (ip_var 1 (pv 1))))) (iw_or1 (it_ne hr.units (ip_of (ie_len (by rfl) Z.len_ (ip_var 1 (pv 1)))) (ip_of (ie_len (by rfl) Z.len_ (ip_var 0 (pv 0)))))))) (iss_one (is_ret ie_bl)) iss_nil)
    (iss_cons (is_for PassesOwn.never rfl (ii_seq (ie_var 1 (pv 1))) (ig_name sc__law_is_beginning.nd rfl (.inl rfl)) (iss_cons (is_if (PW.pt (iw_or (it_not (it_val (ie_isL (T := "tuple") (by decide +kernel) (by rfl) Z.isinstance_ (by rfl) Z.tuple_ (ip_var 2 (pv 2))))) (iw_or (it_ne hr.units (ip_of (ie_len (by rfl) Z.len_ (ip_var 2 (pv 2)))) (ip_of ie_int)) (iw_or (it_not (it_val (ie_call h__law_whole (hr.mono (by decide)) (by rfl) rfl (ia_cons (ie_ix (ip_var 2 (pv 2)) ie_int) ia_nil) (la_cons la_nil)))) (iw_or1 (it_not (it_val (ie_call h__law_whole (hr.mono (by decide)) (by rfl) rfl (ia_cons (ie_ix (ip_var 2 (pv 2)) ie_int) ia_nil) (la_cons la_nil))))))))) (iss_one (is_ret ie_bl)) iss_nil)
    (iss_one (is_if (PW.pt (iw_or (it_lt (ie_ix (ip_var 2 (pv 2)) ie_int) ie_int) (iw_or (it_lt (ie_ix (ip_var 2 (pv 2)) ie_int) ie_int) (iw_or1 (it_ne hr.units (ip_of (ie_call h__law_lowest (hr.mono (by decide)) (by rfl) rfl (ia_cons (ie_ix (ip_var 2 (pv 2)) ie_int) (ia_cons (ie_ix (ip_var 2 (pv 2)) ie_int) ia_nil)) (la_cons (la_cons la_nil)))) (ip_var 2 (pv 2))))))) (iss_one (is_ret ie_bl)) iss_nil))))
    (iss_one (is_ret ie_bl))))
abbrev s_are_rising : Stmt := topS 10
abbrev N_are_rising : List Str := ["some", "one", "other"]
theorem sc_are_rising : FnScope N_are_rising ["some"] (defScope s_are_rising) := ⟨rfl, rfl, rfl, by decide +kernel, rfl, by decide +kernel, by decide +kernel⟩
theorem ok_are_rising {f : Addr} {fd : FuncData} (F : Fun K "are_rising" "are_rising" s_are_rising f fd) (Z : Bt K mg)  : FnOk P w K mg base CX0 1 f fd ["some"] (spF K 1 F_are_rising) :=
  fn_okF F sc_are_rising fun cdv A outer s H E B hr =>
    have hu := hu_of hr
    (iss_one (is_ret (ie_all rfl (by rfl) Z.all_ (ip_of (ie_own (io_lc (own := [("one", 1), ("other", 2)]) rfl sc_are_rising.nd (ii_zip (by rfl) Z.zip_ (ie_var 0 (pv 0)) (ie_sl (ip_var 0 (pv 0)) (iq_some ie_int) iq_none)) (blkOk_by (N := N_are_rising) (sc := defScope s_are_rising) (by decide +kernel)) (fun _ _ _ _ _ _ => (ig_tup rfl (igs_cons (ig_name sc_are_rising.nd rfl (.inl rfl)) (igs_cons (ig_name sc_are_rising.nd rfl (.inl rfl)) igs_nil)) (ln_cons (ln_cons ln_nil)))) (fun _ _ _ _ _ _ => its_nil) (fun _ _ _ _ _ _ => (ie_lt (ie_var 1 (pv 1)) (ie_var 2 (pv 2))))))))))
abbrev s_is_within : Stmt := topS 8
abbrev N_is_within : List Str := ["thing", "least", "most"]
theorem sc_is_within : FnScope N_is_within ["thing", "least", "most"] (defScope s_is_within) := ⟨rfl, rfl, rfl, by decide +kernel, rfl, by decide +kernel, by decide +kernel⟩
theorem ok_is_within {f : Addr} {fd : FuncData} (F : Fun K "is_within" "is_within" s_is_within f fd) (Z : Bt K mg) (h_is_whole : HasFn P w K mg base 1 "is_whole" (spF K 1 F_is_whole)) : FnOk P w K mg base CX0 2 f fd ["thing", "least", "most"] (spF K 3 F_is_within) :=
  fn_okF F sc_is_within fun cdv A outer s H E B hr =>
    have hu := hu_of hr
    (iss_one (is_ret (ie_and (ie_call h_is_whole (hr.mono (by decide)) (by rfl) rfl (ia_cons (ie_var 0 (pv 0)) ia_nil) (la_cons la_nil)) (ie_one (ie_lele (ie_var 1 (pv 1)) (ie_var 0 (pv 0)) (ie_var 2 (pv 2)))))))
abbrev s_is_name : Stmt := topS 9
abbrev N_is_name : List Str := ["thing", "sign"]
theorem sc_is_name : FnScope N_is_name ["thing"] (defScope s_is_name) := ⟨rfl, rfl, rfl, by decide +kernel, rfl, by decide +kernel, by decide +kernel⟩
theorem ok_is_name {f : Addr} {fd : FuncData} (F : Fun K "is_name" "is_name" s_is_name f fd) (Z : Bt K mg)  : FnOk P w K mg base CX0 1 f fd ["thing"] (spF K 1 F_is_name) :=
  fn_okF F sc_is_name fun cdv A outer s H E B hr =>
    have hu := hu_of hr
    (iss_one (is_ret (ie_and (ie_isL (T := "str") (by decide +kernel) (by rfl) Z.isinstance_ (by rfl) Z.str_ (ip_var 0 (pv 0))) (ie_and (ie_lele ie_int (ie_len (by rfl) Z.len_ (ip_var 0 (pv 0))) ie_int) (ie_one (ie_all rfl (by rfl) Z.all_ (ip_of (ie_own (io_lc (own := [("sign", 1)]) rfl sc_is_name.nd (ii_txt (ie_var 0 (pv 0))) (blkOk_by (N := N_is_name) (sc := defScope s_is_name) (by decide +kernel)) (fun _ _ _ _ _ _ => (ig_name sc_is_name.nd rfl (.inl rfl))) (fun _ _ _ _ _ _ => its_nil) (fun _ _ _ _ _ _ => (ie_inS (ip_var 1 (pv 1)) (ip_of (ie_glob Z.g_LETTERS (by rfl))))))))))))))
abbrev s_is_tub : Stmt := topS 14
abbrev N_is_tub : List Str := ["thing"]
theorem sc_is_tub : FnScope N_is_tub ["thing"] (defScope s_is_tub) := ⟨rfl, rfl, rfl, by decide +kernel, rfl, by decide +kernel, by decide +kernel⟩
theorem ok_is_tub {f : Addr} {fd : FuncData} (F : Fun K "is_tub" "is_tub" s_is_tub f fd) (Z : Bt K mg) (h_is_within : HasFn P w K mg base 2 "is_within" (spF K 3 F_is_within)) (h_is_name : HasFn P w K mg base 1 "is_name" (spF K 1 F_is_name)) : FnOk P w K mg base CX0 3 f fd ["thing"] (spF K 1 F_is_tub) :=
  fn_okF F sc_is_tub fun cdv A outer s H E B hr =>
    have hu := hu_of hr
    (iss_cons (is_if (PW.pt (iw_or (it_not (it_val (ie_isL (T := "tuple") (by decide +kernel) (by rfl) Z.isinstance_ (by rfl) Z.tuple_ (ip_var 0 (pv 0))))) (iw_or (it_ne hr.units (ip_of (ie_len (by rfl) Z.len_ (ip_var 0 (pv 0)))) (ip_of ie_int)) (iw_or1 (it_not (it_val (ie_call h_is_name (hr.mono (by decide)) (by rfl) rfl (ia_cons (ie_ix (ip_var 0 (pv 0)) ie_int) ia_nil) (la_cons la_nil)))))))) (iss_one (is_ret ie_bl)) iss_nil)
    (iss_one (is_ret (ie_and (ie_call h_is_within (hr.mono (by decide)) (by rfl) rfl (ia_cons (ie_ix (ip_var 0 (pv 0)) ie_int) (ia_cons ie_int (ia_cons (ie_glob Z.g_MOST_PART (by rfl)) ia_nil))) (la_cons (la_cons (la_cons la_nil)))) (ie_and (ie_isL (T := "tuple") (by decide +kernel) (by rfl) Z.isinstance_ (by rfl) Z.tuple_ (ip_of (ie_ix (ip_var 0 (pv 0)) ie_int))) (ie_one (ie_le (ie_len (by rfl) Z.len_ (ip_of (ie_ix (ip_var 0 (pv 0)) ie_int))) (ie_glob Z.g_MOST_HOLES (by rfl)))))))))
abbrev s_is_hole : Stmt := topS 13
abbrev N_is_hole : List Str := ["thing", "later"]
theorem sc_is_hole : FnScope N_is_hole ["thing", "later"] (defScope s_is_hole) := ⟨rfl, rfl, rfl, by decide +kernel, rfl, by decide +kernel, by decide +kernel⟩
theorem ok_is_hole {f : Addr} {fd : FuncData} (F : Fun K "is_hole" "is_hole" s_is_hole f fd) (Z : Bt K mg) (h_is_within : HasFn P w K mg base 2 "is_within" (spF K 3 F_is_within)) : FnOk P w K mg base CX0 3 f fd ["thing", "later"] (spF K 2 F_is_hole) :=
  fn_okF F sc_is_hole fun cdv A outer s H E B hr =>
    have hu := hu_of hr
    (iss_cons (is_if (PW.pt (iw_or (it_not (it_val (ie_isL (T := "tuple") (by decide +kernel) (by rfl) Z.isinstance_ (by rfl) Z.tuple_ (ip_var 0 (pv 0))))) (iw_or (it_ne hr.units (ip_of (ie_len (by rfl) Z.len_ (ip_var 0 (pv 0)))) (ip_of ie_int)) (iw_or1 (it_not (it_val (ie_call h_is_within (hr.mono (by decide)) (by rfl) rfl (ia_cons (ie_ix (ip_var 0 (pv 0)) ie_int) (ia_cons ie_int (ia_cons (ie_glob Z.g_MOST_PART (by rfl)) ia_nil))) (la_cons (la_cons (la_cons la_nil)))))))))) (iss_one (is_ret ie_bl)) iss_nil)
    (iss_one (is_ret (ie_and (ie_call h_is_within (hr.mono (by decide)) (by rfl) rfl (ia_cons (ie_ix (ip_var 0 (pv 0)) ie_int) (ia_cons ie_int (ia_cons (ie_glob Z.g_MOST_RATE (by rfl)) ia_nil))) (la_cons (la_cons (la_cons la_nil)))) (ie_and (ie_isL (T := "str") (by decide +kernel) (by rfl) Z.isinstance_ (by rfl) Z.str_ (ip_of (ie_ix (ip_var 0 (pv 0)) ie_int))) (ie_one (ie_inQ hr.units (ip_of (ie_ix (ip_var 0 (pv 0)) ie_int)) (ip_of (ie_own (io_catL (ie_own (io_lst (ia_cons ie_str ia_nil))) (ie_var 1 (pv 1))))))))))))
abbrev s_are_tubs : Stmt := topS 15
abbrev N_are_tubs : List Str := ["thing", "names", "at", "tub", "name", "hole"]
theorem sc_are_tubs : FnScope N_are_tubs ["thing"] (defScope s_are_tubs) := ⟨rfl, rfl, rfl, by decide +kernel, rfl, by decide +kernel, by decide +kernel⟩
theorem ok_are_tubs {f : Addr} {fd : FuncData} (F : Fun K "are_tubs" "are_tubs" s_are_tubs f fd) (Z : Bt K mg) (h_are_rising : HasFn P w K mg base 1 "are_rising" (spF K 1 F_are_rising)) (h_is_tub : HasFn P w K mg base 3 "is_tub" (spF K 1 F_is_tub)) (h_is_hole : HasFn P w K mg base 3 "is_hole" (spF K 2 F_is_hole)) : FnOk P w K mg base CX0 4 f fd ["thing"] (spF K 1 F_are_tubs) :=
  fn_okF F sc_are_tubs fun cdv A outer s H E B hr =>
    have hu := hu_of hr
    (iss_cons (is_if (PW.pt (iw_or (it_not (it_val (ie_isL (T := "tuple") (by decide +kernel) (by rfl) Z.isinstance_ (by rfl) Z.tuple_ (ip_var 0 (pv 0))))) (iw_or (it_not (it_lele ie_int (ie_len (by rfl) Z.len_ (ip_var 0 (pv 0))) (ie_glob Z.g_MOST_TUBS (by rfl)))) (iw_or1 (it_not (it_val (ie_all rfl (by rfl) Z.all_ (ip_of (ie_own (io_lc (own := [("tub", 3)]) rfl sc_are_tubs.nd (ii_seq (ie_var 0 (pv 0))) (blkOk_by (N := N_are_tubs) (sc := defScope s_are_tubs) (by decide +kernel)) (fun _ _ _ _ _ _ => (ig_name sc_are_tubs.nd rfl (.inl rfl))) (fun _ _ _ _ _ _ => its_nil) (fun _ _ _ _ _ _ => (ie_call h_is_tub (hr.mono (by decide)) (by rfl) rfl (ia_cons (ie_var 3 (pv 3)) ia_nil) (la_cons la_nil))))))))))))) (iss_one (is_ret ie_bl)) iss_nil)
    (iss_cons (is_setO (i := 1) sc_are_tubs.nd rfl (.inr rfl) (io_lc (own := [("tub", 3)]) rfl sc_are_tubs.nd (ii_seq (ie_var 0 (pv 0))) (blkOk_by (N := N_are_tubs) (sc := defScope s_are_tubs) (by decide +kernel)) (fun _ _ _ _ _ _ => (ig_name sc_are_tubs.nd rfl (.inl rfl))) (fun _ _ _ _ _ _ => its_nil) (fun _ _ _ _ _ _ => (ie_ix (ip_var 3 (pv 3)) ie_int))))
    (iss_cons (is_if (it_lt (ie_len (by rfl) Z.len_ (ip_of (ie_own (io_dc (own := [("name", 4)]) rfl sc_are_tubs.nd (ii_seq (ie_var 1 (pv 1))) (blkOk_by (N := N_are_tubs) (sc := defScope s_are_tubs) (by decide +kernel)) (fun _ _ _ _ _ _ => (ig_name sc_are_tubs.nd rfl (.inl rfl))) (fun _ _ _ _ _ _ => its_nil) (fun _ _ _ _ _ _ => (ie_var 4 (pv 4))) (fun _ _ _ _ _ _ => ie_bl))))) (ie_len (by rfl) Z.len_ (ip_var 1 (pv 1)))) (iss_one (is_ret ie_bl)) iss_nil)
    (iss_cons (is_for PassesOwn.never rfl (ii_enum (by rfl) Z.enumerate_ (ie_var 0 (pv 0))) (ig_tup rfl (igs_cons (ig_name sc_are_tubs.nd rfl (.inr rfl)) (igs_cons (ig_name sc_are_tubs.nd rfl (.inl rfl)) igs_nil)) (ln_cons (ln_cons ln_nil))) (iss_one (is_if (PW.pt (iw_or (it_not (it_val (ie_all rfl (by rfl) Z.all_ (ip_of (ie_own (io_lc (own := [("hole", 5)]) rfl sc_are_tubs.nd (ii_seq (ie_ix (ip_var 3 (pv 3)) ie_int)) (blkOk_by (N := N_are_tubs) (sc := defScope s_are_tubs) (by decide +kernel)) (fun _ _ _ _ _ _ => (ig_name sc_are_tubs.nd rfl (.inl rfl))) (fun _ _ _ _ _ _ => its_nil) (fun _ _ _ _ _ _ => (ie_call h_is_hole (hr.mono (by decide)) (by rfl) rfl (ia_cons (ie_var 5 (pv 5)) (ia_cons (ie_sl (ip_var 1 (pv 1)) (iq_some (ie_add (ie_var 2 (pv 2)) ie_int)) iq_none) ia_nil)) (la_cons (la_cons la_nil)))))))))) (iw_or1 (it_not (it_val (ie_call h_are_rising (hr.mono (by decide)) (by rfl) rfl (ia_cons (ie_own (io_lc (own := [("hole", 5)]) rfl sc_are_tubs.nd (ii_seq (ie_ix (ip_var 3 (pv 3)) ie_int)) (blkOk_by (N := N_are_tubs) (sc := defScope s_are_tubs) (by decide +kernel)) (fun _ _ _ _ _ _ => (ig_name sc_are_tubs.nd rfl (.inl rfl))) (fun _ _ _ _ _ _ => its_nil) (fun _ _ _ _ _ _ => (ie_ix (ip_var 5 (pv 5)) ie_int)))) ia_nil) (la_cons la_nil))))))) (iss_one (is_ret ie_bl)) iss_nil)))
    (iss_one (is_ret ie_bl))))))
abbrev s_is_rain : Stmt := topS 16
abbrev N_is_rain : List Str := ["tubs", "thing", "rate"]
theorem sc_is_rain : FnScope N_is_rain ["tubs", "thing"] (defScope s_is_rain) := ⟨rfl, rfl, rfl, by decide +kernel, rfl, by decide +kernel, by decide +kernel⟩
theorem ok_is_rain {f : Addr} {fd : FuncData} (F : Fun K "is_rain" "is_rain" s_is_rain f fd) (Z : Bt K mg) (h_is_within : HasFn P w K mg base 2 "is_within" (spF K 3 F_is_within)) : FnOk P w K mg base CX0 3 f fd ["tubs", "thing"] (spF K 2 F_is_rain) :=
  fn_okF F sc_is_rain fun cdv A outer s H E B hr =>
    have hu := hu_of hr
    (iss_cons (is_if (PW.pt (iw_or (it_not (it_val (ie_isL (T := "tuple") (by decide +kernel) (by rfl) Z.isinstance_ (by rfl) Z.tuple_ (ip_var 1 (pv 1))))) (iw_or1 (it_ne hr.units (ip_of (ie_len (by rfl) Z.len_ (ip_var 1 (pv 1)))) (ip_of (ie_len (by rfl) Z.len_ (ip_var 0 (pv 0)))))))) (iss_one (is_ret ie_bl)) iss_nil)
    (iss_one (is_ret (ie_all rfl (by rfl) Z.all_ (ip_of (ie_own (io_lc (own := [("rate", 2)]) rfl sc_is_rain.nd (ii_seq (ie_var 1 (pv 1))) (blkOk_by (N := N_is_rain) (sc := defScope s_is_rain) (by decide +kernel)) (fun _ _ _ _ _ _ => (ig_name sc_is_rain.nd rfl (.inl rfl))) (fun _ _ _ _ _ _ => its_nil) (fun _ _ _ _ _ _ => (ie_call h_is_within (hr.mono (by decide)) (by rfl) rfl (ia_cons (ie_var 2 (pv 2)) (ia_cons ie_int (ia_cons (ie_glob Z.g_MOST_PART (by rfl)) ia_nil))) (la_cons (la_cons (la_cons la_nil))))))))))))
abbrev s_is_weather : Stmt := topS 17
abbrev N_is_weather : List Str := ["tubs", "thing", "row"]
theorem sc_is_weather : FnScope N_is_weather ["tubs", "thing"] (defScope s_is_weather) := ⟨rfl, rfl, rfl, by decide +kernel, rfl, by decide +kernel, by decide +kernel⟩
theorem ok_is_weather {f : Addr} {fd : FuncData} (F : Fun K "is_weather" "is_weather" s_is_weather f fd) (Z : Bt K mg) (h_are_rising : HasFn P w K mg base 1 "are_rising" (spF K 1 F_are_rising)) (h_is_rain : HasFn P w K mg base 3 "is_rain" (spF K 2 F_is_rain)) (h_is_within : HasFn P w K mg base 2 "is_within" (spF K 3 F_is_within)) : FnOk P w K mg base CX0 4 f fd ["tubs", "thing"] (spF K 2 F_is_weather) :=
  fn_okF F sc_is_weather fun cdv A outer s H E B hr =>
    have hu := hu_of hr
    (iss_cons (is_if (PW.pt (iw_or (it_not (it_val (ie_isL (T := "tuple") (by decide +kernel) (by rfl) Z.isinstance_ (by rfl) Z.tuple_ (ip_var 1 (pv 1))))) (iw_or1 (it_not (it_lele ie_int (ie_len (by rfl) Z.len_ (ip_var 1 (pv 1))) (ie_glob Z.g_MOST_ROWS (by rfl))))))) (iss_one (is_ret ie_bl)) iss_nil)
    (iss_cons (is_for PassesOwn.never rfl (ii_seq (ie_var 1 (pv 1))) (ig_name sc_is_weather.nd rfl (.inl rfl)) (iss_cons (is_if (PW.pt (iw_or (it_not (it_val (ie_isL (T := "tuple") (by decide +kernel) (by rfl) Z.isinstance_ (by rfl) Z.tuple_ (ip_var 2 (pv 2))))) (iw_or (it_ne hr.units (ip_of (ie_len (by rfl) Z.len_ (ip_var 2 (pv 2)))) (ip_of ie_int)) (iw_or1 (it_not (it_val (ie_call h_is_within (hr.mono (by decide)) (by rfl) rfl (ia_cons (ie_ix (ip_var 2 (pv 2)) ie_int) (ia_cons ie_int (ia_cons (ie_glob Z.g_MOST_PART (by rfl)) ia_nil))) (la_cons (la_cons (la_cons la_nil)))))))))) (iss_one (is_ret ie_bl)) iss_nil)
    (iss_one (is_if (it_not (it_val (ie_call h_is_rain (hr.mono (by decide)) (by rfl) rfl (ia_cons (ie_var 0 (pv 0)) (ia_cons (ie_ix (ip_var 2 (pv 2)) ie_int) ia_nil)) (la_cons (la_cons la_nil))))) (iss_one (is_ret ie_bl)) iss_nil))))
    (iss_one (is_ret (ie_and (ie_eq hr.units (ip_of (ie_ix (ip_of (ie_ix (ip_var 1 (pv 1)) ie_int)) ie_int)) (ip_of ie_int)) (ie_one (ie_call h_are_rising (hr.mono (by decide)) (by rfl) rfl (ia_cons (ie_own (io_lc (own := [("row", 2)]) rfl sc_is_weather.nd (ii_seq (ie_var 1 (pv 1))) (blkOk_by (N := N_is_weather) (sc := defScope s_is_weather) (by decide +kernel)) (fun _ _ _ _ _ _ => (ig_name sc_is_weather.nd rfl (.inl rfl))) (fun _ _ _ _ _ _ => its_nil) (fun _ _ _ _ _ _ => (ie_ix (ip_var 2 (pv 2)) ie_int)))) ia_nil) (la_cons la_nil))))))))
abbrev s__law_spoilt : Stmt := topS 26
abbrev N__law_spoilt : List Str := ["bag", "thing", "kind_so", "rows", "at", "other"]
theorem sc__law_spoilt : FnScope N__law_spoilt ["bag", "thing"] (defScope s__law_spoilt) := ⟨rfl, rfl, rfl, by decide +kernel, rfl, by decide +kernel, by decide +kernel⟩
theorem ok__law_spoilt {f : Addr} {fd : FuncData} (F : Fun K "_law_spoilt" "_law_spoilt" s__law_spoilt f fd) (Z : Bt K mg) (h__law_take : HasFn P w K mg base 1 "_law_take" (spB K 1 F__law_take)) (h__law_odd : HasFn P w K mg base 2 "_law_odd" (spB K 0 F__law_odd)) (hm : mg "_law_spoilt" = some (.ref f)) (hk : PySem.W.keepIn K (.ref f) = true) (hbd : Binds K fd ["bag", "thing"] []) : ∀ n, FnOk P w K mg base CX0 (2 + n) f fd ["bag", "thing"] (spB K 1 (F__law_spoilt n))
  | 0 => ⟨fun vs H Q E h => by obtain ⟨_, _, _, _, _, _, _, _, _, rfl, hl, _⟩ := h; simp [hl], fun A outer s H args us vs Q E _ _ _ _ h => by obtain ⟨_, _, _, _, _, _, _, _, _, _, _, _, _, _, _, _, hG, _⟩ := h; cases hG⟩
  | n + 1 => by
    have h__law_spoilt : HasFn P w K mg base (2 + n) "_law_spoilt" (spB K 1 (F__law_spoilt n)) := ⟨f, fd, _, ok__law_spoilt F Z h__law_take h__law_odd hm hk hbd n, hm, hk, hbd⟩
    exact fn_okB (k := 2 + n) (fs := f__law_spoilt (F__law_spoilt n)) F sc__law_spoilt rfl fun cdv A outer s H E B hr =>
      have hu := hu_of hr
      (iss_cons (is_set (i := 2) sc__law_spoilt.nd rfl (.inl rfl) (ie_callB h__law_take (hr.mono (by omega)) (by rfl) (pv 0) (ia_cons ie_int ia_nil) (la_cons la_nil)))
    (iss_cons (is_if (PW.pt (iw_and (it_val (ie_isTL (by rfl) Z.isinstance_ (by rfl) Z.tuple_ (by rfl) Z.list_ (ip_var 1 (pv 1)))) (iw_and (it_gt (ie_len (by rfl) Z.len_ (ip_var 1 (pv 1))) ie_int) (iw_and1 (it_gt (ie_var 2 (pv 2)) ie_int))))) (iss_cons (is_setO (i := 3) sc__law_spoilt.nd rfl (.inl rfl) (io_list (by rfl) Z.list_ (ip_var 1 (pv 1))))
    (iss_cons (is_set (i := 4) sc__law_spoilt.nd rfl (.inl rfl) (ie_callB h__law_take (hr.mono (by omega)) (by rfl) (pv 0) (ia_cons (ie_len (by rfl) Z.len_ (ip_var 3 (pv 3))) ia_nil) (la_cons la_nil)))
    (iss_cons (is_if (it_eq hr.units (ip_var 2 (pv 2)) (ip_of ie_int)) (iss_one (is_setO (i := 3) sc__law_spoilt.nd rfl (.inl rfl) (io_catL (ie_sl (ip_var 3 (pv 3)) iq_none (iq_some (ie_var 4 (pv 4)))) (ie_sl (ip_var 3 (pv 3)) (iq_some (ie_add (ie_var 4 (pv 4)) ie_int)) iq_none)))) (iss_one (is_if (it_eq hr.units (ip_var 2 (pv 2)) (ip_of ie_int)) (iss_one (is_setO (i := 3) sc__law_spoilt.nd rfl (.inl rfl) (io_catL (ie_sl (ip_var 3 (pv 3)) iq_none (iq_some (ie_add (ie_var 4 (pv 4)) ie_int))) (ie_sl (ip_var 3 (pv 3)) (iq_some (ie_var 4 (pv 4))) iq_none)))) (iss_one (is_if (it_eq hr.units (ip_var 2 (pv 2)) (ip_of ie_int)) (iss_cons (is_set (i := 5) sc__law_spoilt.nd rfl (.inl rfl) (ie_callB h__law_take (hr.mono (by omega)) (by rfl) (pv 0) (ia_cons (ie_len (by rfl) Z.len_ (ip_var 3 (pv 3))) ia_nil) (la_cons la_nil)))
    (iss_one (is_asg (ie_tup (ia_cons (ie_ix (ip_var 3 (pv 3)) (ie_var 5 (pv 5))) (ia_cons (ie_ix (ip_var 3 (pv 3)) (ie_var 4 (pv 4))) ia_nil))) (ig_tup rfl (igs_cons (ig_put (pv 3) (ie_var 4 (pv 4))) (igs_cons (ig_put (pv 3) (ie_var 5 (pv 5))) igs_nil)) (ln_cons (ln_cons ln_nil)))))) (iss_one (is_if (it_eq hr.units (ip_var 2 (pv 2)) (ip_of ie_int)) (iss_one (is_ret (ie_if (it_val (ie_isL (T := "tuple") (by decide +kernel) (by rfl) Z.isinstance_ (by rfl) Z.tuple_ (ip_var 1 (pv 1)))) (ie_var 3 (pv 3)) (ie_tuple (by rfl) Z.tuple_ (ip_var 3 (pv 3)))))) (iss_one (is_lput (pv 3) (ie_var 4 (pv 4)) (ie_callB h__law_spoilt hr (by rfl) (pv 0) (ia_cons (ie_ix (ip_var 3 (pv 3)) (ie_var 4 (pv 4))) ia_nil) (la_cons la_nil)))))))))))
    (iss_one (is_ret (ie_if (it_val (ie_isL (T := "tuple") (by decide +kernel) (by rfl) Z.isinstance_ (by rfl) Z.tuple_ (ip_var 1 (pv 1)))) (ie_tuple (by rfl) Z.tuple_ (ip_var 3 (pv 3))) (ie_var 3 (pv 3)))))))) iss_nil)
    (iss_cons (is_if (PW.pt (iw_and (it_val (ie_isL (T := "str") (by decide +kernel) (by rfl) Z.isinstance_ (by rfl) Z.str_ (ip_var 1 (pv 1)))) (iw_and1 (it_gt (ie_var 2 (pv 2)) ie_int)))) (iss_one (is_ret (ie_ix (ip_of (ie_own (io_lst (ia_cons (ie_catS (ie_var 1 (pv 1)) ie_str) (ia_cons (ie_slS (ip_var 1 (pv 1)) iq_none (iq_some (ie_neg ie_int))) (ia_cons (ie_catS (ie_var 1 (pv 1)) ie_str) (ia_cons (ie_upper (ie_var 1 (pv 1))) (ia_cons (ie_catS (ie_var 1 (pv 1)) (ie_var 1 (pv 1))) (ia_cons (ie_catS ie_str (ie_var 1 (pv 1))) (ia_cons ie_str ia_nil)))))))))) (ie_sub (ie_var 2 (pv 2)) ie_int)))) iss_nil)
    (iss_cons (is_if (PW.pt (iw_and (it_val (ie_isL (T := "int") (by decide +kernel) (by rfl) Z.isinstance_ (by rfl) Z.int_ (ip_var 1 (pv 1)))) (iw_and1 (it_gt (ie_var 2 (pv 2)) ie_int)))) (iss_one (is_ret (ie_ix (ip_of (ie_own (io_lst (ia_cons (ie_addB (ie_var 1 (pv 1)) ie_int) (ia_cons (ie_subB (ie_var 1 (pv 1)) ie_int) (ia_cons (ie_negB (ie_var 1 (pv 1))) (ia_cons (ie_addB (ie_var 1 (pv 1)) ie_int) (ia_cons (ie_strB (by rfl) Z.str_ (ip_var 1 (pv 1))) (ia_cons (ie_addB (ie_var 1 (pv 1)) ie_int) (ia_cons (ie_tup (ia_cons (ie_var 1 (pv 1)) ia_nil)) ia_nil)))))))))) (ie_sub (ie_var 2 (pv 2)) ie_int)))) iss_nil)
    (iss_one (is_ret (ie_callB h__law_odd (hr.mono (by omega)) (by rfl) (pv 0) ia_nil la_nil)))))))
abbrev s__law_is_name : Stmt := topS 25
abbrev N__law_is_name : List Str := ["thing", "sign"]
theorem sc__law_is_name : FnScope N__law_is_name ["thing"] (defScope s__law_is_name) := ⟨rfl, rfl, rfl, by decide +kernel, rfl, by decide +kernel, by decide +kernel⟩
theorem ok__law_is_name {f : Addr} {fd : FuncData} (F : Fun K "_law_is_name" "_law_is_name" s__law_is_name f fd) (Z : Bt K mg)  : FnOk P w K mg base CX0 1 f fd ["thing"] (spF K 1 F__law_is_name) :=
  fn_okF F sc__law_is_name fun cdv A outer s H E B hr =>
    have hu := hu_of hr
    (iss_cons (is_if (PW.pt (iw_or (it_not (it_val (ie_isL (T := "str") (by decide +kernel) (by rfl) Z.isinstance_ (by rfl) Z.str_ (ip_var 0 (pv 0))))) (iw_or1 (it_not (it_lele ie_int (ie_len (by rfl) Z.len_ (ip_var 0 (pv 0))) ie_int))))) (iss_one (is_ret ie_bl)) iss_nil)
    (iss_one (is_ret (ie_eq hr.units (ip_of (ie_own (io_lc (own := [("sign", 1)]) rfl sc__law_is_name.nd (ii_txt (ie_var 0 (pv 0))) (blkOk_by (N := N__law_is_name) (sc := defScope s__law_is_name) (by decide +kernel)) (fun _ _ _ _ _ _ => (ig_name sc__law_is_name.nd rfl (.inl rfl))) (fun _ _ _ _ _ _ => (its_one (it_ninS (ip_var 1 (pv 1)) (ip_of ie_str)))) (fun _ _ _ _ _ _ => (ie_var 1 (pv 1)))))) (ip_of (ie_own (io_lst ia_nil)))))))
abbrev s__law_within : Stmt := topS 24
abbrev N__law_within : List Str := ["thing", "least", "most"]
theorem sc__law_within : FnScope N__law_within ["thing", "least", "most"] (defScope s__law_within) := ⟨rfl, rfl, rfl, by decide +kernel, rfl, by decide +kernel, by decide +kernel⟩
theorem ok__law_within {f : Addr} {fd : FuncData} (F : Fun K "_law_within" "_law_within" s__law_within f fd) (Z : Bt K mg)  : FnOk P w K mg base CX0 1 f fd ["thing", "least", "most"] (spF K 3 F__law_within) :=
  fn_okF F sc__law_within fun cdv A outer s H E B hr =>
    have hu := hu_of hr
    (iss_one (is_ret (ie_and (ie_isL (T := "int") (by decide +kernel) (by rfl) Z.isinstance_ (by rfl) Z.int_ (ip_var 0 (pv 0))) (ie_and (ie_not (ie_isL (T := "bool") (by decide +kernel) (by rfl) Z.isinstance_ (by rfl) Z.bool_ (ip_var 0 (pv 0)))) (ie_one (ie_lele (ie_var 1 (pv 1)) (ie_var 0 (pv 0)) (ie_var 2 (pv 2))))))))
abbrev s__law_is_hole : Stmt := topS 34
abbrev N__law_is_hole : List Str := ["thing", "later"]
theorem sc__law_is_hole : FnScope N__law_is_hole ["thing", "later"] (defScope s__law_is_hole) := ⟨rfl, rfl, rfl, by decide +kernel, rfl, by decide +kernel, by decide +kernel⟩
theorem ok__law_is_hole {f : Addr} {fd : FuncData} (F : Fun K "_law_is_hole" "_law_is_hole" s__law_is_hole f fd) (Z : Bt K mg) (h__law_within : HasFn P w K mg base 1 "_law_within" (spF K 3 F__law_within)) : FnOk P w K mg base CX0 2 f fd ["thing", "later"] (spF K 2 F__law_is_hole) :=
  fn_okF F sc__law_is_hole fun cdv A outer s H E B hr =>
    have hu := hu_of hr
    (iss_cons (is_if (PW.pt (iw_or (it_not (it_val (ie_isL (T := "tuple") (by decide +kernel) (by rfl) Z.isinstance_ (by rfl) Z.tuple_ (ip_var 0 (pv 0))))) (iw_or (it_ne hr.units (ip_of (ie_len (by rfl) Z.len_ (ip_var 0 (pv 0)))) (ip_of ie_int)) (iw_or1 (it_not (it_val (ie_call h__law_within (hr.mono (by decide)) (by rfl) rfl (ia_cons (ie_ix (ip_var 0 (pv 0)) ie_int) (ia_cons ie_int (ia_cons ie_int ia_nil))) (la_cons (la_cons (la_cons la_nil)))))))))) (iss_one (is_ret ie_bl)) iss_nil)
    (iss_one (is_ret (ie_and (ie_call h__law_within (hr.mono (by decide)) (by rfl) rfl (ia_cons (ie_ix (ip_var 0 (pv 0)) ie_int) (ia_cons ie_int (ia_cons ie_int ia_nil))) (la_cons (la_cons (la_cons la_nil)))) (ie_and (ie_isL (T := "str") (by decide +kernel) (by rfl) Z.isinstance_ (by rfl) Z.str_ (ip_of (ie_ix (ip_var 0 (pv 0)) ie_int))) (ie_one (ie_inQ hr.units (ip_of (ie_ix (ip_var 0 (pv 0)) ie_int)) (ip_of (ie_own (io_catL (ie_own (io_lst (ia_cons ie_str ia_nil))) (ie_var 1 (pv 1))))))))))))
abbrev s__law_are_tubs : Stmt := topS 35
abbrev N__law_are_tubs : List Str := ["thing", "names", "tub", "at", "levels", "hole"]
theorem sc__law_are_tubs : FnScope N__law_are_tubs ["thing"] (defScope s__law_are_tubs) := ⟨rfl, rfl, rfl, by decide +kernel, rfl, by decide +kernel, by decide +kernel⟩
theorem ok__law_are_tubs {f : Addr} {fd : FuncData} (F : Fun K "_law_are_tubs" "_law_are_tubs" s__law_are_tubs f fd) (Z : Bt K mg) (h__law_is_name : HasFn P w K mg base 1 "_law_is_name" (spF K 1 F__law_is_name)) (h__law_within : HasFn P w K mg base 1 "_law_within" (spF K 3 F__law_within)) (h__law_is_hole : HasFn P w K mg base 2 "_law_is_hole" (spF K 2 F__law_is_hole)) : FnOk P w K mg base CX0 3 f fd ["thing"] (spF K 1 F__law_are_tubs) :=
  fn_okF F sc__law_are_tubs fun cdv A outer s H E B hr =>
    have hu := hu_of hr
    (iss_cons (is_if (PW.pt (iw_or (it_not (it_val (ie_isL (T := "tuple") (by decide +kernel) (by rfl) Z.isinstance_ (by rfl) Z.tuple_ (ip_var 0 (pv 0))))) (iw_or1 (it_not (it_lele ie_int (ie_len (by rfl) Z.len_ (ip_var 0 (pv 0))) ie_int))))) (iss_one (is_ret ie_bl)) iss_nil)
    (iss_cons (is_setO (i := 1) sc__law_are_tubs.nd rfl (.inr rfl) (io_lst ia_nil))
    (iss_cons (is_for PassesOwn.never rfl (ii_seq (ie_var 0 (pv 0))) (ig_name sc__law_are_tubs.nd rfl (.inl rfl)) (iss_cons (is_if (PW.pt (iw_or (it_not (it_val (ie_isL (T := "tuple") (by decide +kernel) (by rfl) Z.isinstance_ (by rfl) Z.tuple_ (ip_var 2 (pv 2))))) (iw_or (it_ne hr.units (ip_of (ie_len (by rfl) Z.len_ (ip_var 2 (pv 2)))) (ip_of ie_int)) (iw_or (it_not (it_val (ie_call h__law_is_name (hr.mono (by decide)) (by rfl) rfl (ia_cons (ie_ix (ip_var 2 (pv 2)) ie_int) ia_nil) (la_cons la_nil)))) (iw_or1 (it_not (it_val (ie_call h__law_within (hr.mono (by decide)) (by rfl) rfl (ia_cons (ie_ix (ip_var 2 (pv 2)) ie_int) (ia_cons ie_int (ia_cons ie_int ia_nil))) (la_cons (la_cons (la_cons la_nil))))))))))) (iss_one (is_ret ie_bl)) iss_nil)
    (iss_cons (is_if (PW.pt (iw_or (it_not (it_val (ie_isL (T := "tuple") (by decide +kernel) (by rfl) Z.isinstance_ (by rfl) Z.tuple_ (ip_of (ie_ix (ip_var 2 (pv 2)) ie_int))))) (iw_or (it_gt (ie_len (by rfl) Z.len_ (ip_of (ie_ix (ip_var 2 (pv 2)) ie_int))) ie_int) (iw_or1 (it_inQ hr.units (ip_of (ie_ix (ip_var 2 (pv 2)) ie_int)) (ip_var 1 (pv 1))))))) (iss_one (is_ret ie_bl)) iss_nil)
    (iss_one (is_app (pv 1) (ie_ix (ip_var 2 (pv 2)) ie_int))))))
    (iss_cons (is_for PassesOwn.never rfl (ii_enum (by rfl) Z.enumerate_ (ie_var 0 (pv 0))) (ig_tup rfl (igs_cons (ig_name sc__law_are_tubs.nd rfl (.inr rfl)) (igs_cons (ig_name sc__law_are_tubs.nd rfl (.inl rfl)) igs_nil)) (ln_cons (ln_cons ln_nil))) (iss_cons (is_if (it_ne hr.units (ip_of (ie_own (io_lc (own := [("hole", 5)]) rfl sc__law_are_tubs.nd (ii_seq (ie_ix (ip_var 2 (pv 2)) ie_int)) (blkOk_by (N := N__law_are_tubs) (sc := defScope s__law_are_tubs) (by decide +kernel)) (fun _ _ _ _ _ _ => (ig_name sc__law_are_tubs.nd rfl (.inl rfl))) (fun _ _ _ _ _ _ => (its_one (it_not (it_val (ie_call h__law_is_hole (hr.mono (by decide)) (by rfl) rfl (ia_cons (ie_var 5 (pv 5)) (ia_cons (ie_sl (ip_var 1 (pv 1)) (iq_some (ie_add (ie_var 3 (pv 3)) ie_int)) iq_none) ia_nil)) (la_cons (la_cons la_nil))))))) (fun _ _ _ _ _ _ => (ie_var 5 (pv 5)))))) (ip_of (ie_own (io_lst ia_nil)))) (iss_one (is_ret ie_bl)) iss_nil)
    (iss_cons (is_setLc (own := [("hole", 5)]) rfl sc__law_are_tubs.nd rfl rfl (sw_true rfl rfl rfl (by decide +kernel)) (ii_seq (ie_ix (ip_var 2 (pv 2)) ie_int)) (blkOk_by (N := N__law_are_tubs) (sc := defScope s__law_are_tubs) (by decide +kernel)) (fun _ _ _ _ _ _ => (ig_name sc__law_are_tubs.nd rfl (.inl rfl))) (fun _ _ _ _ _ _ => its_nil) (fun _ _ _ _ _ _ => (ie_ix (ip_var 5 (pv 5)) ie_int)))
    (iss_one (is_if (it_ne hr.units (ip_var 4 (pv 4)) (ip_of (ie_own (io_sortU rfl (by rfl) Z.sorted_ (by rfl) Z.set_ (ip_var 4 (pv 4)))))) (iss_one (is_ret ie_bl)) iss_nil)))))
    (iss_one (is_ret ie_bl))))))
abbrev s__law_is_rain : Stmt := topS 36
abbrev N__law_is_rain : List Str := ["tubs_so", "thing", "rate"]
theorem sc__law_is_rain : FnScope N__law_is_rain ["tubs_so", "thing"] (defScope s__law_is_rain) := ⟨rfl, rfl, rfl, by decide +kernel, rfl, by decide +kernel, by decide +kernel⟩
theorem ok__law_is_rain {f : Addr} {fd : FuncData} (F : Fun K "_law_is_rain" "_law_is_rain" s__law_is_rain f fd) (Z : Bt K mg) (h__law_within : HasFn P w K mg base 1 "_law_within" (spF K 3 F__law_within)) : FnOk P w K mg base CX0 2 f fd ["tubs_so", "thing"] (spF K 2 F__law_is_rain) :=
  fn_okF F sc__law_is_rain fun cdv A outer s H E B hr =>
    have hu := hu_of hr
    (iss_cons (is_if (PW.pt (iw_or (it_not (it_val (ie_isL (T := "tuple") (by decide +kernel) (by rfl) Z.isinstance_ (by rfl) Z.tuple_ (ip_var 1 (pv 1))))) (iw_or1 (it_ne hr.units (ip_of (ie_len (by rfl) Z.len_ (ip_var 1 (pv 1)))) (ip_of (ie_len (by rfl) Z.len_ (ip_var 0 (pv 0)))))))) (iss_one (is_ret ie_bl)) iss_nil)
    (iss_one (is_ret (ie_eq hr.units (ip_of (ie_own (io_lc (own := [("rate", 2)]) rfl sc__law_is_rain.nd (ii_seq (ie_var 1 (pv 1))) (blkOk_by (N := N__law_is_rain) (sc := defScope s__law_is_rain) (by decide +kernel)) (fun _ _ _ _ _ _ => (ig_name sc__law_is_rain.nd rfl (.inl rfl))) (fun _ _ _ _ _ _ => (its_one (it_not (it_val (ie_call h__law_within (hr.mono (by decide)) (by rfl) rfl (ia_cons (ie_var 2 (pv 2)) (ia_cons ie_int (ia_cons ie_int ia_nil))) (la_cons (la_cons (la_cons la_nil)))))))) (fun _ _ _ _ _ _ => (ie_var 2 (pv 2)))))) (ip_of (ie_own (io_lst ia_nil)))))))
abbrev s__law_is_weather : Stmt := topS 37
abbrev N__law_is_weather : List Str := ["tubs_so", "thing", "row", "hours"]
theorem sc__law_is_weather : FnScope N__law_is_weather ["tubs_so", "thing"] (defScope s__law_is_weather) := ⟨rfl, rfl, rfl, by decide +kernel, rfl, by decide +kernel, by decide +kernel⟩
theorem ok__law_is_weather {f : Addr} {fd : FuncData} (F : Fun K "_law_is_weather" "_law_is_weather" s__law_is_weather f fd) (Z : Bt K mg) (h__law_is_rain : HasFn P w K mg base 2 "_law_is_rain" (spF K 2 F__law_is_rain)) (h__law_within : HasFn P w K mg base 1 "_law_within" (spF K 3 F__law_within)) : FnOk P w K mg base CX0 3 f fd ["tubs_so", "thing"] (spF K 2 F__law_is_weather) :=
  fn_okF F sc__law_is_weather fun cdv A outer s H E B hr =>
    have hu := hu_of hr
    (iss_cons (is_if (PW.pt (iw_or (it_not (it_val (ie_isL (T := "tuple") (by decide +kernel) (by rfl) Z.isinstance_ (by rfl) Z.tuple_ (ip_var 1 (pv 1))))) (iw_or1 (it_not (it_lele ie_int (ie_len (by rfl) Z.len_ (ip_var 1 (pv 1))) ie_int))))) (iss_one (is_ret ie_bl)) iss_nil)
    (iss_cons (is_for PassesOwn.never rfl (ii_seq (ie_var 1 (pv 1))) (ig_name sc__law_is_weather.nd rfl (.inl rfl)) (iss_cons (is_if (PW.pt (iw_or (it_not (it_val (ie_isL (T := "tuple") (by decide +kernel) (by rfl) Z.isinstance_ (by rfl) Z.tuple_ (ip_var 2 (pv 2))))) (iw_or (it_ne hr.units (ip_of (ie_len (by rfl) Z.len_ (ip_var 2 (pv 2)))) (ip_of ie_int)) (iw_or1 (it_not (it_val (ie_call h__law_within (hr.mono (by decide)) (by rfl) rfl (ia_cons (ie_ix (ip_var 2 (pv 2)) ie_int) (ia_cons ie_int (ia_cons ie_int ia_nil))) (la_cons (la_cons (la_cons la_nil)))))))))) (iss_one (is_ret ie_bl)) iss_nil)
    (iss_one (is_if (it_not (it_val (ie_call h__law_is_rain (hr.mono (by decide)) (by rfl) rfl (ia_cons (ie_var 0 (pv 0)) (ia_cons (ie_ix (ip_var 2 (pv 2)) ie_int) ia_nil)) (la_cons (la_cons la_nil))))) (iss_one (is_ret ie_bl)) iss_nil))))
    (iss_cons (is_setLc (own := [("row", 2)]) rfl sc__law_is_weather.nd rfl rfl (sw_true rfl rfl rfl (by decide +kernel)) (ii_seq (ie_var 1 (pv 1))) (blkOk_by (N := N__law_is_weather) (sc := defScope s__law_is_weather) (by decide +kernel)) (fun _ _ _ _ _ _ => (ig_name sc__law_is_weather.nd rfl (.inl rfl))) (fun _ _ _ _ _ _ => its_nil) (fun _ _ _ _ _ _ => (ie_ix (ip_var 2 (pv 2)) ie_int)))
    (iss_one (is_ret (ie_and (ie_eq hr.units (ip_of (ie_ix (ip_var 3 (pv 3)) ie_int)) (ip_of ie_int)) (ie_one (ie_eq hr.units (ip_var 3 (pv 3)) (ip_of (ie_own (io_sortU rfl (by rfl) Z.sorted_ (by rfl) Z.set_ (ip_var 3 (pv 3)))))))))))))
abbrev s_law : Stmt := topS 39
abbrev N_law : List Str := ["script", "k", "bag", "base", "one", "two", "three", "hole", "edge", "four", "some", "thing", "turn", "told", "name", "said"]
theorem sc_law : FnScope N_law ["script"] (defScope s_law) := ⟨rfl, rfl, rfl, by decide +kernel, rfl, by decide +kernel, by decide +kernel⟩
theorem ok_law {f : Addr} {fd : FuncData} (F : Fun K "law" "law" s_law f fd) (Z : Bt K mg) (h__law_bag : HasFn P w K mg base 1 "_law_bag" (spF K 2 F__law_bag)) (h__law_tubs : HasFn P w K mg base 3 "_law_tubs" (spB K 1 F__law_tubs)) (h__law_weather : HasFn P w K mg base 4 "_law_weather" (spB K 1 F__law_weather)) (h__law_beginning : HasFn P w K mg base 3 "_law_beginning" (spB K 1 F__law_beginning)) (h__law_of : HasFn P w K mg base 2 "_law_of" (spB K 1 F__law_of)) (h__law_odd : HasFn P w K mg base 2 "_law_odd" (spB K 0 F__law_odd)) (h_is_beginning : HasFn P w K mg base 3 "is_beginning" (spF K 2 F_is_beginning)) (h__law_is_beginning : HasFn P w K mg base 2 "_law_is_beginning" (spF K 2 F__law_is_beginning)) (h_are_tubs : HasFn P w K mg base 4 "are_tubs" (spF K 1 F_are_tubs)) (h_is_weather : HasFn P w K mg base 4 "is_weather" (spF K 2 F_is_weather)) (h__law_spoilt : HasFn P w K mg base 32 "_law_spoilt" (spB K 1 (F__law_spoilt 30))) (h__law_are_tubs : HasFn P w K mg base 3 "_law_are_tubs" (spF K 1 F__law_are_tubs)) (h__law_is_weather : HasFn P w K mg base 3 "_law_is_weather" (spF K 2 F__law_is_weather)) : FnOk P w K mg base CX0 33 f fd ["script"] (spF K 1 F_law) :=
  fn_okF F sc_law fun cdv A outer s H E B hr =>
    have hu := hu_of hr
    (iss_cons (is_for PassesOwn.never rfl (ii_range1 (by rfl) Z.range_ (ie_add ie_int (ie_min rfl (by rfl) Z.min_ (ie_len (by rfl) Z.len_ (ip_var 0 (pv 0))) ie_int))) (ig_name sc_law.nd rfl (.inl rfl)) (iss_cons (is_setO (i := 2) sc_law.nd rfl (.inr rfl) (io_call h__law_bag (hr.mono (by decide)) (by rfl) rfl (ia_cons (ie_var 0 (pv 0)) (ia_cons (ie_var 1 (pv 1)) ia_nil)) (la_cons (la_cons la_nil))))
    (iss_cons (is_set (i := 3) sc_law.nd rfl (.inl rfl) (ie_callB h__law_tubs (hr.mono (by decide)) (by rfl) (pv 2) (ia_cons ie_int ia_nil) (la_cons la_nil)))
    (iss_cons (is_par3 (i := 4) (j := 5) (l := 6) rfl sc_law.nd rfl rfl rfl (by decide) (by decide) (by decide) rfl rfl rfl (ie_var 3 (pv 3)) (ie_callB h__law_weather (hr.mono (by decide)) (by rfl) (pv 2) (ia_cons (ie_var 3 (pv 3)) ia_nil) (la_cons la_nil)) (ie_callB h__law_beginning (hr.mono (by decide)) (by rfl) (pv 2) (ia_cons (ie_var 3 (pv 3)) ia_nil) (la_cons la_nil)))
    (iss_cons (is_set (i := 7) sc_law.nd rfl (.inl rfl) (ie_tup (ia_cons (ie_callB h__law_of (hr.mono (by decide)) (by rfl) (pv 2) (ia_cons (ie_own (io_lst (ia_cons ie_int (ia_cons ie_int (ia_cons ie_int ia_nil))))) ia_nil) (la_cons la_nil)) (ia_cons (ie_callB h__law_of (hr.mono (by decide)) (by rfl) (pv 2) (ia_cons (ie_own (io_lst (ia_cons ie_int (ia_cons ie_int (ia_cons ie_int (ia_cons ie_int ia_nil)))))) ia_nil) (la_cons la_nil)) (ia_cons (ie_callB h__law_of (hr.mono (by decide)) (by rfl) (pv 2) (ia_cons (ie_own (io_lst (ia_cons ie_str (ia_cons ie_str (ia_cons ie_str ia_nil))))) ia_nil) (la_cons la_nil)) ia_nil)))))
    (iss_cons (is_set (i := 8) sc_law.nd rfl (.inl rfl) (ie_tup (ia_cons (ie_tup (ia_cons ie_str (ia_cons (ie_callB h__law_of (hr.mono (by decide)) (by rfl) (pv 2) (ia_cons (ie_own (io_lst (ia_cons ie_int (ia_cons ie_int (ia_cons ie_int (ia_cons ie_int ia_nil)))))) ia_nil) (la_cons la_nil)) (ia_cons (ie_tup (ia_cons (ie_var 7 (pv 7)) ia_nil)) ia_nil)))) (ia_cons (ie_tup (ia_cons ie_str (ia_cons ie_int (ia_cons (ie_tup ia_nil) ia_nil)))) ia_nil))))
    (iss_cons (is_set (i := 9) sc_law.nd rfl (.inl rfl) (ie_tuple (by rfl) Z.tuple_ (ip_of (ie_own (io_lc (own := [("name", 14)]) rfl sc_law.nd (ii_seq (ie_own (io_lst (ia_cons ie_str (ia_cons ie_str (ia_cons ie_str (ia_cons ie_str ia_nil))))))) (blkOk_by (N := N_law) (sc := defScope s_law) (by decide +kernel)) (fun _ _ _ _ _ _ => (ig_name sc_law.nd rfl (.inl rfl))) (fun _ _ _ _ _ _ => its_nil) (fun _ _ _ _ _ _ => (ie_tup (ia_cons (ie_var 14 (pv 14)) (ia_cons ie_int (ia_cons (ie_tup ia_nil) ia_nil))))))))))
    (iss_cons (is_setO (i := 10) sc_law.nd rfl (.inl rfl) (io_lst (ia_cons (ie_var 9 (pv 9)) (ia_cons (ie_sl (ip_var 9 (pv 9)) iq_none (iq_some ie_int)) (ia_cons (ie_var 8 (pv 8)) (ia_cons (ie_rev (ip_var 3 (pv 3))) (ia_cons (ie_catT (ie_var 3 (pv 3)) (ie_sl (ip_var 3 (pv 3)) (iq_some (ie_neg ie_int)) iq_none)) (ia_cons (ie_own (io_list (by rfl) Z.list_ (ip_var 3 (pv 3)))) (ia_cons (ie_catT (ie_var 5 (pv 5)) (ie_var 5 (pv 5))) (ia_cons (ie_sl (ip_var 5 (pv 5)) (iq_some ie_int) iq_none) (ia_cons (ie_repT (ie_sl (ip_var 5 (pv 5)) iq_none (iq_some ie_int)) ie_int) ia_nil)))))))))))
    (iss_cons (is_for PassesOwn.never rfl (ii_seq (ie_own (io_catL (ie_var 10 (pv 10)) (ie_own (io_lst (ia_cons (ie_callB h__law_odd (hr.mono (by decide)) (by rfl) (pv 2) ia_nil la_nil) (ia_cons (ie_tup ia_nil) ia_nil))))))) (ig_name sc_law.nd rfl (.inl rfl)) (iss_cons (is_if (PW.pt (iw_or (it_ne hr.units (ip_of (ie_call h_are_tubs (hr.mono (by decide)) (by rfl) rfl (ia_cons (ie_var 11 (pv 11)) ia_nil) (la_cons la_nil))) (ip_of (ie_call h__law_are_tubs (hr.mono (by decide)) (by rfl) rfl (ia_cons (ie_var 11 (pv 11)) ia_nil) (la_cons la_nil)))) (iw_or1 (it_ne hr.units (ip_of (ie_call h_is_weather (hr.mono (by decide)) (by rfl) rfl (ia_cons (ie_var 3 (pv 3)) (ia_cons (ie_var 11 (pv 11)) ia_nil)) (la_cons (la_cons la_nil)))) (ip_of (ie_call h__law_is_weather (hr.mono (by decide)) (by rfl) rfl (ia_cons (ie_var 3 (pv 3)) (ia_cons (ie_var 11 (pv 11)) ia_nil)) (la_cons (la_cons la_nil)))))))) (iss_one (is_ret ie_bl)) iss_nil)
    (iss_one (is_if (it_ne hr.units (ip_of (ie_call h_is_beginning (hr.mono (by decide)) (by rfl) rfl (ia_cons (ie_var 3 (pv 3)) (ia_cons (ie_var 11 (pv 11)) ia_nil)) (la_cons (la_cons la_nil)))) (ip_of (ie_call h__law_is_beginning (hr.mono (by decide)) (by rfl) rfl (ia_cons (ie_var 3 (pv 3)) (ia_cons (ie_var 11 (pv 11)) ia_nil)) (la_cons (la_cons la_nil))))) (iss_one (is_ret ie_bl)) iss_nil))))
    (iss_one (is_for PassesOwn.never rfl (ii_range1 (by rfl) Z.range_ ie_int) (ig_name sc_law.nd rfl (.inl rfl)) (iss_cons (is_setO (i := 13) sc_law.nd rfl (.inl rfl) (io_lst (ia_cons (ie_call h_are_tubs (hr.mono (by decide)) (by rfl) rfl (ia_cons (ie_var 4 (pv 4)) ia_nil) (la_cons la_nil)) (ia_cons (ie_call h_is_weather (hr.mono (by decide)) (by rfl) rfl (ia_cons (ie_var 3 (pv 3)) (ia_cons (ie_var 5 (pv 5)) ia_nil)) (la_cons (la_cons la_nil))) (ia_cons (ie_call h_is_beginning (hr.mono (by decide)) (by rfl) rfl (ia_cons (ie_var 3 (pv 3)) (ia_cons (ie_var 6 (pv 6)) ia_nil)) (la_cons (la_cons la_nil))) ia_nil)))))
    (iss_cons (is_if (it_ne hr.units (ip_of (ie_own (io_lc (own := [("said", 15)]) rfl sc_law.nd (ii_seq (ie_var 13 (pv 13))) (blkOk_by (N := N_law) (sc := defScope s_law) (by decide +kernel)) (fun _ _ _ _ _ _ => (ig_name sc_law.nd rfl (.inl rfl))) (fun _ _ _ _ _ _ => (its_one (it_not (it_val (ie_isL (T := "bool") (by decide +kernel) (by rfl) Z.isinstance_ (by rfl) Z.bool_ (ip_var 15 (pv 15))))))) (fun _ _ _ _ _ _ => (ie_var 15 (pv 15)))))) (ip_of (ie_own (io_lst ia_nil)))) (iss_one (is_ret ie_bl)) iss_nil)
    (iss_cons (is_if (it_ne hr.units (ip_var 13 (pv 13)) (ip_of (ie_own (io_lst (ia_cons (ie_call h__law_are_tubs (hr.mono (by decide)) (by rfl) rfl (ia_cons (ie_var 4 (pv 4)) ia_nil) (la_cons la_nil)) (ia_cons (ie_call h__law_is_weather (hr.mono (by decide)) (by rfl) rfl (ia_cons (ie_var 3 (pv 3)) (ia_cons (ie_var 5 (pv 5)) ia_nil)) (la_cons (la_cons la_nil))) (ia_cons (ie_call h__law_is_beginning (hr.mono (by decide)) (by rfl) rfl (ia_cons (ie_var 3 (pv 3)) (ia_cons (ie_var 6 (pv 6)) ia_nil)) (la_cons (la_cons la_nil))) ia_nil))))))) (iss_one (is_ret ie_bl)) iss_nil)
    (iss_one (is_asg (ie_own (io_lc (own := [("thing", 11)]) rfl sc_law.nd (ii_seq (ie_own (io_lst (ia_cons (ie_var 4 (pv 4)) (ia_cons (ie_var 5 (pv 5)) (ia_cons (ie_var 6 (pv 6)) ia_nil)))))) (blkOk_by (N := N_law) (sc := defScope s_law) (by decide +kernel)) (fun _ _ _ _ _ _ => (ig_name sc_law.nd rfl (.inl rfl))) (fun _ _ _ _ _ _ => its_nil) (fun _ _ _ _ _ _ => (ie_callB h__law_spoilt (hr.mono (by decide)) (by rfl) (pv 2) (ia_cons (ie_var 11 (pv 11)) ia_nil) (la_cons la_nil))))) (ig_unl rfl (igs_cons (ig_name sc_law.nd rfl (.inl rfl)) (igs_cons (ig_name sc_law.nd rfl (.inl rfl)) (igs_cons (ig_name sc_law.nd rfl (.inl rfl)) igs_nil))) (ln_cons (ln_cons (ln_cons ln_nil))))))))))))))))))))
    (iss_one (is_ret ie_bl)))
end
end Px.S

set_option Elab.async false
set_option linter.all false
set_option maxRecDepth 100000
set_option maxHeartbeats 4000000
/-! MTool: tools over the abstract functions -/
namespace Px
open PySem L2
theorem loop_inv {g : FG} {fb : FS} (P : Nat → S → Prop) : ∀ (ds : List D) (k : Nat) (s : S), P k s → (∀ i d s, ds[i]? = some d → P (k + i) s → ∃ s1 s2, g d s = some s1 ∧ fb s1 = some (.nx s2) ∧ P (k + i + 1) s2) → ∃ s', loopD g fb ds s = some (.nx s') ∧ P (k + ds.length) s'
  | [], k, s, h0, _ => ⟨s, by simp, by simpa using h0⟩
  | d :: ds, k, s, h0, hs => by
    obtain ⟨s1, s2, e1, e2, h1⟩ := hs 0 d s rfl h0
    obtain ⟨s', e3, h3⟩ := loop_inv P ds (k + 1) s2 (by simpa using h1) fun i d s hi hp => by
      have := hs (i + 1) d s (by simpa using hi) (by rw [show k + (i + 1) = k + 1 + i by omega]; exact hp)
      rw [show k + (i + 1) + 1 = k + 1 + i + 1 by omega] at this
      exact this
    exact ⟨s', by simp [e1, e2, e3], by rw [List.length_cons, show k + (ds.length + 1) = k + 1 + ds.length by omega]; exact h3⟩
theorem loop_inv0 {g : FG} {fb : FS} (P : Nat → S → Prop) (ds : List D) (s : S) (h0 : P 0 s) (hs : ∀ i d s, ds[i]? = some d → P i s → ∃ s1 s2, g d s = some s1 ∧ fb s1 = some (.nx s2) ∧ P (i + 1) s2) : ∃ s', loopD g fb ds s = some (.nx s') ∧ P ds.length s' := by
  obtain ⟨s', e, h⟩ := loop_inv P ds 0 s h0 fun i d s hi hp => by simpa using hs i d s hi (by simpa using hp)
  exact ⟨s', e, by simpa using h⟩
@[simp] theorem ge0 {α : Type} (a : α) (l : List α) : (a :: l)[0]? = some a := rfl
theorem small_of {n : Nat} (h : n ≤ 10000000) : small n = true := decide_eq_true h
theorem log2_lt {i : Int} {n : Nat} (h : i.natAbs < 2 ^ n) (h0 : 0 < n) : i.natAbs.log2 < n := by
  by_cases z : i.natAbs = 0
  · rw [z]; simpa using h0
  · exact (Nat.log2_lt z).mpr h
theorem atI_mem {α : Type} {l : List α} {r : Int} (h0 : 0 ≤ r) (h1 : r < l.length) : ∃ d, d ∈ l ∧ atI l r = some d := by
  have hr : r.toNat < l.length := by omega
  refine ⟨l[r.toNat], List.getElem_mem _, ?_⟩
  simp [atI, ixN, h0, h1, hr]
/-- keys of a dict of ints -/
def ksI (ns : List Int) : List Key := ns.map Sum.inl
theorem putD_keys {ns : List Int} {ds : List D} {n : Int} {d : D} (hl : ns.length = ds.length) : ∃ ns' ds', putD (ksI ns) ds (Sum.inl n) d = (ksI ns', ds') ∧ ns'.length = ds'.length ∧ ns'.length ≤ ns.length + 1 ∧ (ns.Nodup → ns'.Nodup) ∧ ∀ m, m ∈ ns' ↔ m ∈ ns ∨ m = n := by
  unfold putD
  by_cases h : n ∈ ns
  · have h' : (Sum.inl n : Key) ∈ ksI ns := List.mem_map.mpr ⟨n, h, rfl⟩
    rw [if_pos h']
    refine ⟨ns, _, rfl, by simp [ksI, hl], by omega, id, fun m => ⟨.inl, fun z => ?_⟩⟩
    rcases z with z | z
    · exact z
    · rw [z]; exact h
  · have h' : ¬ (Sum.inl n : Key) ∈ ksI ns := fun z => by
      obtain ⟨m, hm, e⟩ := List.mem_map.mp z
      cases e
      exact h hm
    rw [if_neg h']
    refine ⟨ns ++ [n], ds ++ [d], by simp [ksI], by simp [hl], by simp, fun nd => ?_, fun m => by simp⟩
    rw [List.nodup_append]
    refine ⟨nd, by simp, fun a ha b hb => ?_⟩
    have : b = n := by simpa using hb
    rw [this]
    exact fun z => h (z ▸ ha)
theorem sortI_lt {l : List Int} (h : l.Nodup) : (sortI l).Pairwise (· < ·) := by
  have h1 := sortI_sorted l
  have h2 : (sortI l).Nodup := (sortI_perm l).nodup_iff.mpr h
  exact (h1.and h2).imp fun ⟨x, y⟩ => by omega
theorem putD_length {κ : Type} [DecidableEq κ] {ks : List κ} {ds : List D} {k : κ} {d : D} (h : ks.length = ds.length) : (putD ks ds k d).1.length = (putD ks ds k d).2.length := putD_len h
theorem mem_two {α : Type} {d x y : α} (h : d ∈ [x, y]) : d = x ∨ d = y := by simpa using h
theorem mem_three {α : Type} {d x y z : α} (h : d ∈ [x, y, z]) : d = x ∨ d = y ∨ d = z := by simpa using h
theorem cut_str (nm : List Str) (k : Nat) : cutD (nm.map D.str) (some ((k : Int) + 1)) none = (nm.drop (k + 1)).map D.str := by
  unfold cutD
  rw [show ((k : Int) + 1) = ((k + 1 : Nat) : Int) by omega, HT.sIx_nat, HT.sIx_none, List.length_map, List.map_drop]
  by_cases h : k + 1 ≤ nm.length
  · rw [Nat.min_eq_left h, List.take_of_length_le (by simp)]
  · rw [Nat.min_eq_right (by omega), List.drop_eq_nil_of_le (by simp), List.drop_eq_nil_of_le (by simp; omega)]; simp
theorem seq_nx {f g : FS} {s s1 : S} (h : f s = some (.nx s1)) : sSeq f g s = g s1 := by simp only [sSeq, h, Option.bind_some]
theorem for_of {fi : FI} {g : FG} {fb : FS} {s s1 : S} {ds : List D} (h : fi s = some (ds, s1)) : sFor fi g fb s = loopD g fb ds s1 := by simp only [sFor, h, Option.bind_some]
theorem loop_cons {g : FG} {fb : FS} {d : D} {ds : List D} {s s1 s2 : S} (h1 : g d s = some s1) (h2 : fb s1 = some (.nx s2)) : loopD g fb (d :: ds) s = loopD g fb ds s2 := by simp only [loopD, h1, h2, Option.bind_some]
theorem loop_ret {g : FG} {fb : FS} {d r : D} {o : Bool} {ds : List D} {s s1 s2 : S} (h1 : g d s = some s1) (h2 : fb s1 = some (.ret o r s2)) : loopD g fb (d :: ds) s = some (.ret o r s2) := by simp only [loopD, h1, h2, Option.bind_some]
theorem rng_length (lo : Int) (n : Nat) : (rng lo n).length = n := by simp [rng]
theorem rng_get {lo : Int} {n i : Nat} {d : D} (h : (rng lo n)[i]? = some d) : d = .int (lo + (i : Nat)) ∧ i < n := by
  unfold rng at h
  rw [List.getElem?_map] at h
  by_cases z : i < n
  · simp [z] at h; exact ⟨h.symm, z⟩
  · simp [z] at h
theorem cut_take (ds : List D) (r : Nat) : cutD ds none (some ((r : Int))) = ds.take r := by
  unfold cutD
  rw [HT.sIx_nat, HT.sIx_none]
  simp
theorem enumD_length : ∀ (n : Nat) (ds : List D), (enumD n ds).length = ds.length
  | _, [] => rfl
  | n, d :: ds => by simp [enumD, enumD_length (n + 1) ds]
/-! ### equality of data -/
/-- plain, at most so deep -/
def Pl (n : Nat) (d : D) : Prop := d.py.plain = true ∧ d.py.depth ≤ n
theorem Pl.int {n : Nat} (i : Int) : Pl n (.int i) := ⟨rfl, by simp [D.py, PyData.depth]⟩
theorem Pl.str {n : Nat} (x : Str) : Pl n (.str x) := ⟨rfl, by simp [D.py, PyData.depth]⟩
theorem Pl.non {n : Nat} : Pl n .non := ⟨rfl, by simp [D.py, PyData.depth]⟩
theorem Pl.bl {n : Nat} (b : Bool) : Pl n (.bl b) := ⟨rfl, by simp [D.py, PyData.depth]⟩
theorem pl_all {n : Nat} : ∀ {ds : List D}, (∀ d ∈ ds, Pl n d) → PyData.plainAll (pys ds) = true ∧ PyData.depthAll (pys ds) ≤ n
  | [], _ => ⟨rfl, by simp [pys, PyData.depthAll]⟩
  | d :: ds, h => by
    obtain ⟨h1, h2⟩ := h d (.head _)
    obtain ⟨h3, h4⟩ := pl_all (ds := ds) fun x hx => h x (.tail _ hx)
    refine ⟨by simp [pys, PyData.plainAll, h1, h3], ?_⟩
    simp only [pys, PyData.depthAll]
    omega
theorem Pl.tup {n : Nat} {ds : List D} (h : ∀ d ∈ ds, Pl n d) : Pl (n + 1) (.tup ds) := by
  obtain ⟨h1, h2⟩ := pl_all h
  refine ⟨by simp only [D.py, PyData.plain]; exact h1, ?_⟩
  simp only [D.py, PyData.depth]
  omega
theorem Pl.lst {n : Nat} {ds : List D} (h : ∀ d ∈ ds, Pl n d) : Pl (n + 1) (.lst ds) := by
  obtain ⟨h1, h2⟩ := pl_all h
  refine ⟨by simp only [D.py, PyData.plain]; exact h1, ?_⟩
  simp only [D.py, PyData.depth]
  omega
theorem Pl.le {n m : Nat} {d : D} (h : Pl n d) (hm : n ≤ m) : Pl m d := ⟨h.1, Nat.le_trans h.2 hm⟩
theorem Pl.ok {n : Nat} {d : D} (h : Pl n d) (hn : n ≤ 64 := by decide) : okD d = true := by
  unfold okD
  rw [h.1, decide_eq_true (Nat.le_trans h.2 hn)]; rfl
mutual
theorem eqv_refl : ∀ d : PyData, d.plain = true → PyData.eqv d d = true
  | .none, _ => by simp [PyData.eqv]
  | .bool _, _ => by simp [PyData.eqv]
  | .int _, _ => by simp [PyData.eqv]
  | .str _, _ => by simp [PyData.eqv]
  | .list xs, h => by simp only [PyData.eqv]; exact eqv_refls xs (by simpa [PyData.plain] using h)
  | .tuple xs, h => by simp only [PyData.eqv]; exact eqv_refls xs (by simpa [PyData.plain] using h)
  | .dict _, h => by simp [PyData.plain] at h
theorem eqv_refls : ∀ xs : List PyData, PyData.plainAll xs = true → PyData.eqvAll xs xs = true
  | [], _ => by simp [PyData.eqvAll]
  | x :: xs, h => by
    have h' : x.plain = true ∧ PyData.plainAll xs = true := by simpa [PyData.plainAll] using h
    simp [PyData.eqvAll, eqv_refl x h'.1, eqv_refls xs h'.2]
end
theorem Pl.eq {n : Nat} {d : D} (h : Pl n d) : eqD d d = true := eqv_refl _ h.1
@[simp] theorem okD_int (i : Int) : okD (.int i) = true := (Pl.int (n := 0) i).ok
@[simp] theorem okD_str (x : Str) : okD (.str x) = true := (Pl.str (n := 0) x).ok
@[simp] theorem okD_non : okD .non = true := (Pl.non (n := 0)).ok
@[simp] theorem okD_bl (b : Bool) : okD (.bl b) = true := (Pl.bl (n := 0) b).ok
@[simp] theorem eqD_int (i j : Int) : eqD (.int i) (.int j) = decide (i = j) := by
  simp only [eqD, D.py, PyData.eqv]; rfl
@[simp] theorem eqD_str (i j : Str) : eqD (.str i) (.str j) = decide (i = j) := by
  simp only [eqD, D.py, PyData.eqv]
  by_cases h : i = j
  · subst h; simp
  · simp [h]
theorem Pl.ints {n : Nat} (ns : List Int) : ∀ d ∈ ns.map D.int, Pl n d := fun d h => by
  obtain ⟨i, _, rfl⟩ := List.mem_map.mp h
  exact .int i
theorem mem_four {α : Type} {d x y z w : α} (h : d ∈ [x, y, z, w]) : d = x ∨ d = y ∨ d = z ∨ d = w := by simpa using h
theorem mem_ints {d : D} {ns : List Int} (h : d ∈ ns.map D.int) : ∃ n ∈ ns, d = .int n := by
  obtain ⟨n, hn, e⟩ := List.mem_map.mp h
  exact ⟨n, hn, e.symm⟩
@[simp] theorem small_0 : small 0 = true := by decide
@[simp] theorem small_1 : small 1 = true := by decide
@[simp] theorem small_2 : small 2 = true := by decide
@[simp] theorem small_3 : small 3 = true := by decide
@[simp] theorem small_4 : small 4 = true := by decide
@[simp] theorem small_5 : small 5 = true := by decide
@[simp] theorem small_6 : small 6 = true := by decide
@[simp] theorem small_7 : small 7 = true := by decide
@[simp] theorem small_8 : small 8 = true := by decide
@[simp] theorem small_9 : small 9 = true := by decide
@[simp] theorem small_10 : small 10 = true := by decide
@[simp] theorem small_11 : small 11 = true := by decide
@[simp] theorem small_12 : small 12 = true := by decide
theorem rng1_of {f : F} {s s1 : S} {m : Nat} (h1 : f s = some (.int m, s1)) (hm : m < 1000000) : iRng1 f s = some (rng 0 m, s1) := by
  have c : cRng (m : Int) = true := cRng_of (by omega) (by omega)
  simp only [iRng1, h1, Option.bind_some, c, if_true, Int.toNat_natCast]
theorem call_one {G : FnD} {fa : F} {s s1 : S} {d1 : D} {r : Bool × D} (h1 : fa s = some (d1, s1)) (h : G [d1] = some r) : eCall G (aCons fa aNil) s = some (r.2, s1) := by
  simp only [eCall, aCons, aNil, h1, h, Option.bind_some]
theorem call_two {G : FnD} {fa fb : F} {s s1 s2 : S} {d1 d2 : D} {r : Bool × D} (h1 : fa s = some (d1, s1)) (h2 : fb s1 = some (d2, s2)) (h : G [d1, d2] = some r) : eCall G (aCons fa (aCons fb aNil)) s = some (r.2, s2) := by
  simp only [eCall, aCons, aNil, h1, h2, h, Option.bind_some]
theorem call_three {G : FnD} {fa fb fc : F} {s s1 s2 s3 : S} {d1 d2 d3 : D} {r : Bool × D} (h1 : fa s = some (d1, s1)) (h2 : fb s1 = some (d2, s2)) (h3 : fc s2 = some (d3, s3)) (h : G [d1, d2, d3] = some r) : eCall G (aCons fa (aCons fb (aCons fc aNil))) s = some (r.2, s3) := by
  simp only [eCall, aCons, aNil, h1, h2, h3, h, Option.bind_some]
theorem set_of {f : F} {i : Nat} {s s1 : S} {d : D} (h : f s = some (d, s1)) : sSet i f s = some (.nx (s1.set i (some (.sh, d)))) := by simp only [sSet, h, Option.bind_some]
theorem setO_of {f : F} {i : Nat} {s s1 : S} {d : D} (h : f s = some (d, s1)) : sSetO i f s = some (.nx (s1.set i (some (.ow, d)))) := by simp only [sSetO, h, Option.bind_some]
theorem ret_of {f : F} {s s1 : S} {d : D} (h : f s = some (d, s1)) : sRet f s = some (.ret false d s1) := by simp only [sRet, h, Option.bind_some]
theorem if_yes {t : TB} {f g : FS} {s s1 : S} (h : t s = some (true, s1)) : sIf t f g s = f s1 := by simp only [sIf, h, Option.bind_some, if_true]
theorem if_no {t : TB} {f g : FS} {s s1 : S} (h : t s = some (false, s1)) : sIf t f g s = g s1 := by simp only [sIf, h, Option.bind_some, Bool.false_eq_true, if_false]
/-! ### comprehensions -/
theorem comp_map {α : Type} {g : FG} {t : TB} {fe : F} {vs : List Nat} {s : S} (e f : α → D) : ∀ (as : List α) (acc : List D), acc.length + as.length ≤ 1000000 → (∀ a ∈ as, ∃ s1 s2 s3, g (e a) s = some s1 ∧ t s1 = some (true, s2) ∧ fe s2 = some (f a, s3) ∧ wipeS s3 vs = s) →
    compD g t fe vs (as.map e) s acc = some (acc ++ as.map f, s)
  | [], acc, _, _ => by simp
  | a :: as, acc, hl, h => by
    obtain ⟨s1, s2, s3, h1, h2, h3, h4⟩ := h a (.head _)
    rw [List.length_cons] at hl
    have ih := comp_map (g := g) (t := t) (fe := fe) (vs := vs) (s := s) e f as (acc ++ [f a]) (by simp; omega) fun x hx => h x (.tail _ hx)
    simp only [List.map_cons, compD, h1, h2, h3, Option.bind_some, h4, if_true, small_of (show acc.length ≤ 10000000 by omega), ih]
    simp
theorem comp_filter {α : Type} {g : FG} {t : TB} {fe : F} {vs : List Nat} {s : S} (e f : α → D) (p : α → Bool) : ∀ (as : List α) (acc : List D), acc.length + as.length ≤ 1000000 → (∀ a ∈ as, ∃ s1 s2, g (e a) s = some s1 ∧ t s1 = some (p a, s2) ∧ (p a = true → ∃ s3, fe s2 = some (f a, s3) ∧ wipeS s3 vs = s) ∧ (p a = false → wipeS s2 vs = s)) →
    compD g t fe vs (as.map e) s acc = some (acc ++ (as.filter p).map f, s)
  | [], acc, _, _ => by simp
  | a :: as, acc, hl, h => by
    obtain ⟨s1, s2, h1, h2, h3, h4⟩ := h a (.head _)
    rw [List.length_cons] at hl
    cases hp : p a with
    | true =>
      obtain ⟨s3, h5, h6⟩ := h3 hp
      have ih := comp_filter (g := g) (t := t) (fe := fe) (vs := vs) (s := s) e f p as (acc ++ [f a]) (by simp; omega) fun x hx => h x (.tail _ hx)
      simp only [List.map_cons, compD, h1, h2, h5, Option.bind_some, h6, if_true, small_of (show acc.length ≤ 10000000 by omega), ih, hp]
      simp [hp]
    | false =>
      have ih := comp_filter (g := g) (t := t) (fe := fe) (vs := vs) (s := s) e f p as acc (by omega) fun x hx => h x (.tail _ hx)
      simp only [List.map_cons, compD, h1, h2, Option.bind_some, h4 hp, if_false, ih, hp]
      simp [hp]
theorem zipD_map {α β : Type} (e : α → D) (f : β → D) : ∀ (as : List α) (bs : List β), zipD (as.map e) (bs.map f) = (as.zip bs).map fun p => .tup [e p.1, f p.2]
  | [], bs => by simp
  | a :: as, [] => by simp
  | a :: as, b :: bs => by
    have ih := zipD_map e f as bs
    simp only [zipD] at ih ⊢
    simp [ih]
/-! ### dicts -/
theorem look_put_same {κ : Type} [DecidableEq κ] {k : κ} {d : D} : ∀ {ks : List κ} {ds : List D}, ks.length = ds.length → look (putD ks ds k d).1 (putD ks ds k d).2 k = some d := by
  intro ks ds hl
  unfold putD
  by_cases h : k ∈ ks
  · rw [if_pos h]
    induction ks generalizing ds with
    | nil => cases h
    | cons k' ks ih =>
      cases ds with
      | nil => simp at hl
      | cons d' ds =>
        by_cases z : k' = k
        · simp [z]
        · have hk : k ∈ ks := by
            rcases List.mem_cons.mp h with q | q
            · exact absurd q.symm z
            · exact q
          have := ih (by simpa using hl) hk
          simpa [z] using this
  · rw [if_neg h]
    induction ks generalizing ds with
    | nil =>
      cases ds with
      | nil => simp
      | cons _ _ => simp at hl
    | cons k' ks ih =>
      cases ds with
      | nil => simp at hl
      | cons d' ds =>
        have z : ¬ k' = k := fun e => h (by rw [e]; exact .head _)
        have := ih (by simpa using hl) (fun q => h (.tail _ q))
        simpa [z] using this
theorem look_put_ne {κ : Type} [DecidableEq κ] {k j : κ} {d : D} (hn : j ≠ k) : ∀ {ks : List κ} {ds : List D}, ks.length = ds.length → look (putD ks ds k d).1 (putD ks ds k d).2 j = look ks ds j := by
  intro ks ds hl
  unfold putD
  by_cases h : k ∈ ks
  · rw [if_pos h]
    clear h
    induction ks generalizing ds with
    | nil => cases ds <;> simp
    | cons k' ks ih =>
      cases ds with
      | nil => simp at hl
      | cons d' ds =>
        have := ih (ds := ds) (by simpa using hl)
        by_cases z : k' = j
        · subst z; simp [hn]
        · simpa [z] using this
  · rw [if_neg h]
    clear h
    induction ks generalizing ds with
    | nil =>
      cases ds with
      | nil => simp [Ne.symm hn]
      | cons _ _ => simp at hl
    | cons k' ks ih =>
      cases ds with
      | nil => simp at hl
      | cons d' ds =>
        have := ih (ds := ds) (by simpa using hl)
        by_cases z : k' = j
        · simp [z]
        · simpa [z] using this
theorem putD_new {κ : Type} [DecidableEq κ] {k : κ} {d : D} {ks : List κ} {ds : List D} (h : k ∉ ks) : putD ks ds k d = (ks ++ [k], ds ++ [d]) := by unfold putD; rw [if_neg h]
theorem putD_fst_le {κ : Type} [DecidableEq κ] {k : κ} {d : D} {ks : List κ} {ds : List D} : (putD ks ds k d).1.length ≤ ks.length + 1 := by
  unfold putD
  split
  · simp
  · simp
/-- text keys, ints -/
def ksS (ns : List Str) : List Key := ns.map Sum.inr
def lookI : List Str → List Int → Str → Int
  | n :: ns, c :: cs, x => if n = x then c else lookI ns cs x
  | _, _, _ => 0
def setI (ns : List Str) (cs : List Int) (x : Str) (v : Int) : List Int := List.zipWith (fun n c => if n = x then v else c) ns cs
theorem look_ksS {x : Str} : ∀ {ns : List Str} {cs : List Int}, ns.length = cs.length → x ∈ ns → look (ksS ns) (cs.map D.int) (Sum.inr x) = some (.int (lookI ns cs x))
  | [], _, _, h => by cases h
  | n :: ns, [], h, _ => by simp at h
  | n :: ns, c :: cs, hl, h => by
    by_cases z : n = x
    · subst z; simp [ksS, lookI]
    · have hx : x ∈ ns := by
        rcases List.mem_cons.mp h with q | q
        · exact absurd q.symm z
        · exact q
      have := look_ksS (cs := cs) (by simpa using hl) hx
      simpa [ksS, lookI, z] using this
theorem put_ksS {x : Str} {v : Int} {ns : List Str} {cs : List Int} (h : x ∈ ns) : putD (ksS ns) (cs.map D.int) (Sum.inr x) (.int v) = (ksS ns, (setI ns cs x v).map D.int) := by
  unfold putD
  rw [if_pos (show (Sum.inr x : Key) ∈ ksS ns from List.mem_map.mpr ⟨x, h, rfl⟩)]
  congr 1
  clear h
  induction ns generalizing cs with
  | nil => simp [ksS, setI]
  | cons n ns ih =>
    cases cs with
    | nil => simp [ksS, setI]
    | cons c cs =>
      have := ih (cs := cs)
      simp only [ksS, setI] at this ⊢
      by_cases z : n = x
      · subst z; simp [this]
      · simp [z, this]
theorem setI_length (ns : List Str) (cs : List Int) (x : Str) (v : Int) (h : ns.length = cs.length) : (setI ns cs x v).length = cs.length := by simp [setI, h]
theorem dcomp_new {α : Type} {g : FG} {t : TB} {fk fv : F} {vs : List Nat} {s : S} (e : α → D) (k : α → Str) (f : α → D) : ∀ (as : List α) (ks : List Str) (acc : List D), ks.length + as.length ≤ 1000000 → (ks ++ as.map k).Nodup → (∀ a ∈ as, ∃ s1 s2 s3 s4, g (e a) s = some s1 ∧ t s1 = some (true, s2) ∧ fk s2 = some (.str (k a), s3) ∧ fv s3 = some (f a, s4) ∧ wipeS s4 vs = s) →
    dcompD g t fk fv vs (as.map e) s (ksS ks) acc = some ((ksS (ks ++ as.map k), acc ++ as.map f), s)
  | [], ks, acc, _, _, _ => by simp
  | a :: as, ks, acc, hl, nd, h => by
    obtain ⟨s1, s2, s3, s4, h1, h2, h3, h4, h5⟩ := h a (.head _)
    rw [List.length_cons] at hl
    have hn : (Sum.inr (k a) : Key) ∉ ksS ks := fun z => by
      obtain ⟨y, hy, e⟩ := List.mem_map.mp z
      cases e
      rw [List.map_cons, List.nodup_append] at nd
      exact nd.2.2 _ hy _ (.head _) rfl
    have hk : ksS ks ++ [Sum.inr (k a)] = ksS (ks ++ [k a]) := by simp [ksS]
    have ih := dcomp_new (g := g) (t := t) (fk := fk) (fv := fv) (vs := vs) (s := s) e k f as (ks ++ [k a]) (acc ++ [f a]) (by simp; omega) (by simpa using nd) fun x hx => h x (.tail _ hx)
    simp only [List.map_cons, dcompD, h1, h2, h3, h4, Option.bind_some, h5, if_true, key?, small_of (show (ksS ks).length ≤ 10000000 by simp [ksS]; omega), putD_new hn, hk, ih]
    simp
theorem pairs_map {α : Type} (k : α → Str) (f : α → D) : ∀ (as : List α), pairs? (as.map fun a => .tup [.str (k a), f a]) = some (as.map fun a => (Sum.inr (k a), f a))
  | [] => rfl
  | a :: as => by simp [pairs_map k f as]
theorem merge_new {α : Type} (k : α → Str) (f : α → D) : ∀ (as : List α) (ks : List Str) (acc : List D), (ks ++ as.map k).Nodup → mergeD (ksS ks, acc) (as.map fun a => (Sum.inr (k a), f a)) = (ksS (ks ++ as.map k), acc ++ as.map f)
  | [], ks, acc, _ => by simp
  | a :: as, ks, acc, nd => by
    have hn : (Sum.inr (k a) : Key) ∉ ksS ks := fun z => by
      obtain ⟨y, hy, e⟩ := List.mem_map.mp z
      cases e
      rw [List.map_cons, List.nodup_append] at nd
      exact nd.2.2 _ hy _ (.head _) rfl
    have hk : ksS ks ++ [Sum.inr (k a)] = ksS (ks ++ [k a]) := by simp [ksS]
    have ih := merge_new k f as (ks ++ [k a]) (acc ++ [f a]) (by simpa using nd)
    simp only [List.map_cons, mergeD, putD_new hn, hk, ih]
    simp
end Px

set_option Elab.async false
set_option linter.all false
set_option maxRecDepth 100000
set_option maxHeartbeats 4000000
/-! MFrac: fractions are Rat -/
namespace Px
open PySem L2
def qD (q : Rat) : D := .tup [.int q.num, .int q.den]
theorem while_end {t : TB} {fb : FS} {n : Nat} {s s1 : S} (h : t s = some (false, s1)) : whileD t fb (n + 1) s = some (.nx s1) := by
  show (t s).bind _ = _
  rw [h]; rfl
theorem while_turn {t : TB} {fb : FS} {n : Nat} {s s1 s2 : S} (h : t s = some (true, s1)) (h2 : fb s1 = some (.nx s2)) : whileD t fb (n + 1) s = whileD t fb n s2 := by
  show (t s).bind _ = _
  rw [h]
  show (fb s1).bind _ = _
  rw [h2]; rfl
theorem while_ret {t : TB} {fb : FS} {n : Nat} {s s1 s2 : S} {o : Bool} {d : D} (h : t s = some (true, s1)) (h2 : fb s1 = some (.ret o d s2)) : whileD t fb (n + 1) s = some (.ret o d s2) := by
  show (t s).bind _ = _
  rw [h]
  show (fb s1).bind _ = _
  rw [h2]; rfl
theorem log2_mono {a b : Nat} (h : a ≤ b) : a.log2 ≤ b.log2 := by
  by_cases z : a = 0
  · subst z; simp
  · have h1 := Nat.log2_self_le z
    have : b ≠ 0 := by omega
    exact (Nat.le_log2 this).mpr (Nat.le_trans h1 h)
theorem log2_mul {a b : Nat} : (a * b).log2 ≤ a.log2 + b.log2 + 1 := by
  by_cases z : a * b = 0
  · rw [z]; simp
  · have ha : a < 2 ^ (a.log2 + 1) := Nat.lt_log2_self
    have hb : b < 2 ^ (b.log2 + 1) := Nat.lt_log2_self
    have : a * b < 2 ^ (a.log2 + b.log2 + 1 + 1) := by
      rw [show a.log2 + b.log2 + 1 + 1 = (a.log2 + 1) + (b.log2 + 1) by omega, Nat.pow_add]
      exact Nat.mul_lt_mul'' ha hb
    have := (Nat.log2_lt z).mpr this
    omega
/-- sizes -/
structure Fit (q : Rat) : Prop where
  d : q.den.log2 < 4450
  n : q.num.natAbs.log2 < 400000
end Px
namespace Px.S
open PySem L2 Px
theorem gcd_loop {t b : Int} : ∀ (n : Nat) (i j : Nat), j < n → ∃ s', whileD (bT (eGt (eVar 3) (eC (.int 0)))) L_lowest_1 n [some (.sh, .int t), some (.sh, .int b), some (.sh, .int i), some (.sh, .int j)] = some (.nx [some (.sh, .int t), some (.sh, .int b), some (.sh, .int (Nat.gcd i j)), s'])
  | 0, _, _, h => by omega
  | n + 1, i, j, h => by
    by_cases z : j = 0
    · subst z
      exact ⟨_, while_end (s1 := [some (.sh, .int t), some (.sh, .int b), some (.sh, .int (Nat.gcd i 0)), some (.sh, .int 0)]) (by simp)⟩
    · obtain ⟨s', e⟩ := gcd_loop (t := t) (b := b) n j (i % j) (by have := Nat.mod_lt i (show j > 0 by omega); omega)
      refine ⟨s', ?_⟩
      have hz : (0 : Int) < (j : Int) := by omega
      rw [while_turn (s1 := [some (.sh, .int t), some (.sh, .int b), some (.sh, .int i), some (.sh, .int j)]) (s2 := [some (.sh, .int t), some (.sh, .int b), some (.sh, .int j), some (.sh, .int ((i % j : Nat) : Int))]) (by simp; omega) (by simp [L_lowest_1, show 0 < j by omega]), e]
      rw [Nat.gcd_comm i j, Nat.gcd_rec j i, Nat.gcd_comm (i % j) j]
theorem lowest_gcd {t : Int} {b : Nat} (hb : 0 < b) (hl : (Nat.gcd t.natAbs b).log2 < 9000) : F_lowest [.int t, .int b] = some (false, qD (mkRat t b)) := by
  obtain ⟨s', e⟩ := gcd_loop (t := t) (b := b) (b + 1) t.natAbs b (by omega)
  have hg : 0 < Nat.gcd t.natAbs b := Nat.gcd_pos_of_pos_right _ hb
  have habs : (if t < 0 then -t else t) = (t.natAbs : Int) := by split <;> omega
  have p1 : sPar 2 3 (eB1 gAbs (pVar 0)) (eVar 1) (init 4 [.int t, .int b]) = some (.nx [some (.sh, .int t), some (.sh, .int b), some (.sh, .int (t.natAbs : Int)), some (.sh, .int b)]) := by
    rw [← habs]; rfl
  have p2 : sWhile muG (bT (eGt (eVar 3) (eC (.int 0)))) L_lowest_1 [some (.sh, .int t), some (.sh, .int b), some (.sh, .int (t.natAbs : Int)), some (.sh, .int b)] = some (.nx [some (.sh, .int t), some (.sh, .int b), some (.sh, .int (Nat.gcd t.natAbs b)), s']) := by
    unfold sWhile
    rw [show muG [some (.sh, .int t), some (.sh, .int b), some (.sh, .int (t.natAbs : Int)), some (.sh, .int b)] = b + 1 by simp [muG]]
    exact e
  unfold F_lowest f_lowest
  simp only [runF]
  rw [seq_nx p1, seq_nx p2]
  have c1 : ∀ i : Int, cDiv i (Nat.gcd t.natAbs b : Nat) = true := fun i => decide_eq_true ⟨by omega, by simpa using hl⟩
  have e1 : (mkRat t b).num = t / (Nat.gcd t.natAbs b : Nat) := by rw [Rat.num_mkRat, if_neg (by omega), Nat.gcd_comm]
  have e2 : ((mkRat t b).den : Int) = (b : Int) / (Nat.gcd t.natAbs b : Nat) := by rw [Rat.den_mkRat, if_neg (by omega), Nat.gcd_comm]; simp
  simp [c1, qD, e1, e2]
theorem lowest_ok {t : Int} {b : Nat} (hb : 0 < b) (h9 : b.log2 < 9000) : F_lowest [.int t, .int b] = some (false, qD (mkRat t b)) :=
  lowest_gcd hb (Nat.lt_of_le_of_lt (log2_mono (Nat.gcd_le_right _ hb)) h9)
theorem law_lowest_eq : F__law_lowest = F_lowest := rfl
theorem law_plus_eq : F__law_plus = F_plus := rfl
theorem law_minus_eq : F__law_minus = F_less := rfl
theorem law_less_eq : F__law_less = F_is_lesser := rfl
theorem fit_mul {a b : Rat} (ha : Fit a) (hb : Fit b) : cMul a.num b.den = true ∧ cMul b.num a.den = true ∧ cMul a.den b.den = true := by
  have h1 := ha.d; have h2 := ha.n; have h3 := hb.d; have h4 := hb.n
  exact ⟨decide_eq_true (by simpa using (by omega)), decide_eq_true (by simpa using (by omega)), decide_eq_true (by simpa using (by omega))⟩
theorem fit_den {a b : Rat} (ha : Fit a) (hb : Fit b) : (a.den * b.den).log2 < 9000 := by
  have h1 := ha.d; have h3 := hb.d
  have := log2_mul (a := a.den) (b := b.den)
  omega
theorem plus_ok {a b : Rat} (ha : Fit a) (hb : Fit b) : F_plus [qD a, qD b] = some (false, qD (a + b)) := by
  obtain ⟨c1, c2, c3⟩ := fit_mul ha hb
  have e := lowest_ok (t := a.num * b.den + b.num * a.den) (b := a.den * b.den) (Nat.mul_pos a.den_pos b.den_pos) (fit_den ha hb)
  rw [← Rat.add_def'] at e
  simp only [Int.natCast_mul] at e
  simp [F_plus, f_plus, qD, atI, ixN, c1, c2, c3, e]
/-- a greater fraction -/
structure FitW (q : Rat) : Prop where
  d : q.den.log2 < 8960
  n : q.num.natAbs.log2 < 420000
theorem gcd_sq (a x : Rat) : Nat.gcd (a.num * x.den + x.num * a.den).natAbs (a.den * x.den) ∣ a.den * a.den := by
  generalize hk : Nat.gcd (a.num * x.den + x.num * a.den).natAbs (a.den * x.den) = k
  have h1 : (k : Int) ∣ a.num * x.den + x.num * a.den := by
    rw [← hk]; exact Int.ofNat_dvd_left.mpr (Nat.gcd_dvd_left _ _)
  have h2 : (k : Int) ∣ (a.den : Int) * x.den := by
    rw [← hk, ← Int.natCast_mul]; exact Int.natCast_dvd_natCast.mpr (Nat.gcd_dvd_right _ _)
  have h3 : (k : Int) ∣ x.num * ((a.den : Int) * a.den) := by
    have e : x.num * ((a.den : Int) * a.den) = (a.num * x.den + x.num * a.den) * a.den - a.num * ((a.den : Int) * x.den) := by
      rw [Int.add_mul]
      have : a.num * (x.den : Int) * a.den = a.num * ((a.den : Int) * x.den) := by rw [Int.mul_assoc, Int.mul_comm (x.den : Int)]
      rw [this, Int.mul_assoc x.num]; omega
    rw [e]
    exact Int.dvd_sub (Int.dvd_mul_of_dvd_left h1) (Int.dvd_mul_of_dvd_right h2)
  have h4 : k ∣ x.den * (a.den * a.den) := by
    have : k ∣ a.den * x.den := by rw [← Int.natCast_mul] at h2; exact Int.natCast_dvd_natCast.mp h2
    have := Nat.dvd_mul_left_of_dvd this a.den
    have e : a.den * (a.den * x.den) = x.den * (a.den * a.den) := by rw [← Nat.mul_assoc, Nat.mul_comm]
    rw [← e]; exact this
  have h5 : k ∣ x.num.natAbs * (a.den * a.den) := by
    have := Int.ofNat_dvd_left.mp h3
    rw [Int.natAbs_mul, Int.natAbs_mul, Int.natAbs_natCast] at this; exact this
  have h6 := Nat.dvd_gcd h5 h4
  rw [Nat.gcd_mul_right, x.reduced, Nat.one_mul] at h6
  exact h6
theorem plus_w {a x : Rat} (ha : Fit a) (hd : x.den.log2 < 9000) (hn : x.num.natAbs.log2 < 450000) : F_plus [qD a, qD x] = some (false, qD (a + x)) := by
  have h1 := ha.d; have h2 := ha.n
  have c1 : cMul a.num x.den = true := decide_eq_true (by simpa using (by omega))
  have c2 : cMul x.num a.den = true := decide_eq_true (by simpa using (by omega))
  have c3 : cMul a.den x.den = true := decide_eq_true (by simpa using (by omega))
  have hp : 0 < a.den * a.den := Nat.mul_pos a.den_pos a.den_pos
  have hg : (Nat.gcd (a.num * x.den + x.num * a.den).natAbs (a.den * x.den)).log2 < 9000 := by
    have := log2_mono (Nat.le_of_dvd hp (gcd_sq a x))
    have := log2_mul (a := a.den) (b := a.den)
    omega
  have e := lowest_gcd (t := a.num * x.den + x.num * a.den) (b := a.den * x.den) (Nat.mul_pos a.den_pos x.den_pos) hg
  rw [← Rat.add_def'] at e
  simp only [Int.natCast_mul] at e
  simp [F_plus, f_plus, qD, atI, ixN, c1, c2, c3, e]
theorem mk_sz (t : Int) {b : Nat} (hb : 0 < b) : (mkRat t b).den.log2 ≤ b.log2 ∧ (mkRat t b).num.natAbs.log2 ≤ t.natAbs.log2 := by
  constructor
  · refine log2_mono ?_
    rw [Rat.den_mkRat, if_neg (by omega)]
    exact Nat.div_le_self _ _
  · refine log2_mono ?_
    rw [Rat.num_mkRat, if_neg (by omega), Int.natAbs_ediv_of_dvd (Int.ofNat_dvd_left.mpr (Nat.gcd_dvd_right _ _))]
    exact Nat.div_le_self _ _
theorem abs_log2 {x y : Int} {n : Nat} (hx : x.natAbs.log2 < n) (hy : y.natAbs.log2 < n) : (x - y).natAbs.log2 ≤ n := by
  have h1 : x.natAbs < 2 ^ n := by
    by_cases z : x.natAbs = 0
    · rw [z]; exact Nat.two_pow_pos n
    · exact (Nat.log2_lt z).mp hx
  have h2 : y.natAbs < 2 ^ n := by
    by_cases z : y.natAbs = 0
    · rw [z]; exact Nat.two_pow_pos n
    · exact (Nat.log2_lt z).mp hy
  by_cases z : (x - y).natAbs = 0
  · rw [z]; simp
  · have : (x - y).natAbs < 2 ^ (n + 1) := by rw [Nat.pow_succ]; omega
    have := (Nat.log2_lt z).mpr this
    omega
theorem less_w {a b : Rat} (ha : Fit a) (hb : Fit b) : FitW (a - b) := by
  rw [Rat.sub_def']
  have h1 := ha.d; have h2 := ha.n; have h3 := hb.d; have h4 := hb.n
  obtain ⟨g1, g2⟩ := mk_sz (a.num * b.den - b.num * a.den) (Nat.mul_pos a.den_pos b.den_pos)
  have m1 := log2_mul (a := a.den) (b := b.den)
  have m2 := log2_mul (a := a.num.natAbs) (b := b.den)
  have m3 := log2_mul (a := b.num.natAbs) (b := a.den)
  have n1 : (a.num * b.den).natAbs = a.num.natAbs * b.den := by rw [Int.natAbs_mul, Int.natAbs_natCast]
  have n2 : (b.num * a.den).natAbs = b.num.natAbs * a.den := by rw [Int.natAbs_mul, Int.natAbs_natCast]
  have m4 := abs_log2 (x := a.num * b.den) (y := b.num * a.den) (n := 405000) (by rw [n1]; omega) (by rw [n2]; omega)
  exact ⟨by omega, by omega⟩
theorem less_ok {a b : Rat} (ha : Fit a) (hb : Fit b) : F_less [qD a, qD b] = some (false, qD (a - b)) := by
  obtain ⟨c1, c2, c3⟩ := fit_mul ha hb
  have e := lowest_ok (t := a.num * b.den - b.num * a.den) (b := a.den * b.den) (Nat.mul_pos a.den_pos b.den_pos) (fit_den ha hb)
  rw [← Rat.sub_def'] at e
  simp only [Int.natCast_mul] at e
  simp [F_less, f_less, qD, atI, ixN, c1, c2, c3, e]
theorem lesser_ok {a b : Rat} (ha : Fit a) (hb : Fit b) : F_is_lesser [qD a, qD b] = some (false, .bl (decide (a < b))) := by
  obtain ⟨c1, c2, c3⟩ := fit_mul ha hb
  simp [F_is_lesser, f_is_lesser, qD, atI, ixN, c1, c2, c3, Rat.lt_iff]
theorem qD_int (n : Int) : qD (n : Rat) = .tup [.int n, .int 1] := by simp [qD]
theorem Pl.q {n : Nat} (q : Rat) : Pl (n + 1) (qD q) := .tup (n := n) (by simp; exact ⟨.int _, .int _⟩)
theorem okD_q (q : Rat) : okD (qD q) = true := (Pl.q (n := 0) q).ok
theorem eqD_q_non (q : Rat) : eqD (qD q) .non = false := by simp [eqD, qD, D.py, PyData.eqv]
theorem eqD_q (a b : Rat) : eqD (qD a) (qD b) = decide (a = b) := by
  unfold eqD qD
  simp only [D.py, pys, PyData.eqv, PyData.eqvAll]
  by_cases h : a = b
  · subst h; simp
  · rw [decide_eq_false h]
    simp
    intro h1 h2
    exact h (Rat.ext h1 (by omega))
end Px.S

set_option Elab.async false
set_option linter.all false
set_option maxRecDepth 100000
set_option maxHeartbeats 4000000
/-! MBag: the law's own drawing functions -/
namespace Px.S
open PySem L2 Px
/-! ### loops -/
/-! ### the bag -/
def bagD (a b : Int) : D := .lst [.int a, .int b]
structure BagOk (a b : Int) : Prop where
  a0 : 0 ≤ a
  b0 : 0 ≤ b
  b1 : b < 2147483648
theorem take_ok {a b m : Int} (ok : BagOk a b) (hm : 0 < m) (hm2 : m < 1073741824) : ∃ r a' b', F__law_take (bagD a b) [.int m] = some (false, .int r, bagD a' b') ∧ BagOk a' b' ∧ 0 ≤ r ∧ r < m := by
  have l1 : m.natAbs.log2 < 9000 := Nat.lt_of_lt_of_le (log2_lt (n := 30) (by omega) (by omega)) (by omega)
  by_cases ha : 0 < a
  · refine ⟨a % m, a / m, b, ?_, ⟨Int.ediv_nonneg (by omega) (by omega), ok.b0, ok.b1⟩, Int.emod_nonneg _ (by omega), Int.emod_lt_of_pos _ hm⟩
    simp [F__law_take, f__law_take, bagD, atI, ixN, cDiv, ha, hm, l1]
  · have h1 : 0 ≤ b * 48271 % 2147483647 := Int.emod_nonneg _ (by omega)
    have h2 : b * 48271 % 2147483647 < 2147483647 := Int.emod_lt_of_pos _ (by omega)
    have l2 : b.natAbs.log2 < 31 := log2_lt (by have := ok.b0; have := ok.b1; omega) (by omega)
    have l3 : (b * 48271 % 2147483647).natAbs.log2 < 31 := log2_lt (by omega) (by omega)
    have l4 : (48271 : Int).natAbs.log2 < 16 := log2_lt (by decide) (by omega)
    have l5 : (64 : Int).natAbs.log2 < 7 := log2_lt (by decide) (by omega)
    refine ⟨b * 48271 % 2147483647 * (b * 48271 % 2147483647) % 2147483629 / 64 % m, a, b * 48271 % 2147483647, ?_, ⟨ok.a0, h1, by omega⟩, Int.emod_nonneg _ (by omega), Int.emod_lt_of_pos _ hm⟩
    have c1 : cMul b 48271 = true := decide_eq_true (by omega)
    have c2 : cMul (b * 48271 % 2147483647) (b * 48271 % 2147483647) = true := decide_eq_true (by omega)
    simp [F__law_take, f__law_take, bagD, atI, ixN, cDiv, ha, hm, c1, c2]
    have c3 : Nat.log2 64 < 9000 := by decide
    simp [c3, hm]
theorem of_ok {a b : Int} (ok : BagOk a b) (ds : List D) (h0 : ds ≠ []) (h1 : ds.length < 1000) : ∃ d a' b', F__law_of (bagD a b) [.lst ds] = some (false, d, bagD a' b') ∧ BagOk a' b' ∧ d ∈ ds := by
  have hp : 0 < ds.length := List.length_pos_iff.mpr h0
  obtain ⟨r, a', b', e, ok', h2, h3⟩ := take_ok (m := ds.length) ok (by omega) (by omega)
  have hr : r.toNat < ds.length := by omega
  refine ⟨ds[r.toNat], a', b', ?_, ok', List.getElem_mem _⟩
  simp [F__law_of, f__law_of, e, atI, ixN, h2, h3, hr]
/-! ### tubs -/
abbrev LD := List (List Key) × List D
abbrev Hole := Int × Int × Str
abbrev Tub := Str × Int × List Hole
def hD (h : Hole) : D := .tup [.int h.1, .int h.2.1, .str h.2.2]
def hK (name : Str) (h : Hole) : List Key := [.inr name, .inl h.1]
def tD (t : Tub) : D := .tup [.str t.1, .int t.2.1, .tup (t.2.2.map hD)]
def tubsD (ts : List Tub) : D := .tup (ts.map tD)
structure HoleOk (later : List Str) (h : Hole) : Prop where
  h0 : 0 ≤ h.1
  h1 : h.1 ≤ 1000
  r0 : 1 ≤ h.2.1
  r1 : h.2.1 ≤ 100
  into : h.2.2 = "" ∨ h.2.2 ∈ later
structure TubOk (later : List Str) (t : Tub) : Prop where
  g0 : 1 ≤ t.2.1
  g1 : t.2.1 ≤ 1000
  few : t.2.2.length ≤ 3
  rising : (t.2.2.map (·.1)).Pairwise (· < ·)
  holes : ∀ h ∈ t.2.2, HoleOk later h
structure TubsOk (ts : List Tub) : Prop where
  few : ts.length ≤ 3
  some : ts ≠ []
  nd : (ts.map (·.1)).Nodup
  ne : ∀ t ∈ ts, t.1 ≠ ""
  tub : ∀ (j : Nat) t, ts[j]? = Option.some t → TubOk ((ts.map (·.1)).drop (j + 1)) t
def stT (a b : Int) (nm : List Str) (fd : List D) (v4 v5 v6 v7 v8 v9 v10 v11 : Option Sl) : S :=
  [some (.rf, bagD a b), some (.sh, .int 3), some (.sh, .lst (nm.map D.str)), some (.ow, .lst fd), v4, v5, v6, v7, v8, v9, v10, v11]
theorem levels_turn {a b w : Int} {nm : List Str} {fd : List D} {v4 v5 v8 v9 v10 v11 : Option Sl} {ns : List Int} {ds : List D} (ok : BagOk a b) (hw : 0 < w) (hw2 : w ≤ 1001) (hl : ns.length = ds.length) (hs : ns.length ≤ 10) :
    ∃ a' b' ns' ds', L__law_tubs_2 (stT a b nm fd v4 v5 (some (.ow, .dK (ksI ns) ds)) (some (.sh, .int w)) v8 v9 v10 v11) = some (.nx (stT a' b' nm fd v4 v5 (some (.ow, .dK (ksI ns') ds')) (some (.sh, .int w)) v8 v9 v10 v11)) ∧
      BagOk a' b' ∧ ns'.length = ds'.length ∧ ns'.length ≤ ns.length + 1 ∧ (ns.Nodup → ns'.Nodup) ∧ ∀ m, m ∈ ns' → m ∈ ns ∨ (0 ≤ m ∧ m < w) := by
  obtain ⟨r, a', b', e, ok', h0, h1⟩ := take_ok (m := w) ok hw (by omega)
  obtain ⟨ns', ds', ep, g1, g2, g3, g4⟩ := putD_keys (n := r) (d := .bl true) hl
  refine ⟨a', b', ns', ds', ?_, ok', g1, g2, g3, fun m hm => ?_⟩
  · have hl' : (ksI ns).length = ds.length := by simp [ksI, hl]
    simp (disch := omega) [L__law_tubs_2, stT, e, hl', small_of, ep]
  · rcases (g4 m).mp hm with z | z
    · exact .inl z
    · subst z; exact .inr ⟨h0, h1⟩
theorem hole_turn {a b l : Int} {k : Nat} {nm : List Str} {fd : List D} {v5 v6 v7 v8 v11 : Option Sl} {hs : List Hole} (ok : BagOk a b) (hn : nm.length ≤ 3) (hh : hs.length ≤ 3) (hl0 : 0 ≤ l) (hl1 : l ≤ 1000) :
    ∃ a' b' h v11', L__law_tubs_1 (stT a b nm fd (some (.sh, .int k)) v5 v6 v7 v8 (some (.ow, .lst (hs.map hD))) (some (.sh, .int l)) v11) = some (.nx (stT a' b' nm fd (some (.sh, .int k)) v5 v6 v7 v8 (some (.ow, .lst ((hs ++ [h]).map hD))) (some (.sh, .int l)) v11')) ∧
      BagOk a' b' ∧ h.1 = l ∧ HoleOk (nm.drop (k + 1)) h := by
  obtain ⟨r1, a1, b1, e1, ok1, h10, h11⟩ := take_ok (m := 2) ok (by omega) (by omega)
  obtain ⟨d, hd, ed⟩ := atI_mem (l := [D.int 4, D.int 100]) h10 (by simpa using h11)
  obtain ⟨w, rfl, hw⟩ : ∃ w, d = .int w ∧ (w = 4 ∨ w = 100) := by
    rcases mem_two hd with rfl | rfl
    · exact ⟨4, rfl, .inl rfl⟩
    · exact ⟨100, rfl, .inr rfl⟩
  obtain ⟨r2, a2, b2, e2, ok2, h20, h21⟩ := take_ok (m := w) ok1 (by omega) (by omega)
  obtain ⟨d3, a3, b3, e3, ok3, hd3⟩ := of_ok ok2 (.str "" :: ((nm.drop (k + 1)).map D.str ++ (nm.drop (k + 1)).map D.str)) (by simp) (by simp; omega)
  obtain ⟨i, rfl, hi⟩ : ∃ i, d3 = .str i ∧ (i = "" ∨ i ∈ nm.drop (k + 1)) := by
    rcases List.mem_cons.mp hd3 with z | z
    · exact ⟨_, z, .inl rfl⟩
    · rcases List.mem_append.mp z with z | z <;> (obtain ⟨i, hi, e⟩ := List.mem_map.mp z; exact ⟨i, e.symm, .inr hi⟩)
  refine ⟨a3, b3, (l, 1 + r2, i), some (.sh, .int (1 + r2)), ?_, ok3, rfl, hl0, hl1, by show 1 ≤ 1 + r2; omega, by show 1 + r2 ≤ 100; omega, hi⟩
  simp only [List.map_drop] at e3
  simp (disch := omega) [L__law_tubs_1, stT, e1, ed, e2, cut_str, e3, small_of, hD]
theorem levels_loop {a b w : Int} {nm : List Str} {fd : List D} {v4 v5 v8 v9 v10 v11 : Option Sl} (n : Nat) (hn : n ≤ 3) (ok : BagOk a b) (hw : 0 < w) (hw2 : w ≤ 1001) :
    ∃ a' b' ns ds v8', loopD (hName 8) L__law_tubs_2 (rng 0 n) (stT a b nm fd v4 v5 (some (.ow, .dK [] [])) (some (.sh, .int w)) v8 v9 v10 v11) = some (.nx (stT a' b' nm fd v4 v5 (some (.ow, .dK (ksI ns) ds)) (some (.sh, .int w)) v8' v9 v10 v11)) ∧
      BagOk a' b' ∧ ns.length = ds.length ∧ ns.length ≤ 3 ∧ ns.Nodup ∧ ∀ m ∈ ns, 0 ≤ m ∧ m < w := by
  obtain ⟨s', e, a', b', ns, ds, v8', rfl, h1, h2, h3, h4, h5⟩ := loop_inv0 (g := hName 8) (fb := L__law_tubs_2) (fun i s => ∃ a' b' ns ds v8', s = stT a' b' nm fd v4 v5 (some (.ow, .dK (ksI ns) ds)) (some (.sh, .int w)) v8' v9 v10 v11 ∧ BagOk a' b' ∧ ns.length = ds.length ∧ ns.length ≤ i ∧ ns.Nodup ∧ ∀ m ∈ ns, 0 ≤ m ∧ m < w) (rng 0 n) (stT a b nm fd v4 v5 (some (.ow, .dK [] [])) (some (.sh, .int w)) v8 v9 v10 v11)
    ⟨a, b, [], [], v8, rfl, ok, rfl, Nat.le_refl _, .nil, by simp⟩ fun i d s hi ⟨a1, b1, ns, ds, v, hs, ok1, l1, l2, nd, hm⟩ => by
      subst hs
      have hi2 := (rng_get hi).2
      obtain ⟨a2, b2, ns2, ds2, e2, ok2, l3, l4, l5, l6⟩ := levels_turn (nm := nm) (fd := fd) (v4 := v4) (v5 := v5) (v8 := some (.sh, d)) (v9 := v9) (v10 := v10) (v11 := v11) ok1 hw hw2 l1 (by omega)
      exact ⟨_, _, rfl, e2, a2, b2, ns2, ds2, _, rfl, ok2, l3, by omega, l5 nd, fun m hm2 => (l6 m hm2).elim (hm m) id⟩
  rw [rng_length] at h3
  exact ⟨a', b', ns, ds, v8', e, h1, h2, by omega, h4, h5⟩
theorem holes_loop {k : Nat} {nm : List Str} {fd : List D} {v5 v6 v7 v8 : Option Sl} (hn : nm.length ≤ 3) : ∀ (ls : List Int) (hs : List Hole) (a b : Int) (v10 v11 : Option Sl), BagOk a b → hs.length + ls.length ≤ 3 → (∀ l ∈ ls, 0 ≤ l ∧ l ≤ 1000) → (∀ h ∈ hs, HoleOk (nm.drop (k + 1)) h) →
    ∃ (a' b' : Int) (hs' : List Hole) (v10' v11' : Option Sl), loopD (hName 10) L__law_tubs_1 (ls.map D.int) (stT a b nm fd (some (.sh, .int k)) v5 v6 v7 v8 (some (.ow, .lst (hs.map hD))) v10 v11) = some (.nx (stT a' b' nm fd (some (.sh, .int k)) v5 v6 v7 v8 (some (.ow, .lst (hs'.map hD))) v10' v11')) ∧
      BagOk a' b' ∧ hs'.map (·.1) = hs.map (·.1) ++ ls ∧ ∀ h ∈ hs', HoleOk (nm.drop (k + 1)) h
  | [], hs, a, b, v10, v11, ok, _, _, hh => ⟨a, b, hs, v10, v11, rfl, ok, by simp, hh⟩
  | l :: ls, hs, a, b, v10, v11, ok, hl, hr, hh => by
    rw [List.length_cons] at hl
    obtain ⟨a1, b1, h, v11', e1, ok1, e2, ho⟩ := hole_turn (l := l) (k := k) (nm := nm) (fd := fd) (v5 := v5) (v6 := v6) (v7 := v7) (v8 := v8) (v11 := v11) (hs := hs) ok hn (by omega) (hr l (.head _)).1 (hr l (.head _)).2
    obtain ⟨a2, b2, hs2, v10', v11'', e3, ok2, e4, ho2⟩ := holes_loop hn ls (hs ++ [h]) a1 b1 (some (.sh, .int l)) v11' ok1 (by simp; omega) (fun x hx => hr x (.tail _ hx)) (fun x hx => by
      rcases List.mem_append.mp hx with z | z
      · exact hh x z
      · have : x = h := by simpa using z
        subst this; exact ho)
    refine ⟨a2, b2, hs2, v10', v11'', ?_, ok2, by rw [e4]; simp [e2], ho2⟩
    rw [List.map_cons]
    have e0 : hName 10 (.int l) (stT a b nm fd (some (.sh, .int k)) v5 v6 v7 v8 (some (.ow, .lst (hs.map hD))) v10 v11) = some (stT a b nm fd (some (.sh, .int k)) v5 v6 v7 v8 (some (.ow, .lst (hs.map hD))) (some (.sh, .int l)) v11) := rfl
    exact (loop_cons e0 e1).trans e3
theorem tub_turn {a b : Int} {k : Nat} {x : Str} {nm : List Str} {fd : List D} {v6 v7 v8 v9 v10 v11 : Option Sl} (ok : BagOk a b) (hn : nm.length ≤ 3) (hf : fd.length ≤ 3) :
    ∃ a' b' t v6' v7' v8' v9' v10' v11', L__law_tubs_3 (stT a b nm fd (some (.sh, .int k)) (some (.sh, .str x)) v6 v7 v8 v9 v10 v11) = some (.nx (stT a' b' nm (fd ++ [tD t]) (some (.sh, .int k)) (some (.sh, .str x)) v6' v7' v8' v9' v10' v11')) ∧
      BagOk a' b' ∧ t.1 = x ∧ TubOk (nm.drop (k + 1)) t := by
  obtain ⟨r1, a1, b1, e1, ok1, h10, h11⟩ := take_ok (m := 3) ok (by omega) (by omega)
  obtain ⟨d, hd, ed⟩ := atI_mem (l := [D.int 4, D.int 12, D.int 1001]) h10 (by simpa using h11)
  obtain ⟨w, rfl, hw⟩ : ∃ w, d = .int w ∧ (w = 4 ∨ w = 12 ∨ w = 1001) := by
    rcases mem_three hd with rfl | rfl | rfl
    · exact ⟨4, rfl, .inl rfl⟩
    · exact ⟨12, rfl, .inr (.inl rfl)⟩
    · exact ⟨1001, rfl, .inr (.inr rfl)⟩
  obtain ⟨r2, a2, b2, e2, ok2, h20, h21⟩ := take_ok (m := 4) ok1 (by omega) (by omega)
  obtain ⟨a3, b3, ns, ds, v8', e3, ok3, l1, l2, nd, hm⟩ := levels_loop (nm := nm) (fd := fd) (v4 := some (.sh, .int k)) (v5 := some (.sh, .str x)) (v8 := v8) (v9 := v9) (v10 := v10) (v11 := v11) (w := w) r2.toNat (by omega) ok2 (by omega) (by omega)
  obtain ⟨a4, b4, hs, v10', v11', e4, ok4, e5, ho⟩ := holes_loop (k := k) (nm := nm) (fd := fd) (v5 := some (.sh, .str x)) (v6 := some (.ow, .dK (ksI ns) ds)) (v7 := some (.sh, .int w)) (v8 := v8') hn (sortI ns) [] a3 b3 v10 v11 ok3 (by rw [(sortI_perm ns).length_eq]; simpa using l2) (fun l hl => by
    have := hm l ((sortI_perm ns).mem_iff.mp hl)
    omega) (by simp)
  obtain ⟨r5, a5, b5, e6, ok5, h50, h51⟩ := take_ok (m := 2) ok4 (by omega) (by omega)
  obtain ⟨d, hd, ed5⟩ := atI_mem (l := [D.int 3, D.int 30]) h50 (by simpa using h51)
  obtain ⟨w5, rfl, hw5⟩ : ∃ w, d = .int w ∧ (w = 3 ∨ w = 30) := by
    rcases mem_two hd with rfl | rfl
    · exact ⟨3, rfl, .inl rfl⟩
    · exact ⟨30, rfl, .inr rfl⟩
  obtain ⟨r6, a6, b6, e7, ok6, h60, h61⟩ := take_ok (m := w5) ok5 (by omega) (by omega)
  have lh : hs.length = ns.length := by
    have := congrArg List.length e5
    simpa [(sortI_perm ns).length_eq] using this
  refine ⟨a6, b6, (x, 1 + r6, hs), some (.ow, .dK (ksI ns) ds), some (.sh, .int w), v8', some (.ow, .lst (hs.map hD)), v10', v11', ?_, ok6, rfl, ⟨by show 1 ≤ 1 + r6; omega, by show 1 + r6 ≤ 1000; omega, by show hs.length ≤ 3; omega, by show (hs.map (·.1)).Pairwise (· < ·); rw [e5]; simpa using sortI_lt nd, ho⟩⟩
  unfold L__law_tubs_3
  have q1 : sSetO 6 eDNewK (stT a b nm fd (some (.sh, .int k)) (some (.sh, .str x)) v6 v7 v8 v9 v10 v11) = some (.nx (stT a b nm fd (some (.sh, .int k)) (some (.sh, .str x)) (some (.ow, .dK [] [])) v7 v8 v9 v10 v11)) := rfl
  rw [seq_nx q1]
  have q2 : sSet 7 (eIx (pE (eLst (aCons (eC (.int 4)) (aCons (eC (.int 12)) (aCons (eC (.int 1001)) aNil))))) (eCallB F__law_take 0 (aCons (eC (.int 3)) aNil))) (stT a b nm fd (some (.sh, .int k)) (some (.sh, .str x)) (some (.ow, .dK [] [])) v7 v8 v9 v10 v11) = some (.nx (stT a1 b1 nm fd (some (.sh, .int k)) (some (.sh, .str x)) (some (.ow, .dK [] [])) (some (.sh, .int w)) v8 v9 v10 v11)) := by
    simp (disch := omega) [stT, e1, ed, small_of]
  rw [seq_nx q2]
  have q3 : iRng1 (eCallB F__law_take 0 (aCons (eC (.int 4)) aNil)) (stT a1 b1 nm fd (some (.sh, .int k)) (some (.sh, .str x)) (some (.ow, .dK [] [])) (some (.sh, .int w)) v8 v9 v10 v11) = some (rng 0 r2.toNat, stT a2 b2 nm fd (some (.sh, .int k)) (some (.sh, .str x)) (some (.ow, .dK [] [])) (some (.sh, .int w)) v8 v9 v10 v11) := by
    have c : cRng r2 = true := cRng_of (by omega) (by omega)
    simp [stT, e2, c]
  rw [seq_nx ((for_of q3).trans e3)]
  have q4 : sSetO 9 (eLst aNil) (stT a3 b3 nm fd (some (.sh, .int k)) (some (.sh, .str x)) (some (.ow, .dK (ksI ns) ds)) (some (.sh, .int w)) v8' v9 v10 v11) = some (.nx (stT a3 b3 nm fd (some (.sh, .int k)) (some (.sh, .str x)) (some (.ow, .dK (ksI ns) ds)) (some (.sh, .int w)) v8' (some (.ow, .lst [])) v10 v11)) := by
    simp (disch := omega) [stT, small_of]
  rw [seq_nx q4]
  have q5 : iSeq (eB1 gSortedD (pVar 6)) (stT a3 b3 nm fd (some (.sh, .int k)) (some (.sh, .str x)) (some (.ow, .dK (ksI ns) ds)) (some (.sh, .int w)) v8' (some (.ow, .lst [])) v10 v11) = some ((sortI ns).map D.int, stT a3 b3 nm fd (some (.sh, .int k)) (some (.sh, .str x)) (some (.ow, .dK (ksI ns) ds)) (some (.sh, .int w)) v8' (some (.ow, .lst [])) v10 v11) := by
    have : ns.length < 64 := by omega
    simp [stT, ksI, kints_map, this]
  rw [seq_nx ((for_of q5).trans e4)]
  simp (disch := omega) [stT, e6, ed5, e7, small_of, tD, List.length_map]
def Named (x : Str) : Prop := x = "ann" ∨ x = "bo" ∨ x = "cy"
theorem tubs_ok2 {a b : Int} (ok : BagOk a b) : ∃ ts a' b', F__law_tubs (bagD a b) [.int 3] = some (false, tubsD ts, bagD a' b') ∧ BagOk a' b' ∧ TubsOk ts ∧ ∀ t ∈ ts, Named t.1 := by
  obtain ⟨d, a1, b1, e1, ok1, hd⟩ := of_ok ok [.lst [.str "ann", .str "bo", .str "cy"], .lst [.str "cy", .str "ann", .str "bo"]] (by simp) (by simp)
  obtain ⟨r, a2, b2, e2, ok2, h20, h21⟩ := take_ok (m := 3) ok1 (by omega) (by omega)
  obtain ⟨nm0, rfl, hl, nd, ne, nn⟩ : ∃ nm : List Str, d = .lst (nm.map D.str) ∧ nm.length = 3 ∧ nm.Nodup ∧ (∀ x ∈ nm, x ≠ "") ∧ ∀ x ∈ nm, Named x := by
    rcases mem_two hd with rfl | rfl
    · exact ⟨["ann", "bo", "cy"], rfl, rfl, by decide, by decide, by simp [Named]⟩
    · exact ⟨["cy", "ann", "bo"], rfl, rfl, by decide, by decide, by simp [Named]⟩
  have hn : (nm0.take (r.toNat + 1)).length = r.toNat + 1 := by rw [List.length_take, hl]; omega
  have nd2 : (nm0.take (r.toNat + 1)).Nodup := nd.sublist (List.take_sublist _ _)
  have ne2 : ∀ x ∈ nm0.take (r.toNat + 1), x ≠ "" := fun x hx => ne x (List.mem_of_mem_take hx)
  have nn2 : ∀ x ∈ nm0.take (r.toNat + 1), Named x := fun x hx => nn x (List.mem_of_mem_take hx)
  have hcut : cutD (nm0.map D.str) none (some (1 + r)) = (nm0.take (r.toNat + 1)).map D.str := by
    rw [show 1 + r = ((r.toNat + 1 : Nat) : Int) by omega, cut_take, List.map_take]
  generalize nm0.take (r.toNat + 1) = nm at hn nd2 ne2 nn2 hcut
  obtain ⟨s', e, a', b', ts, v4, v5, v6, v7, v8, v9, v10, v11, rfl, ok', h1, h2, h3⟩ := loop_inv0 (g := hTup (hCons (hName 4) (hCons (hName 5) hNil))) (fb := L__law_tubs_3)
    (fun i s => ∃ (a' b' : Int) (ts : List Tub) (v4 v5 v6 v7 v8 v9 v10 v11 : Option Sl), s = stT a' b' nm (ts.map tD) v4 v5 v6 v7 v8 v9 v10 v11 ∧ BagOk a' b' ∧ ts.length = i ∧ ts.map (·.1) = nm.take i ∧ ∀ (j : Nat) t, ts[j]? = some t → TubOk (nm.drop (j + 1)) t)
    (enumD 0 (nm.map D.str)) (stT a2 b2 nm [] none none none none none none none none)
    ⟨a2, b2, [], _, _, _, _, _, _, _, _, rfl, ok2, rfl, rfl, by simp⟩ fun i d s hi ⟨a3, b3, ts, v4, v5, v6, v7, v8, v9, v10, v11, hs, ok3, l1, l2, l3⟩ => by
      subst hs
      obtain ⟨x, hx, rfl⟩ := enumD_get hi
      rw [List.getElem?_map] at hx
      have hi2 : i < nm.length := by
        by_cases z : i < nm.length
        · exact z
        · simp [z] at hx
      have hxe : x = .str nm[i] := by simp [hi2] at hx; exact hx.symm
      subst hxe
      obtain ⟨a4, b4, t, v6', v7', v8', v9', v10', v11', e4, ok4, et, ht⟩ := tub_turn (k := i) (x := nm[i]) (nm := nm) (fd := ts.map tD) (v6 := v6) (v7 := v7) (v8 := v8) (v9 := v9) (v10 := v10) (v11 := v11) ok3 (by omega) (by simp; omega)
      refine ⟨_, _, ?_, e4, a4, b4, ts ++ [t], _, _, _, _, _, _, _, _, by rw [List.map_append]; rfl, ok4, by simp [l1], ?_, fun j u hj => ?_⟩
      · simp [stT]
      · rw [List.map_append, l2, List.take_add_one]
        simp [et, hi2]
      · by_cases z : j < ts.length
        · rw [List.getElem?_append_left z] at hj
          exact l3 j u hj
        · rw [List.getElem?_append_right (by omega)] at hj
          have hj2 : j - ts.length = 0 := by
            by_cases y : j - ts.length = 0
            · exact y
            · have : ([t] : List Tub)[j - ts.length]? = none := by simp; omega
              rw [this] at hj; cases hj
          rw [hj2] at hj
          simp at hj
          subst hj
          rw [show j = i by omega]
          exact ht
  rw [enumD_length, List.length_map] at h1 h2
  rw [List.take_of_length_le (Nat.le_refl _)] at h2
  refine ⟨ts, a', b', ?_, ok', ⟨by omega, by intro z; rw [z] at h1; simp at h1; omega, by rw [h2]; exact nd2, fun t ht => ne2 _ (by rw [← h2]; exact List.mem_map.mpr ⟨t, ht, rfl⟩), fun j t hj => by rw [h2]; exact h3 j t hj⟩, fun t ht => nn2 _ (by rw [← h2]; exact List.mem_map.mpr ⟨t, ht, rfl⟩)⟩
  have q1 : sSet 2 (eSl (pE (eCallB F__law_of 0 (aCons (eLst (aCons (eLst (aCons (eC (.str "ann")) (aCons (eC (.str "bo")) (aCons (eC (.str "cy")) aNil)))) (aCons (eLst (aCons (eC (.str "cy")) (aCons (eC (.str "ann")) (aCons (eC (.str "bo")) aNil)))) aNil))) aNil))) oNone (oSome (eAdd (eC (.int 1)) (eCallB F__law_take 0 (aCons (eVar 1) aNil))))) (initB 12 (bagD a b) [.int 3]) = some (.nx [some (.rf, bagD a2 b2), some (.sh, .int 3), some (.sh, .lst (nm.map D.str)), none, none, none, none, none, none, none, none, none]) := by
    simp (disch := omega) [small_of, e1, e2, hcut, List.replicate]
  have q2 : sSetO 3 (eLst aNil) [some (.rf, bagD a2 b2), some (.sh, .int 3), some (.sh, .lst (nm.map D.str)), none, none, none, none, none, none, none, none, none] = some (.nx (stT a2 b2 nm [] none none none none none none none none)) := by
    simp (disch := omega) [stT, small_of]
  have q3 : iEnum (eVar 2) (stT a2 b2 nm [] none none none none none none none none) = some (enumD 0 (nm.map D.str), stT a2 b2 nm [] none none none none none none none none) := by
    simp [stT]
  unfold F__law_tubs f__law_tubs
  simp only [runB]
  rw [seq_nx q1, seq_nx q2, seq_nx ((for_of q3).trans e)]
  have hts : ts.length ≤ 3 := by omega
  simp (disch := omega) [stT, small_of, tubsD]
theorem tubs_ok {a b : Int} (ok : BagOk a b) : ∃ ts a' b', F__law_tubs (bagD a b) [.int 3] = some (false, tubsD ts, bagD a' b') ∧ BagOk a' b' ∧ TubsOk ts := by
  obtain ⟨ts, a', b', e, ok', h, _⟩ := tubs_ok2 ok
  exact ⟨ts, a', b', e, ok', h⟩
end Px.S

set_option linter.all false
set_option Elab.async false
/-! MSize: common denominators, bounds -/
namespace Px.W
theorem q_eq (q : Rat) : q = (q.num : Rat) / (q.den : Rat) := by
  rw [← Rat.mkRat_eq_div, Rat.mkRat_self]
theorem q_mul_den (q : Rat) : q * (q.den : Rat) = (q.num : Rat) := by
  have h : (q.den : Rat) ≠ 0 := by
    have := q.den_nz
    exact_mod_cast this
  have := q_eq q
  grind
/-- q times M is whole -/
def Dn (M : Nat) (q : Rat) : Prop := ∃ z : Int, q * (M : Rat) = (z : Rat)
theorem Dn.dvd {M : Nat} {q : Rat} (h : Dn M q) : q.den ∣ M := by
  obtain ⟨z, hz⟩ := h
  have h1 := q_mul_den q
  have h2 : (q.num : Rat) * (M : Rat) = (z : Rat) * (q.den : Rat) := by rw [← h1, ← hz]; grind
  have h3 : q.num * (M : Int) = z * (q.den : Int) := by exact_mod_cast h2
  have h4 : (q.den : Int) ∣ q.num * (M : Int) := ⟨z, by rw [h3, Int.mul_comm]⟩
  have h5 : q.den ∣ q.num.natAbs * M := by
    have := Int.natAbs_dvd_natAbs.mpr h4
    simpa [Int.natAbs_mul] using this
  exact Nat.Coprime.dvd_of_dvd_mul_left q.reduced.symm h5
theorem Dn.of_dvd {M : Nat} {q : Rat} (h : q.den ∣ M) : Dn M q := by
  obtain ⟨k, rfl⟩ := h
  refine ⟨q.num * k, ?_⟩
  have := q_mul_den q
  rw [show ((q.den * k : Nat) : Rat) = (q.den : Rat) * (k : Rat) by exact_mod_cast rfl]
  rw [show ((q.num * (k : Int) : Int) : Rat) = (q.num : Rat) * (k : Rat) by exact_mod_cast rfl]
  grind
theorem Dn.add {M : Nat} {a b : Rat} (ha : Dn M a) (hb : Dn M b) : Dn M (a + b) := by
  obtain ⟨x, hx⟩ := ha
  obtain ⟨y, hy⟩ := hb
  refine ⟨x + y, ?_⟩
  rw [show ((x + y : Int) : Rat) = (x : Rat) + (y : Rat) by exact_mod_cast rfl]
  grind
theorem Dn.sub {M : Nat} {a b : Rat} (ha : Dn M a) (hb : Dn M b) : Dn M (a - b) := by
  obtain ⟨x, hx⟩ := ha
  obtain ⟨y, hy⟩ := hb
  refine ⟨x - y, ?_⟩
  rw [show ((x - y : Int) : Rat) = (x : Rat) - (y : Rat) by exact_mod_cast rfl]
  grind
theorem Dn.int {M : Nat} (n : Int) : Dn M (n : Rat) := ⟨n * M, by exact_mod_cast rfl⟩
theorem Dn.mulI {M : Nat} {a : Rat} (n : Int) (ha : Dn M a) : Dn M ((n : Rat) * a) := by
  obtain ⟨x, hx⟩ := ha
  refine ⟨n * x, ?_⟩
  rw [show ((n * x : Int) : Rat) = (n : Rat) * (x : Rat) by exact_mod_cast rfl]
  grind
theorem Dn.up {M : Nat} {a : Rat} (k : Nat) (ha : Dn M a) : Dn (M * k) a := by
  obtain ⟨x, hx⟩ := ha
  refine ⟨x * k, ?_⟩
  rw [show ((x * (k : Int) : Int) : Rat) = (x : Rat) * (k : Rat) by exact_mod_cast rfl]
  rw [show ((M * k : Nat) : Rat) = (M : Rat) * (k : Rat) by exact_mod_cast rfl]
  grind
theorem Dn.upL {M : Nat} {a : Rat} (k : Nat) (ha : Dn M a) : Dn (k * M) a := by rw [Nat.mul_comm]; exact ha.up k
/-- divided by k -/
theorem Dn.div {M : Nat} {a : Rat} {k : Nat} (hk : 0 < k) (ha : Dn M a) : Dn (M * k) (a / (k : Rat)) := by
  obtain ⟨x, hx⟩ := ha
  refine ⟨x, ?_⟩
  have : (k : Rat) ≠ 0 := by
    have : k ≠ 0 := by omega
    exact_mod_cast this
  rw [show ((M * k : Nat) : Rat) = (M : Rat) * (k : Rat) by exact_mod_cast rfl]
  grind
theorem Dn.dvdM {M N : Nat} {a : Rat} (h : M ∣ N) (ha : Dn M a) : Dn N a := by
  obtain ⟨k, rfl⟩ := h
  exact ha.up k
/-- bounds -/
def Ab (B : Nat) (q : Rat) : Prop := -(B : Rat) ≤ q ∧ q ≤ (B : Rat)
theorem Ab.num {B : Nat} {q : Rat} (h : Ab B q) : q.num.natAbs ≤ B * q.den := by
  have h1 := q_mul_den q
  have hd : (0 : Rat) ≤ (q.den : Rat) := by exact_mod_cast Nat.zero_le _
  have a1 := Rat.mul_le_mul_of_nonneg_right h.1 hd
  have a2 := Rat.mul_le_mul_of_nonneg_right h.2 hd
  rw [h1] at a1 a2
  have b2 : q.num ≤ (B : Int) * (q.den : Int) := by exact_mod_cast a2
  have a3 : -((B : Rat) * (q.den : Rat)) ≤ (q.num : Rat) := by grind
  have a4 : ((-((B : Int) * (q.den : Int)) : Int) : Rat) ≤ (q.num : Rat) := by
    rw [show ((-((B : Int) * (q.den : Int)) : Int) : Rat) = -((B : Rat) * (q.den : Rat)) by rw [Rat.intCast_neg, Rat.intCast_mul]; rfl]
    exact a3
  have b1 : -((B : Int) * (q.den : Int)) ≤ q.num := Rat.intCast_le_intCast.mp a4
  have b3 : (B : Int) * (q.den : Int) = ((B * q.den : Nat) : Int) := by simp
  rw [b3] at b2
  rw [b3] at b1
  omega
theorem mk_scale (r : Int) (g : Nat) (q : Rat) (hg : 0 < g) : mkRat (r * q.num) (g * q.den) = (r : Rat) * q / (g : Rat) := by
  rw [Rat.mkRat_eq_div]
  have h1 := q_eq q
  have hd : (q.den : Rat) ≠ 0 := by
    have := q.den_nz
    exact_mod_cast this
  have hg' : (g : Rat) ≠ 0 := by
    have : g ≠ 0 := by omega
    exact_mod_cast this
  rw [show ((r * q.num : Int) : Rat) = (r : Rat) * (q.num : Rat) by exact_mod_cast rfl]
  rw [show ((g * q.den : Nat) : Rat) = (g : Rat) * (q.den : Rat) by exact_mod_cast rfl]
  generalize hn : (q.num : Rat) = n at h1 ⊢
  generalize hdd : (q.den : Rat) = d at h1 hd ⊢
  subst h1
  grind
/-- |q| g / |r| -/
theorem mk_part (q : Rat) (g r : Nat) (hr : 0 < r) : mkRat ((q.num.natAbs : Int) * (g : Int)) (q.den * r) = (if q < 0 then -q else q) * (g : Rat) / (r : Rat) := by
  rw [Rat.mkRat_eq_div]
  have h1 := q_eq q
  have hd : (q.den : Rat) ≠ 0 := by
    have := q.den_nz
    exact_mod_cast this
  have hr' : (r : Rat) ≠ 0 := by
    have : r ≠ 0 := by omega
    exact_mod_cast this
  have h2 : ((q.num.natAbs : Int) : Rat) = (if q < 0 then -(q.num : Rat) else (q.num : Rat)) := by
    by_cases z : q < 0
    · rw [if_pos z]
      have : q.num < 0 := by
        have := (Rat.lt_iff q 0).mp z
        simpa using this
      rw [show ((q.num.natAbs : Int)) = - q.num by omega]
      exact_mod_cast rfl
    · rw [if_neg z]
      have : ¬ q.num < 0 := fun h => z ((Rat.lt_iff q 0).mpr (by simpa using h))
      rw [show ((q.num.natAbs : Int)) = q.num by omega]
  rw [show (((q.num.natAbs : Int) * (g : Int) : Int) : Rat) = ((q.num.natAbs : Int) : Rat) * (g : Rat) by exact_mod_cast rfl, h2]
  rw [show ((q.den * r : Nat) : Rat) = (q.den : Rat) * (r : Rat) by exact_mod_cast rfl]
  generalize hn : (q.num : Rat) = n at h1 ⊢
  generalize hdd : (q.den : Rat) = d at h1 hd ⊢
  by_cases z : q < 0
  · rw [if_pos z, if_pos z, h1]; grind
  · rw [if_neg z, if_neg z, h1]; grind
end Px.W

set_option Elab.async false
set_option linter.all false
set_option maxRecDepth 100000
set_option maxHeartbeats 4000000
/-! MPart: the law's drawn fraction -/
namespace Px.S
open PySem L2 Px
theorem part_ok {a b w : Int} (ok : BagOk a b) (hw : 0 ≤ w) (hw2 : w ≤ 1000) : ∃ q a' b', F__law_part (bagD a b) [.int w] = some (false, qD q, bagD a' b') ∧ BagOk a' b' ∧ (∃ (t : Int) (d : Nat), 0 ≤ t ∧ t ≤ w ∧ 1 ≤ d ∧ d ≤ 4 ∧ q = mkRat t d) := by
  obtain ⟨r1, a1, b1, e1, ok1, h10, h11⟩ := take_ok (m := w + 1) ok (by omega) (by omega)
  obtain ⟨r2, a2, b2, e2, ok2, h20, h21⟩ := take_ok (m := 2) ok1 (by omega) (by omega)
  obtain ⟨d, hd, ed⟩ := atI_mem (l := [D.int 1, D.int 4]) h20 (by simpa using h21)
  obtain ⟨v, rfl, hv⟩ : ∃ v, d = .int v ∧ (v = 1 ∨ v = 4) := by
    rcases mem_two hd with rfl | rfl
    · exact ⟨1, rfl, .inl rfl⟩
    · exact ⟨4, rfl, .inr rfl⟩
  obtain ⟨r3, a3, b3, e3, ok3, h30, h31⟩ := take_ok (m := v) ok2 (by omega) (by omega)
  obtain ⟨dn, edn⟩ : ∃ dn : Nat, 1 + r3 = dn := ⟨(1 + r3).toNat, by omega⟩
  have hdl : dn.log2 < 9000 := Nat.lt_of_le_of_lt (log2_mono (show dn ≤ 4 by omega)) (by decide)
  have e4 := lowest_ok (t := r1) (b := dn) (by omega) hdl
  rw [← edn] at e4
  refine ⟨mkRat r1 dn, a3, b3, ?_, ok3, r1, dn, h10, by omega, by omega, by omega, rfl⟩
  simp (disch := omega) [F__law_part, f__law_part, e1, e2, ed, e3, small_of, law_lowest_eq, e4]
end Px.S

set_option Elab.async false
set_option linter.all false
set_option maxRecDepth 100000
set_option maxHeartbeats 4000000
/-! MRain: the law's rain -/
namespace Px.S
open PySem L2 Px
def stR (a b : Int) (ts : List Tub) (fd : List D) (v3 v4 v5 v6 v7 v8 : Option Sl) : S := [some (.rf, bagD a b), some (.sh, tubsD ts), some (.ow, .lst fd), v3, v4, v5, v6, v7, v8]
theorem sums_loop {a b : Int} {ts : List Tub} {fd : List D} {v3 v4 v5 : Option Sl} : ∀ (hs : List Hole) (ss : List Int) (t : Int) (v8 : Option Sl), ss.length + hs.length ≤ 10 →
    (∀ h ∈ hs, 1 ≤ h.2.1 ∧ h.2.1 ≤ 100) → (∀ x ∈ ss, 0 ≤ x ∧ x ≤ 300) → 0 ≤ t → t + 100 * hs.length ≤ 300 →
    ∃ (ss' : List Int) (t' : Int) (v8' : Option Sl), loopD (hName 8) L__law_rain_1 (hs.map hD) (stR a b ts fd v3 v4 v5 (some (.ow, .lst (ss.map D.int))) (some (.sh, .int t)) v8) = some (.nx (stR a b ts fd v3 v4 v5 (some (.ow, .lst (ss'.map D.int))) (some (.sh, .int t')) v8')) ∧
      ss'.length = ss.length + hs.length ∧ ∀ x ∈ ss', 0 ≤ x ∧ x ≤ 300
  | [], ss, t, v8, _, _, h2, _, _ => ⟨ss, t, v8, rfl, by simp, h2⟩
  | h :: hs, ss, t, v8, h0, h1, h2, h3, h4 => by
    have hh := h1 h (.head _)
    rw [List.length_cons] at h0 h4
    obtain ⟨ss', t', v8', e, l, q⟩ := sums_loop (a := a) (b := b) (ts := ts) (fd := fd) (v3 := v3) (v4 := v4) (v5 := v5) hs (ss ++ [t + h.2.1]) (t + h.2.1) (some (.sh, hD h)) (by simp; omega) (fun x hx => h1 x (.tail _ hx)) (fun x hx => by
      rcases List.mem_append.mp hx with z | z
      · exact h2 x z
      · have : x = t + h.2.1 := by simpa using z
        omega) (by omega) (by omega)
    refine ⟨ss', t', v8', ?_, by rw [l]; simp; omega, q⟩
    rw [List.map_cons]
    refine (loop_cons rfl ?_).trans e
    have : ss.length ≤ 10 := by omega
    simp (disch := omega) [L__law_rain_1, stR, hD, atI, ixN, small_of]
theorem rain_turn {a b : Int} {ts : List Tub} {t : Tub} {later : List Str} {fd : List D} {v6 v7 v8 : Option Sl} (ok : BagOk a b) (ht : TubOk later t) (hf : fd.length ≤ 3) :
    ∃ (a' b' r : Int) (v6' v7' v8' : Option Sl), L__law_rain_2 (stR a b ts fd (some (.sh, .str t.1)) (some (.sh, .int t.2.1)) (some (.sh, .tup (t.2.2.map hD))) v6 v7 v8) = some (.nx (stR a' b' ts (fd ++ [.int r]) (some (.sh, .str t.1)) (some (.sh, .int t.2.1)) (some (.sh, .tup (t.2.2.map hD))) v6' v7' v8')) ∧
      BagOk a' b' ∧ 0 ≤ r ∧ r ≤ 300 := by
  have few := ht.few
  obtain ⟨ss, tt, v8', e1, l1, q1⟩ := sums_loop (a := a) (b := b) (ts := ts) (fd := fd) (v3 := some (.sh, .str t.1)) (v4 := some (.sh, .int t.2.1)) (v5 := some (.sh, .tup (t.2.2.map hD))) t.2.2 [0] 0 v8 (by simp; omega) (fun h hh => ⟨(ht.holes h hh).r0, (ht.holes h hh).r1⟩) (by simp) (by omega) (by omega)
  obtain ⟨d2, a2, b2, e2, ok2, hd2⟩ := of_ok ok (ss.map D.int) (by intro z; have := congrArg List.length z; simp [l1] at this) (by simp [l1]; omega)
  obtain ⟨n, hn, rfl⟩ := mem_ints hd2
  obtain ⟨r3, a3, b3, e3, ok3, h30, h31⟩ := take_ok (m := 8) ok2 (by omega) (by omega)
  obtain ⟨r4, a4, b4, e4, ok4, h40, h41⟩ := take_ok (m := 200) ok3 (by omega) (by omega)
  obtain ⟨r5, a5, b5, e5, ok5, h50, h51⟩ := take_ok (m := 4) ok4 (by omega) (by omega)
  obtain ⟨d, hd, ed⟩ := atI_mem (l := [D.int n, D.int r3, D.int r4, D.int 0]) h50 (by simpa using h51)
  obtain ⟨r, rfl, h0, h1⟩ : ∃ r, d = .int r ∧ 0 ≤ r ∧ r ≤ 300 := by
    have := q1 n hn
    rcases mem_four hd with rfl | rfl | rfl | rfl
    · exact ⟨_, rfl, this.1, this.2⟩
    · exact ⟨_, rfl, by omega, by omega⟩
    · exact ⟨_, rfl, by omega, by omega⟩
    · exact ⟨_, rfl, by omega, by omega⟩
  refine ⟨a5, b5, r, some (.sh, .lst (ss.map D.int)), some (.sh, .int tt), v8', ?_, ok5, h0, h1⟩
  unfold L__law_rain_2
  have p1 : sParO 6 7 (eLst (aCons (eC (.int 0)) aNil)) (.int 0) (stR a b ts fd (some (.sh, .str t.1)) (some (.sh, .int t.2.1)) (some (.sh, .tup (t.2.2.map hD))) v6 v7 v8) = some (.nx (stR a b ts fd (some (.sh, .str t.1)) (some (.sh, .int t.2.1)) (some (.sh, .tup (t.2.2.map hD))) (some (.ow, .lst ([0].map D.int))) (some (.sh, .int 0)) v8)) := by
    simp (disch := omega) [stR, small_of]
  have p2 : iSeq (eVar 5) (stR a b ts fd (some (.sh, .str t.1)) (some (.sh, .int t.2.1)) (some (.sh, .tup (t.2.2.map hD))) (some (.ow, .lst ([0].map D.int))) (some (.sh, .int 0)) v8) = some (t.2.2.map hD, stR a b ts fd (some (.sh, .str t.1)) (some (.sh, .int t.2.1)) (some (.sh, .tup (t.2.2.map hD))) (some (.ow, .lst ([0].map D.int))) (some (.sh, .int 0)) v8) := by
    simp [stR]
  rw [seq_nx p1, seq_nx ((for_of p2).trans e1)]
  simp (disch := omega) [stR, e2, e3, e4, e5, ed, small_of]
theorem rain_ok {a b : Int} {ts : List Tub} (ok : BagOk a b) (ht : TubsOk ts) : ∃ (rs : List Int) (a' b' : Int), F__law_rain (bagD a b) [tubsD ts] = some (false, .tup (rs.map D.int), bagD a' b') ∧ BagOk a' b' ∧ rs.length = ts.length ∧ ∀ r ∈ rs, 0 ≤ r ∧ r ≤ 300 := by
  have few := ht.few
  obtain ⟨s', e, a', b', rs, v3, v4, v5, v6, v7, v8, rfl, ok', h1, h2⟩ := loop_inv0 (g := hTup (hCons (hName 3) (hCons (hName 4) (hCons (hName 5) hNil)))) (fb := L__law_rain_2)
    (fun i s => ∃ (a' b' : Int) (rs : List Int) (v3 v4 v5 v6 v7 v8 : Option Sl), s = stR a' b' ts (rs.map D.int) v3 v4 v5 v6 v7 v8 ∧ BagOk a' b' ∧ rs.length = i ∧ ∀ r ∈ rs, 0 ≤ r ∧ r ≤ 300)
    (ts.map tD) (stR a b ts [] none none none none none none)
    ⟨a, b, [], _, _, _, _, _, _, rfl, ok, rfl, by simp⟩ fun i d s hi ⟨a3, b3, rs, v3, v4, v5, v6, v7, v8, hs, ok3, l1, l2⟩ => by
      subst hs
      rw [List.getElem?_map] at hi
      obtain ⟨t, ht1, rfl⟩ := Option.map_eq_some_iff.mp hi
      have hi2 := (List.getElem?_eq_some_iff.mp ht1).1
      obtain ⟨a4, b4, r, v6', v7', v8', e4, ok4, h0, h1⟩ := rain_turn (ts := ts) (fd := rs.map D.int) (v6 := v6) (v7 := v7) (v8 := v8) ok3 (ht.tub i t ht1) (by simp; omega)
      refine ⟨_, _, rfl, e4, a4, b4, rs ++ [r], _, _, _, _, _, _, by rw [List.map_append]; rfl, ok4, by simp [l1], fun x hx => ?_⟩
      rcases List.mem_append.mp hx with z | z
      · exact l2 x z
      · have : x = r := by simpa using z
        subst this; exact ⟨h0, h1⟩
  rw [List.length_map] at h1
  refine ⟨rs, a', b', ?_, ok', h1, h2⟩
  have q1 : sSetO 2 (eLst aNil) (initB 9 (bagD a b) [tubsD ts]) = some (.nx (stR a b ts [] none none none none none none)) := by
    simp (disch := omega) [small_of, stR, List.replicate]
  have q2 : iSeq (eVar 1) (stR a b ts [] none none none none none none) = some (ts.map tD, stR a b ts [] none none none none none none) := by
    simp [stR, tubsD]
  unfold F__law_rain f__law_rain
  simp only [runB]
  rw [seq_nx q1, seq_nx ((for_of q2).trans e)]
  have hts : rs.length ≤ 3 := by omega
  simp (disch := omega) [stR, small_of]
end Px.S

set_option linter.all false
set_option Elab.async false
/-! MW1: a tub's flows, rows, ways: plain mathematics over Rat -/
namespace Px.W
/-! ### flows at a height -/
abbrev Hs := List (Int × Int)
def let1 (L r : Int) (h : Rat) (c : Int) : Int := if (L : Rat) < h then r else if (L : Rat) = h then min r (max 0 c) else 0
def letsP : Hs → Rat → Int → List Int
  | [], _, _ => []
  | (L, r) :: hs, h, c => let1 L r h c :: letsP hs h (c - let1 L r h c)
def riseP : Hs → Rat → Int → Int
  | [], _, c => c
  | (L, r) :: hs, h, c => riseP hs h (c - let1 L r h c)
theorem riseP_sum : ∀ (hs : Hs) (h : Rat) (c : Int), riseP hs h c = c - (letsP hs h c).sum
  | [], _, c => by simp [riseP, letsP]
  | (L, r) :: hs, h, c => by simp [riseP, letsP, riseP_sum hs]; omega
theorem letsP_length : ∀ (hs : Hs) (h : Rat) (c : Int), (letsP hs h c).length = hs.length
  | [], _, c => rfl
  | (L, r) :: hs, h, c => by simp [letsP, letsP_length hs]
/-- heights rise, rates are above nought -/
structure HsOk (hs : Hs) : Prop where
  up : hs.Pairwise fun a b => a.1 < b.1
  pos : ∀ x ∈ hs, 0 < x.2
theorem HsOk.tail {x : Int × Int} {hs : Hs} (h : HsOk (x :: hs)) : HsOk hs := ⟨(List.pairwise_cons.mp h.up).2, fun y hy => h.pos y (.tail _ hy)⟩
/-- above all holes nothing is let by them -/
theorem above : ∀ {hs : Hs} {h : Rat} {c : Int}, (∀ x ∈ hs, h < (x.1 : Rat)) → riseP hs h c = c ∧ letsP hs h c = hs.map fun _ => 0
  | [], _, _, _ => ⟨rfl, rfl⟩
  | (L, r) :: hs, h, c, q => by
    have h1 : h < (L : Rat) := q (L, r) (.head _)
    have e : let1 L r h c = 0 := by
      unfold let1
      rw [if_neg (by grind), if_neg (by grind)]
    obtain ⟨e1, e2⟩ := above (hs := hs) (h := h) (c := c - 0) fun x hx => q x (.tail _ hx)
    constructor
    · simp only [riseP, e, e1]; omega
    · simp only [letsP, e, e2, List.map_cons]
/-- the same flows at another height, no hole being passed -/
theorem stay : ∀ {hs : Hs} {h h' : Rat} {c : Int}, HsOk hs → (∀ x ∈ hs, (x.1 : Rat) < h → (x.1 : Rat) < h') → (∀ x ∈ hs, h < (x.1 : Rat) → h' < (x.1 : Rat)) →
    (h < h' → 0 < riseP hs h c) → (h' < h → riseP hs h c < 0) → letsP hs h' c = letsP hs h c ∧ riseP hs h' c = riseP hs h c
  | [], _, _, _, _, _, _, _, _ => ⟨rfl, rfl⟩
  | (L, r) :: hs, h, h', c, ok, lo, hi, up, dn => by
    have key : let1 L r h' c = let1 L r h c := by
      have l1 := lo (L, r) (.head _)
      have l2 := hi (L, r) (.head _)
      have rp := ok.pos (L, r) (.head _)
      simp only at l1 l2 rp
      by_cases a : (L : Rat) < h
      · have b := l1 a
        unfold let1; rw [if_pos a, if_pos b]
      by_cases a2 : h < (L : Rat)
      · have b := l2 a2
        unfold let1; rw [if_neg (by grind), if_neg (by grind), if_neg (by grind), if_neg (by grind)]
      have e : (L : Rat) = h := by grind
      have ab : ∀ x ∈ hs, h < (x.1 : Rat) := fun x hx => by
        have := (List.pairwise_cons.mp ok.up).1 x hx
        have : (L : Rat) < (x.1 : Rat) := by exact_mod_cast this
        grind
      have rr : riseP ((L, r) :: hs) h c = c - let1 L r h c := by simp only [riseP]; exact (above ab).1
      have e1 : let1 L r h c = min r (max 0 c) := by unfold let1; rw [if_neg (by grind), if_pos e]
      rcases (show h < h' ∨ h = h' ∨ h' < h by grind) with z | z | z
      · have := up z
        rw [rr, e1] at this
        rw [e1]; unfold let1; rw [if_pos (by grind)]; omega
      · rw [z]
      · have := dn z
        rw [rr, e1] at this
        rw [e1]; unfold let1; rw [if_neg (by grind), if_neg (by grind)]; omega
    have := stay (hs := hs) (h := h) (h' := h') (c := c - let1 L r h c) ok.tail (fun x hx => lo x (.tail _ hx)) (fun x hx => hi x (.tail _ hx)) (fun z => up z) (fun z => dn z)
    simp only [letsP, riseP, key]
    exact ⟨by rw [this.1], this.2⟩

/-! ### rows -/
structure Row where
  t : Rat
  h : Rat
  r : Int
  l : List Int
/-- the height at an hour of a row -/
def Row.at (g : Rat) (w : Row) (t : Rat) : Rat := w.h + (w.r : Rat) * (t - w.t) / g
theorem Row.at_self (g : Rat) (w : Row) : w.at g w.t = w.h := by unfold Row.at; grind
def absR (q : Rat) : Rat := if q < 0 then -q else q
/-- no hole is come to ahead of e -/
def Free (g : Rat) (hs : Hs) (h : Rat) (r : Int) (d : Rat) : Prop :=
  ∀ x ∈ hs, (h < (x.1 : Rat) → 0 < r → d * (r : Rat) ≤ ((x.1 : Rat) - h) * g) ∧ ((x.1 : Rat) < h → r < 0 → d * (-(r : Rat)) ≤ (h - (x.1 : Rat)) * g)
structure Seg (g : Rat) (hs : Hs) (c : Rat → Int) (w : Row) (e : Rat) : Prop where
  lt : w.t < e
  cc : ∀ t, w.t ≤ t → t < e → c t = c w.t
  l : w.l = letsP hs w.h (c w.t)
  r : w.r = riseP hs w.h (c w.t)
  free : Free g hs w.h w.r (e - w.t)
def WayFrom (g : Rat) (hs : Hs) (c : Rat → Int) : List Row → Prop
  | [] => False
  | [w] => ∀ e, w.t < e → Seg g hs c w e
  | w :: w2 :: ws => Seg g hs c w w2.t ∧ w2.h = w.at g w2.t ∧ WayFrom g hs c (w2 :: ws)
/-- the row of an hour -/
def rowAt (w : Row) : List Row → Rat → Row
  | [], _ => w
  | w2 :: ws, t => if t < w2.t then w else rowAt w2 ws t
def hAt (g : Rat) (w : Row) (ws : List Row) (t : Rat) : Rat := (rowAt w ws t).at g t
theorem div_nn {a b : Rat} (ha : 0 ≤ a) (hb : 0 ≤ b) : 0 ≤ a / b := by
  rw [Rat.div_def]; exact Rat.mul_nonneg ha (by grind [Rat.inv_pos, Rat.inv_zero])
theorem mul_pos {a b : Rat} (ha : 0 < a) (hb : 0 < b) : 0 < a * b := Rat.mul_pos ha hb
theorem mulr {a b c : Rat} (h : a < b) (hc : 0 < c) : a * c < b * c := Rat.mul_lt_mul_of_pos_right h hc
theorem mulr_le {a b c : Rat} (h : a ≤ b) (hc : 0 ≤ c) : a * c ≤ b * c := Rat.mul_le_mul_of_nonneg_right h hc
/-- going on from a height at a rate, ahead of the next hole -/
theorem go_stay {g : Rat} {hs : Hs} {c : Int} {h d d' : Rat} (hg : 0 < g) (ok : HsOk hs) (fr : Free g hs h (riseP hs h c) d) (h0 : 0 ≤ d') (h1 : d' < d) :
    letsP hs (h + (riseP hs h c : Rat) * d' / g) c = letsP hs h c ∧ riseP hs (h + (riseP hs h c : Rat) * d' / g) c = riseP hs h c := by
  generalize hr : riseP hs h c = r at fr ⊢
  have eg : ∀ x : Rat, x / g * g = x := fun x => by grind
  rw [← hr]
  refine stay ok (fun x hx lt => ?_) (fun x hx lt => ?_) (fun lt => ?_) (fun lt => ?_)
  · rw [hr]
    rcases (show 0 ≤ r ∨ r < 0 by omega) with z | z
    · have z' : (0 : Rat) ≤ r := by exact_mod_cast z
      have := Rat.mul_nonneg z' h0
      have : 0 ≤ r * d' / g := by
        have := div_nn this (Rat.le_of_lt hg)
        exact this
      grind
    · have f := (fr x hx).2 lt z
      have z' : (0 : Rat) < -r := by have : (r : Rat) < 0 := by exact_mod_cast z
                                     grind
      have a1 := mulr h1 z'
      have a2 : ((x.1 : Rat) - h) * g < r * d' / g * g := by rw [eg]; grind
      have a3 : (x.1 : Rat) - h < r * d' / g := by
        rcases (show (x.1 : Rat) - h < r * d' / g ∨ r * d' / g ≤ (x.1 : Rat) - h by grind) with q | q
        · exact q
        · have := mulr_le q (Rat.le_of_lt hg); grind
      grind
  · rw [hr]
    rcases (show r ≤ 0 ∨ 0 < r by omega) with z | z
    · have z' : (0 : Rat) ≤ -r := by have : (r : Rat) ≤ 0 := by exact_mod_cast z
                                     grind
      have := Rat.mul_nonneg z' h0
      have : 0 ≤ (-r * d') / g := div_nn this (Rat.le_of_lt hg)
      have : (-r * d') / g = - (r * d' / g) := by grind
      grind
    · have f := (fr x hx).1 lt z
      have z' : (0 : Rat) < r := by exact_mod_cast z
      have a1 := mulr h1 z'
      have a2 : r * d' / g * g < ((x.1 : Rat) - h) * g := by rw [eg]; grind
      have a3 : r * d' / g < (x.1 : Rat) - h := by
        rcases (show r * d' / g < (x.1 : Rat) - h ∨ (x.1 : Rat) - h ≤ r * d' / g by grind) with q | q
        · exact q
        · have := mulr_le q (Rat.le_of_lt hg); grind
      grind
  · rw [hr] at lt ⊢
    rcases (show r ≤ 0 ∨ 0 < r by omega) with z | z
    · exfalso
      have z' : (0 : Rat) ≤ -r := by have : (r : Rat) ≤ 0 := by exact_mod_cast z
                                     grind
      have := Rat.mul_nonneg z' h0
      have : 0 ≤ (-r * d') / g := div_nn this (Rat.le_of_lt hg)
      have : (-r * d') / g = - (r * d' / g) := by grind
      grind
    · exact z
  · rw [hr] at lt ⊢
    rcases (show 0 ≤ r ∨ r < 0 by omega) with z | z
    · exfalso
      have z' : (0 : Rat) ≤ r := by exact_mod_cast z
      have := Rat.mul_nonneg z' h0
      have : 0 ≤ r * d' / g := div_nn this (Rat.le_of_lt hg)
      grind
    · exact z

section
variable {g : Rat} {hs : Hs} {c : Rat → Int} {w w2 : Row} {ws : List Row} {t s e : Rat}
/-- within a row the flows are the row's -/
theorem Seg.flows (hg : 0 < g) (ok : HsOk hs) (q : Seg g hs c w e) (h0 : w.t ≤ t) (h1 : t < e) : letsP hs (w.at g t) (c t) = w.l ∧ riseP hs (w.at g t) (c t) = w.r := by
  have fr := q.free
  rw [q.r] at fr
  have := go_stay (d' := t - w.t) hg ok fr (by grind) (by grind)
  unfold Row.at
  rw [q.cc t h0 h1, q.l, q.r]
  exact this
theorem WayFrom.seg (h : WayFrom g hs c (w :: ws)) : (∀ w2 r, ws = w2 :: r → Seg g hs c w w2.t) := by
  rintro w2 r rfl
  exact h.1
theorem WayFrom.flows (hg : 0 < g) (ok : HsOk hs) : ∀ {ws : List Row} {w : Row}, WayFrom g hs c (w :: ws) → w.t ≤ t → letsP hs (hAt g w ws t) (c t) = (rowAt w ws t).l ∧ riseP hs (hAt g w ws t) (c t) = (rowAt w ws t).r
  | [], w, h, h0 => by
    simp only [hAt, rowAt]
    exact (h (t + 1) (by grind)).flows hg ok h0 (by grind)
  | w2 :: ws, w, h, h0 => by
    unfold hAt
    simp only [rowAt]
    by_cases z : t < w2.t
    · rw [if_pos z]
      exact h.1.flows hg ok h0 z
    · rw [if_neg z]
      exact WayFrom.flows hg ok h.2.2 (by grind)
theorem Free.later {hs : Hs} {h : Rat} {r : Int} {d d' : Rat} (hg : 0 < g) (h0 : 0 ≤ d') (f : Free g hs h r d) : Free g hs (h + (r : Rat) * d' / g) r (d - d') := fun x hx => by
  have eg : r * d' / g * g = r * d' := by grind
  constructor
  · intro lt z
    have z' : (0 : Rat) ≤ r := by exact_mod_cast (show 0 ≤ r by omega)
    have := div_nn (Rat.mul_nonneg z' h0) (Rat.le_of_lt hg)
    have key := (f x hx).1 (by grind) z
    grind
  · intro lt z
    have z' : (0 : Rat) ≤ -r := by
      have : (r : Rat) ≤ 0 := by exact_mod_cast (show r ≤ 0 by omega)
      grind
    have := div_nn (Rat.mul_nonneg z' h0) (Rat.le_of_lt hg)
    have e2 : (-r * d') / g = - (r * d' / g) := by grind
    have key := (f x hx).2 (by grind) z
    grind
theorem rowAt_start (h : WayFrom g hs c (w :: ws)) : rowAt w ws w.t = w := by
  cases ws with
  | nil => rfl
  | cons w2 ws => simp only [rowAt]; rw [if_pos h.1.lt]
theorem hAt_start (h : WayFrom g hs c (w :: ws)) : hAt g w ws w.t = w.h := by
  unfold hAt; rw [rowAt_start h, Row.at_self]
theorem rowAt_lt (h : t < w2.t) : rowAt w (w2 :: ws) t = w := by simp only [rowAt]; rw [if_pos h]
theorem rowAt_ge (h : ¬ t < w2.t) : rowAt w (w2 :: ws) t = rowAt w2 ws t := by simp only [rowAt]; rw [if_neg h]
theorem hAt_lt (h : t < w2.t) : hAt g w (w2 :: ws) t = w.at g t := by unfold hAt; rw [rowAt_lt h]
theorem hAt_ge (h : ¬ t < w2.t) : hAt g w (w2 :: ws) t = hAt g w2 ws t := by unfold hAt; rw [rowAt_ge h]
/-- a way goes on evenly till the next hole is come to or something else comes -/
theorem WayFrom.lin (hg : 0 < g) (ok : HsOk hs) : ∀ {ws : List Row} {w : Row} {s e : Rat}, WayFrom g hs c (w :: ws) → w.t ≤ s → s < e → (∀ t, s ≤ t → t < e → c t = c s) → Free g hs (hAt g w ws s) (rowAt w ws s).r (e - s) →
    (∀ t, s ≤ t → t ≤ e → hAt g w ws t = hAt g w ws s + ((rowAt w ws s).r : Rat) * (t - s) / g) ∧ ∀ t, s ≤ t → t < e → (rowAt w ws t).r = (rowAt w ws s).r ∧ (rowAt w ws t).l = (rowAt w ws s).l
  | [], w, s, e, h, h0, h1, hc, fr => by
    refine ⟨fun t _ _ => ?_, fun t _ _ => ⟨rfl, rfl⟩⟩
    simp only [hAt, rowAt, Row.at]; grind
  | w2 :: ws, w, s, e, h, h0, h1, hc, fr => by
    by_cases z : s < w2.t
    · rw [hAt_lt z, rowAt_lt z] at *
      have e2 : w2.h = w.at g s + (w.r : Rat) * (w2.t - s) / g := by rw [h.2.1]; simp only [Row.at]; grind
      by_cases y : w2.t < e
      · have fl := h.1.flows hg ok h0 z
        have fr' := fr
        rw [← fl.2] at fr'
        have st := go_stay (d' := w2.t - s) hg ok fr' (by grind) (by grind)
        rw [fl.1, fl.2, ← e2] at st
        have f2 := h.2.2.flows (t := w2.t) hg ok (by grind)
        rw [hAt_start h.2.2, rowAt_start h.2.2, hc w2.t (by grind) y] at f2
        have er : w2.r = w.r := f2.2.symm.trans st.2
        have el : w2.l = w.l := f2.1.symm.trans st.1
        have fr2 := fr.later (d' := w2.t - s) hg (by grind)
        rw [← e2] at fr2
        have ih := WayFrom.lin hg ok h.2.2 (s := w2.t) (e := e) (by grind) y (fun t a b => (hc t (by grind) b).trans (hc w2.t (by grind) y).symm) (by
          rw [hAt_start h.2.2, rowAt_start h.2.2, er]
          have : e - s - (w2.t - s) = e - w2.t := by grind
          rw [← this]; exact fr2)
        rw [hAt_start h.2.2, rowAt_start h.2.2] at ih
        refine ⟨fun t a b => ?_, fun t a b => ?_⟩
        · by_cases x : t < w2.t
          · rw [hAt_lt x]; simp only [Row.at]; grind
          · rw [hAt_ge x, ih.1 t (by grind) b, er, e2]; grind
        · by_cases x : t < w2.t
          · rw [rowAt_lt x]; exact ⟨rfl, rfl⟩
          · rw [rowAt_ge x, (ih.2 t (by grind) b).1, (ih.2 t (by grind) b).2, er, el]; exact ⟨rfl, rfl⟩
      · refine ⟨fun t a b => ?_, fun t a b => ?_⟩
        · by_cases x : t < w2.t
          · rw [hAt_lt x]; simp only [Row.at]; grind
          · have : t = w2.t := by grind
            rw [hAt_ge x, this, hAt_start h.2.2, e2]
        · rw [rowAt_lt (show t < w2.t by grind)]; exact ⟨rfl, rfl⟩
    · have ih := WayFrom.lin hg ok h.2.2 (s := s) (e := e) (by grind) h1 hc (by rw [hAt_ge z, rowAt_ge z] at fr; exact fr)
      refine ⟨fun t a b => ?_, fun t a b => ?_⟩
      · rw [hAt_ge z, rowAt_ge z, hAt_ge (show ¬ t < w2.t by grind)]; exact ih.1 t a b
      · rw [rowAt_ge z, rowAt_ge (show ¬ t < w2.t by grind)]; exact ih.2 t a b
/-- a hole come to is a row's beginning -/
theorem WayFrom.turn (hg : 0 < g) : ∀ {ws : List Row} {w : Row} {s e : Rat} {r : Int} {x : Int × Int}, WayFrom g hs c (w :: ws) → w.t ≤ s → s < e → (∀ t, s ≤ t → t < e → (rowAt w ws t).r = r) → r ≠ 0 → x ∈ hs → hAt g w ws e = (x.1 : Rat) → ∃ v ∈ ws, v.t = e
  | [], w, s, e, r, x, h, h0, h1, hr, r0, hx, he => by
    exfalso
    have q := h (e + 1) (by grind)
    have r1 : w.r = r := hr s (by grind) h1
    simp only [hAt, rowAt, Row.at] at he
    have f := q.free x hx
    have eg : w.r * (e - w.t) / g * g = w.r * (e - w.t) := by grind
    rcases (show 0 < r ∨ r < 0 by omega) with z | z
    · have z' : (0 : Rat) < w.r := by rw [r1]; exact_mod_cast z
      have p := mul_pos z' (show 0 < e - w.t by grind)
      have p2 : 0 < w.r * (e - w.t) / g := by rw [Rat.div_def]; exact mul_pos p (Rat.inv_pos.mpr hg)
      have := f.1 (by grind) (by omega)
      have k : ((x.1 : Rat) - w.h) * g = w.r * (e - w.t) := by rw [← he]; grind
      grind
    · have z' : (0 : Rat) < -w.r := by
        rw [r1]
        have : (r : Rat) < 0 := by exact_mod_cast z
        grind
      have p := mul_pos z' (show 0 < e - w.t by grind)
      have p2 : 0 < (-w.r * (e - w.t)) / g := by rw [Rat.div_def]; exact mul_pos p (Rat.inv_pos.mpr hg)
      have p3 : (-w.r * (e - w.t)) / g = -(w.r * (e - w.t) / g) := by grind
      have := f.2 (by grind) (by omega)
      have k : ((x.1 : Rat) - w.h) * g = w.r * (e - w.t) := by rw [← he]; grind
      grind
  | w2 :: ws, w, s, e, r, x, h, h0, h1, hr, r0, hx, he => by
    by_cases y : e = w2.t
    · exact ⟨w2, .head _, y.symm⟩
    by_cases z : e < w2.t
    · exfalso
      have q := h.1
      have r1 : w.r = r := by
        have := hr s (by grind) h1
        rwa [rowAt_lt (by grind)] at this
      rw [hAt_lt z] at he
      simp only [Row.at] at he
      have f := q.free x hx
      have eg : w.r * (e - w.t) / g * g = w.r * (e - w.t) := by grind
      rcases (show 0 < r ∨ r < 0 by omega) with z2 | z2
      · have z' : (0 : Rat) < w.r := by rw [r1]; exact_mod_cast z2
        have p := mul_pos z' (show 0 < e - w.t by grind)
        have p1 := mul_pos z' (show 0 < w2.t - e by grind)
        have p2 : 0 < w.r * (e - w.t) / g := by rw [Rat.div_def]; exact mul_pos p (Rat.inv_pos.mpr hg)
        have := f.1 (by grind) (by omega)
        have k : ((x.1 : Rat) - w.h) * g = w.r * (e - w.t) := by rw [← he]; grind
        grind
      · have z' : (0 : Rat) < -w.r := by
          rw [r1]
          have : (r : Rat) < 0 := by exact_mod_cast z2
          grind
        have p := mul_pos z' (show 0 < e - w.t by grind)
        have p1 := mul_pos z' (show 0 < w2.t - e by grind)
        have p2 : 0 < (-w.r * (e - w.t)) / g := by rw [Rat.div_def]; exact mul_pos p (Rat.inv_pos.mpr hg)
        have p3 : (-w.r * (e - w.t)) / g = -(w.r * (e - w.t) / g) := by grind
        have := f.2 (by grind) (by omega)
        have k : ((x.1 : Rat) - w.h) * g = w.r * (e - w.t) := by rw [← he]; grind
        grind
    · rw [hAt_ge z] at he
      by_cases x2 : s < w2.t
      · obtain ⟨v, hv, e2⟩ := WayFrom.turn hg h.2.2 (s := w2.t) (e := e) (r := r) (by grind) (by grind) (fun t a b => by
          have := hr t (by grind) b
          rwa [rowAt_ge (by grind)] at this) r0 hx he
        exact ⟨v, .tail _ hv, e2⟩
      · obtain ⟨v, hv, e2⟩ := WayFrom.turn hg h.2.2 (s := s) (e := e) (r := r) (by grind) (by grind) (fun t a b => by
          have := hr t (by grind) b
          rwa [rowAt_ge (by grind)] at this) r0 hx he
        exact ⟨v, .tail _ hv, e2⟩
end
end Px.W

set_option Elab.async false
set_option linter.all false
set_option maxRecDepth 100000
set_option maxHeartbeats 4000000
/-! MLets: what holes let -/
namespace Px.S
open PySem L2 Px
def lr (h : Hole) : Int × Int := (h.1, h.2.1)
abbrev hsOf (hs : List Hole) : W.Hs := hs.map lr
theorem Fit.int {n : Int} (h : n.natAbs < 2 ^ 60) : Fit (n : Rat) := by
  refine ⟨?_, ?_⟩
  · rw [Rat.den_intCast]; decide
  · rw [Rat.num_intCast]; have := log2_lt (i := n) (n := 60) h (by omega); omega
/-- holes within bounds -/
def HB (hs : List Hole) : Prop := ∀ h ∈ hs, 0 ≤ h.1 ∧ h.1 ≤ 5000 ∧ 1 ≤ h.2.1 ∧ h.2.1 ≤ 500
theorem HB.tail {h : Hole} {hs : List Hole} (q : HB (h :: hs)) : HB hs := fun x hx => q x (.tail _ hx)
theorem HB.fit {hs : List Hole} (q : HB hs) {h : Hole} (hh : h ∈ hs) : Fit (h.1 : Rat) := Fit.int (by have := q h hh; omega)
theorem atH0 (h : Hole) : atI [D.int h.1, D.int h.2.1, D.str h.2.2] 0 = some (.int h.1) := rfl
theorem atH1 (h : Hole) : atI [D.int h.1, D.int h.2.1, D.str h.2.2] 1 = some (.int h.2.1) := rfl
theorem atH2 (h : Hole) : atI [D.int h.1, D.int h.2.1, D.str h.2.2] 2 = some (.str h.2.2) := rfl
theorem atLast (l : List D) (a : D) : atI (l ++ [a]) (-1) = some a := by
  unfold atI ixN
  rw [if_neg (by omega), if_pos (by simp; omega)]
  simp
  rw [show (-1 + ((l.length : Int) + 1)).toNat = l.length by omega]
  simp
theorem lets_loop {v0 v2 : Option Sl} {ht : Rat} (hf : Fit ht) : ∀ (hs : List Hole) (fd : List Int) (rest : Int) (v5 : Option Sl), HB hs → fd.length + hs.length ≤ 100 →
    ∃ v4' v5', loopD (hName 5) L_lets_of_1 (hs.map hD) [v0, some (.sh, qD ht), v2, some (.ow, .lst (fd.map D.int)), some (.sh, .int rest), v5] = some (.nx [v0, some (.sh, qD ht), v2, some (.ow, .lst ((fd ++ W.letsP (hsOf hs) ht rest).map D.int)), v4', v5'])
  | [], fd, rest, v5, _, _ => ⟨_, _, by simp [W.letsP]; exact ⟨rfl, rfl⟩⟩
  | h :: hs, fd, rest, v5, hb, hl => by
    rw [List.length_cons] at hl
    have hh := hb h (.head _)
    obtain ⟨v4', v5', e⟩ := lets_loop (v0 := v0) (v2 := v2) hf hs (fd ++ [W.let1 h.1 h.2.1 ht rest]) (rest - W.let1 h.1 h.2.1 ht rest) (some (.sh, hD h)) hb.tail (by simp; omega)
    refine ⟨v4', v5', ?_⟩
    have e1 : fd ++ [W.let1 h.1 h.2.1 ht rest] ++ W.letsP (hsOf hs) ht (rest - W.let1 h.1 h.2.1 ht rest) = fd ++ W.letsP (hsOf (h :: hs)) ht rest := by simp [W.letsP, lr]
    rw [← e1, ← e, List.map_cons]
    refine loop_cons rfl ?_
    have e2 := lesser_ok (a := (h.1 : Rat)) (b := ht) (hb.fit (.head _)) hf
    rw [qD_int] at e2
    have e3 := eqD_q (h.1 : Rat) ht
    rw [qD_int] at e3
    have o3 := okD_q (h.1 : Rat)
    rw [qD_int] at o3
    by_cases z : (h.1 : Rat) < ht
    · have w : W.let1 h.1 h.2.1 ht rest = h.2.1 := by unfold W.let1; rw [if_pos z]
      simp (disch := omega) [L_lets_of_1, hD, atH0, atH1, e2, z, small_of, w, atLast]
    · by_cases y : (h.1 : Rat) = ht
      · have w : W.let1 h.1 h.2.1 ht rest = (if (if rest > 0 then rest else 0) < h.2.1 then (if rest > 0 then rest else 0) else h.2.1) := by
          unfold W.let1; rw [if_neg z, if_pos y]; split <;> split <;> omega
        simp (disch := omega) [L_lets_of_1, hD, atH0, atH1, e2, z, small_of, e3, o3, okD_q, y, ← w, atLast]
      · have w : W.let1 h.1 h.2.1 ht rest = 0 := by unfold W.let1; rw [if_neg z, if_neg y]
        simp (disch := omega) [L_lets_of_1, hD, atH0, atH1, e2, z, small_of, e3, o3, okD_q, y, w, atLast]
theorem lets_of_ok {hs : List Hole} {ht : Rat} {c : Int} (hf : Fit ht) (hb : HB hs) (hl : hs.length ≤ 3) : F_lets_of [.tup (hs.map hD), qD ht, .int c] = some (false, .lst ((W.letsP (hsOf hs) ht c).map D.int)) := by
  obtain ⟨v4, v5, e⟩ := lets_loop (v0 := some (.sh, .tup (hs.map hD))) (v2 := some (.sh, .int c)) hf hs [] c none hb (by simp; omega)
  have p1 : sSetO 3 (eLst aNil) (init 6 [.tup (hs.map hD), qD ht, .int c]) = some (.nx [some (.sh, .tup (hs.map hD)), some (.sh, qD ht), some (.sh, .int c), some (.ow, .lst []), none, none]) := rfl
  have p2 : sSet 4 (eVar 2) [some (.sh, .tup (hs.map hD)), some (.sh, qD ht), some (.sh, .int c), some (.ow, .lst []), none, none] = some (.nx [some (.sh, .tup (hs.map hD)), some (.sh, qD ht), some (.sh, .int c), some (.ow, .lst []), some (.sh, .int c), none]) := rfl
  have p3 : iSeq (eVar 0) [some (.sh, .tup (hs.map hD)), some (.sh, qD ht), some (.sh, .int c), some (.ow, .lst []), some (.sh, .int c), none] = some (hs.map hD, [some (.sh, .tup (hs.map hD)), some (.sh, qD ht), some (.sh, .int c), some (.ow, .lst []), some (.sh, .int c), none]) := rfl
  unfold F_lets_of f_lets_of
  simp only [runF]
  rw [seq_nx p1, seq_nx p2, seq_nx ((for_of p3).trans e)]
  rfl
theorem llets_loop {H : D} {ht : Rat} {c : Int} (hf : Fit ht) : ∀ (hs : List Hole) (k : Nat) (fd : List Int) (v4 v5 v6 v7 : Option Sl), HB hs → fd.length + hs.length ≤ 100 →
    ∃ v4' v5' v6' v7', loopD (hTup (hCons (hName 4) (hCons (hName 5) hNil))) L__law_lets_1 (enumD k (hs.map hD)) [some (.sh, H), some (.sh, qD ht), some (.sh, .int c), some (.ow, .lst (fd.map D.int)), v4, v5, v6, v7] = some (.nx [some (.sh, H), some (.sh, qD ht), some (.sh, .int c), some (.ow, .lst ((fd ++ W.letsP (hsOf hs) ht (c - fd.sum)).map D.int)), v4', v5', v6', v7'])
  | [], k, fd, v4, v5, v6, v7, _, _ => ⟨v4, v5, v6, v7, by simp [W.letsP]⟩
  | h :: hs, k, fd, v4, v5, v6, v7, hb, hl => by
    rw [List.length_cons] at hl
    have hh := hb h (.head _)
    obtain ⟨v4', v5', v6', v7', e⟩ := llets_loop (H := H) (c := c) hf hs (k + 1) (fd ++ [W.let1 h.1 h.2.1 ht (c - fd.sum)]) (some (.sh, .int k)) (some (.sh, hD h)) (some (.sh, .tup [.int h.1, .int 1])) (some (.sh, .int (c - fd.sum))) hb.tail (by simp; omega)
    refine ⟨v4', v5', v6', v7', ?_⟩
    have e1 : fd ++ [W.let1 h.1 h.2.1 ht (c - fd.sum)] ++ W.letsP (hsOf hs) ht (c - (fd ++ [W.let1 h.1 h.2.1 ht (c - fd.sum)]).sum) = fd ++ W.letsP (hsOf (h :: hs)) ht (c - fd.sum) := by
      have : c - (fd ++ [W.let1 h.1 h.2.1 ht (c - fd.sum)]).sum = c - fd.sum - W.let1 h.1 h.2.1 ht (c - fd.sum) := by simp; omega
      rw [this]; simp [W.letsP, lr]
    rw [← e1, ← e, List.map_cons]
    show loopD _ _ (D.tup [.int k, hD h] :: enumD (k + 1) (hs.map hD)) _ = _
    refine loop_cons rfl ?_
    have e2 := lesser_ok (a := (h.1 : Rat)) (b := ht) (hb.fit (.head _)) hf
    rw [qD_int] at e2
    have e3 := eqD_q (h.1 : Rat) ht
    rw [qD_int] at e3
    have o3 := okD_q (h.1 : Rat)
    rw [qD_int] at o3
    have hi : ints? (fd.map D.int) = some fd := by
      clear hl e1 e
      induction fd with
      | nil => rfl
      | cons a l ih => simp [ih]
    by_cases z : (h.1 : Rat) < ht
    · have w : W.let1 h.1 h.2.1 ht (c - fd.sum) = h.2.1 := by unfold W.let1; rw [if_pos z]
      simp (disch := omega) [L__law_lets_1, hD, atH0, atH1, law_less_eq, e2, z, small_of, w, hi]
    · by_cases y : (h.1 : Rat) = ht
      · have w : W.let1 h.1 h.2.1 ht (c - fd.sum) = (if (if c - fd.sum < h.2.1 then c - fd.sum else h.2.1) > 0 then (if c - fd.sum < h.2.1 then c - fd.sum else h.2.1) else 0) := by
          unfold W.let1; rw [if_neg z, if_pos y]; split <;> split <;> omega
        simp (disch := omega) [L__law_lets_1, hD, atH0, atH1, law_less_eq, e2, z, small_of, e3, o3, okD_q, y, ← w, hi]
      · have w : W.let1 h.1 h.2.1 ht (c - fd.sum) = 0 := by unfold W.let1; rw [if_neg z, if_neg y]
        simp (disch := omega) [L__law_lets_1, hD, atH0, atH1, law_less_eq, e2, z, small_of, e3, o3, okD_q, y, w, hi]
theorem law_lets_ok {hs : List Hole} {ht : Rat} {c : Int} (hf : Fit ht) (hb : HB hs) (hl : hs.length ≤ 3) : F__law_lets [.tup (hs.map hD), qD ht, .int c] = some (false, .lst ((W.letsP (hsOf hs) ht c).map D.int)) := by
  obtain ⟨v4, v5, v6, v7, e⟩ := llets_loop (H := .tup (hs.map hD)) (c := c) hf hs 0 [] none none none none hb (by simp; omega)
  simp only [List.nil_append, List.sum_nil, Int.sub_zero, List.map_nil] at e
  have p1 : sSetO 3 (eLst aNil) (init 8 [.tup (hs.map hD), qD ht, .int c]) = some (.nx [some (.sh, .tup (hs.map hD)), some (.sh, qD ht), some (.sh, .int c), some (.ow, .lst []), none, none, none, none]) := rfl
  have p3 : iEnum (eVar 0) [some (.sh, .tup (hs.map hD)), some (.sh, qD ht), some (.sh, .int c), some (.ow, .lst []), none, none, none, none] = some (enumD 0 (hs.map hD), [some (.sh, .tup (hs.map hD)), some (.sh, qD ht), some (.sh, .int c), some (.ow, .lst []), none, none, none, none]) := rfl
  unfold F__law_lets f__law_lets
  simp only [runF]
  rw [seq_nx p1, seq_nx ((for_of p3).trans e)]
  rfl
end Px.S

set_option linter.all false
set_option Elab.async false
/-! MW2: the way of one tub -/
namespace Px.W
/-- the hole x lies ahead -/
def Cond (h : Rat) (r : Int) (x : Int × Int) : Prop := (h < (x.1 : Rat) ∧ 0 < r) ∨ ((x.1 : Rat) < h ∧ r < 0)
instance (h : Rat) (r : Int) (x : Int × Int) : Decidable (Cond h r x) := by unfold Cond; exact inferInstance
/-- how long till it is come to -/
def part (g : Rat) (h : Rat) (r : Int) (x : Int × Int) : Rat := ((x.1 : Rat) - h) * g / (r : Rat)
def goalP (g h : Rat) (r : Int) : Hs → Option Rat
  | [] => none
  | x :: hs => match goalP g h r hs with
    | none => if Cond h r x then some (part g h r x) else none
    | some d => if Cond h r x ∧ part g h r x < d then some (part g h r x) else some d
structure IsGoal (g h : Rat) (r : Int) (hs : Hs) (o : Option Rat) : Prop where
  no : o = none → ∀ x ∈ hs, ¬ Cond h r x
  yes : ∀ d, o = some d → (∃ x ∈ hs, Cond h r x ∧ d = part g h r x) ∧ ∀ x ∈ hs, Cond h r x → d ≤ part g h r x
theorem goalP_is (g h : Rat) (r : Int) : ∀ hs, IsGoal g h r hs (goalP g h r hs)
  | [] => ⟨fun _ x hx => (by cases hx), fun d e => (by cases e)⟩
  | x :: hs => by
    have ih := goalP_is g h r hs
    simp only [goalP]
    cases q : goalP g h r hs with
    | none =>
      have no := ih.no q
      by_cases z : Cond h r x
      · rw [if_pos z]
        refine ⟨fun e => (by cases e), fun d e => ?_⟩
        cases e
        refine ⟨⟨x, .head _, z, rfl⟩, fun y hy hc => ?_⟩
        rcases List.mem_cons.mp hy with e | e
        · subst e; exact Rat.le_refl
        · exact absurd hc (no y e)
      · rw [if_neg z]
        refine ⟨fun _ y hy => ?_, fun d e => (by cases e)⟩
        rcases List.mem_cons.mp hy with e | e
        · subst e; exact z
        · exact no y e
    | some d =>
      obtain ⟨⟨x0, h0, c0, e0⟩, mn⟩ := ih.yes d q
      by_cases z : Cond h r x ∧ part g h r x < d
      · simp only [if_pos z]
        refine ⟨fun e => (by cases e), fun d' e => ?_⟩
        cases e
        refine ⟨⟨x, .head _, z.1, rfl⟩, fun y hy hc => ?_⟩
        rcases List.mem_cons.mp hy with e | e
        · subst e; exact Rat.le_refl
        · have := mn y e hc; grind
      · simp only [if_neg z]
        refine ⟨fun e => (by cases e), fun d' e => ?_⟩
        cases e
        refine ⟨⟨x0, .tail _ h0, c0, e0⟩, fun y hy hc => ?_⟩
        rcases List.mem_cons.mp hy with e | e
        · subst e
          by_cases w : part g h r y < d
          · exact absurd ⟨hc, w⟩ z
          · grind
        · exact mn y e hc
theorem IsGoal.uniq {g h : Rat} {r : Int} {hs : Hs} {o o' : Option Rat} (a : IsGoal g h r hs o) (b : IsGoal g h r hs o') : o = o' := by
  cases o with
  | none =>
    cases o' with
    | none => rfl
    | some d =>
      obtain ⟨⟨x, hx, hc, _⟩, _⟩ := b.yes d rfl
      exact absurd hc (a.no rfl x hx)
  | some d =>
    obtain ⟨⟨x, hx, hc, ex⟩, mx⟩ := a.yes d rfl
    cases o' with
    | none => exact absurd hc (b.no rfl x hx)
    | some d' =>
      obtain ⟨⟨y, hy, hc', ey⟩, my⟩ := b.yes d' rfl
      have h1 := mx y hy hc'
      have h2 := my x hx hc
      have : d = d' := by grind
      rw [this]
theorem part_pos {g h : Rat} {r : Int} {x : Int × Int} (hg : 0 < g) (hc : Cond h r x) : 0 < part g h r x := by
  unfold part
  rcases hc with ⟨a, b⟩ | ⟨a, b⟩
  · have b' : (0 : Rat) < r := by exact_mod_cast b
    rw [Rat.div_def]
    exact mul_pos (mul_pos (by grind) hg) (Rat.inv_pos.mpr b')
  · have b' : (0 : Rat) < -r := by
      have : (r : Rat) < 0 := by exact_mod_cast b
      grind
    have : ((x.1 : Rat) - h) * g / (r : Rat) = ((h - (x.1 : Rat)) * g) / (-(r : Rat)) := by grind
    rw [this, Rat.div_def]
    exact mul_pos (mul_pos (by grind) hg) (Rat.inv_pos.mpr b')
/-- part times the rate -/
theorem part_mul {g h : Rat} {r : Int} {x : Int × Int} (hr : r ≠ 0) : part g h r x * (r : Rat) = ((x.1 : Rat) - h) * g := by
  have : (r : Rat) ≠ 0 := by exact_mod_cast hr
  unfold part; grind
theorem cond_ne {h : Rat} {r : Int} {x : Int × Int} (hc : Cond h r x) : r ≠ 0 := by rcases hc with ⟨_, b⟩ | ⟨_, b⟩ <;> omega
/-- nothing is come to within d -/
theorem free_of {g h d : Rat} {r : Int} {hs : Hs} (hg : 0 < g) (hd : ∀ x ∈ hs, Cond h r x → d ≤ part g h r x) : Free g hs h r d := fun x hx => by
  constructor
  · intro a b
    have hc : Cond h r x := .inl ⟨a, b⟩
    have b' : (0 : Rat) ≤ r := by exact_mod_cast (show 0 ≤ r by omega)
    have := mulr_le (hd x hx hc) b'
    rw [part_mul (cond_ne hc)] at this
    exact this
  · intro a b
    have hc : Cond h r x := .inr ⟨a, b⟩
    have b' : (0 : Rat) ≤ -r := by
      have : (r : Rat) ≤ 0 := by exact_mod_cast (show r ≤ 0 by omega)
      grind
    have := mulr_le (hd x hx hc) b'
    have e := part_mul (g := g) (h := h) (x := x) (cond_ne hc)
    grind
theorem free_inv {g h d : Rat} {r : Int} {hs : Hs} (hg : 0 < g) (f : Free g hs h r d) : ∀ x ∈ hs, Cond h r x → d ≤ part g h r x := fun x hx hc => by
  have e := part_mul (g := g) (h := h) (x := x) (cond_ne hc)
  rcases hc with ⟨a, b⟩ | ⟨a, b⟩
  · have := (f x hx).1 a b
    have b' : (0 : Rat) < r := by exact_mod_cast b
    rcases (show d ≤ part g h r x ∨ part g h r x < d by grind) with q | q
    · exact q
    · have := mulr q b'; grind
  · have := (f x hx).2 a b
    have b' : (0 : Rat) < -r := by
      have : (r : Rat) < 0 := by exact_mod_cast b
      grind
    rcases (show d ≤ part g h r x ∨ part g h r x < d by grind) with q | q
    · exact q
    · have := mulr q b'; grind
/-- what comes next -/
def nextP (here : Rat) (goal : Option Rat) (e : Option Rat) : Option Rat := match goal, e with
  | none, e => e
  | some d, none => some (here + d)
  | some d, some E => if here + d < E then some (here + d) else some E
def piece (g : Rat) (hs : Hs) (c : Int) (e : Option Rat) : Nat → Rat → Rat → List Row × Rat
  | 0, _, h => ([], h)
  | n + 1, here, h =>
    let w : Row := ⟨here, h, riseP hs h c, letsP hs h c⟩
    match nextP here (goalP g h (riseP hs h c) hs) e with
    | none => ([w], h)
    | some t => if some t = e then ([w], w.at g t) else (w :: (piece g hs c e n t (w.at g t)).1, (piece g hs c e n t (w.at g t)).2)
/-- how many holes lie ahead -/
def ahead (hs : Hs) (h : Rat) (r : Int) : Nat := hs.countP fun x => decide (Cond h r x)
theorem countP_lt {α : Type} {p q : α → Bool} : ∀ {l : List α}, (∀ x ∈ l, p x = true → q x = true) → (∃ x ∈ l, q x = true ∧ p x = false) → l.countP p < l.countP q
  | [], _, ⟨x, hx, _⟩ => by cases hx
  | a :: l, hpq, ⟨x, hx, h1, h2⟩ => by
    have le : l.countP p ≤ l.countP q := List.countP_mono_left fun y hy => hpq y (.tail _ hy)
    rcases List.mem_cons.mp hx with e | e
    · subst e
      rw [List.countP_cons_of_neg (by simp [h2]), List.countP_cons_of_pos h1]; omega
    · have ih := countP_lt (fun y hy => hpq y (.tail _ hy)) ⟨x, e, h1, h2⟩
      by_cases z : p a = true
      · rw [List.countP_cons_of_pos z, List.countP_cons_of_pos (hpq a (.head _) z)]; omega
      · rw [List.countP_cons_of_neg z]
        by_cases y : q a = true
        · rw [List.countP_cons_of_pos y]; omega
        · rw [List.countP_cons_of_neg y]; omega
/-- at a hole the rate is the same way, or nought -/
theorem rise_up : ∀ {hs : Hs} {h : Rat} {c : Int} {x : Int × Int}, HsOk hs → x ∈ hs → h < (x.1 : Rat) → (∀ y ∈ hs, h < (y.1 : Rat) → x.1 ≤ y.1) → 0 < riseP hs h c → 0 ≤ riseP hs (x.1 : Rat) c
  | [], _, _, _, _, hx, _, _, _ => by cases hx
  | (L, r) :: hs, h, c, x, ok, hx, hlt, near, pos => by
    have rp : 0 < r := ok.pos (L, r) (.head _)
    have up := (List.pairwise_cons.mp ok.up).1
    have up' : ∀ y ∈ hs, (L : Rat) < (y.1 : Rat) := fun y hy => by exact_mod_cast up y hy
    have tl : (L : Rat) ≤ h → x ∈ hs := fun z => by
      rcases List.mem_cons.mp hx with e | e
      · subst e; exfalso; simp only at hlt; grind
      · exact e
    have lx : (L : Rat) ≤ h → (L : Rat) < (x.1 : Rat) := fun z => by grind
    rcases (show (L : Rat) < h ∨ (L : Rat) = h ∨ h < (L : Rat) by grind) with z | z | z
    · have e1 : let1 L r h c = r := by unfold let1; rw [if_pos z]
      have e2 : let1 L r (x.1 : Rat) c = r := by unfold let1; rw [if_pos (lx (by grind))]
      simp only [riseP, e1, e2] at pos ⊢
      exact rise_up ok.tail (tl (by grind)) hlt (fun y hy => near y (.tail _ hy)) pos
    · have ab : ∀ y ∈ hs, h < (y.1 : Rat) := fun y hy => by have := up' y hy; grind
      have e2 : let1 L r (x.1 : Rat) c = r := by unfold let1; rw [if_pos (lx (by grind))]
      have e1 : let1 L r h c = r := by
        have q := pos
        simp only [riseP] at q
        rw [(above ab).1] at q
        unfold let1 at q ⊢
        rw [if_neg (by grind), if_pos z] at q ⊢
        omega
      simp only [riseP, e1, e2] at pos ⊢
      exact rise_up ok.tail (tl (by grind)) hlt (fun y hy => near y (.tail _ hy)) pos
    · have ab : ∀ y ∈ hs, h < (y.1 : Rat) := fun y hy => by have := up' y hy; grind
      have n1 := near (L, r) (.head _) z
      have ex : x.1 = L := by
        rcases List.mem_cons.mp hx with e | e
        · rw [e]
        · have := up x e; simp only at n1; omega
      have ab2 : ∀ y ∈ hs, (x.1 : Rat) < (y.1 : Rat) := fun y hy => by rw [ex]; exact up' y hy
      rw [(above (hs := (L, r) :: hs) (h := h) (c := c) fun y hy => by
        rcases List.mem_cons.mp hy with e | e
        · rw [e]; exact z
        · exact ab y e).1] at pos
      simp only [riseP]
      rw [(above ab2).1]
      unfold let1
      rw [if_neg (by rw [ex]; grind), if_pos (by rw [ex])]
      omega
/-- with no hole beneath, only a lack makes it fall -/
theorem fall_lack {hs : Hs} {h : Rat} {c : Int} (ok : HsOk hs) (hb : ∀ y ∈ hs, h ≤ (y.1 : Rat)) (neg : riseP hs h c < 0) : c < 0 := by
  cases hs with
  | nil => simpa [riseP] using neg
  | cons y hs =>
    obtain ⟨L, r⟩ := y
    have rp : 0 < r := ok.pos (L, r) (.head _)
    have up := (List.pairwise_cons.mp ok.up).1
    have h0 := hb (L, r) (.head _)
    have ab : ∀ y ∈ hs, h < (y.1 : Rat) := fun y hy => by
      have : (L : Rat) < (y.1 : Rat) := by exact_mod_cast up y hy
      simp only at h0; grind
    simp only [riseP] at neg
    rw [(above ab).1] at neg
    unfold let1 at neg
    rw [if_neg (by simp only at h0; grind)] at neg
    split at neg
    · omega
    · omega
theorem rise_dn : ∀ {hs : Hs} {h : Rat} {c : Int} {x : Int × Int}, HsOk hs → x ∈ hs → (x.1 : Rat) < h → (∀ y ∈ hs, (y.1 : Rat) < h → y.1 ≤ x.1) → riseP hs h c < 0 → riseP hs (x.1 : Rat) c ≤ 0
  | [], _, _, _, _, hx, _, _, _ => by cases hx
  | (L, r) :: hs, h, c, x, ok, hx, hlt, near, neg => by
    have rp : 0 < r := ok.pos (L, r) (.head _)
    have up := (List.pairwise_cons.mp ok.up).1
    have up' : ∀ y ∈ hs, (L : Rat) < (y.1 : Rat) := fun y hy => by exact_mod_cast up y hy
    have lx : (L : Rat) ≤ (x.1 : Rat) := by
      rcases List.mem_cons.mp hx with e | e
      · rw [e]; exact Rat.le_refl
      · have := up' x e; grind
    have z : (L : Rat) < h := by grind
    have e1 : let1 L r h c = r := by unfold let1; rw [if_pos z]
    by_cases y : (L : Rat) = (x.1 : Rat)
    · have ex : L = x.1 := by exact_mod_cast y
      have hb : ∀ w ∈ hs, h ≤ (w.1 : Rat) := fun w hw => by
        by_cases q : (w.1 : Rat) < h
        · have := near w (.tail _ hw) q
          have := up w hw
          omega
        · grind
      have ab2 : ∀ w ∈ hs, (x.1 : Rat) < (w.1 : Rat) := fun w hw => by rw [← ex]; exact up' w hw
      simp only [riseP, e1] at neg ⊢
      have lack := fall_lack ok.tail hb neg
      rw [(above ab2).1]
      unfold let1
      rw [if_neg (by rw [y]; grind), if_pos y]
      omega
    · have lt : (L : Rat) < (x.1 : Rat) := by grind
      have e2 : let1 L r (x.1 : Rat) c = r := by unfold let1; rw [if_pos lt]
      have tl : x ∈ hs := by
        rcases List.mem_cons.mp hx with e | e
        · subst e; exact absurd rfl y
        · exact e
      simp only [riseP, e1, e2] at neg ⊢
      exact rise_dn ok.tail tl hlt (fun w hw => near w (.tail _ hw)) neg
/-- behind a hole that was come to fewer lie ahead -/
theorem ahead_lt {g : Rat} {hs : Hs} {h d : Rat} {c : Int} (hg : 0 < g) (ok : HsOk hs) (hd : goalP g h (riseP hs h c) hs = some d) : ∃ x ∈ hs, h + (riseP hs h c : Rat) * d / g = (x.1 : Rat) ∧ Cond h (riseP hs h c) x ∧ ahead hs (x.1 : Rat) (riseP hs (x.1 : Rat) c) < ahead hs h (riseP hs h c) := by
  obtain ⟨⟨x, hx, hc, ed⟩, mn⟩ := (goalP_is g h (riseP hs h c) hs).yes d hd
  have hr := cond_ne hc
  have e1 := part_mul (g := g) (h := h) (x := x) hr
  rw [← ed] at e1
  have e2 : h + (riseP hs h c : Rat) * d / g = (x.1 : Rat) := by grind
  refine ⟨x, hx, e2, hc, ?_⟩
  -- the nearest
  have near : ∀ y ∈ hs, Cond h (riseP hs h c) y → (0 < riseP hs h c → x.1 ≤ y.1) ∧ (riseP hs h c < 0 → y.1 ≤ x.1) := fun y hy hcy => by
    have l1 := mn y hy hcy
    have e3 := part_mul (g := g) (h := h) (x := y) hr
    constructor
    · intro p
      have p' : (0 : Rat) ≤ (riseP hs h c : Rat) := by exact_mod_cast (show 0 ≤ riseP hs h c by omega)
      have := mulr_le l1 p'
      rw [e1, e3] at this
      have : (x.1 : Rat) ≤ (y.1 : Rat) := by
        rcases (show (x.1 : Rat) ≤ (y.1 : Rat) ∨ (y.1 : Rat) < (x.1 : Rat) by grind) with q | q
        · exact q
        · have := mulr (show (y.1 : Rat) - h < (x.1 : Rat) - h by grind) hg; grind
      exact_mod_cast this
    · intro p
      have p' : (0 : Rat) ≤ -(riseP hs h c : Rat) := by
        have : (riseP hs h c : Rat) ≤ 0 := by exact_mod_cast (show riseP hs h c ≤ 0 by omega)
        grind
      have := mulr_le l1 p'
      have : (y.1 : Rat) ≤ (x.1 : Rat) := by
        rcases (show (y.1 : Rat) ≤ (x.1 : Rat) ∨ (x.1 : Rat) < (y.1 : Rat) by grind) with q | q
        · exact q
        · have := mulr (show (x.1 : Rat) - h < (y.1 : Rat) - h by grind) hg; grind
      exact_mod_cast this
  refine countP_lt (fun y hy hp => ?_) ⟨x, hx, by simpa using hc, ?_⟩
  · have hp : Cond (x.1 : Rat) (riseP hs (x.1 : Rat) c) y := by simpa using hp
    simp only [decide_eq_true_eq]
    rcases hc with ⟨a, b⟩ | ⟨a, b⟩
    · have r2 := rise_up ok hx a (fun y hy q => (near y hy (.inl ⟨q, b⟩)).1 b) b
      rcases hp with ⟨a2, b2⟩ | ⟨a2, b2⟩
      · exact .inl ⟨by grind, b⟩
      · omega
    · have r2 := rise_dn ok hx a (fun y hy q => (near y hy (.inr ⟨q, b⟩)).2 b) b
      rcases hp with ⟨a2, b2⟩ | ⟨a2, b2⟩
      · omega
      · exact .inr ⟨by grind, b⟩
  · simp only [decide_eq_false_iff_not]
    intro q
    rcases q with ⟨a2, _⟩ | ⟨a2, _⟩
    · grind
    · grind
end Px.W

set_option linter.all false
set_option Elab.async false
/-! MW3: pieces make a way -/
namespace Px.W
theorem nextP_none {here : Rat} {o e : Option Rat} (h : nextP here o e = none) : o = none ∧ e = none := by
  cases o with
  | none => exact ⟨rfl, h⟩
  | some d =>
    cases e with
    | none => cases h
    | some E => simp only [nextP] at h; split at h <;> cases h
theorem nextP_end {here E : Rat} {o : Option Rat} (h : nextP here o (some E) = some E) : ∀ d, o = some d → E ≤ here + d := by
  rintro d rfl
  simp only [nextP] at h
  split at h
  · cases h; exact Rat.le_refl
  · grind
theorem nextP_go {here t : Rat} {o e : Option Rat} (h : nextP here o e = some t) (hne : some t ≠ e) : ∃ d, o = some d ∧ t = here + d ∧ ∀ E, e = some E → t < E := by
  cases o with
  | none => exact absurd h.symm hne
  | some d =>
    cases e with
    | none => cases h; exact ⟨d, rfl, rfl, fun E q => by cases q⟩
    | some E =>
      simp only [nextP] at h
      split at h
      · next z => cases h; exact ⟨d, rfl, rfl, fun E' q => by cases q; exact z⟩
      · cases h; exact absurd rfl hne
def row0 (hs : Hs) (c : Int) (here h : Rat) : Row := ⟨here, h, riseP hs h c, letsP hs h c⟩
theorem seg_of {g : Rat} {hs : Hs} {c : Int} {cf : Rat → Int} {here h E : Rat} (hg : 0 < g) (hlt : here < E) (hc : ∀ t, here ≤ t → t < E → cf t = c) (hf : ∀ x ∈ hs, Cond h (riseP hs h c) x → E - here ≤ part g h (riseP hs h c) x) : Seg g hs cf (row0 hs c here h) E := by
  have e0 : cf here = c := hc here Rat.le_refl hlt
  refine ⟨hlt, fun t a b => ?_, ?_, ?_, ?_⟩
  · show cf t = cf here
    rw [hc t a b, e0]
  · show letsP hs h c = letsP hs h (cf here)
    rw [e0]
  · show riseP hs h c = riseP hs h (cf here)
    rw [e0]
  · exact free_of hg hf
theorem piece_ok {g : Rat} {hs : Hs} {c : Int} {e : Option Rat} {cf : Rat → Int} (hg : 0 < g) (ok : HsOk hs) : ∀ (n : Nat) (here h : Rat), ahead hs h (riseP hs h c) < n → (∀ E, e = some E → here < E) → (∀ t, here ≤ t → (∀ E, e = some E → t < E) → cf t = c) →
    (∃ rs, (piece g hs c e n here h).1 = row0 hs c here h :: rs) ∧ (e = none → WayFrom g hs cf (piece g hs c e n here h).1) ∧
    ∀ E, e = some E → ∀ v vs, v.t = E → v.h = (piece g hs c e n here h).2 → WayFrom g hs cf (v :: vs) → WayFrom g hs cf ((piece g hs c e n here h).1 ++ v :: vs)
  | 0, here, h, ha, _, _ => by omega
  | n + 1, here, h, ha, hlt, hc => by
    have G := goalP_is g h (riseP hs h c) hs
    simp only [piece]
    cases q : nextP here (goalP g h (riseP hs h c) hs) e with
    | none =>
      obtain ⟨q1, q2⟩ := nextP_none q
      subst q2
      refine ⟨⟨[], rfl⟩, fun _ e' he' => ?_, fun E z => by cases z⟩
      exact seg_of hg he' (fun t a b => hc t a fun E z => by cases z) fun x hx hcx => absurd hcx (G.no q1 x hx)
    | some t =>
      simp only []
      by_cases z : some t = e
      · rw [if_pos z]
        subst z
        refine ⟨⟨[], rfl⟩, fun z => (by cases z), fun E z v vs ev eh W => ?_⟩
        cases z
        subst ev
        refine ⟨seg_of hg (hlt _ rfl) (fun t a b => hc t a fun E z => by cases z; exact b) fun x hx hcx => ?_, eh, W⟩
        cases qg : goalP g h (riseP hs h c) hs with
        | none => exact absurd hcx (G.no qg x hx)
        | some d =>
          have h1 := nextP_end q d qg
          have h2 := (G.yes d qg).2 x hx hcx
          grind
      · rw [if_neg z]
        obtain ⟨d, qd, et, lt⟩ := nextP_go q z
        obtain ⟨x, hx, ex, hcx, al⟩ := ahead_lt hg ok qd
        have hd := part_pos hg ((G.yes d qd).1.choose_spec.2.1)
        have hd' : 0 < d := by rw [(G.yes d qd).1.choose_spec.2.2]; exact hd
        have eh : (row0 hs c here h).at g t = (x.1 : Rat) := by
          rw [← ex, et]
          show h + (riseP hs h c : Rat) * (here + d - here) / g = _
          grind
        have eh' : Row.at g ⟨here, h, riseP hs h c, letsP hs h c⟩ t = (x.1 : Rat) := eh
        rw [eh']
        obtain ⟨⟨rs, er⟩, w1, w2⟩ := piece_ok (e := e) (cf := cf) hg ok n t (x.1 : Rat) (by omega) lt (fun s a b => hc s (by grind) b)
        have sg : Seg g hs cf (row0 hs c here h) t := seg_of hg (by grind) (fun s a b => hc s a fun E z => by have := lt E z; grind) fun y hy hcy => by
          have := (G.yes d qd).2 y hy hcy
          grind
        refine ⟨⟨_, rfl⟩, fun z => ?_, fun E z v vs ev ehv W => ?_⟩
        · have w := w1 z
          simp only [er] at w ⊢
          exact ⟨sg, eh.symm, w⟩
        · have w := w2 E z v vs ev ehv W
          simp only [er] at w ⊢
          exact ⟨sg, eh.symm, w⟩
/-- what comes at an hour -/
def cAt (a : Rat × Int) : List (Rat × Int) → Rat → Int
  | [], _ => a.2
  | b :: bs, t => if t < b.1 then a.2 else cAt b bs t
def oneTub (g : Rat) (hs : Hs) (a : Rat × Int) : List (Rat × Int) → Rat → List Row
  | [], h => (piece g hs a.2 none 9 a.1 h).1
  | b :: bs, h => (piece g hs a.2 (some b.1) 9 a.1 h).1 ++ oneTub g hs b bs (piece g hs a.2 (some b.1) 9 a.1 h).2
def Rising (a : Rat × Int) : List (Rat × Int) → Prop
  | [] => True
  | b :: bs => a.1 < b.1 ∧ Rising b bs
theorem WayFrom.congr {g : Rat} {hs : Hs} {c c' : Rat → Int} : ∀ {ws : List Row} {w : Row}, (∀ t, w.t ≤ t → c t = c' t) → WayFrom g hs c (w :: ws) → WayFrom g hs c' (w :: ws)
  | [], w, hc, h => fun e he => by
    have s := h e he
    exact ⟨s.lt, fun t a b => by rw [← hc t a, ← hc w.t Rat.le_refl]; exact s.cc t a b, by rw [← hc w.t Rat.le_refl]; exact s.l, by rw [← hc w.t Rat.le_refl]; exact s.r, s.free⟩
  | w2 :: ws, w, hc, h => by
    have s := h.1
    refine ⟨⟨s.lt, fun t a b => by rw [← hc t a, ← hc w.t Rat.le_refl]; exact s.cc t a b, by rw [← hc w.t Rat.le_refl]; exact s.l, by rw [← hc w.t Rat.le_refl]; exact s.r, s.free⟩, h.2.1, ?_⟩
    exact WayFrom.congr (fun t a => hc t (by have := s.lt; grind)) h.2.2
theorem ahead_le (hs : Hs) (h : Rat) (r : Int) : ahead hs h r ≤ hs.length := List.countP_le_length
theorem oneTub_ok {g : Rat} {hs : Hs} (hg : 0 < g) (ok : HsOk hs) (few : hs.length ≤ 3) : ∀ (bs : List (Rat × Int)) (a : Rat × Int) (h : Rat), Rising a bs → ∃ rs, oneTub g hs a bs h = row0 hs a.2 a.1 h :: rs ∧ WayFrom g hs (cAt a bs) (oneTub g hs a bs h)
  | [], a, h, _ => by
    have al := ahead_le hs h (riseP hs h a.2)
    obtain ⟨⟨rs, er⟩, w1, _⟩ := piece_ok (g := g) (c := a.2) (e := none) (cf := cAt a []) hg ok 9 a.1 h (by omega) (fun E z => by cases z) (fun t _ _ => rfl)
    exact ⟨rs, er, w1 rfl⟩
  | b :: bs, a, h, hr => by
    have al := ahead_le hs h (riseP hs h a.2)
    obtain ⟨⟨rs, er⟩, _, w2⟩ := piece_ok (g := g) (c := a.2) (e := some b.1) (cf := cAt a (b :: bs)) hg ok 9 a.1 h (by omega) (fun E z => by cases z; exact hr.1) (fun t _ hb => by
      simp only [cAt]; rw [if_pos (hb _ rfl)])
    obtain ⟨rs2, er2, W⟩ := oneTub_ok hg ok few bs b (piece g hs a.2 (some b.1) 9 a.1 h).2 hr.2
    refine ⟨rs ++ oneTub g hs b bs (piece g hs a.2 (some b.1) 9 a.1 h).2, by simp only [oneTub]; rw [er]; rfl, ?_⟩
    simp only [oneTub]
    rw [er2] at W ⊢
    refine w2 b.1 rfl _ _ rfl rfl (WayFrom.congr (fun t ht => ?_) W)
    have ht' : b.1 ≤ t := ht
    simp only [cAt]
    rw [if_neg (by grind)]
theorem piece_len {g : Rat} {hs : Hs} {c : Int} {e : Option Rat} (hg : 0 < g) (ok : HsOk hs) : ∀ (n : Nat) (here h : Rat), (piece g hs c e n here h).1.length ≤ ahead hs h (riseP hs h c) + 1
  | 0, here, h => by simp [piece]
  | n + 1, here, h => by
    simp only [piece]
    cases q : nextP here (goalP g h (riseP hs h c) hs) e with
    | none => simp
    | some t =>
      simp only []
      by_cases z : some t = e
      · rw [if_pos z]; simp
      · rw [if_neg z]
        obtain ⟨d, qd, et, lt⟩ := nextP_go q z
        obtain ⟨x, hx, ex, hcx, al⟩ := ahead_lt hg ok qd
        have eh' : Row.at g ⟨here, h, riseP hs h c, letsP hs h c⟩ t = (x.1 : Rat) := by
          rw [← ex, et]
          show h + (riseP hs h c : Rat) * (here + d - here) / g = _
          grind
        have ih := piece_len (c := c) (e := e) hg ok n t (x.1 : Rat)
        rw [eh', List.length_cons]
        omega
theorem oneTub_len {g : Rat} {hs : Hs} (hg : 0 < g) (ok : HsOk hs) (few : hs.length ≤ 3) : ∀ (bs : List (Rat × Int)) (a : Rat × Int) (h : Rat), (oneTub g hs a bs h).length ≤ 4 * (bs.length + 1)
  | [], a, h => by
    have := piece_len (c := a.2) (e := none) hg ok 9 a.1 h
    have al := ahead_le hs h (riseP hs h a.2)
    simp only [oneTub, List.length_nil]; omega
  | b :: bs, a, h => by
    have := piece_len (c := a.2) (e := some b.1) hg ok 9 a.1 h
    have al := ahead_le hs h (riseP hs h a.2)
    have ih := oneTub_len hg ok few bs b (piece g hs a.2 (some b.1) 9 a.1 h).2
    simp only [oneTub, List.length_append, List.length_cons]; omega
end Px.W

set_option linter.all false
set_option Elab.async false
/-! MW4: sizes along a way -/
namespace Px.W
structure HBd (hs : Hs) : Prop where
  lev : ∀ x ∈ hs, 0 ≤ x.1 ∧ x.1 ≤ 5000
  rate : ∀ x ∈ hs, 0 < x.2 ∧ x.2 ≤ 100
  few : hs.length ≤ 3
theorem let1_bd {L r : Int} {h : Rat} {c : Int} (hr : 0 < r) : 0 ≤ let1 L r h c ∧ let1 L r h c ≤ r := by
  unfold let1; split
  · omega
  · split <;> omega
theorem letsP_bd : ∀ {hs : Hs} {h : Rat} {c : Int}, (∀ x ∈ hs, 0 < x.2 ∧ x.2 ≤ 100) → 0 ≤ (letsP hs h c).sum ∧ (letsP hs h c).sum ≤ 100 * hs.length ∧ ∀ l ∈ letsP hs h c, 0 ≤ l ∧ l ≤ 100
  | [], _, _, _ => by simp [letsP]
  | (L, r) :: hs, h, c, q => by
    have h1 := q (L, r) (.head _)
    simp only at h1
    have h2 := let1_bd (L := L) (r := r) (h := h) (c := c) h1.1
    obtain ⟨i1, i2, i3⟩ := letsP_bd (hs := hs) (h := h) (c := c - let1 L r h c) fun x hx => q x (.tail _ hx)
    simp only [letsP, List.sum_cons, List.length_cons]
    refine ⟨by omega, by omega, fun l hl => ?_⟩
    rcases List.mem_cons.mp hl with e | e
    · subst e; omega
    · exact i3 l e
theorem rise_bd {hs : Hs} {h : Rat} {c : Int} (b : HBd hs) (h0 : 0 ≤ c) (h1 : c ≤ 1700) : -300 ≤ riseP hs h c ∧ riseP hs h c ≤ 1700 := by
  rw [riseP_sum]
  obtain ⟨i1, i2, _⟩ := letsP_bd (hs := hs) (h := h) (c := c) b.rate
  have := b.few
  omega
/-- sizes: hour and water by a common bottom, bounds -/
structure Sz (g M B : Nat) (t h : Rat) : Prop where
  dt : Dn M t
  dh : Dn M (h * (g : Rat))
  t0 : 0 ≤ t
  t1 : t ≤ (B : Rat)
  hb : Ab B h
theorem Sz.up {g M B M' B' : Nat} {t h : Rat} (s : Sz g M B t h) (hM : M ∣ M') (hB : B ≤ B') : Sz g M' B' t h := by
  have : (B : Rat) ≤ (B' : Rat) := by exact_mod_cast hB
  exact ⟨s.dt.dvdM hM, s.dh.dvdM hM, s.t0, by have := s.t1; grind, ⟨by have := s.hb.1; grind, by have := s.hb.2; grind⟩⟩
theorem le_lit {n m : Int} (h : n ≤ m) : (n : Rat) ≤ (m : Rat) := Rat.intCast_le_intCast.mpr h
theorem le_mul_self {a b : Rat} (ha : 0 ≤ a) (hb : 1 ≤ b) : a ≤ a * b := by
  have := Rat.mul_le_mul_of_nonneg_left hb ha
  grind
theorem sz_go {g M B : Nat} {hs : Hs} {here h : Rat} {r : Int} {x : Int × Int} (hg : 0 < g) (hg2 : g ≤ 5000) (hB : 5000 ≤ B) (s : Sz g M B here h) (hb : HBd hs) (hx : x ∈ hs) (hc : Cond h r x) : Sz g (M * r.natAbs) (B * 2 ^ 14) (here + part (g : Rat) h r x) (x.1 : Rat) := by
  have hr := cond_ne hc
  have gp : (0 : Rat) < (g : Rat) := by exact_mod_cast hg
  have pp := part_pos gp hc
  have lv := hb.lev x hx
  have na : 0 < r.natAbs := by omega
  have e1 : part (g : Rat) h r x = (if r < 0 then -(((x.1 : Rat) - h) * (g : Rat)) else ((x.1 : Rat) - h) * (g : Rat)) / (r.natAbs : Rat) := by
    unfold part
    by_cases z : r < 0
    · rw [if_pos z]
      have : (r : Rat) = -(r.natAbs : Rat) := by
        have : r = -(r.natAbs : Int) := by omega
        calc (r : Rat) = ((-(r.natAbs : Int) : Int) : Rat) := by rw [← this]
          _ = -(r.natAbs : Rat) := by rw [Rat.intCast_neg]; rfl
      rw [this]
      have : (r.natAbs : Rat) ≠ 0 := by exact_mod_cast (show r.natAbs ≠ 0 by omega)
      grind
    · rw [if_neg z]
      have : (r : Rat) = (r.natAbs : Rat) := by
        have : r = (r.natAbs : Int) := by omega
        calc (r : Rat) = (((r.natAbs : Int) : Int) : Rat) := by rw [← this]
          _ = (r.natAbs : Rat) := rfl
      rw [this]
  have w : Dn M (((x.1 : Rat) - h) * (g : Rat)) := by
    have e : ((x.1 : Rat) - h) * (g : Rat) = ((x.1 * (g : Int) : Int) : Rat) - h * (g : Rat) := by
      rw [Rat.intCast_mul]
      show _ = (x.1 : Rat) * (g : Rat) - _
      grind
    rw [e]
    exact (Dn.int _).sub s.dh
  have w2 : Dn (M * r.natAbs) (part (g : Rat) h r x) := by
    rw [e1]
    split
    · refine Dn.div na ?_
      have := w.mulI (-1)
      have e : ((-1 : Int) : Rat) * (((x.1 : Rat) - h) * (g : Rat)) = -(((x.1 : Rat) - h) * (g : Rat)) := by
        have : ((-1 : Int) : Rat) = -1 := by rfl
        rw [this]; grind
      rw [e] at this
      exact this
    · exact Dn.div na w
  have x0 : (0 : Rat) ≤ (x.1 : Rat) := by exact_mod_cast lv.1
  have x1 : (x.1 : Rat) ≤ 5000 := le_lit lv.2
  have b1 : (5000 : Rat) ≤ (B : Rat) := le_lit (n := 5000) (m := (B : Int)) (by omega)
  have g1 : (g : Rat) ≤ 5000 := le_lit (n := (g : Int)) (m := 5000) (by omega)
  have eB : ((B * 2 ^ 14 : Nat) : Rat) = (B : Rat) * 16384 := by
    rw [Rat.natCast_mul]; rfl
  -- the part's bound
  have pb : part (g : Rat) h r x ≤ (5000 + (B : Rat)) * 5000 := by
    have h1 := part_mul (g := (g : Rat)) (h := h) (x := x) hr
    have hb1 := s.hb.1
    have hb2 := s.hb.2
    rcases hc with ⟨a, b⟩ | ⟨a, b⟩
    · have r1 : (1 : Rat) ≤ (r : Rat) := by exact_mod_cast (show 1 ≤ r by omega)
      have := le_mul_self (Rat.le_of_lt pp) r1
      rw [h1] at this
      have m1 := Rat.mul_le_mul_of_nonneg_left g1 (show (0 : Rat) ≤ (x.1 : Rat) - h by grind)
      grind
    · have r1 : (1 : Rat) ≤ -(r : Rat) := by
        have : (r : Rat) ≤ -1 := le_lit (m := -1) (by omega)
        grind
      have := le_mul_self (Rat.le_of_lt pp) r1
      have m1 := Rat.mul_le_mul_of_nonneg_left g1 (show (0 : Rat) ≤ h - (x.1 : Rat) by grind)
      grind
  refine ⟨(s.dt.up _).add w2, ?_, by have := s.t0; grind, ?_, ?_⟩
  · have e : (x.1 : Rat) * (g : Rat) = ((x.1 * (g : Int) : Int) : Rat) := by rw [Rat.intCast_mul]; rfl
    rw [e]; exact Dn.int _
  · rw [eB]; have := s.t1; grind
  · rw [show Ab (B * 2 ^ 14) (x.1 : Rat) = (-((B * 2 ^ 14 : Nat) : Rat) ≤ (x.1 : Rat) ∧ (x.1 : Rat) ≤ ((B * 2 ^ 14 : Nat) : Rat)) from rfl, eB]
    constructor <;> grind
theorem sz_end {g M B : Nat} {here h E : Rat} {r : Int} {l : List Int} (hg : 0 < g) (hB : 5000 ≤ B) (s : Sz g M B here h) (hr : -300 ≤ r ∧ r ≤ 1700) (dE : Dn M E) (hE : here ≤ E) (hE2 : E ≤ (B : Rat)) : Sz g M (B * 2 ^ 14) E (Row.at (g : Rat) ⟨here, h, r, l⟩ E) := by
  have gp : (0 : Rat) < (g : Rat) := by exact_mod_cast hg
  have g1 : (1 : Rat) ≤ (g : Rat) := by exact_mod_cast hg
  have eB : ((B * 2 ^ 14 : Nat) : Rat) = (B : Rat) * 16384 := by
    rw [Rat.natCast_mul]; rfl
  have b1 : (5000 : Rat) ≤ (B : Rat) := le_lit (n := 5000) (m := (B : Int)) (by omega)
  have e1 : Row.at (g : Rat) ⟨here, h, r, l⟩ E * (g : Rat) = h * (g : Rat) + (r : Rat) * (E - here) := by
    unfold Row.at
    show (h + (r : Rat) * (E - here) / (g : Rat)) * (g : Rat) = _
    grind
  have r1 : -300 ≤ (r : Rat) := le_lit (n := -300) hr.1
  have r2 : (r : Rat) ≤ 1700 := le_lit (m := 1700) hr.2
  have t0 := s.t0
  have d0 : 0 ≤ E - here := by grind
  have d1 : E - here ≤ (B : Rat) := by grind
  have m1 := Rat.mul_le_mul_of_nonneg_right r2 d0
  have m2 := Rat.mul_le_mul_of_nonneg_right r1 d0
  -- |r (E - here) / g| ≤ 1700 B
  have q : -(1700 * (B : Rat)) ≤ (r : Rat) * (E - here) / (g : Rat) ∧ (r : Rat) * (E - here) / (g : Rat) ≤ 1700 * (B : Rat) := by
    have eg : (r : Rat) * (E - here) / (g : Rat) * (g : Rat) = (r : Rat) * (E - here) := by grind
    have k1 := le_mul_self (show (0 : Rat) ≤ 1700 * (B : Rat) by grind) g1
    constructor
    · rcases (show -(1700 * (B : Rat)) ≤ (r : Rat) * (E - here) / (g : Rat) ∨ (r : Rat) * (E - here) / (g : Rat) < -(1700 * (B : Rat)) by grind) with z | z
      · exact z
      · have := mulr z gp; grind
    · rcases (show (r : Rat) * (E - here) / (g : Rat) ≤ 1700 * (B : Rat) ∨ 1700 * (B : Rat) < (r : Rat) * (E - here) / (g : Rat) by grind) with z | z
      · exact z
      · have := mulr z gp; grind
  refine ⟨dE, ?_, by grind, by rw [eB]; grind, ?_⟩
  · rw [e1]; exact s.dh.add ((dE.sub s.dt).mulI r)
  · have hb1 := s.hb.1
    have hb2 := s.hb.2
    rw [show ∀ y, Ab (B * 2 ^ 14) y = (-((B * 2 ^ 14 : Nat) : Rat) ≤ y ∧ y ≤ ((B * 2 ^ 14 : Nat) : Rat)) from fun _ => rfl, eB]
    unfold Row.at
    simp only []
    constructor <;> grind
end Px.W

set_option linter.all false
set_option Elab.async false
/-! MW5: sizes of a tub's rows -/
namespace Px.W
theorem pow_step (M r k : Nat) (hr : r ≤ 2 ^ 11) : M * r * 2 ^ (11 * k) ≤ M * 2 ^ (11 * (k + 1)) := by
  rw [Nat.mul_assoc, show 11 * (k + 1) = 11 + 11 * k by omega, Nat.pow_add]
  exact Nat.mul_le_mul_left M (Nat.mul_le_mul_right _ hr)
theorem pow_step14 (B k : Nat) : B * 2 ^ 14 * 2 ^ (14 * k) = B * 2 ^ (14 * (k + 1)) := by
  rw [Nat.mul_assoc, ← Nat.pow_add, show 14 + 14 * k = 14 * (k + 1) by omega]
theorem le_pow (B n : Nat) : B ≤ B * 2 ^ n := Nat.le_mul_of_pos_right _ (Nat.two_pow_pos n)
theorem piece_sz {g : Nat} {hs : Hs} {c : Int} {e : Option Rat} (hg : 0 < g) (hg2 : g ≤ 5000) (ok : HsOk hs) (hb : HBd hs) (c0 : 0 ≤ c) (c1 : c ≤ 1700) : ∀ (n : Nat) (here h : Rat) (M B k : Nat), ahead hs h (riseP hs h c) ≤ k → 0 < M → 5000 ≤ B → Sz g M B here h → (∀ E, e = some E → Dn M E ∧ here < E ∧ E ≤ (B : Rat)) → ahead hs h (riseP hs h c) < n →
    ∃ M' B', M ∣ M' ∧ 0 < M' ∧ M' ≤ M * 2 ^ (11 * k) ∧ B ≤ B' ∧ B' ≤ B * 2 ^ (14 * (k + 1)) ∧ (∀ w ∈ (piece (g : Rat) hs c e n here h).1, Sz g M' B' w.t w.h ∧ ∃ h', w.r = riseP hs w.h c ∧ w.l = letsP hs w.h c ∧ h' = w.h) ∧ ∀ E, e = some E → Sz g M' B' E (piece (g : Rat) hs c e n here h).2
  | 0, here, h, M, B, k, _, _, _, _, _, hn => by omega
  | n + 1, here, h, M, B, k, hk, hM, hB, s, he, hn => by
    have gp : (0 : Rat) < (g : Rat) := by exact_mod_cast hg
    have rb := rise_bd (h := h) hb c0 c1
    simp only [piece]
    cases q : nextP here (goalP (g : Rat) h (riseP hs h c) hs) e with
    | none =>
      obtain ⟨q1, q2⟩ := nextP_none q
      subst q2
      refine ⟨M, B, Nat.dvd_refl _, hM, le_pow _ _, Nat.le_refl _, le_pow _ _, fun w hw => ?_, fun E z => by cases z⟩
      have : w = ⟨here, h, riseP hs h c, letsP hs h c⟩ := by simpa using hw
      subst this
      exact ⟨s, h, rfl, rfl, rfl⟩
    | some t =>
      simp only []
      by_cases z : some t = e
      · rw [if_pos z]
        subst z
        obtain ⟨d1, d2, d3⟩ := he t rfl
        refine ⟨M, B * 2 ^ 14, Nat.dvd_refl _, hM, le_pow _ _, le_pow _ _, ?_, fun w hw => ?_, fun E z => ?_⟩
        · exact Nat.mul_le_mul_left _ (Nat.pow_le_pow_right (by omega) (by omega))
        · have : w = ⟨here, h, riseP hs h c, letsP hs h c⟩ := by simpa using hw
          subst this
          exact ⟨s.up (Nat.dvd_refl _) (le_pow _ _), h, rfl, rfl, rfl⟩
        · cases z
          exact sz_end hg hB s rb d1 (Rat.le_of_lt d2) d3
      · rw [if_neg z]
        obtain ⟨d, qd, et, lt⟩ := nextP_go q z
        obtain ⟨x, hx, ex, hcx, al⟩ := ahead_lt gp ok qd
        have ed : d = part (g : Rat) h (riseP hs h c) x := by
          have h1 := part_mul (g := (g : Rat)) (h := h) (x := x) (cond_ne hcx)
          have rne : (riseP hs h c : Rat) ≠ 0 := by exact_mod_cast cond_ne hcx
          have h2 : (riseP hs h c : Rat) * d = ((x.1 : Rat) - h) * (g : Rat) := by
            have : (riseP hs h c : Rat) * d / (g : Rat) * (g : Rat) = (riseP hs h c : Rat) * d := by grind
            rw [← this]
            have : (riseP hs h c : Rat) * d / (g : Rat) = (x.1 : Rat) - h := by grind
            rw [this]
          grind
        have eh' : Row.at (g : Rat) ⟨here, h, riseP hs h c, letsP hs h c⟩ t = (x.1 : Rat) := by
          rw [← ex, et]
          show h + (riseP hs h c : Rat) * (here + d - here) / (g : Rat) = _
          grind
        have s2 := sz_go hg hg2 hB s hb hx hcx
        rw [← ed, ← et] at s2
        have na : 0 < (riseP hs h c).natAbs := by have := cond_ne hcx; omega
        obtain ⟨j, rfl⟩ : ∃ j, k = j + 1 := ⟨k - 1, by omega⟩
        obtain ⟨M', B', p1, p2, p3, p4, p5, p6, p7⟩ := piece_sz (e := e) hg hg2 ok hb c0 c1 n t (x.1 : Rat) (M * (riseP hs h c).natAbs) (B * 2 ^ 14) j (by omega) (Nat.mul_pos hM na) (Nat.le_trans hB (le_pow _ _)) s2 (fun E z => by
          obtain ⟨d1, d2, d3⟩ := he E z
          have : (B : Rat) ≤ ((B * 2 ^ 14 : Nat) : Rat) := Rat.natCast_le_natCast.mpr (le_pow _ _)
          exact ⟨d1.up _, lt E z, by grind⟩) (by omega)
        rw [eh']
        refine ⟨M', B', Nat.dvd_trans ⟨_, rfl⟩ p1, p2, Nat.le_trans p3 (pow_step _ _ _ (by omega)), Nat.le_trans (le_pow _ _) p4, by rw [pow_step14] at p5; exact p5, fun w hw => ?_, p7⟩
        rcases List.mem_cons.mp hw with e | e
        · subst e
          exact ⟨s.up (Nat.dvd_trans ⟨_, rfl⟩ p1) (Nat.le_trans (le_pow _ _) p4), h, rfl, rfl, rfl⟩
        · exact p6 w e
theorem mul_pow_add (M a b : Nat) : M * 2 ^ a * 2 ^ b = M * 2 ^ (a + b) := by rw [Nat.mul_assoc, ← Nat.pow_add]
theorem oneTub_sz {g : Nat} {hs : Hs} (hg : 0 < g) (hg2 : g ≤ 5000) (ok : HsOk hs) (hb : HBd hs) : ∀ (bs : List (Rat × Int)) (a : Rat × Int) (h : Rat) (M B : Nat), 0 < M → 5000 ≤ B → Sz g M B a.1 h → Rising a bs → (∀ b ∈ bs, Dn M b.1 ∧ b.1 ≤ (B : Rat)) → (∀ b ∈ a :: bs, 0 ≤ b.2 ∧ b.2 ≤ 1700) →
    ∃ M' B', M ∣ M' ∧ 0 < M' ∧ M' ≤ M * 2 ^ (33 * (bs.length + 1)) ∧ B ≤ B' ∧ B' ≤ B * 2 ^ (56 * (bs.length + 1)) ∧ ∀ w ∈ oneTub (g : Rat) hs a bs h, Sz g M' B' w.t w.h ∧ (-300 ≤ w.r ∧ w.r ≤ 1700) ∧ w.l.length = hs.length ∧ ∀ l ∈ w.l, 0 ≤ l ∧ l ≤ 100
  | [], a, h, M, B, hM, hB, s, _, hd, hc => by
    have few := hb.few
    have al := ahead_le hs h (riseP hs h a.2)
    have c0 := hc a (.head _)
    obtain ⟨M', B', p1, p2, p3, p4, p5, p6, _⟩ := piece_sz (e := none) hg hg2 ok hb c0.1 c0.2 9 a.1 h M B 3 (by omega) hM hB s (fun E z => by cases z) (by omega)
    refine ⟨M', B', p1, p2, p3, p4, p5, fun w hw => ?_⟩
    obtain ⟨q1, _, q2, q3, _⟩ := p6 w hw
    exact ⟨q1, by rw [q2]; exact rise_bd hb c0.1 c0.2, by rw [q3]; exact letsP_length _ _ _, by rw [q3]; exact (letsP_bd hb.rate).2.2⟩
  | b :: bs, a, h, M, B, hM, hB, s, hr, hd, hc => by
    have few := hb.few
    have al := ahead_le hs h (riseP hs h a.2)
    have c0 := hc a (.head _)
    obtain ⟨M1, B1, p1, p2, p3, p4, p5, p6, p7⟩ := piece_sz (e := some b.1) hg hg2 ok hb c0.1 c0.2 9 a.1 h M B 3 (by omega) hM hB s (fun E z => by cases z; exact ⟨(hd b (.head _)).1, hr.1, (hd b (.head _)).2⟩) (by omega)
    have BB : (B : Rat) ≤ (B1 : Rat) := Rat.natCast_le_natCast.mpr p4
    obtain ⟨M2, B2, r1, r2, r3, r4, r5, r6⟩ := oneTub_sz hg hg2 ok hb bs b (piece (g : Rat) hs a.2 (some b.1) 9 a.1 h).2 M1 B1 p2 (by omega) (p7 _ rfl) hr.2 (fun x hx => ⟨(hd x (.tail _ hx)).1.dvdM p1, by have := (hd x (.tail _ hx)).2; grind⟩) (fun x hx => hc x (.tail _ hx))
    refine ⟨M2, B2, Nat.dvd_trans p1 r1, r2, ?_, Nat.le_trans p4 r4, ?_, fun w hw => ?_⟩
    · refine Nat.le_trans r3 (Nat.le_trans (Nat.mul_le_mul_right _ p3) ?_)
      rw [mul_pow_add, List.length_cons]
      exact Nat.mul_le_mul_left _ (Nat.pow_le_pow_right (by omega) (by omega))
    · refine Nat.le_trans r5 (Nat.le_trans (Nat.mul_le_mul_right _ p5) ?_)
      rw [mul_pow_add, List.length_cons]
      exact Nat.mul_le_mul_left _ (Nat.pow_le_pow_right (by omega) (by omega))
    · simp only [oneTub] at hw
      rcases List.mem_append.mp hw with e | e
      · obtain ⟨q1, _, q2, q3, _⟩ := p6 w e
        exact ⟨q1.up r1 r4, by rw [q2]; exact rise_bd hb c0.1 c0.2, by rw [q3]; exact letsP_length _ _ _, by rw [q3]; exact (letsP_bd hb.rate).2.2⟩
      · exact r6 w e
end Px.W

set_option Elab.async false
set_option linter.all false
set_option maxRecDepth 100000
set_option maxHeartbeats 4000000
/-! MOne: the law's way of one tub -/
namespace Px.W
theorem isGoal_nil (g h : Rat) (r : Int) : IsGoal g h r [] none := goalP_is g h r []
def stepG (g h : Rat) (r : Int) (acc : Option Rat) (x : Int × Int) : Option Rat :=
  if Cond h r x then (match acc with | none => some (part g h r x) | some a => if part g h r x < a then some (part g h r x) else some a) else acc
theorem isGoal_snoc {g h : Rat} {r : Int} {pre : Hs} {acc : Option Rat} {x : Int × Int} (G : IsGoal g h r pre acc) : IsGoal g h r (pre ++ [x]) (stepG g h r acc x) := by
  unfold stepG
  by_cases z : Cond h r x
  · rw [if_pos z]
    cases acc with
    | none =>
      refine ⟨fun e => (by cases e), fun d e => ?_⟩
      cases e
      refine ⟨⟨x, by simp, z, rfl⟩, fun y hy hc => ?_⟩
      rcases List.mem_append.mp hy with q | q
      · exact absurd hc (G.no rfl y q)
      · have : y = x := by simpa using q
        subst this; exact Rat.le_refl
    | some a =>
      obtain ⟨⟨x0, h0, c0, e0⟩, mn⟩ := G.yes a rfl
      simp only []
      by_cases w : part g h r x < a
      · rw [if_pos w]
        refine ⟨fun e => (by cases e), fun d e => ?_⟩
        cases e
        refine ⟨⟨x, by simp, z, rfl⟩, fun y hy hc => ?_⟩
        rcases List.mem_append.mp hy with q | q
        · have := mn y q hc; grind
        · have : y = x := by simpa using q
          subst this; exact Rat.le_refl
      · rw [if_neg w]
        refine ⟨fun e => (by cases e), fun d e => ?_⟩
        cases e
        refine ⟨⟨x0, by simp [h0], c0, e0⟩, fun y hy hc => ?_⟩
        rcases List.mem_append.mp hy with q | q
        · exact mn y q hc
        · have : y = x := by simpa using q
          subst this; grind
  · rw [if_neg z]
    refine ⟨fun e y hy => ?_, fun d e => ?_⟩
    · rcases List.mem_append.mp hy with q | q
      · exact G.no e y q
      · have : y = x := by simpa using q
        subst this; exact z
    · obtain ⟨⟨x0, h0, c0, e0⟩, mn⟩ := G.yes d e
      refine ⟨⟨x0, by simp [h0], c0, e0⟩, fun y hy hc => ?_⟩
      rcases List.mem_append.mp hy with q | q
      · exact mn y q hc
      · have : y = x := by simpa using q
        subst this; exact absurd hc z
/-- the sign of the gap -/
theorem gap_pos {h : Rat} {r : Int} {x : Int × Int} : (0 < ((x.1 : Rat) - h).num * r) ↔ Cond h r x := by
  have n1 : 0 < ((x.1 : Rat) - h).num ↔ h < (x.1 : Rat) := by
    constructor
    · intro q
      have : (0 : Rat) < (x.1 : Rat) - h := (Rat.lt_iff _ _).mpr (by simpa using q)
      grind
    · intro q
      have : (0 : Rat) < (x.1 : Rat) - h := by grind
      simpa using (Rat.lt_iff _ _).mp this
  have n2 : ((x.1 : Rat) - h).num < 0 ↔ (x.1 : Rat) < h := by
    constructor
    · intro q
      have : (x.1 : Rat) - h < 0 := (Rat.lt_iff _ _).mpr (by simpa using q)
      grind
    · intro q
      have : (x.1 : Rat) - h < 0 := by grind
      simpa using (Rat.lt_iff _ _).mp this
  unfold Cond
  rw [← n1, ← n2]
  constructor
  · intro q
    rcases Int.lt_trichotomy 0 ((x.1 : Rat) - h).num with a | a | a
    · exact .inl ⟨a, Int.pos_of_mul_pos_left (by rw [Int.mul_comm]; exact q) a⟩
    · rw [← a] at q; simp at q
    · refine .inr ⟨a, ?_⟩
      rcases Int.lt_trichotomy r 0 with b | b | b
      · exact b
      · rw [b] at q; simp at q
      · have := Int.mul_neg_of_neg_of_pos a b; omega
  · rintro (⟨a, b⟩ | ⟨a, b⟩)
    · exact Int.mul_pos a b
    · exact Int.mul_pos_of_neg_of_neg a b
theorem part_abs {g : Nat} {h : Rat} {r : Int} {x : Int × Int} (hc : Cond h r x) : mkRat ((((x.1 : Rat) - h).num.natAbs : Int) * (g : Int)) (((x.1 : Rat) - h).den * r.natAbs) = part (g : Rat) h r x := by
  rw [mk_part _ _ _ (by have := cond_ne hc; omega)]
  unfold part
  rcases hc with ⟨a, b⟩ | ⟨a, b⟩
  · rw [if_neg (by grind)]
    have : ((r.natAbs : Nat) : Rat) = (r : Rat) := by
      calc ((r.natAbs : Nat) : Rat) = (((r.natAbs : Int)) : Rat) := rfl
        _ = (r : Rat) := by rw [show ((r.natAbs : Int)) = r by omega]
    rw [this]
  · rw [if_pos (by grind)]
    have : ((r.natAbs : Nat) : Rat) = -(r : Rat) := by
      calc ((r.natAbs : Nat) : Rat) = (((r.natAbs : Int)) : Rat) := rfl
        _ = ((-r : Int) : Rat) := by rw [show ((r.natAbs : Int)) = -r by omega]
        _ = -(r : Rat) := Rat.intCast_neg _
    rw [this]
    have hr : (r : Rat) ≠ 0 := by exact_mod_cast (show r ≠ 0 by omega)
    grind
end Px.W
namespace Px.S
open PySem L2 Px
theorem fit_of {N B : Nat} {q : Rat} (hN : 0 < N) (hN2 : N < 2 ^ 4440) (hB : B < 2 ^ 300000) (d : W.Dn N q) (b : W.Ab B q) : Fit q := by
  have h1 : q.den ≤ N := Nat.le_of_dvd hN d.dvd
  have l1 : N.log2 < 4440 := (Nat.log2_lt (by omega)).mpr hN2
  have l2 := log2_mono h1
  refine ⟨by omega, ?_⟩
  have h2 := b.num
  have l3 := log2_mono h2
  have l4 := log2_mul (a := B) (b := q.den)
  have l5 : B.log2 < 300000 := by
    by_cases z : B = 0
    · rw [z]; simp
    · exact (Nat.log2_lt z).mpr hB
  omega
/-- sizes that fit -/
structure Room (M B : Nat) : Prop where
  m0 : 0 < M
  m1 : M < 2 ^ 4400
  b0 : 5000 ≤ B
  b1 : B < 2 ^ 200000
theorem pow_lt_mul {M a n k : Nat} (h : M < 2 ^ n) (ha : a ≤ 2 ^ k) (h0 : 0 < a) : M * a < 2 ^ (n + k) := by
  rw [Nat.pow_add]
  exact Nat.lt_of_lt_of_le (Nat.mul_lt_mul_of_pos_right h h0) (Nat.mul_le_mul_left _ ha)
theorem Room.fitT {g M B : Nat} {t h : Rat} (r : Room M B) (s : W.Sz g M B t h) : Fit t := by
  refine fit_of r.m0 (Nat.lt_trans r.m1 (Nat.pow_lt_pow_right (by omega) (by omega))) (Nat.lt_trans r.b1 (Nat.pow_lt_pow_right (by omega) (by omega))) s.dt ⟨?_, s.t1⟩
  have := s.t0
  have : (0 : Rat) ≤ (B : Rat) := Rat.natCast_nonneg
  grind
theorem dn_h {g M : Nat} {h : Rat} (hg : 0 < g) (d : W.Dn M (h * (g : Rat))) : W.Dn (M * g) h := by
  have := d.div hg
  have e : h * (g : Rat) / (g : Rat) = h := by
    have : (g : Rat) ≠ 0 := by exact_mod_cast (show g ≠ 0 by omega)
    grind
  rw [e] at this
  exact this
theorem Room.fitH {g M B : Nat} {t h : Rat} (hg : 0 < g) (hg2 : g ≤ 5000) (r : Room M B) (s : W.Sz g M B t h) : Fit h := by
  exact fit_of (Nat.mul_pos r.m0 hg) (Nat.lt_trans (pow_lt_mul (k := 13) r.m1 (by omega) hg) (Nat.pow_lt_pow_right (by omega) (by omega))) (Nat.lt_trans r.b1 (Nat.pow_lt_pow_right (by omega) (by omega))) (dn_h hg s.dh) s.hb
theorem two_big {B : Nat} (h : B < 2 ^ 200000) : B * 2 ^ 14 < 2 ^ 300000 := by
  refine Nat.lt_of_lt_of_le (Nat.mul_lt_mul_of_pos_right h (Nat.two_pow_pos 14)) ?_
  rw [← Nat.pow_add]
  exact Nat.pow_le_pow_right (by omega) (by omega)
theorem Room.fitGap {g M B : Nat} {t h : Rat} {L : Int} (hg : 0 < g) (hg2 : g ≤ 5000) (r : Room M B) (s : W.Sz g M B t h) (l0 : 0 ≤ L) (l1 : L ≤ 5000) : Fit ((L : Rat) - h) := by
  refine fit_of (B := B * 2 ^ 14) (Nat.mul_pos r.m0 hg) (Nat.lt_trans (pow_lt_mul (k := 13) r.m1 (by omega) hg) (Nat.pow_lt_pow_right (by omega) (by omega))) (two_big r.b1) ((W.Dn.int L).sub (dn_h hg s.dh)) ?_
  have h1 := s.hb.1
  have h2 := s.hb.2
  have b1 : (1 : Rat) ≤ (B : Rat) := W.le_lit (n := 1) (m := (B : Int)) (by have := r.b0; omega)
  have x0 : (0 : Rat) ≤ (L : Rat) := W.le_lit (n := 0) l0
  have x1 : (L : Rat) ≤ 5000 := W.le_lit (m := 5000) l1
  have eB : ((B * 2 ^ 14 : Nat) : Rat) = (B : Rat) * 16384 := by rw [Rat.natCast_mul]; rfl
  rw [show ∀ y, W.Ab (B * 2 ^ 14) y = (-((B * 2 ^ 14 : Nat) : Rat) ≤ y ∧ y ≤ ((B * 2 ^ 14 : Nat) : Rat)) from fun _ => rfl, eB]
  constructor <;> grind
theorem Room.fitGo {g M B : Nat} {hs : W.Hs} {here h : Rat} {r : Int} {x : Int × Int} (hg : 0 < g) (hg2 : g ≤ 5000) (R : Room M B) (s : W.Sz g M B here h) (hb : W.HBd hs) (hx : x ∈ hs) (hc : W.Cond h r x) (hr : r.natAbs ≤ 2 ^ 11) : Fit (W.part (g : Rat) h r x) ∧ Fit (here + W.part (g : Rat) h r x) := by
  have s2 := W.sz_go hg hg2 R.b0 s hb hx hc
  have na : 0 < r.natAbs := by have := W.cond_ne hc; omega
  have m2 : M * r.natAbs < 2 ^ 4440 := Nat.lt_trans (pow_lt_mul (k := 11) R.m1 hr na) (Nat.pow_lt_pow_right (by omega) (by omega))
  have b0 : (0 : Rat) ≤ ((B * 2 ^ 14 : Nat) : Rat) := Rat.natCast_nonneg
  have t0 := s.t0
  have gp : (0 : Rat) < (g : Rat) := by exact_mod_cast hg
  have pp := W.part_pos gp hc
  have t1 := s2.t1
  constructor
  · refine fit_of (Nat.mul_pos R.m0 na) m2 (two_big R.b1) ?_ ⟨by grind, by grind⟩
    have := s2.dt.sub (s.dt.up r.natAbs)
    have e : here + W.part (g : Rat) h r x - here = W.part (g : Rat) h r x := by grind
    rw [e] at this
    exact this
  · exact fit_of (Nat.mul_pos R.m0 na) m2 (two_big R.b1) s2.dt ⟨by grind, t1⟩
end Px.S

set_option Elab.async false
set_option linter.all false
set_option maxRecDepth 100000
set_option maxHeartbeats 4000000
/-! MOne2: the law's way of one tub, run -/
namespace Px.S
open PySem L2 Px
def oD : Option Rat → D
  | none => .non
  | some q => qD q
def rowD (w : W.Row) : D := .tup [qD w.t, qD w.h, .int w.r, .lst (w.l.map D.int)]
def cD (a : Rat × Int) : D := .tup [qD a.1, .int a.2]
theorem isN_q (q : Rat) : isN (qD q) = false := rfl
theorem hbd_of {hs : List Hole} {later : List Str} (h : ∀ x ∈ hs, HoleOk later x) (few : hs.length ≤ 3) : W.HBd (hsOf hs) := by
  refine ⟨fun x hx => ?_, fun x hx => ?_, by simpa using few⟩
  · obtain ⟨y, hy, rfl⟩ := List.mem_map.mp hx
    have := h y hy
    exact ⟨this.h0, by show y.1 ≤ 5000; have := this.h1; omega⟩
  · obtain ⟨y, hy, rfl⟩ := List.mem_map.mp hx
    have := h y hy
    exact ⟨by show 0 < y.2.1; have := this.r0; omega, this.r1⟩
/-- state of the goal's loop -/
def stG (v0 v1 v2 v3 : Option Sl) (g : Nat) (v5 : Option Sl) (v6 : Option Sl) (h : Rat) (v8 v9 v10 v11 v12 v13 : Option Sl) (r : Int) (o : Option Rat) (v16 v17 v18 v19 v20 : Option Sl) : S :=
  [v0, v1, v2, v3, some (.sh, .int g), v5, v6, some (.sh, qD h), v8, v9, v10, v11, v12, v13, some (.sh, .int r), some (.sh, oD o), v16, v17, v18, v19, v20]
theorem abs_int (i : Int) : (if i < 0 then -i else i) = (i.natAbs : Int) := by split <;> omega
theorem goal_loop {v0 v1 v2 v3 v5 v6 v8 v9 v10 v11 v12 v13 v19 v20 : Option Sl} {g M B : Nat} {here h : Rat} {r : Int} (hg : 0 < g) (hg2 : g ≤ 5000) (R : Room M B) (s : W.Sz g M B here h) (hr : r.natAbs ≤ 2 ^ 11) : ∀ (hs pre : List Hole) (o : Option Rat) (v16 v17 v18 : Option Sl), W.HBd (hsOf (pre ++ hs)) → W.IsGoal (g : Rat) h r (hsOf pre) o → HB hs →
    ∃ v16' v17' v18' o', loopD (hName 16) L__law_one_tub_1 (hs.map hD) (stG v0 v1 v2 v3 g v5 v6 h v8 v9 v10 v11 v12 v13 r o v16 v17 v18 v19 v20) = some (.nx (stG v0 v1 v2 v3 g v5 v6 h v8 v9 v10 v11 v12 v13 r o' v16' v17' v18' v19 v20)) ∧ W.IsGoal (g : Rat) h r (hsOf (pre ++ hs)) o'
  | [], pre, o, v16, v17, v18, hb, G, _ => ⟨v16, v17, v18, o, rfl, by simpa using G⟩
  | x :: hs, pre, o, v16, v17, v18, hb, G, hB => by
    have xm : lr x ∈ hsOf (pre ++ x :: hs) := List.mem_map.mpr ⟨x, by simp, rfl⟩
    have lv := hb.lev _ xm
    have fh := R.fitH hg hg2 s
    have fL : Fit ((x.1 : Int) : Rat) := hB.fit (.head _)
    have fg : Fit (((x.1 : Int) : Rat) - h) := R.fitGap hg hg2 s lv.1 lv.2
    have e1 := less_ok fL fh
    rw [qD_int] at e1
    have G2 := W.isGoal_snoc (x := lr x) G
    have e0 : hsOf pre ++ [lr x] = hsOf (pre ++ [x]) := by simp
    rw [e0] at G2
    have e9 : pre ++ x :: hs = (pre ++ [x]) ++ hs := by simp
    have cm : cMul (((x.1 : Int) : Rat) - h).num r = true := by
      have l1 := fg.n
      have l2 : r.natAbs.log2 ≤ 11 := by
        have := log2_mono hr
        have e : (2 ^ 11 : Nat).log2 = 11 := by decide
        omega
      exact decide_eq_true (by omega)
    by_cases z : W.Cond h r (lr x)
    · have zp : 0 < (((x.1 : Int) : Rat) - h).num * r := W.gap_pos.mpr z
      obtain ⟨f1, f2⟩ := R.fitGo hg hg2 s hb xm z hr
      have na : 0 < r.natAbs := by have := W.cond_ne z; omega
      have dl : ((((x.1 : Int) : Rat) - h).den * r.natAbs).log2 < 9000 := by
        have l1 := fg.d
        have l2 := log2_mono hr
        have e : (2 ^ 11 : Nat).log2 = 11 := by decide
        have := log2_mul (a := (((x.1 : Int) : Rat) - h).den) (b := r.natAbs)
        omega
      have e2 := lowest_ok (t := ((((x.1 : Int) : Rat) - h).num.natAbs : Int) * (g : Int)) (Nat.mul_pos (Rat.den_pos _) na) dl
      have e3 : mkRat (((((x.1 : Int) : Rat) - h).num.natAbs : Int) * (g : Int)) ((((x.1 : Int) : Rat) - h).den * r.natAbs) = W.part (g : Rat) h r (lr x) := W.part_abs z
      rw [e3, Int.natCast_mul] at e2
      have gl : g.log2 ≤ 12 := by
        have := log2_mono hg2
        have e : (5000 : Nat).log2 = 12 := by decide
        omega
      have cm2 : cMul ((((x.1 : Int) : Rat) - h).num.natAbs : Int) (g : Int) = true := by
        have l1 := fg.n
        exact decide_eq_true (by simp only [Int.natAbs_natCast]; omega)
      have cm3 : cMul ((((x.1 : Int) : Rat) - h).den : Int) (r.natAbs : Int) = true := by
        have l1 := fg.d
        have l2 := log2_mono hr
        have e : (2 ^ 11 : Nat).log2 = 11 := by decide
        exact decide_eq_true (by simp only [Int.natAbs_natCast]; omega)
      have st : W.stepG (g : Rat) h r o (lr x) = (match o with | none => some (W.part (g : Rat) h r (lr x)) | some a => if W.part (g : Rat) h r (lr x) < a then some (W.part (g : Rat) h r (lr x)) else some a) := by
        unfold W.stepG; rw [if_pos z]; cases o <;> rfl
      obtain ⟨v16', v17', v18', o', e, G'⟩ := goal_loop (v0 := v0) (v1 := v1) (v2 := v2) (v3 := v3) (v5 := v5) (v6 := v6) (v8 := v8) (v9 := v9) (v10 := v10) (v11 := v11) (v12 := v12) (v13 := v13) (v19 := v19) (v20 := v20) hg hg2 R s hr hs (pre ++ [x]) (W.stepG (g : Rat) h r o (lr x)) (some (.sh, hD x)) (some (.sh, qD (((x.1 : Int) : Rat) - h))) (some (.sh, qD (W.part (g : Rat) h r (lr x)))) (by rw [← e9]; exact hb) G2 hB.tail
      refine ⟨v16', v17', v18', o', ?_, by rw [e9]; exact G'⟩
      rw [← e, List.map_cons]
      refine loop_cons rfl ?_
      have at0 : atI [D.int (((x.1 : Int) : Rat) - h).num, D.int ((((x.1 : Int) : Rat) - h).den : Nat)] 0 = some (.int (((x.1 : Int) : Rat) - h).num) := rfl
      have at1 : atI [D.int (((x.1 : Int) : Rat) - h).num, D.int ((((x.1 : Int) : Rat) - h).den : Nat)] 1 = some (.int ((((x.1 : Int) : Rat) - h).den : Nat)) := rfl
      have p1 : sSet 17 (eCall F__law_minus (aCons (eTup (aCons (eIx (pVar 16) (eC (.int 0))) (aCons (eC (.int 1)) aNil))) (aCons (eVar 7) aNil))) (stG v0 v1 v2 v3 g v5 v6 h v8 v9 v10 v11 v12 v13 r o (some (.sh, hD x)) v17 v18 v19 v20) = some (.nx (stG v0 v1 v2 v3 g v5 v6 h v8 v9 v10 v11 v12 v13 r o (some (.sh, hD x)) (some (.sh, qD (((x.1 : Int) : Rat) - h))) v18 v19 v20)) := by
        simp [stG, hD, atH0, law_minus_eq, e1]
      have p2 : bT (eGt (eMul (eIx (pVar 17) (eC (.int 0))) (eVar 14)) (eC (.int 0))) (stG v0 v1 v2 v3 g v5 v6 h v8 v9 v10 v11 v12 v13 r o (some (.sh, hD x)) (some (.sh, qD (((x.1 : Int) : Rat) - h))) v18 v19 v20) = some (true, stG v0 v1 v2 v3 g v5 v6 h v8 v9 v10 v11 v12 v13 r o (some (.sh, hD x)) (some (.sh, qD (((x.1 : Int) : Rat) - h))) v18 v19 v20) := by
        simp [stG, qD, at0, cm, zp]
      have p3 : sSet 18 (eCall F__law_lowest (aCons (eMul (eB1 gAbs (pE (eIx (pVar 17) (eC (.int 0))))) (eVar 4)) (aCons (eMul (eIx (pVar 17) (eC (.int 1))) (eB1 gAbs (pVar 14))) aNil))) (stG v0 v1 v2 v3 g v5 v6 h v8 v9 v10 v11 v12 v13 r o (some (.sh, hD x)) (some (.sh, qD (((x.1 : Int) : Rat) - h))) v18 v19 v20) = some (.nx (stG v0 v1 v2 v3 g v5 v6 h v8 v9 v10 v11 v12 v13 r o (some (.sh, hD x)) (some (.sh, qD (((x.1 : Int) : Rat) - h))) (some (.sh, qD (W.part (g : Rat) h r (lr x)))) v19 v20)) := by
        simp [stG, qD, at0, at1, abs_int, cm2, cm3, law_lowest_eq, e2]
      have p4 : sSet 15 (eIf (bOr (bT (eIsN false (pVar 15))) (bT (eCall F__law_less (aCons (eVar 18) (aCons (eVar 15) aNil))))) (eVar 18) (eVar 15)) (stG v0 v1 v2 v3 g v5 v6 h v8 v9 v10 v11 v12 v13 r o (some (.sh, hD x)) (some (.sh, qD (((x.1 : Int) : Rat) - h))) (some (.sh, qD (W.part (g : Rat) h r (lr x)))) v19 v20) = some (.nx (stG v0 v1 v2 v3 g v5 v6 h v8 v9 v10 v11 v12 v13 r (W.stepG (g : Rat) h r o (lr x)) (some (.sh, hD x)) (some (.sh, qD (((x.1 : Int) : Rat) - h))) (some (.sh, qD (W.part (g : Rat) h r (lr x)))) v19 v20)) := by
        rw [st]
        cases o with
        | none => simp [stG, oD]
        | some a =>
          obtain ⟨⟨y, hy, hc, ey⟩, _⟩ := G.yes a rfl
          have fa : Fit a := by
            rw [ey]
            exact (R.fitGo hg hg2 s hb (by rw [show hsOf (pre ++ x :: hs) = hsOf pre ++ hsOf (x :: hs) from List.map_append]; exact List.mem_append_left _ hy) hc hr).1
          have e5 := lesser_ok f1 fa
          by_cases w : W.part (g : Rat) h r (lr x) < a
          · simp [-isN, stG, oD, isN_q, law_less_eq, e5, w]
          · simp [-isN, stG, oD, isN_q, law_less_eq, e5, w]
      unfold L__law_one_tub_1
      show sSeq _ _ (stG v0 v1 v2 v3 g v5 v6 h v8 v9 v10 v11 v12 v13 r o (some (.sh, hD x)) v17 v18 v19 v20) = _
      rw [seq_nx p1]
      simp only [sIf, p2, Option.bind_some, if_true]
      rw [seq_nx p3, p4]
    · have zp : ¬ 0 < (((x.1 : Int) : Rat) - h).num * r := fun q => z (W.gap_pos.mp q)
      have st : W.stepG (g : Rat) h r o (lr x) = o := by unfold W.stepG; rw [if_neg z]
      rw [st] at G2
      obtain ⟨v16', v17', v18', o', e, G'⟩ := goal_loop (v0 := v0) (v1 := v1) (v2 := v2) (v3 := v3) (v5 := v5) (v6 := v6) (v8 := v8) (v9 := v9) (v10 := v10) (v11 := v11) (v12 := v12) (v13 := v13) (v19 := v19) (v20 := v20) hg hg2 R s hr hs (pre ++ [x]) o (some (.sh, hD x)) (some (.sh, qD (((x.1 : Int) : Rat) - h))) v18 (by rw [← e9]; exact hb) G2 hB.tail
      refine ⟨v16', v17', v18', o', ?_, by rw [e9]; exact G'⟩
      rw [← e, List.map_cons]
      refine loop_cons rfl ?_
      have at0 : atI [D.int (((x.1 : Int) : Rat) - h).num, D.int ((((x.1 : Int) : Rat) - h).den : Nat)] 0 = some (.int (((x.1 : Int) : Rat) - h).num) := rfl
      have p1 : sSet 17 (eCall F__law_minus (aCons (eTup (aCons (eIx (pVar 16) (eC (.int 0))) (aCons (eC (.int 1)) aNil))) (aCons (eVar 7) aNil))) (stG v0 v1 v2 v3 g v5 v6 h v8 v9 v10 v11 v12 v13 r o (some (.sh, hD x)) v17 v18 v19 v20) = some (.nx (stG v0 v1 v2 v3 g v5 v6 h v8 v9 v10 v11 v12 v13 r o (some (.sh, hD x)) (some (.sh, qD (((x.1 : Int) : Rat) - h))) v18 v19 v20)) := by
        simp [stG, hD, atH0, law_minus_eq, e1]
      have p2 : bT (eGt (eMul (eIx (pVar 17) (eC (.int 0))) (eVar 14)) (eC (.int 0))) (stG v0 v1 v2 v3 g v5 v6 h v8 v9 v10 v11 v12 v13 r o (some (.sh, hD x)) (some (.sh, qD (((x.1 : Int) : Rat) - h))) v18 v19 v20) = some (false, stG v0 v1 v2 v3 g v5 v6 h v8 v9 v10 v11 v12 v13 r o (some (.sh, hD x)) (some (.sh, qD (((x.1 : Int) : Rat) - h))) v18 v19 v20) := by
        simp [stG, qD, at0, cm, zp]
      unfold L__law_one_tub_1
      show sSeq _ _ (stG v0 v1 v2 v3 g v5 v6 h v8 v9 v10 v11 v12 v13 r o (some (.sh, hD x)) v17 v18 v19 v20) = _
      rw [seq_nx p1]
      simp only [sIf, p2, Option.bind_some, Bool.false_eq_true, if_false, sNil]
end Px.S

set_option Elab.async false
set_option linter.all false
set_option maxRecDepth 100000
set_option maxHeartbeats 4000000
/-! MOne3: a piece of the law's way of one tub, run -/
namespace Px.S
open PySem L2 Px
def stW (v0 v1 v2 v3 : Option Sl) (g : Nat) (hs : List Hole) (rows : List W.Row) (h : Rat) (v8 v9 : Option Sl) (c : Int) (here e : Option Rat) (v13 v14 v15 v16 v17 v18 v19 v20 : Option Sl) : S :=
  [v0, v1, v2, v3, some (.sh, .int g), some (.sh, .tup (hs.map hD)), some (.ow, .lst (rows.map rowD)), some (.sh, qD h), v8, v9, some (.sh, .int c), some (.sh, oD here), some (.sh, oD e), v13, v14, v15, v16, v17, v18, v19, v20]
theorem Room.fitEnd {g M B : Nat} {here h E : Rat} {r : Int} (hg : 0 < g) (hg2 : g ≤ 5000) (R : Room M B) (s : W.Sz g M B here h) (hr : -300 ≤ r ∧ r ≤ 1700) (dE : W.Dn M E) (hE : here ≤ E) (hE2 : E ≤ (B : Rat)) : Fit E ∧ Fit (E - here) ∧ Fit ((r : Rat) * (E - here) / (g : Rat)) := by
  have s2 := W.sz_end (l := []) hg R.b0 s hr dE hE hE2
  have b0 : (0 : Rat) ≤ (B : Rat) := Rat.natCast_nonneg
  have t0 := s.t0
  have m1 : M < 2 ^ 4440 := Nat.lt_trans R.m1 (Nat.pow_lt_pow_right (by omega) (by omega))
  have bb : B < 2 ^ 300000 := Nat.lt_trans R.b1 (Nat.pow_lt_pow_right (by omega) (by omega))
  refine ⟨fit_of R.m0 m1 bb dE ⟨by grind, hE2⟩, fit_of R.m0 m1 bb (dE.sub s.dt) ⟨by grind, by grind⟩, ?_⟩
  have e : (r : Rat) * (E - here) / (g : Rat) = W.Row.at (g : Rat) ⟨here, h, r, []⟩ E - h := by
    unfold W.Row.at; simp only []; grind
  rw [e]
  refine fit_of (B := B * 2 ^ 14 * 2) (Nat.mul_pos R.m0 hg) (Nat.lt_trans (pow_lt_mul (k := 13) R.m1 (by omega) hg) (Nat.pow_lt_pow_right (by omega) (by omega))) ?_ ((dn_h hg s2.dh).sub (dn_h hg s.dh)) ?_
  · refine Nat.lt_of_lt_of_le (Nat.mul_lt_mul_of_pos_right (Nat.mul_lt_mul_of_pos_right R.b1 (Nat.two_pow_pos 14)) (by omega)) ?_
    rw [← Nat.pow_add, ← Nat.pow_succ]
    exact Nat.pow_le_pow_right (by omega) (by omega)
  · have h1 := s.hb.1
    have h2 := s.hb.2
    have h3 := s2.hb.1
    have h4 := s2.hb.2
    have eB : ((B * 2 ^ 14 * 2 : Nat) : Rat) = ((B * 2 ^ 14 : Nat) : Rat) * 2 := by rw [Rat.natCast_mul]; rfl
    have le : (B : Rat) ≤ ((B * 2 ^ 14 : Nat) : Rat) := Rat.natCast_le_natCast.mpr (W.le_pow _ _)
    rw [show ∀ y, W.Ab (B * 2 ^ 14 * 2) y = (-((B * 2 ^ 14 * 2 : Nat) : Rat) ≤ y ∧ y ≤ ((B * 2 ^ 14 * 2 : Nat) : Rat)) from fun _ => rfl, eB]
    constructor <;> grind
theorem ints_map (l : List Int) : ints? (l.map D.int) = some l := by
  induction l with
  | nil => rfl
  | cons a l ih => simp [ih]
def hereP (t e : Option Rat) : Option Rat := if t = e then none else t
theorem body_ok {v0 v1 v2 v3 v8 v9 v13 v14 v15 v16 v17 v18 v19 v20 : Option Sl} {g M B : Nat} {hs : List Hole} {rows : List W.Row} {here h : Rat} {c : Int} {e : Option Rat} (hg : 0 < g) (hg2 : g ≤ 5000) (R : Room M B) (s : W.Sz g M B here h) (hb : W.HBd (hsOf hs)) (hB : HB hs) (c0 : 0 ≤ c) (c1 : c ≤ 1700) (he : ∀ E, e = some E → W.Dn M E ∧ here < E ∧ E ≤ (B : Rat)) (hrow : rows.length ≤ 100000) :
    ∃ v13' v14' v15' v16' v17' v18' v19' v20', L__law_one_tub_2 (stW v0 v1 v2 v3 g hs rows h v8 v9 c (some here) e v13 v14 v15 v16 v17 v18 v19 v20) = some (.nx (stW v0 v1 v2 v3 g hs (rows ++ [W.row0 (hsOf hs) c here h]) (match W.nextP here (W.goalP (g : Rat) h (W.riseP (hsOf hs) h c) (hsOf hs)) e with | none => h | some t => (W.row0 (hsOf hs) c here h).at (g : Rat) t) v8 v9 c (hereP (W.nextP here (W.goalP (g : Rat) h (W.riseP (hsOf hs) h c) (hsOf hs)) e) e) e v13' v14' v15' v16' v17' v18' v19' v20')) := by
  have gp : (0 : Rat) < (g : Rat) := by exact_mod_cast hg
  have few : hs.length ≤ 3 := by simpa using hb.few
  have fh := R.fitH hg hg2 s
  have ft := R.fitT s
  have e1 := law_lets_ok (c := c) fh hB few
  have rb := W.rise_bd (h := h) hb c0 c1
  have hsum : c - (W.letsP (hsOf hs) h c).sum = W.riseP (hsOf hs) h c := (W.riseP_sum _ _ _).symm
  obtain ⟨r, er⟩ : ∃ r, W.riseP (hsOf hs) h c = r := ⟨_, rfl⟩
  obtain ⟨l, el⟩ : ∃ l, W.letsP (hsOf hs) h c = l := ⟨_, rfl⟩
  have e0 : W.row0 (hsOf hs) c here h = ⟨here, h, r, l⟩ := by unfold W.row0; rw [er, el]
  rw [er] at hsum rb
  rw [el] at e1 hsum
  rw [e0, er]
  have hrn : r.natAbs ≤ 2 ^ 11 := by omega
  obtain ⟨w16, w17, w18, o, eg, G⟩ := goal_loop (v0 := v0) (v1 := v1) (v2 := v2) (v3 := v3) (v5 := some (.sh, .tup (hs.map hD))) (v6 := some (.ow, .lst ((rows ++ [(⟨here, h, r, l⟩ : W.Row)]).map rowD))) (v8 := v8) (v9 := v9) (v10 := some (.sh, .int c)) (v11 := some (.sh, oD (some here))) (v12 := some (.sh, oD e)) (v13 := some (.sh, .lst (l.map D.int))) (v19 := v19) (v20 := v20) hg hg2 R s hrn hs [] none v16 v17 v18 (by simpa using hb) (W.isGoal_nil _ _ _) hB
  simp only [List.nil_append] at G
  have eo : o = W.goalP (g : Rat) h r (hsOf hs) := G.uniq (W.goalP_is _ _ _ _)
  rw [← eo]
  have fgo : ∀ d, o = some d → Fit d ∧ Fit (here + d) ∧ 0 < d ∧ Fit ((r : Rat) * d / (g : Rat)) := fun d hd => by
    obtain ⟨⟨x, hx, hc, ex⟩, _⟩ := G.yes d hd
    obtain ⟨f1, f2⟩ := R.fitGo hg hg2 s hb hx hc hrn
    have lv := hb.lev x hx
    rw [← ex] at f1 f2
    refine ⟨f1, f2, by rw [ex]; exact W.part_pos gp hc, ?_⟩
    have h1 := W.part_mul (g := (g : Rat)) (h := h) (x := x) (W.cond_ne hc)
    rw [← ex] at h1
    have : (r : Rat) * d / (g : Rat) = (x.1 : Rat) - h := by grind
    rw [this]
    exact R.fitGap hg hg2 s lv.1 lv.2
  -- the statements
  have p1 : sSet 13 (eCall F__law_lets (aCons (eVar 5) (aCons (eVar 7) (aCons (eVar 10) aNil)))) (stW v0 v1 v2 v3 g hs rows h v8 v9 c (some here) e v13 v14 v15 v16 v17 v18 v19 v20) = some (.nx (stW v0 v1 v2 v3 g hs rows h v8 v9 c (some here) e (some (.sh, .lst (l.map D.int))) v14 v15 v16 v17 v18 v19 v20)) := by
    simp [stW, e1]
  have p2 : sSet 14 (eSub (eVar 10) (eB1 gSum (pVar 13))) (stW v0 v1 v2 v3 g hs rows h v8 v9 c (some here) e (some (.sh, .lst (l.map D.int))) v14 v15 v16 v17 v18 v19 v20) = some (.nx (stW v0 v1 v2 v3 g hs rows h v8 v9 c (some here) e (some (.sh, .lst (l.map D.int))) (some (.sh, .int r)) v15 v16 v17 v18 v19 v20)) := by
    simp [stW, ints_map, hsum]
  have p3 : sApp 6 (eTup (aCons (eVar 11) (aCons (eVar 7) (aCons (eVar 14) (aCons (eVar 13) aNil))))) (stW v0 v1 v2 v3 g hs rows h v8 v9 c (some here) e (some (.sh, .lst (l.map D.int))) (some (.sh, .int r)) v15 v16 v17 v18 v19 v20) = some (.nx (stW v0 v1 v2 v3 g hs (rows ++ [(⟨here, h, r, l⟩ : W.Row)]) h v8 v9 c (some here) e (some (.sh, .lst (l.map D.int))) (some (.sh, .int r)) v15 v16 v17 v18 v19 v20)) := by
    simp (disch := omega) [stW, small_of, rowD, oD]
  have p4 : sSet 15 (eC .non) (stW v0 v1 v2 v3 g hs (rows ++ [(⟨here, h, r, l⟩ : W.Row)]) h v8 v9 c (some here) e (some (.sh, .lst (l.map D.int))) (some (.sh, .int r)) v15 v16 v17 v18 v19 v20) = some (.nx (stG v0 v1 v2 v3 g (some (.sh, .tup (hs.map hD))) (some (.ow, .lst ((rows ++ [(⟨here, h, r, l⟩ : W.Row)]).map rowD))) h v8 v9 (some (.sh, .int c)) (some (.sh, oD (some here))) (some (.sh, oD e)) (some (.sh, .lst (l.map D.int))) r none v16 v17 v18 v19 v20)) := rfl
  have p5 : iSeq (eVar 5) (stG v0 v1 v2 v3 g (some (.sh, .tup (hs.map hD))) (some (.ow, .lst ((rows ++ [(⟨here, h, r, l⟩ : W.Row)]).map rowD))) h v8 v9 (some (.sh, .int c)) (some (.sh, oD (some here))) (some (.sh, oD e)) (some (.sh, .lst (l.map D.int))) r none v16 v17 v18 v19 v20) = some (hs.map hD, stG v0 v1 v2 v3 g (some (.sh, .tup (hs.map hD))) (some (.ow, .lst ((rows ++ [(⟨here, h, r, l⟩ : W.Row)]).map rowD))) h v8 v9 (some (.sh, .int c)) (some (.sh, oD (some here))) (some (.sh, oD e)) (some (.sh, .lst (l.map D.int))) r none v16 v17 v18 v19 v20) := rfl
  let s5 (v19 v20 : Option Sl) (h' : Rat) (hr' : Option Rat) : S := stW v0 v1 v2 v3 g hs (rows ++ [(⟨here, h, r, l⟩ : W.Row)]) h' v8 v9 c hr' e (some (.sh, .lst (l.map D.int))) (some (.sh, .int r)) (some (.sh, oD o)) w16 w17 w18 v19 v20
  have eg' : loopD (hName 16) L__law_one_tub_1 (hs.map hD) (stG v0 v1 v2 v3 g (some (.sh, .tup (hs.map hD))) (some (.ow, .lst ((rows ++ [(⟨here, h, r, l⟩ : W.Row)]).map rowD))) h v8 v9 (some (.sh, .int c)) (some (.sh, oD (some here))) (some (.sh, oD e)) (some (.sh, .lst (l.map D.int))) r none v16 v17 v18 v19 v20) = some (.nx (s5 v19 v20 h (some here))) := eg
  have p6 : sSet 19 (eIf (bT (eIsN false (pVar 15))) (eC .non) (eCall F__law_plus (aCons (eVar 11) (aCons (eVar 15) aNil)))) (s5 v19 v20 h (some here)) = some (.nx (s5 (some (.sh, oD (o.map (here + ·)))) v20 h (some here))) := by
    cases ho : o with
    | none => simp [s5, stW, oD, ho]
    | some d =>
      obtain ⟨f1, _, _, _⟩ := fgo d ho
      have := plus_ok ft f1
      simp [-isN, s5, stW, oD, isN_q, law_plus_eq, this, ho]
  have p7 : sIf (bAnd (bT (eIsN true (pVar 12))) (bOr (bT (eIsN false (pVar 19))) (bNot (bT (eCall F__law_less (aCons (eVar 19) (aCons (eVar 12) aNil))))))) (sSet 19 (eVar 12)) sNil (s5 (some (.sh, oD (o.map (here + ·)))) v20 h (some here)) = some (.nx (s5 (some (.sh, oD (W.nextP here o e))) v20 h (some here))) := by
    cases hee : e with
    | none => cases ho : o <;> simp [-isN, isN, s5, stW, oD, W.nextP, ho, hee]
    | some E =>
      obtain ⟨dE, hE, hE2⟩ := he E hee
      obtain ⟨fE, _, _⟩ := R.fitEnd hg hg2 s rb dE (Rat.le_of_lt hE) hE2
      cases ho : o with
      | none => simp [-isN, s5, stW, oD, W.nextP, ho, hee, isN_q, show isN .non = true from rfl]
      | some d =>
        obtain ⟨_, f2, _, _⟩ := fgo d ho
        have e5 := lesser_ok f2 fE
        by_cases w : here + d < E
        · simp [-isN, s5, stW, oD, W.nextP, ho, hee, isN_q, law_less_eq, e5, w]
        · simp [-isN, s5, stW, oD, W.nextP, ho, hee, isN_q, law_less_eq, e5, w]
  -- the hour that comes next
  have key : ∀ t, W.nextP here o e = some t → Fit (t - here) ∧ Fit t ∧ Fit ((r : Rat) * (t - here) / (g : Rat)) := fun t ht => by
    by_cases z : some t = e
    · obtain ⟨dE, hE, hE2⟩ := he t z.symm
      obtain ⟨f1, f2, f3⟩ := R.fitEnd hg hg2 s rb dE (Rat.le_of_lt hE) hE2
      exact ⟨f2, f1, f3⟩
    · obtain ⟨d, hd, et, _⟩ := W.nextP_go ht z
      obtain ⟨f1, f2, _, f4⟩ := fgo d hd
      have : t - here = d := by grind
      rw [this, et]
      exact ⟨f1, f2, f4⟩
  have p8 : ∃ w20, sIf (bT (eIsN true (pVar 19))) (sSeq (sSet 20 (eCall F__law_minus (aCons (eVar 19) (aCons (eVar 11) aNil)))) (sSet 7 (eCall F__law_plus (aCons (eVar 7) (aCons (eCall F__law_lowest (aCons (eMul (eVar 14) (eIx (pVar 20) (eC (.int 0)))) (aCons (eMul (eVar 4) (eIx (pVar 20) (eC (.int 1)))) aNil))) aNil))))) sNil (s5 (some (.sh, oD (W.nextP here o e))) v20 h (some here)) = some (.nx (s5 (some (.sh, oD (W.nextP here o e))) w20 (match W.nextP here o e with | none => h | some t => W.Row.at (g : Rat) ⟨here, h, r, l⟩ t) (some here))) := by
    cases hn : W.nextP here o e with
    | none => exact ⟨v20, by simp [s5, stW, oD]⟩
    | some t =>
      obtain ⟨f1, f2, f3⟩ := key t hn
      have e6 := less_ok f2 ft
      have hd9 : (g * (t - here).den).log2 < 9000 := by
        have l1 := f1.d
        have l2 := log2_mono hg2
        have e : (5000 : Nat).log2 = 12 := by decide
        have := log2_mul (a := g) (b := (t - here).den)
        omega
      have e7 := lowest_ok (t := r * (t - here).num) (Nat.mul_pos hg (Rat.den_pos _)) hd9
      rw [W.mk_scale r g (t - here) hg, Int.natCast_mul] at e7
      have e8 := plus_ok fh f3
      have cm1 : cMul r (t - here).num = true := by
        have l1 := f1.n
        have l2 := log2_mono hrn
        have e : (2 ^ 11 : Nat).log2 = 11 := by decide
        exact decide_eq_true (by omega)
      have cm2 : cMul (g : Int) ((t - here).den : Int) = true := by
        have l1 := f1.d
        have l2 := log2_mono hg2
        have e : (5000 : Nat).log2 = 12 := by decide
        exact decide_eq_true (by simp only [Int.natAbs_natCast]; omega)
      refine ⟨some (.sh, qD (t - here)), ?_⟩
      have at0 : atI [D.int (t - here).num, D.int ((t - here).den : Nat)] 0 = some (.int (t - here).num) := rfl
      have at1 : atI [D.int (t - here).num, D.int ((t - here).den : Nat)] 1 = some (.int ((t - here).den : Nat)) := rfl
      have q1 : bT (eIsN true (pVar 19)) (s5 (some (.sh, qD t)) v20 h (some here)) = some (true, s5 (some (.sh, qD t)) v20 h (some here)) := by
        simp [-isN, s5, stW, isN_q]
      have q2 : sSet 20 (eCall F__law_minus (aCons (eVar 19) (aCons (eVar 11) aNil))) (s5 (some (.sh, qD t)) v20 h (some here)) = some (.nx (s5 (some (.sh, qD t)) (some (.sh, qD (t - here))) h (some here))) := by
        simp [s5, stW, oD, law_minus_eq, e6]
      have q3 : eCall F__law_lowest (aCons (eMul (eVar 14) (eIx (pVar 20) (eC (.int 0)))) (aCons (eMul (eVar 4) (eIx (pVar 20) (eC (.int 1)))) aNil)) (s5 (some (.sh, qD t)) (some (.sh, qD (t - here))) h (some here)) = some (qD ((r : Rat) * (t - here) / (g : Rat)), s5 (some (.sh, qD t)) (some (.sh, qD (t - here))) h (some here)) := by
        simp [s5, stW, show qD (t - here) = .tup [.int (t - here).num, .int ((t - here).den : Nat)] from rfl, at0, at1, cm1, cm2, law_lowest_eq, e7]
      have q4 : sSet 7 (eCall F__law_plus (aCons (eVar 7) (aCons (eCall F__law_lowest (aCons (eMul (eVar 14) (eIx (pVar 20) (eC (.int 0)))) (aCons (eMul (eVar 4) (eIx (pVar 20) (eC (.int 1)))) aNil))) aNil))) (s5 (some (.sh, qD t)) (some (.sh, qD (t - here))) h (some here)) = some (.nx (s5 (some (.sh, qD t)) (some (.sh, qD (t - here))) (W.Row.at (g : Rat) ⟨here, h, r, l⟩ t) (some here))) := by
        have q0 : eVar 7 (s5 (some (.sh, qD t)) (some (.sh, qD (t - here))) h (some here)) = some (qD h, s5 (some (.sh, qD t)) (some (.sh, qD (t - here))) h (some here)) := rfl
        exact (set_of (call_two q0 q3 (by rw [law_plus_eq]; exact e8))).trans rfl
      show sIf _ _ _ (s5 (some (.sh, qD t)) v20 h (some here)) = _
      simp only [sIf, q1, Option.bind_some, if_true]
      rw [seq_nx q2, q4]
      rfl
  obtain ⟨w20, p8⟩ := p8
  have p9 : ∀ h', sSet 11 (eIf (bOr (bT (eIsN false (pVar 19))) (bT (eOpP gEq (pVar 19) (pVar 12)))) (eC .non) (eVar 19)) (s5 (some (.sh, oD (W.nextP here o e))) w20 h' (some here)) = some (.nx (s5 (some (.sh, oD (W.nextP here o e))) w20 h' (hereP (W.nextP here o e) e))) := fun h' => by
    unfold hereP
    cases hn : W.nextP here o e with
    | none => simp [s5, stW, oD]
    | some t =>
      cases hee : e with
      | none => simp [-isN, s5, stW, oD, isN_q, hee, okD_q, eqD_q_non]
      | some E =>
        by_cases z : t = E
        · subst z; simp [-isN, s5, stW, oD, isN_q, hee, okD_q, eqD_q]
        · simp [-isN, s5, stW, oD, isN_q, hee, okD_q, eqD_q, z]
  have ee := (seq_nx (g := _) p1).trans ((seq_nx p2).trans ((seq_nx p3).trans ((seq_nx p4).trans ((seq_nx ((for_of p5).trans eg')).trans ((seq_nx p6).trans ((seq_nx p7).trans ((seq_nx p8).trans (p9 _))))))))
  exact ⟨_, _, _, _, _, _, _, _, ee⟩
end Px.S

set_option Elab.async false
set_option linter.all false
set_option maxRecDepth 100000
set_option maxHeartbeats 4000000
/-! MOne4: the law's way of one tub is oneTub -/
namespace Px.S
open PySem L2 Px
theorem le_pow11 {M k : Nat} (h : M * 2 ^ (11 * k) < 2 ^ 4400) : M < 2 ^ 4400 := Nat.lt_of_le_of_lt (W.le_pow _ _) h
/-- room for so many more holes -/
structure RoomK (M B k : Nat) : Prop where
  m0 : 0 < M
  b0 : 5000 ≤ B
  m : M * 2 ^ (11 * k) < 2 ^ 4400
  b : B * 2 ^ (14 * (k + 1)) < 2 ^ 200000
theorem RoomK.room {M B k : Nat} (r : RoomK M B k) : Room M B := ⟨r.m0, le_pow11 r.m, r.b0, Nat.lt_of_le_of_lt (W.le_pow _ _) r.b⟩
theorem RoomK.go {M B j r : Nat} (R : RoomK M B (j + 1)) (h0 : 0 < r) (h1 : r ≤ 2 ^ 11) : RoomK (M * r) (B * 2 ^ 14) j :=
  ⟨Nat.mul_pos R.m0 h0, Nat.le_trans R.b0 (W.le_pow _ _), Nat.lt_of_le_of_lt (W.pow_step _ _ _ h1) R.m, by rw [W.pow_step14]; exact R.b⟩
theorem piece_run {v0 v1 v2 v3 v8 v9 : Option Sl} {g : Nat} {hs : List Hole} {c : Int} {e : Option Rat} (hg : 0 < g) (hg2 : g ≤ 5000) (ok : W.HsOk (hsOf hs)) (hb : W.HBd (hsOf hs)) (hB : HB hs) (c0 : 0 ≤ c) (c1 : c ≤ 1700) : ∀ (n : Nat) (here h : Rat) (rows : List W.Row) (M B k : Nat) (v13 v14 v15 v16 v17 v18 v19 v20 : Option Sl),
    W.ahead (hsOf hs) h (W.riseP (hsOf hs) h c) ≤ k → W.ahead (hsOf hs) h (W.riseP (hsOf hs) h c) < n → RoomK M B k → W.Sz g M B here h → rows.length + n ≤ 100000 → (∀ E, e = some E → W.Dn M E ∧ here < E ∧ E ≤ (B : Rat)) →
    ∃ v13' v14' v15' v16' v17' v18' v19' v20', whileD (bT (eIsN true (pVar 11))) L__law_one_tub_2 (n + 1) (stW v0 v1 v2 v3 g hs rows h v8 v9 c (some here) e v13 v14 v15 v16 v17 v18 v19 v20) = some (.nx (stW v0 v1 v2 v3 g hs (rows ++ (W.piece (g : Rat) (hsOf hs) c e n here h).1) (W.piece (g : Rat) (hsOf hs) c e n here h).2 v8 v9 c none e v13' v14' v15' v16' v17' v18' v19' v20'))
 := by
  intro n
  induction n with
  | zero => intro here h rows M B k v13 v14 v15 v16 v17 v18 v19 v20 hk hn; omega
  | succ n ih =>
    intro here h rows M B k v13 v14 v15 v16 v17 v18 v19 v20 hk hn RK s hl he
    have gp : (0 : Rat) < (g : Rat) := by exact_mod_cast hg
    have R : Room M B := RK.room
    obtain ⟨w13, w14, w15, w16, w17, w18, w19, w20, eb⟩ := body_ok (v0 := v0) (v1 := v1) (v2 := v2) (v3 := v3) (v8 := v8) (v9 := v9) (v13 := v13) (v14 := v14) (v15 := v15) (v16 := v16) (v17 := v17) (v18 := v18) (v19 := v19) (v20 := v20) (rows := rows) hg hg2 R s hb hB c0 c1 he (by omega)
    have t1 : bT (eIsN true (pVar 11)) (stW v0 v1 v2 v3 g hs rows h v8 v9 c (some here) e v13 v14 v15 v16 v17 v18 v19 v20) = some (true, stW v0 v1 v2 v3 g hs rows h v8 v9 c (some here) e v13 v14 v15 v16 v17 v18 v19 v20) := rfl
    have t2 : ∀ rows h v13 v14 v15 v16 v17 v18 v19 v20, bT (eIsN true (pVar 11)) (stW v0 v1 v2 v3 g hs rows h v8 v9 c none e v13 v14 v15 v16 v17 v18 v19 v20) = some (false, stW v0 v1 v2 v3 g hs rows h v8 v9 c none e v13 v14 v15 v16 v17 v18 v19 v20) := fun _ _ _ _ _ _ _ _ _ _ => rfl
    rw [while_turn t1 eb]
    have rb := W.rise_bd (h := h) hb c0 c1
    have G := W.goalP_is (g : Rat) h (W.riseP (hsOf hs) h c) (hsOf hs)
    simp only [W.piece]
    cases q : W.nextP here (W.goalP (g : Rat) h (W.riseP (hsOf hs) h c) (hsOf hs)) e with
    | none =>
      obtain ⟨q1, q2⟩ := W.nextP_none q
      subst q2
      exact ⟨_, _, _, _, _, _, _, _, while_end (t2 _ _ _ _ _ _ _ _ _ _)⟩
    | some t =>
      simp only []
      by_cases z : some t = e
      · have hz : hereP (some t) e = none := by unfold hereP; rw [if_pos z]
        rw [if_pos z, hz]
        exact ⟨_, _, _, _, _, _, _, _, while_end (t2 _ _ _ _ _ _ _ _ _ _)⟩
      · have hz : hereP (some t) e = some t := by unfold hereP; rw [if_neg z]
        rw [if_neg z, hz]
        obtain ⟨d, qd, et, lt⟩ := W.nextP_go q z
        obtain ⟨x, hx, ex, hcx, al⟩ := W.ahead_lt gp ok qd
        have ed : d = W.part (g : Rat) h (W.riseP (hsOf hs) h c) x := by
          have h1 := W.part_mul (g := (g : Rat)) (h := h) (x := x) (W.cond_ne hcx)
          have rne : (W.riseP (hsOf hs) h c : Rat) ≠ 0 := by exact_mod_cast W.cond_ne hcx
          have h2 : (W.riseP (hsOf hs) h c : Rat) * d = ((x.1 : Rat) - h) * (g : Rat) := by
            have e1 : (W.riseP (hsOf hs) h c : Rat) * d / (g : Rat) * (g : Rat) = (W.riseP (hsOf hs) h c : Rat) * d := by grind
            rw [← e1]
            have e2 : (W.riseP (hsOf hs) h c : Rat) * d / (g : Rat) = (x.1 : Rat) - h := by grind
            rw [e2]
          grind
        have eh' : W.Row.at (g : Rat) (W.row0 (hsOf hs) c here h) t = (x.1 : Rat) := by
          rw [← ex, et]
          show h + (W.riseP (hsOf hs) h c : Rat) * (here + d - here) / (g : Rat) = _
          grind
        have eh2 : W.Row.at (g : Rat) ⟨here, h, W.riseP (hsOf hs) h c, W.letsP (hsOf hs) h c⟩ t = (x.1 : Rat) := eh'
        have s2 := W.sz_go hg hg2 R.b0 s hb hx hcx
        rw [← ed, ← et] at s2
        have na : 0 < (W.riseP (hsOf hs) h c).natAbs := by have := W.cond_ne hcx; omega
        obtain ⟨j, rfl⟩ : ∃ j, k = j + 1 := ⟨k - 1, by omega⟩
        obtain ⟨u13, u14, u15, u16, u17, u18, u19, u20, eu⟩ := ih t (x.1 : Rat) (rows ++ [W.row0 (hsOf hs) c here h]) (M * (W.riseP (hsOf hs) h c).natAbs) (B * 2 ^ 14) j w13 w14 w15 w16 w17 w18 w19 w20 (by omega) (by omega) (RK.go na (by omega)) s2 (by simp; omega) (fun E z => by
            obtain ⟨d1, d2, d3⟩ := he E z
            have : (B : Rat) ≤ ((B * 2 ^ 14 : Nat) : Rat) := Rat.natCast_le_natCast.mpr (W.le_pow _ _)
            exact ⟨d1.up _, lt E z, by grind⟩)
        refine ⟨u13, u14, u15, u16, u17, u18, u19, u20, ?_⟩
        rw [eh2]
        show whileD _ _ (n + 1) (stW v0 v1 v2 v3 g hs (rows ++ [W.row0 (hsOf hs) c here h]) (W.Row.at (g : Rat) (W.row0 (hsOf hs) c here h) t) v8 v9 c (some t) e w13 w14 w15 w16 w17 w18 w19 w20) = _
        rw [eh', eu]
        simp [W.row0]
end Px.S

set_option Elab.async false
set_option linter.all false
set_option maxRecDepth 100000
set_option maxHeartbeats 4000000
/-! MOne5: the law's way of one tub, whole -/
namespace Px.S
open PySem L2 Px
/-- room for so many more pieces -/
structure RoomP (M B p : Nat) : Prop where
  m0 : 0 < M
  b0 : 5000 ≤ B
  m : M * 2 ^ (33 * p) < 2 ^ 4400
  b : B * 2 ^ (56 * p) < 2 ^ 200000
theorem RoomP.k {M B p : Nat} (r : RoomP M B (p + 1)) : RoomK M B 3 := by
  refine ⟨r.m0, r.b0, Nat.lt_of_le_of_lt ?_ r.m, Nat.lt_of_le_of_lt ?_ r.b⟩
  · exact Nat.mul_le_mul_left _ (Nat.pow_le_pow_right (by omega) (by omega))
  · exact Nat.mul_le_mul_left _ (Nat.pow_le_pow_right (by omega) (by omega))
theorem RoomP.next {M B M' B' p : Nat} (r : RoomP M B (p + 1)) (h0 : 0 < M') (hb : B ≤ B') (h1 : M' ≤ M * 2 ^ (11 * 3)) (h2 : B' ≤ B * 2 ^ (14 * (3 + 1))) : RoomP M' B' p := by
  refine ⟨h0, Nat.le_trans r.b0 hb, Nat.lt_of_le_of_lt (Nat.mul_le_mul_right _ h1) ?_, Nat.lt_of_le_of_lt (Nat.mul_le_mul_right _ h2) ?_⟩
  · rw [W.mul_pow_add]
    refine Nat.lt_of_le_of_lt ?_ r.m
    exact Nat.mul_le_mul_left _ (Nat.pow_le_pow_right (by omega) (by omega))
  · rw [W.mul_pow_add]
    refine Nat.lt_of_le_of_lt ?_ r.b
    exact Nat.mul_le_mul_left _ (Nat.pow_le_pow_right (by omega) (by omega))
def stC (v0 : Option Sl) (cs : List (Rat × Int)) (v2 v3 : Option Sl) (g : Nat) (hs : List Hole) (rows : List W.Row) (h : Rat) (v8 v9 v10 v11 v12 v13 v14 v15 v16 v17 v18 v19 v20 : Option Sl) : S :=
  [v0, some (.sh, .lst (cs.map cD)), v2, v3, some (.sh, .int g), some (.sh, .tup (hs.map hD)), some (.ow, .lst (rows.map rowD)), some (.sh, qD h), v8, v9, v10, v11, v12, v13, v14, v15, v16, v17, v18, v19, v20]
theorem atI_natM {α : Type} (l : List α) (n : Nat) : atI l (n : Int) = l[n]? := by
  unfold atI ixN
  rw [if_pos (by omega)]
  by_cases h : n < l.length
  · rw [if_pos (by omega)]; simp
  · rw [if_neg (by omega)]; simp; omega
theorem coming_turn {v0 v2 v3 : Option Sl} {cs : List (Rat × Int)} {g : Nat} {hs : List Hole} {rows : List W.Row} {h : Rat} {a : Rat × Int} {k : Nat} {o : Option (Rat × Int)} {v12 v13 v14 v15 v16 v17 v18 v19 v20 : Option Sl} (ho : cs[k + 1]? = o) (hk : k < cs.length) :
    sSet 12 (eIf (bT (eLt (eAdd (eVar 8) (eC (.int 1))) (eB1 gLen (pVar 1)))) (eIx (pE (eIx (pVar 1) (eAdd (eVar 8) (eC (.int 1))))) (eC (.int 0))) (eC .non)) (stC v0 cs v2 v3 g hs rows h (some (.sh, .int k)) (some (.sh, qD a.1)) (some (.sh, .int a.2)) (some (.sh, qD a.1)) v12 v13 v14 v15 v16 v17 v18 v19 v20) = some (.nx (stW v0 (some (.sh, .lst (cs.map cD))) v2 v3 g hs rows h (some (.sh, .int k)) (some (.sh, qD a.1)) a.2 (some a.1) (o.map (·.1)) v13 v14 v15 v16 v17 v18 v19 v20)) := by
  cases o with
  | none =>
    have hl : ¬ (k : Int) + 1 < (cs.length : Int) := by
      have : cs.length ≤ k + 1 := by simpa using ho
      omega
    simp [stC, stW, oD, hl]
  | some b =>
    have hl : (k : Int) + 1 < (cs.length : Int) := by
      have := (List.getElem?_eq_some_iff.mp ho).1
      omega
    have hat : atI (cs.map cD) ((k : Int) + 1) = some (cD b) := by
      rw [show (k : Int) + 1 = ((k + 1 : Nat) : Int) by omega, atI_natM, List.getElem?_map, ho]; rfl
    have hat2 : atI [qD b.1, D.int b.2] 0 = some (qD b.1) := rfl
    simp [stC, stW, oD, hl, hat, cD, hat2]
theorem l3_ok {v0 v2 v3 : Option Sl} {cs : List (Rat × Int)} {g : Nat} {hs : List Hole} {rows : List W.Row} {h : Rat} {a : Rat × Int} {k : Nat} {o : Option (Rat × Int)} {v11 v12 v13 v14 v15 v16 v17 v18 v19 v20 : Option Sl} {M B : Nat} (hg : 0 < g) (hg2 : g ≤ 5000) (ok : W.HsOk (hsOf hs)) (hb : W.HBd (hsOf hs)) (hB : HB hs) (ho : cs[k + 1]? = o) (hk : k < cs.length) (c0 : 0 ≤ a.2 ∧ a.2 ≤ 1700) (RK : RoomK M B 3) (s : W.Sz g M B a.1 h) (hl : rows.length ≤ 90000) (he : ∀ b, o = some b → W.Dn M b.1 ∧ a.1 < b.1 ∧ b.1 ≤ (B : Rat)) :
    ∃ w8 w9 w10 w11 w12 w13 w14 w15 w16 w17 w18 w19 w20, L__law_one_tub_3 (stC v0 cs v2 v3 g hs rows h (some (.sh, .int k)) (some (.sh, qD a.1)) (some (.sh, .int a.2)) v11 v12 v13 v14 v15 v16 v17 v18 v19 v20) = some (.nx (stC v0 cs v2 v3 g hs (rows ++ (W.piece (g : Rat) (hsOf hs) a.2 (o.map (·.1)) 9 a.1 h).1) (W.piece (g : Rat) (hsOf hs) a.2 (o.map (·.1)) 9 a.1 h).2 w8 w9 w10 w11 w12 w13 w14 w15 w16 w17 w18 w19 w20)) := by
  have few := hb.few
  have al := W.ahead_le (hsOf hs) h (W.riseP (hsOf hs) h a.2)
  obtain ⟨w13, w14, w15, w16, w17, w18, w19, w20, ew⟩ := piece_run (v0 := v0) (v1 := some (.sh, .lst (cs.map cD))) (v2 := v2) (v3 := v3) (v8 := some (.sh, .int k)) (v9 := some (.sh, qD a.1)) (e := o.map (·.1)) hg hg2 ok hb hB c0.1 c0.2 9 a.1 h rows M B 3 v13 v14 v15 v16 v17 v18 v19 v20 (by omega) (by omega) RK s (by omega) (fun E z => by
    cases o with
    | none => cases z
    | some b => cases z; exact he b rfl)
  have p1 : sSet 11 (eVar 9) (stC v0 cs v2 v3 g hs rows h (some (.sh, .int k)) (some (.sh, qD a.1)) (some (.sh, .int a.2)) v11 v12 v13 v14 v15 v16 v17 v18 v19 v20) = some (.nx (stC v0 cs v2 v3 g hs rows h (some (.sh, .int k)) (some (.sh, qD a.1)) (some (.sh, .int a.2)) (some (.sh, qD a.1)) v12 v13 v14 v15 v16 v17 v18 v19 v20)) := rfl
  have p2 := coming_turn (v0 := v0) (v2 := v2) (v3 := v3) (g := g) (hs := hs) (rows := rows) (h := h) (a := a) (v12 := v12) (v13 := v13) (v14 := v14) (v15 := v15) (v16 := v16) (v17 := v17) (v18 := v18) (v19 := v19) (v20 := v20) ho hk
  have e := (seq_nx (g := _) p1).trans ((seq_nx p2).trans ew)
  exact ⟨_, _, _, _, _, _, _, _, _, _, _, _, _, e⟩
theorem tub_run {v0 v2 v3 : Option Sl} {cs : List (Rat × Int)} {g : Nat} {hs : List Hole} (hg : 0 < g) (hg2 : g ≤ 5000) (ok : W.HsOk (hsOf hs)) (hb : W.HBd (hsOf hs)) (hB : HB hs) : ∀ (bs : List (Rat × Int)) (a : Rat × Int) (k : Nat) (h : Rat) (rows : List W.Row) (M B : Nat) (v8 v9 v10 v11 v12 v13 v14 v15 v16 v17 v18 v19 v20 : Option Sl),
    cs.drop k = a :: bs → W.Rising a bs → W.Sz g M B a.1 h → RoomP M B (bs.length + 1) → (∀ b ∈ bs, W.Dn M b.1 ∧ b.1 ≤ (B : Rat)) → (∀ b ∈ a :: bs, 0 ≤ b.2 ∧ b.2 ≤ 1700) → rows.length + 4 * (bs.length + 1) ≤ 90000 →
    ∃ h' w8 w9 w10 w11 w12 w13 w14 w15 w16 w17 w18 w19 w20, loopD (hTup (hCons (hName 8) (hCons (hTup (hCons (hName 9) (hCons (hName 10) hNil))) hNil))) L__law_one_tub_3 (enumD k ((a :: bs).map cD)) (stC v0 cs v2 v3 g hs rows h v8 v9 v10 v11 v12 v13 v14 v15 v16 v17 v18 v19 v20) = some (.nx (stC v0 cs v2 v3 g hs (rows ++ W.oneTub (g : Rat) (hsOf hs) a bs h) h' w8 w9 w10 w11 w12 w13 w14 w15 w16 w17 w18 w19 w20)) := by
  intro bs
  have gp : (0 : Rat) < (g : Rat) := by exact_mod_cast hg
  have few := hb.few
  induction bs with
  | nil =>
    intro a k h rows M B v8 v9 v10 v11 v12 v13 v14 v15 v16 v17 v18 v19 v20 hd hr s RP hdn hc hl
    have hk : k < cs.length := by
      by_cases z : k < cs.length
      · exact z
      · rw [List.drop_eq_nil_of_le (by omega)] at hd; cases hd
    have ho : cs[k + 1]? = none := by
      have := congrArg (fun l => l[1]?) hd
      simpa using this
    obtain ⟨w8, w9, w10, w11, w12, w13, w14, w15, w16, w17, w18, w19, w20, e⟩ := l3_ok (v0 := v0) (v2 := v2) (v3 := v3) (rows := rows) (h := h) (a := a) (v11 := v11) (v12 := v12) (v13 := v13) (v14 := v14) (v15 := v15) (v16 := v16) (v17 := v17) (v18 := v18) (v19 := v19) (v20 := v20) hg hg2 ok hb hB ho hk (hc a (.head _)) RP.k s (by omega) (fun b z => by cases z)
    have e2 : loopD (hTup (hCons (hName 8) (hCons (hTup (hCons (hName 9) (hCons (hName 10) hNil))) hNil))) L__law_one_tub_3 (enumD k ([a].map cD)) (stC v0 cs v2 v3 g hs rows h v8 v9 v10 v11 v12 v13 v14 v15 v16 v17 v18 v19 v20) = _ := (loop_cons rfl e).trans rfl
    exact ⟨_, _, _, _, _, _, _, _, _, _, _, _, _, _, e2⟩
  | cons b bs ih =>
    intro a k h rows M B v8 v9 v10 v11 v12 v13 v14 v15 v16 v17 v18 v19 v20 hd hr s RP hdn hc hl
    rw [List.length_cons] at hl RP
    have hk : k < cs.length := by
      by_cases z : k < cs.length
      · exact z
      · rw [List.drop_eq_nil_of_le (by omega)] at hd; cases hd
    have ho : cs[k + 1]? = some b := by
      have := congrArg (fun l => l[1]?) hd
      simpa using this
    have al := W.ahead_le (hsOf hs) h (W.riseP (hsOf hs) h a.2)
    have c0 := hc a (.head _)
    have hdb := hdn b (.head _)
    obtain ⟨M', B', p1, p2, p3, p4, p5, p6, p7⟩ := W.piece_sz (e := some b.1) hg hg2 ok hb c0.1 c0.2 9 a.1 h M B 3 (by omega) RP.m0 RP.b0 s (fun E z => by cases z; exact ⟨hdb.1, hr.1, hdb.2⟩) (by omega)
    have BB : (B : Rat) ≤ (B' : Rat) := Rat.natCast_le_natCast.mpr p4
    have hlen := W.piece_len (c := a.2) (e := some b.1) gp ok 9 a.1 h
    obtain ⟨u8, u9, u10, u11, u12, u13, u14, u15, u16, u17, u18, u19, u20, e⟩ := l3_ok (v0 := v0) (v2 := v2) (v3 := v3) (rows := rows) (h := h) (a := a) (v11 := v11) (v12 := v12) (v13 := v13) (v14 := v14) (v15 := v15) (v16 := v16) (v17 := v17) (v18 := v18) (v19 := v19) (v20 := v20) hg hg2 ok hb hB ho hk c0 RP.k s (by omega) (fun b' z => by cases z; exact ⟨hdb.1, hr.1, hdb.2⟩)
    obtain ⟨h', w8, w9, w10, w11, w12, w13, w14, w15, w16, w17, w18, w19, w20, e2⟩ := ih b (k + 1) (W.piece (g : Rat) (hsOf hs) a.2 (some b.1) 9 a.1 h).2 (rows ++ (W.piece (g : Rat) (hsOf hs) a.2 (some b.1) 9 a.1 h).1) M' B' u8 u9 u10 u11 u12 u13 u14 u15 u16 u17 u18 u19 u20 (by rw [← List.drop_drop, hd]; rfl) hr.2 (p7 _ rfl) (RP.next p2 p4 p3 p5) (fun x hx => ⟨(hdn x (.tail _ hx)).1.dvdM p1, by have := (hdn x (.tail _ hx)).2; grind⟩) (fun x hx => hc x (.tail _ hx)) (by rw [List.length_append]; omega)
    have e3 := (loop_cons (g := hTup (hCons (hName 8) (hCons (hTup (hCons (hName 9) (hCons (hName 10) hNil))) hNil))) (fb := L__law_one_tub_3) (d := .tup [.int k, cD a]) (ds := enumD (k + 1) ((b :: bs).map cD)) (s := stC v0 cs v2 v3 g hs rows h v8 v9 v10 v11 v12 v13 v14 v15 v16 v17 v18 v19 v20) rfl e).trans e2
    refine ⟨h', w8, w9, w10, w11, w12, w13, w14, w15, w16, w17, w18, w19, w20, ?_⟩
    rw [List.append_assoc] at e3
    exact e3
theorem one_tub_ok {t : Tub} {g : Nat} {a : Rat × Int} {bs : List (Rat × Int)} {h : Rat} {M B : Nat} (eg : t.2.1 = (g : Int)) (hg : 0 < g) (hg2 : g ≤ 5000) (ok : W.HsOk (hsOf t.2.2)) (hb : W.HBd (hsOf t.2.2)) (hB : HB t.2.2) (hr : W.Rising a bs) (s : W.Sz g M B a.1 h) (RP : RoomP M B (bs.length + 1)) (hd : ∀ b ∈ bs, W.Dn M b.1 ∧ b.1 ≤ (B : Rat)) (hc : ∀ b ∈ a :: bs, 0 ≤ b.2 ∧ b.2 ≤ 1700) (hl : bs.length ≤ 1000) :
    F__law_one_tub [tD t, .lst ((a :: bs).map cD), qD h] = some (false, .lst ((W.oneTub (g : Rat) (hsOf t.2.2) a bs h).map rowD)) := by
  obtain ⟨h', w8, w9, w10, w11, w12, w13, w14, w15, w16, w17, w18, w19, w20, e⟩ := tub_run (v0 := some (.sh, tD t)) (v2 := some (.sh, qD h)) (v3 := some (.sh, .str t.1)) (cs := a :: bs) hg hg2 ok hb hB bs a 0 h [] M B none none none none none none none none none none none none none rfl hr s RP hd hc (by simp; omega)
  have p1 : sAsg (eVar 0) (hTup (hCons (hName 3) (hCons (hName 4) (hCons (hName 5) hNil)))) (init 21 [tD t, .lst ((a :: bs).map cD), qD h]) = some (.nx [some (.sh, tD t), some (.sh, .lst ((a :: bs).map cD)), some (.sh, qD h), some (.sh, .str t.1), some (.sh, .int t.2.1), some (.sh, .tup (t.2.2.map hD)), none, none, none, none, none, none, none, none, none, none, none, none, none, none, none]) := rfl
  rw [eg] at p1
  have p2 : sSetO 6 (eLst aNil) [some (.sh, tD t), some (.sh, .lst ((a :: bs).map cD)), some (.sh, qD h), some (.sh, .str t.1), some (.sh, .int g), some (.sh, .tup (t.2.2.map hD)), none, none, none, none, none, none, none, none, none, none, none, none, none, none, none] = some (.nx [some (.sh, tD t), some (.sh, .lst ((a :: bs).map cD)), some (.sh, qD h), some (.sh, .str t.1), some (.sh, .int g), some (.sh, .tup (t.2.2.map hD)), some (.ow, .lst []), none, none, none, none, none, none, none, none, none, none, none, none, none, none]) := rfl
  have p3 : sSet 7 (eVar 2) [some (.sh, tD t), some (.sh, .lst ((a :: bs).map cD)), some (.sh, qD h), some (.sh, .str t.1), some (.sh, .int g), some (.sh, .tup (t.2.2.map hD)), some (.ow, .lst []), none, none, none, none, none, none, none, none, none, none, none, none, none, none] = some (.nx (stC (some (.sh, tD t)) (a :: bs) (some (.sh, qD h)) (some (.sh, .str t.1)) g t.2.2 [] h none none none none none none none none none none none none none)) := rfl
  have p4 : iEnum (eVar 1) (stC (some (.sh, tD t)) (a :: bs) (some (.sh, qD h)) (some (.sh, .str t.1)) g t.2.2 [] h none none none none none none none none none none none none none) = some (enumD 0 ((a :: bs).map cD), stC (some (.sh, tD t)) (a :: bs) (some (.sh, qD h)) (some (.sh, .str t.1)) g t.2.2 [] h none none none none none none none none none none none none none) := rfl
  unfold F__law_one_tub f__law_one_tub
  simp only [runF]
  rw [seq_nx p1, seq_nx p2, seq_nx p3, seq_nx ((for_of p4).trans e)]
  rfl
end Px.S

set_option linter.all false
set_option Elab.async false
/-! MSumP: several rows together -/
namespace Px.W
abbrev Cs := List (Rat × Int)
/-- what comes by a list of rows -/
def cL : Cs → Rat → Int
  | [], _ => 0
  | a :: bs, t => cAt a bs t
def RisL : Cs → Prop
  | [] => True
  | a :: bs => Rising a bs
/-- a list of rows from hour 0 on -/
structure CsOk (l : Cs) : Prop where
  ris : RisL l
  zero : ∃ c bs, l = (0, c) :: bs
theorem Rising.lt : ∀ {bs : Cs} {a : Rat × Int}, Rising a bs → ∀ b ∈ bs, a.1 < b.1
  | [], _, _, _, hb => by cases hb
  | c :: bs, a, h, b, hb => by
    rcases List.mem_cons.mp hb with e | e
    · subst e; exact h.1
    · have := Rising.lt h.2 b e
      have := h.1
      grind
/-- the last row not behind t -/
theorem last_row : ∀ (bs : Cs) (a : Rat × Int) (t : Rat), Rising a bs → a.1 ≤ t → (((a :: bs).filter fun b => decide (¬ t < b.1)).map (·.2)).getLast? = some (cAt a bs t)
  | [], a, t, _, h => by
    have : ¬ t < a.1 := by grind
    simp [this, cAt]
  | b :: bs, a, t, hr, h => by
    have h1 : ¬ t < a.1 := by grind
    by_cases z : t < b.1
    · have : (b :: bs).filter (fun b => decide (¬ t < b.1)) = [] := by
        rw [List.filter_eq_nil_iff]
        intro x hx
        have : t < x.1 := by
          rcases List.mem_cons.mp hx with e | e
          · subst e; exact z
          · have := hr.2.lt x e; grind
        simpa using this
      rw [List.filter_cons_of_pos (by simpa using h1), this]
      simp [cAt, z]
    · have ih := last_row bs b t hr.2 (by grind)
      rw [List.filter_cons_of_pos (by simpa using h1)]
      obtain ⟨c, cs, ec⟩ : ∃ c cs, (b :: bs).filter (fun b => decide (¬ t < b.1)) = c :: cs := by
        rw [List.filter_cons_of_pos (by simpa using z)]
        exact ⟨_, _, rfl⟩
      rw [ec] at ih ⊢
      simp only [cAt]
      rw [if_neg z]
      rw [← ih]
      simp [List.getLast?_cons_cons]
/-- nothing changes between two hours if no row lies there -/
theorem cAt_same : ∀ (bs : Cs) (a : Rat × Int) (s t : Rat), Rising a bs → s ≤ t → (∀ b ∈ bs, ¬ (s < b.1 ∧ b.1 ≤ t)) → cAt a bs s = cAt a bs t
  | [], _, _, _, _, _, _ => rfl
  | b :: bs, a, s, t, hr, h, hn => by
    simp only [cAt]
    by_cases z : s < b.1
    · have := hn b (.head _)
      have : t < b.1 := by grind
      rw [if_pos z, if_pos this]
    · rw [if_neg z, if_neg (by grind)]
      exact cAt_same bs b s t hr.2 h fun x hx => hn x (.tail _ hx)
/-- the row in force -/
theorem cAt_row : ∀ (bs : Cs) (a : Rat × Int) (t : Rat), Rising a bs → a.1 ≤ t → ∃ b ∈ a :: bs, b.1 ≤ t ∧ cAt a bs t = b.2 ∧ ∀ x ∈ a :: bs, ¬ (b.1 < x.1 ∧ x.1 ≤ t)
  | [], a, t, _, h => ⟨a, .head _, h, rfl, fun x hx => by
    have : x = a := by simpa using hx
    subst this; grind⟩
  | b :: bs, a, t, hr, h => by
    by_cases z : t < b.1
    · refine ⟨a, .head _, h, by simp [cAt, z], fun x hx => ?_⟩
      rcases List.mem_cons.mp hx with e | e
      · subst e; grind
      · rcases List.mem_cons.mp e with e | e
        · subst e; grind
        · have := hr.2.lt x e; grind
    · obtain ⟨c, hc, h1, h2, h3⟩ := cAt_row bs b t hr.2 (by grind)
      refine ⟨c, .tail _ hc, h1, by simp [cAt, z, h2], fun x hx => ?_⟩
      rcases List.mem_cons.mp hx with e | e
      · subst e
        have : b.1 ≤ c.1 := by
          rcases List.mem_cons.mp hc with e | e
          · subst e; exact Rat.le_refl
          · have := hr.2.lt c e; grind
        have := hr.1
        grind
      · exact h3 x e
def sumL (ls : List Cs) (t : Rat) : Int := (ls.map fun l => cL l t).sum
/-- the rows of several together -/
structure IsSum (ls : List Cs) (r : Cs) : Prop where
  ok : CsOk r
  mem : ∀ t, (∃ b ∈ r, b.1 = t) ↔ ∃ l ∈ ls, ∃ b ∈ l, b.1 = t
  val : ∀ b ∈ r, b.2 = sumL ls b.1
theorem IsSum.at {ls : List Cs} {r : Cs} (h : IsSum ls r) (hl : ∀ l ∈ ls, CsOk l) {t : Rat} (ht : 0 ≤ t) : cL r t = sumL ls t := by
  obtain ⟨c, bs, e⟩ := h.ok.zero
  have ris := h.ok.ris
  have mem := h.mem
  have val := h.val
  subst e
  obtain ⟨b, hb, h1, h2, h3⟩ := cAt_row bs (0, c) t ris ht
  show cAt (0, c) bs t = _
  rw [h2, val b hb]
  unfold sumL
  congr 1
  refine List.map_congr_left fun l hl' => ?_
  obtain ⟨c', bs', e'⟩ := (hl l hl').zero
  have ris' := (hl l hl').ris
  subst e'
  show cAt (0, c') bs' b.1 = cAt (0, c') bs' t
  refine cAt_same bs' (0, c') b.1 t ris' h1 fun x hx q => ?_
  obtain ⟨y, hy, ey⟩ := (mem x.1).mpr ⟨_, hl', x, .tail _ hx, rfl⟩
  exact h3 y hy (by rw [ey]; exact q)
end Px.W

set_option Elab.async false
set_option linter.all false
set_option maxRecDepth 100000
set_option maxHeartbeats 4000000
/-! MSum: the law's sum of rows, run -/
namespace Px
open PySem L2
theorem live_inv {i : Nat} {g : FG} {fb : FS} {ds : List D} (P : Nat → S → Prop) (h : ∀ k s, P k s → s[i]? = some (some (.rf, .lst ds))) (step : ∀ k d s, ds[k]? = some d → P k s → ∃ s1 s2, g d s = some s1 ∧ fb s1 = some (.nx s2) ∧ P (k + 1) s2) : ∀ (n k : Nat) (s : S), P k s → ds.length < n + k → k ≤ ds.length → ∃ s', liveD i g fb n k s = some s' ∧ P ds.length s'
  | 0, k, s, _, h1, h2 => by omega
  | n + 1, k, s, hp, h1, h2 => by
    have e : rfL s i = some ds := by unfold rfL; rw [h k s hp]
    cases hd : ds[k]? with
    | none =>
      have : ds.length ≤ k := by simpa using hd
      have ek : k = ds.length := by omega
      refine ⟨s, ?_, ek ▸ hp⟩
      unfold liveD
      rw [e]
      simp only [Option.bind_some, hd]
    | some d =>
      obtain ⟨s1, s2, e1, e2, hp2⟩ := step k d s hd hp
      have hk := (List.getElem?_eq_some_iff.mp hd).1
      obtain ⟨s', e3, h3⟩ := live_inv P h step n (k + 1) s2 hp2 (by omega) (by omega)
      refine ⟨s', ?_, h3⟩
      unfold liveD
      rw [e]
      simp only [Option.bind_some, hd, e1, e2, e3]
def nr1 (v : Option Sl) : Bool := match v with | some (.rf, _) => false | _ => true
@[simp] theorem noRf_nil : noRf [] = true := rfl
@[simp] theorem noRf_cons (v : Option Sl) (s : S) : noRf (v :: s) = (nr1 v && noRf s) := rfl
@[simp] theorem nr1_none : nr1 none = true := rfl
@[simp] theorem nr1_sh (d : D) : nr1 (some (.sh, d)) = true := rfl
@[simp] theorem nr1_ow (d : D) : nr1 (some (.ow, d)) = true := rfl
theorem atI_neg1 {α : Type} (l : List α) (a : α) (h : l.getLast? = some a) : atI l (-1) = some a := by
  obtain ⟨l', rfl⟩ := List.getLast?_eq_some_iff.mp h
  unfold atI ixN
  rw [if_neg (by omega), if_pos (by simp; omega)]
  simp
  rw [show (-1 + ((l'.length : Int) + 1)).toNat = l'.length by omega]
  simp
end Px
namespace Px.S
open PySem L2 Px
def csD (l : W.Cs) : D := .lst (l.map cD)
def lsD (ls : List W.Cs) : D := .lst (ls.map csD)
theorem Pl.qs (l : List Rat) : Pl 2 (.lst (l.map qD)) := .lst (n := 1) fun d hd => by
  obtain ⟨q, _, rfl⟩ := List.mem_map.mp hd
  exact Pl.q q
theorem any_q (hrs : List Rat) (t : Rat) : ((hrs.map qD).any fun z => eqD z (qD t)) = decide (t ∈ hrs) := by
  induction hrs with
  | nil => simp
  | cons a l ih =>
    simp only [List.map_cons, List.any_cons, ih, eqD_q]
    by_cases h : a = t
    · subst h; simp
    · have : ¬ t = a := fun e => h e.symm
      simp [h, this]
theorem any_q' (hrs : List Rat) (t : Rat) : (hrs.any ((fun z => eqD z (qD t)) ∘ qD)) = decide (t ∈ hrs) := by
  rw [← any_q, List.any_map]
def hoursP : List W.Cs → List Rat → List Rat
  | [], hrs => hrs
  | l :: ls, hrs => hoursP ls (hrs ++ (l.filter fun b => !decide (b.1 ∈ hrs)).map (·.1))
theorem hours_loop {inp : D} : ∀ (ls : List W.Cs) (hrs : List Rat) (md : Md) (v2 : Option Sl), md ≠ .rf → nr1 v2 = true → (∀ l ∈ ls, l.length ≤ 1000) → hrs.length + 1000 * ls.length ≤ 100000 →
    ∃ md' v2', loopD (hName 2) L__law_sum_4 (ls.map csD) [some (.sh, inp), some (md, .lst (hrs.map qD)), v2, none, none, none, none, none, none] = some (.nx [some (.sh, inp), some (md', .lst ((hoursP ls hrs).map qD)), v2', none, none, none, none, none, none]) ∧ (md' = .sh ∨ (ls = [] ∧ md' = md)) ∧ nr1 v2' = true
  | [], hrs, md, v2, hm, hv, _, _ => ⟨md, v2, rfl, .inr ⟨rfl, rfl⟩, hv⟩
  | l :: ls, hrs, md, v2, hm, hv, hl, hn => by
    rw [List.length_cons] at hn
    have hf : (l.filter fun b => !decide (b.1 ∈ hrs)).length ≤ l.length := List.length_filter_le _ _
    have hl0 := hl l (.head _)
    obtain ⟨md', v2', e, h1, h2⟩ := hours_loop (inp := inp) ls (hrs ++ (l.filter fun b => !decide (b.1 ∈ hrs)).map (·.1)) .sh (some (.sh, csD l)) (by intro z; cases z) rfl (fun x hx => hl x (.tail _ hx)) (by simp; omega)
    refine ⟨md', v2', ?_, .inl (by rcases h1 with q | q; exact q; exact q.2), h2⟩
    have hll := hl l (.head _)
    rw [List.map_cons]
    have cc : compD (hName 8) (bT (eOpP (gInQ true) (pE (eIx (pVar 8) (eC (.int 0)))) (pVar 1))) (eIx (pVar 8) (eC (.int 0))) [8] (l.map cD) [some (.sh, inp), some (.sh, .lst (hrs.map qD)), some (.sh, csD l), none, none, none, none, none, none] [] = some ((l.filter fun b => !decide (b.1 ∈ hrs)).map (fun b => qD b.1), [some (.sh, inp), some (.sh, .lst (hrs.map qD)), some (.sh, csD l), none, none, none, none, none, none]) := by
      rw [comp_filter cD (fun b => qD b.1) (fun b => !decide (b.1 ∈ hrs)) l [] (by simp; omega), List.nil_append]
      intro b hb
      have at0 : atI [qD b.1, D.int b.2] 0 = some (qD b.1) := rfl
      refine ⟨_, [some (.sh, inp), some (.sh, .lst (hrs.map qD)), some (.sh, csD l), none, none, none, none, none, some (.sh, cD b)], rfl, ?_, fun _ => ⟨[some (.sh, inp), some (.sh, .lst (hrs.map qD)), some (.sh, csD l), none, none, none, none, none, some (.sh, cD b)], rfl, rfl⟩, fun _ => rfl⟩
      simp only [hName, List.set_cons_succ, List.set_cons_zero]
      simp [cD, at0, okD_q, (Pl.qs hrs).ok, any_q']
    have turn : L__law_sum_4 [some (.sh, inp), some (md, .lst (hrs.map qD)), some (.sh, csD l), none, none, none, none, none, none] = some (.nx [some (.sh, inp), some (.sh, .lst ((hrs ++ (l.filter fun b => !decide (b.1 ∈ hrs)).map (·.1)).map qD)), some (.sh, csD l), none, none, none, none, none, none]) := by
      have q1 : eVar 1 [some (.sh, inp), some (md, .lst (hrs.map qD)), some (.sh, csD l), none, none, none, none, none, none] = some (.lst (hrs.map qD), [some (.sh, inp), some (.sh, .lst (hrs.map qD)), some (.sh, csD l), none, none, none, none, none, none]) := by
        cases md with
        | sh => rfl
        | ow => rfl
        | rf => exact absurd rfl hm
      have q2 : eLc (iSeq (eVar 2)) (hName 8) (bT (eOpP (gInQ true) (pE (eIx (pVar 8) (eC (.int 0)))) (pVar 1))) (eIx (pVar 8) (eC (.int 0))) [8] [some (.sh, inp), some (.sh, .lst (hrs.map qD)), some (.sh, csD l), none, none, none, none, none, none] = some (.lst ((l.filter fun b => !decide (b.1 ∈ hrs)).map (fun b => qD b.1)), [some (.sh, inp), some (.sh, .lst (hrs.map qD)), some (.sh, csD l), none, none, none, none, none, none]) := by
        have hi : iSeq (eVar 2) [some (.sh, inp), some (.sh, .lst (hrs.map qD)), some (.sh, csD l), none, none, none, none, none, none] = some (l.map cD, [some (.sh, inp), some (.sh, .lst (hrs.map qD)), some (.sh, csD l), none, none, none, none, none, none]) := rfl
        simp only [eLc, hi, Option.bind_some]
        rw [if_pos (by rfl), show wipeS [some (.sh, inp), some (.sh, .lst (hrs.map qD)), some (.sh, csD l), none, none, none, none, none, none] [8] = [some (.sh, inp), some (.sh, .lst (hrs.map qD)), some (.sh, csD l), none, none, none, none, none, none] from rfl, cc]
        rfl
      unfold L__law_sum_4
      simp only [sSet, eOp, q1, q2, Option.bind_some]
      have hsm : small (hrs.length + (l.filter fun b => !decide (b.1 ∈ hrs)).length) = true := small_of (by omega)
      simp [gCatL, hsm, Function.comp_def]
    exact (loop_cons rfl turn).trans e
end Px.S

set_option Elab.async false
set_option linter.all false
set_option maxRecDepth 100000
set_option maxHeartbeats 4000000
/-! MSum2: the law's sum of rows is a sum -/
namespace Px.S
open PySem L2 Px
def stS (inp hr : D) (v2 : Option Sl) (fd : W.Cs) (md : Md) (lf : List Rat) (v5 v6 v7 : Option Sl) : S := [some (.sh, inp), some (.sh, hr), v2, some (.ow, .lst (fd.map cD)), some (md, .lst (lf.map qD)), v5, v6, v7, none]
theorem least_loop {inp hr : D} {v2 v7 : Option Sl} {fd : W.Cs} {a : Rat} {lf : List Rat} (v6 : Option Sl) (hf : ∀ t ∈ a :: lf, Fit t) (n2 : nr1 v2 = true) (n6 : nr1 v6 = true) (n7 : nr1 v7 = true) :
    ∃ m v6', sForL 4 (hName 6) L__law_sum_2 (stS inp hr v2 fd .ow (a :: lf) (some (.sh, qD a)) v6 v7) = some (.nx (stS inp hr v2 fd .ow (a :: lf) (some (.sh, qD m)) v6' v7)) ∧ nr1 v6' = true ∧ m ∈ a :: lf ∧ ∀ t ∈ a :: lf, m ≤ t := by
  obtain ⟨s', e, m, v6', rfl, h1, h2, h3⟩ := live_inv (i := 4) (g := hName 6) (fb := L__law_sum_2) (ds := (a :: lf).map qD) (fun k s => ∃ m v6', s = stS inp hr v2 fd .rf (a :: lf) (some (.sh, qD m)) v6' v7 ∧ nr1 v6' = true ∧ m ∈ a :: lf ∧ ∀ j t, j < k → (a :: lf)[j]? = some t → m ≤ t) (fun k s ⟨m, v6', hs, _⟩ => by subst hs; rfl) (fun k d s hd ⟨m, v6', hs, g1, g2, g3⟩ => by
    subst hs
    rw [List.getElem?_map] at hd
    obtain ⟨t, ht, rfl⟩ := Option.map_eq_some_iff.mp hd
    have tm : t ∈ a :: lf := List.mem_of_getElem? ht
    have e1 := lesser_ok (hf t tm) (hf m g2)
    by_cases z : t < m
    · refine ⟨stS inp hr v2 fd .rf (a :: lf) (some (.sh, qD m)) (some (.sh, qD t)) v7, stS inp hr v2 fd .rf (a :: lf) (some (.sh, qD t)) (some (.sh, qD t)) v7, rfl, ?_, t, _, rfl, rfl, tm, fun j u hj hu => ?_⟩
      · simp [L__law_sum_2, stS, law_less_eq, e1, z]
      · by_cases y : j = k
        · subst y; rw [ht] at hu; cases hu; exact Rat.le_refl
        · have := g3 j u (by omega) hu; grind
    · refine ⟨stS inp hr v2 fd .rf (a :: lf) (some (.sh, qD m)) (some (.sh, qD t)) v7, stS inp hr v2 fd .rf (a :: lf) (some (.sh, qD m)) (some (.sh, qD t)) v7, rfl, ?_, m, _, rfl, rfl, g2, fun j u hj hu => ?_⟩
      · simp [L__law_sum_2, stS, law_less_eq, e1, z]
      · by_cases y : j = k
        · subst y; rw [ht] at hu; cases hu; grind
        · exact g3 j u (by omega) hu) (((a :: lf).map qD).length + 1) 0 (stS inp hr v2 fd .rf (a :: lf) (some (.sh, qD a)) v6 v7) ⟨a, v6, rfl, n6, .head _, fun j t hj _ => by omega⟩ (by omega) (by omega)
  refine ⟨m, v6', ?_, h1, h2, fun t ht => ?_⟩
  · unfold sForL
    have o1 : owL (stS inp hr v2 fd .ow (a :: lf) (some (.sh, qD a)) v6 v7) 4 = some ((a :: lf).map qD) := rfl
    have o2 : noRf (stS inp hr v2 fd .ow (a :: lf) (some (.sh, qD a)) v6 v7) = true := by simp [stS, n2, n6, n7]
    have o3 : rfL (stS inp hr v2 fd .rf (a :: lf) (some (.sh, qD m)) v6' v7) 4 = some ((a :: lf).map qD) := rfl
    have o4 : noRf ((stS inp hr v2 fd .rf (a :: lf) (some (.sh, qD m)) v6' v7).set 4 none) = true := by simp [stS, n2, h1, n7]
    have e' : liveD 4 (hName 6) L__law_sum_2 (((a :: lf).map qD).length + 1) 0 ((stS inp hr v2 fd .ow (a :: lf) (some (.sh, qD a)) v6 v7).set 4 (some (.rf, .lst ((a :: lf).map qD)))) = some (stS inp hr v2 fd .rf (a :: lf) (some (.sh, qD m)) v6' v7) := e
    rw [o1]
    simp only [Option.bind_some]
    rw [if_pos o2, e']
    simp only [Option.bind_some]
    rw [o3]
    simp only [Option.bind_some]
    rw [if_pos o4]
    rfl
  · obtain ⟨j, hj⟩ := List.getElem?_of_mem ht
    have := (List.getElem?_eq_some_iff.mp hj).1
    exact h3 j t (by simpa using this) hj
theorem ix_dat {f fb : F} {s s1 s2 : S} {d r : D} {i : Int} (h1 : f s = some (d, s1)) (h2 : fb s1 = some (.int i, s2)) (h3 : gIx d (.int i) = some r) : eIx (pE f) fb s = some (r, s2) := by
  simp only [eIx, eOpP, pE, h1, h2, Option.bind_some, PR.get, h3]
theorem total_loop {hr : D} {fd : W.Cs} {lf : List Rat} {m : Rat} {v6 : Option Sl} {inp : D} (fm : Fit m) : ∀ (ls : List W.Cs) (tot : Int) (v2 : Option Sl), (∀ l ∈ ls, W.CsOk l ∧ l.length ≤ 1000 ∧ ∀ b ∈ l, Fit b.1) → 0 ≤ m → nr1 v2 = true →
    ∃ v2', loopD (hName 2) L__law_sum_1 (ls.map csD) (stS inp hr v2 fd .ow lf (some (.sh, qD m)) v6 (some (.sh, .int tot))) = some (.nx (stS inp hr v2' fd .ow lf (some (.sh, qD m)) v6 (some (.sh, .int (tot + W.sumL ls m))))) ∧ nr1 v2' = true
  | [], tot, v2, _, _, n2 => ⟨v2, by simp [W.sumL], n2⟩
  | l :: ls, tot, v2, hl, hm, n2 => by
    obtain ⟨ok, hlen, hfit⟩ := hl l (.head _)
    obtain ⟨v2', e, h2⟩ := total_loop (hr := hr) (fd := fd) (lf := lf) (v6 := v6) (inp := inp) fm ls (tot + W.cL l m) (some (.sh, csD l)) (fun x hx => hl x (.tail _ hx)) hm rfl
    have e0 : tot + W.cL l m + W.sumL ls m = tot + W.sumL (l :: ls) m := by simp [W.sumL]; omega
    rw [e0] at e
    refine ⟨v2', ?_, h2⟩
    rw [List.map_cons]
    refine (loop_cons rfl ?_).trans e
    obtain ⟨c, bs, el⟩ := ok.zero
    have ris := ok.ris
    have lst : ((l.filter fun b => decide (¬ m < b.1)).map (·.2)).getLast? = some (W.cL l m) := by
      subst el
      exact W.last_row bs (0, c) m ris hm
    let s0 : S := stS inp hr (some (.sh, csD l)) fd .ow lf (some (.sh, qD m)) v6 (some (.sh, .int tot))
    have cc : compD (hName 8) (bNot (bT (eCall F__law_less (aCons (eVar 5) (aCons (eIx (pVar 8) (eC (.int 0))) aNil))))) (eIx (pVar 8) (eC (.int 1))) [8] (l.map cD) s0 [] = some ((l.filter fun b => decide (¬ m < b.1)).map (fun b => D.int b.2), s0) := by
      rw [comp_filter cD (fun b => D.int b.2) (fun b => decide (¬ m < b.1)) l [] (by simp; omega), List.nil_append]
      intro b hb
      have at0 : atI [qD b.1, D.int b.2] 0 = some (qD b.1) := rfl
      have e1 := lesser_ok fm (hfit b hb)
      let s1 : S := [some (.sh, inp), some (.sh, hr), some (.sh, csD l), some (.ow, .lst (fd.map cD)), some (.ow, .lst (lf.map qD)), some (.sh, qD m), v6, some (.sh, .int tot), some (.sh, cD b)]
      refine ⟨s1, s1, rfl, ?_, fun _ => ⟨s1, rfl, rfl⟩, fun _ => rfl⟩
      simp [s1, cD, at0, law_less_eq, e1]
    have q2 : eLc (iSeq (eVar 2)) (hName 8) (bNot (bT (eCall F__law_less (aCons (eVar 5) (aCons (eIx (pVar 8) (eC (.int 0))) aNil))))) (eIx (pVar 8) (eC (.int 1))) [8] s0 = some (.lst ((l.filter fun b => decide (¬ m < b.1)).map (fun b => D.int b.2)), s0) := by
      have hi : iSeq (eVar 2) s0 = some (l.map cD, s0) := rfl
      simp only [eLc, hi, Option.bind_some]
      rw [if_pos (by rfl), show wipeS s0 [8] = s0 from rfl, cc]
      rfl
    have q3 : atI ((l.filter fun b => decide (¬ m < b.1)).map (fun b => D.int b.2)) (-1) = some (.int (W.cL l m)) := by
      refine atI_neg1 _ _ ?_
      have : (l.filter fun b => decide (¬ m < b.1)).map (fun b => D.int b.2) = ((l.filter fun b => decide (¬ m < b.1)).map (·.2)).map D.int := by rw [List.map_map]; rfl
      rw [this, List.getLast?_map, lst]; rfl
    have q4 : eVar 7 s0 = some (.int tot, s0) := rfl
    have q5 : eIx (pE (eLc (iSeq (eVar 2)) (hName 8) (bNot (bT (eCall F__law_less (aCons (eVar 5) (aCons (eIx (pVar 8) (eC (.int 0))) aNil))))) (eIx (pVar 8) (eC (.int 1))) [8])) (eUn gNeg (eC (.int 1))) s0 = some (.int (W.cL l m), s0) := by
      exact ix_dat q2 rfl q3
    show L__law_sum_1 s0 = _
    unfold L__law_sum_1
    exact (set_of (show eAdd (eVar 7) _ s0 = some (.int (tot + W.cL l m), s0) by simp only [eAdd, eOp, q4, q5, Option.bind_some, gI])).trans rfl
end Px.S

set_option Elab.async false
set_option linter.all false
set_option maxRecDepth 100000
set_option maxHeartbeats 4000000
/-! MSum3: the law's sum of rows, whole -/
namespace Px.S
open PySem L2 Px
theorem find_q {m : Rat} : ∀ {lf : List Rat}, m ∈ lf → ∃ j, (lf.map qD).findIdx? (fun z => eqD z (qD m)) = some j ∧ lf[j]? = some m
  | [], h => by cases h
  | a :: lf, h => by
    simp only [List.map_cons, List.findIdx?_cons, eqD_q]
    by_cases z : a = m
    · subst z; exact ⟨0, by simp, rfl⟩
    · have hm : m ∈ lf := by
        rcases List.mem_cons.mp h with q | q
        · exact absurd q.symm z
        · exact q
      obtain ⟨j, h1, h2⟩ := find_q hm
      exact ⟨j + 1, by simp [z, h1], by simpa using h2⟩
theorem eraseIdx_map {α β : Type} (f : α → β) : ∀ (l : List α) (j : Nat), (l.map f).eraseIdx j = (l.eraseIdx j).map f
  | [], j => by simp
  | a :: l, 0 => by simp
  | a :: l, j + 1 => by simp [eraseIdx_map f l j]
theorem mem_erase {lf : List Rat} {j : Nat} {m t : Rat} (nd : lf.Nodup) (hj : lf[j]? = some m) : t ∈ lf.eraseIdx j ↔ t ∈ lf ∧ t ≠ m := by
  induction lf generalizing j with
  | nil => simp at hj
  | cons a lf ih =>
    have nd' := List.nodup_cons.mp nd
    cases j with
    | zero =>
      have : a = m := by simpa using hj
      subst this
      simp only [List.eraseIdx_cons_zero, List.mem_cons]
      constructor
      · intro h; exact ⟨.inr h, fun e => nd'.1 (e ▸ h)⟩
      · rintro ⟨h | h, hn⟩
        · exact absurd h hn
        · exact h
    | succ j =>
      have hj' : lf[j]? = some m := by simpa using hj
      have hm : m ∈ lf := List.mem_of_getElem? hj'
      have hne : a ≠ m := fun e => nd'.1 (e ▸ hm)
      simp only [List.eraseIdx_cons_succ, List.mem_cons, ih nd'.2 hj']
      constructor
      · rintro (h | ⟨h, hn⟩)
        · subst h; exact ⟨.inl rfl, hne⟩
        · exact ⟨.inr h, hn⟩
      · rintro ⟨h | h, hn⟩
        · exact .inl h
        · exact .inr ⟨h, hn⟩
theorem nodup_erase {lf : List Rat} {j : Nat} (nd : lf.Nodup) : (lf.eraseIdx j).Nodup := nd.sublist (List.eraseIdx_sublist _ _)
theorem ne_nil_q (lf : List Rat) : eqD (.lst (lf.map qD)) (.lst []) = decide (lf = []) := by
  cases lf with
  | nil => simp [eqD, D.py, pys, PyData.eqv, PyData.eqvAll]
  | cons a l => simp [eqD, D.py, pys, PyData.eqv, PyData.eqvAll]
theorem sum_turn {hr : D} {ls : List W.Cs} {v2 v5 v6 v7 : Option Sl} {fd : W.Cs} {lf : List Rat} (hne : lf ≠ []) (nd : lf.Nodup) (hf : ∀ t ∈ lf, Fit t) (h0 : ∀ t ∈ lf, 0 ≤ t) (hl : ∀ l ∈ ls, W.CsOk l ∧ l.length ≤ 1000 ∧ ∀ b ∈ l, Fit b.1) (hfd : fd.length ≤ 100000) (n2 : nr1 v2 = true) (n6 : nr1 v6 = true) (n7 : nr1 v7 = true) :
    ∃ m lf' w2 w5 w6 w7, L__law_sum_3 (stS (lsD ls) hr v2 fd .ow lf v5 v6 v7) = some (.nx (stS (lsD ls) hr w2 (fd ++ [(m, W.sumL ls m)]) .ow lf' w5 w6 w7)) ∧ m ∈ lf ∧ (∀ t ∈ lf, m ≤ t) ∧ lf'.Nodup ∧ (∀ t, t ∈ lf' ↔ t ∈ lf ∧ t ≠ m) ∧ lf'.length + 1 = lf.length ∧ nr1 w2 = true ∧ nr1 w6 = true ∧ nr1 w7 = true := by
  cases lf with
  | nil => exact absurd rfl hne
  | cons a lf =>
    obtain ⟨m, w6, e1, g1, g2, g3⟩ := least_loop (inp := lsD ls) (hr := hr) (v2 := v2) (v7 := v7) (fd := fd) v6 hf n2 n6 n7
    obtain ⟨j, e2, hj⟩ := find_q g2
    have p1 : sSet 5 (eIx (pVar 4) (eC (.int 0))) (stS (lsD ls) hr v2 fd .ow (a :: lf) v5 v6 v7) = some (.nx (stS (lsD ls) hr v2 fd .ow (a :: lf) (some (.sh, qD a)) v6 v7)) := by
      have : atI (qD a :: lf.map qD) 0 = some (qD a) := by
        unfold atI ixN; rw [if_pos (by omega), if_pos (by simp)]; rfl
      simp [stS, this]
    have p3 : sRemove 4 (eVar 5) (stS (lsD ls) hr v2 fd .ow (a :: lf) (some (.sh, qD m)) w6 v7) = some (.nx (stS (lsD ls) hr v2 fd .ow ((a :: lf).eraseIdx j) (some (.sh, qD m)) w6 v7)) := by
      have q1 : ownL (stS (lsD ls) hr v2 fd .ow (a :: lf) (some (.sh, qD m)) w6 v7) 4 = some (.ow, (a :: lf).map qD) := rfl
      have q2 : eVar 5 (stS (lsD ls) hr v2 fd .ow (a :: lf) (some (.sh, qD m)) w6 v7) = some (qD m, stS (lsD ls) hr v2 fd .ow (a :: lf) (some (.sh, qD m)) w6 v7) := rfl
      have q3 : (okD (qD m) && okD (.lst ((a :: lf).map qD))) = true := by rw [okD_q, (Pl.qs (a :: lf)).ok]; rfl
      simp only [sRemove, q1, q2, Option.bind_some]
      rw [if_pos q3, e2]
      simp only [Option.bind_some]
      rw [eraseIdx_map]
      rfl
    have p4 : sSet 7 (eC (.int 0)) (stS (lsD ls) hr v2 fd .ow ((a :: lf).eraseIdx j) (some (.sh, qD m)) w6 v7) = some (.nx (stS (lsD ls) hr v2 fd .ow ((a :: lf).eraseIdx j) (some (.sh, qD m)) w6 (some (.sh, .int 0)))) := rfl
    obtain ⟨w2, e5, g5⟩ := total_loop (hr := hr) (fd := fd) (lf := (a :: lf).eraseIdx j) (v6 := w6) (inp := lsD ls) (hf m g2) ls 0 v2 hl (h0 m g2) n2
    have p5 : iSeq (eVar 0) (stS (lsD ls) hr v2 fd .ow ((a :: lf).eraseIdx j) (some (.sh, qD m)) w6 (some (.sh, .int 0))) = some (ls.map csD, stS (lsD ls) hr v2 fd .ow ((a :: lf).eraseIdx j) (some (.sh, qD m)) w6 (some (.sh, .int 0))) := rfl
    have p6 : sApp 3 (eTup (aCons (eVar 5) (aCons (eVar 7) aNil))) (stS (lsD ls) hr w2 fd .ow ((a :: lf).eraseIdx j) (some (.sh, qD m)) w6 (some (.sh, .int (0 + W.sumL ls m)))) = some (.nx (stS (lsD ls) hr w2 (fd ++ [(m, W.sumL ls m)]) .ow ((a :: lf).eraseIdx j) (some (.sh, qD m)) w6 (some (.sh, .int (0 + W.sumL ls m))))) := by
      have : fd.length ≤ 100000 := hfd
      simp (disch := omega) [stS, small_of, cD]
    have ee := (seq_nx (g := _) p1).trans ((seq_nx e1).trans ((seq_nx p3).trans ((seq_nx p4).trans ((seq_nx ((for_of p5).trans e5)).trans p6))))
    have hjl := (List.getElem?_eq_some_iff.mp hj).1
    refine ⟨m, _, _, _, _, _, ee, g2, g3, nodup_erase nd, fun t => mem_erase nd hj, ?_, g5, g1, rfl⟩
    rw [List.length_eraseIdx, if_pos hjl]
    simp at hjl ⊢
theorem sum_while {hr : D} {ls : List W.Cs} (hl : ∀ l ∈ ls, W.CsOk l ∧ l.length ≤ 1000 ∧ ∀ b ∈ l, Fit b.1) : ∀ (n : Nat) (lf : List Rat) (fd : W.Cs) (v2 v5 v6 v7 : Option Sl), lf.length < n → lf.Nodup → (∀ t ∈ lf, Fit t) → (∀ t ∈ lf, 0 ≤ t) → fd.length + lf.length ≤ 100000 → nr1 v2 = true → nr1 v6 = true → nr1 v7 = true →
    ∃ r w2 w5 w6 w7, whileD (bT (eOpP gNe (pVar 4) (pE (eLst aNil)))) L__law_sum_3 n (stS (lsD ls) hr v2 fd .ow lf v5 v6 v7) = some (.nx (stS (lsD ls) hr w2 (fd ++ r) .ow [] w5 w6 w7)) ∧ W.RisL r ∧ (∀ t, (∃ b ∈ r, b.1 = t) ↔ t ∈ lf) ∧ (∀ b ∈ r, b.2 = W.sumL ls b.1) ∧ r.length = lf.length := by
  intro n
  induction n with
  | zero => intro lf fd v2 v5 v6 v7 h; omega
  | succ n ih =>
    intro lf fd v2 v5 v6 v7 hn nd hf h0 hfd n2 n6 n7
    have test : bT (eOpP gNe (pVar 4) (pE (eLst aNil))) (stS (lsD ls) hr v2 fd .ow lf v5 v6 v7) = some (!decide (lf = []), stS (lsD ls) hr v2 fd .ow lf v5 v6 v7) := by
      have o1 := (Pl.qs lf).ok
      have o2 : okD (.lst []) = true := (Pl.qs []).ok
      simp [stS, o1, o2, ne_nil_q]
    by_cases z : lf = []
    · subst z
      refine ⟨[], v2, v5, v6, v7, ?_, trivial, fun t => by simp, by simp, rfl⟩
      rw [while_end (s1 := stS (lsD ls) hr v2 fd .ow [] v5 v6 v7) (by rw [test]; simp)]
      simp
    · obtain ⟨m, lf', w2, w5, w6, w7, e, g1, g2, g3, g4, g5, m2, m6, m7⟩ := sum_turn (hr := hr) (v2 := v2) (v5 := v5) (v6 := v6) (v7 := v7) (fd := fd) z nd hf h0 hl (by omega) n2 n6 n7
      obtain ⟨r, u2, u5, u6, u7, e2, k1, k2, k3, k4⟩ := ih lf' (fd ++ [(m, W.sumL ls m)]) w2 w5 w6 w7 (by omega) g3 (fun t ht => hf t ((g4 t).mp ht).1) (fun t ht => h0 t ((g4 t).mp ht).1) (by simp; omega) m2 m6 m7
      refine ⟨(m, W.sumL ls m) :: r, u2, u5, u6, u7, ?_, ?_, fun t => ?_, fun b hb => ?_, by simp [k4]; omega⟩
      · rw [while_turn (s1 := stS (lsD ls) hr v2 fd .ow lf v5 v6 v7) (by rw [test]; simp [z]) e, e2]
        simp
      · cases r with
        | nil => exact trivial
        | cons b r =>
          refine ⟨?_, k1⟩
          have hb := (k2 b.1).mp ⟨b, .head _, rfl⟩
          have h1 := (g4 b.1).mp hb
          have h2 := g2 b.1 h1.1
          have h3 := h1.2
          show m < b.1
          grind
      · constructor
        · rintro ⟨b, hb, rfl⟩
          rcases List.mem_cons.mp hb with q | q
          · subst q; exact g1
          · exact ((g4 _).mp ((k2 _).mp ⟨b, q, rfl⟩)).1
        · intro ht
          by_cases q : t = m
          · exact ⟨_, .head _, q.symm⟩
          · obtain ⟨b, hb, eb⟩ := (k2 t).mpr ((g4 t).mpr ⟨ht, q⟩)
            exact ⟨b, .tail _ hb, eb⟩
      · rcases List.mem_cons.mp hb with q | q
        · subst q; rfl
        · exact k3 b q
theorem hoursP_ok : ∀ (ls : List W.Cs) (hrs : List Rat), hrs.Nodup → (∀ l ∈ ls, W.CsOk l) → (hoursP ls hrs).Nodup ∧ (∀ t, t ∈ hoursP ls hrs ↔ t ∈ hrs ∨ ∃ l ∈ ls, ∃ b ∈ l, b.1 = t) ∧ (hoursP ls hrs).length ≤ hrs.length + (ls.map List.length).sum
  | [], hrs, nd, _ => ⟨nd, fun t => by simp [hoursP], by simp [hoursP]⟩
  | l :: ls, hrs, nd, hl => by
    have ok := hl l (.head _)
    have nd1 : (hrs ++ (l.filter fun b => !decide (b.1 ∈ hrs)).map (·.1)).Nodup := by
      rw [List.nodup_append]
      refine ⟨nd, ?_, fun a ha b hb => ?_⟩
      · have : (l.map (·.1)).Nodup := by
          obtain ⟨c, bs, e⟩ := ok.zero
          have ris := ok.ris
          subst e
          have gen : ∀ (bs : W.Cs) (a : Rat × Int), W.Rising a bs → ((a :: bs).map (·.1)).Nodup := by
            intro bs
            induction bs with
            | nil => intro a _; simp
            | cons b bs ih =>
              intro a h
              rw [List.map_cons, List.nodup_cons]
              refine ⟨fun hm => ?_, ih b h.2⟩
              obtain ⟨x, hx, ex⟩ := List.mem_map.mp hm
              have := W.Rising.lt h x hx
              grind
          exact gen bs (0, c) ris
        exact this.sublist ((List.filter_sublist).map _)
      · obtain ⟨x, hx, ex⟩ := List.mem_map.mp hb
        have := (List.mem_filter.mp hx).2
        rintro rfl
        rw [← ex] at ha
        simp [ha] at this
    obtain ⟨h1, h2, h3⟩ := hoursP_ok ls _ nd1 (fun x hx => hl x (.tail _ hx))
    refine ⟨h1, fun t => ?_, ?_⟩
    · show t ∈ hoursP ls _ ↔ _
      rw [h2 t]
      constructor
      · rintro (h | ⟨l', hl', b, hb, e⟩)
        · rcases List.mem_append.mp h with q | q
          · exact .inl q
          · obtain ⟨x, hx, ex⟩ := List.mem_map.mp q
            exact .inr ⟨l, .head _, x, (List.mem_filter.mp hx).1, ex⟩
        · exact .inr ⟨l', .tail _ hl', b, hb, e⟩
      · rintro (h | ⟨l', hl', b, hb, e⟩)
        · exact .inl (List.mem_append_left _ h)
        · rcases List.mem_cons.mp hl' with q | q
          · subst q
            by_cases z : b.1 ∈ hrs
            · left; rw [← e]; exact List.mem_append_left _ z
            · left; rw [← e]; exact List.mem_append_right _ (List.mem_map.mpr ⟨b, List.mem_filter.mpr ⟨hb, by simpa using z⟩, rfl⟩)
          · exact .inr ⟨l', q, b, hb, e⟩
    · have : (l.filter fun b => !decide (b.1 ∈ hrs)).length ≤ l.length := List.length_filter_le _ _
      show (hoursP ls _).length ≤ _
      refine Nat.le_trans h3 ?_
      simp
      omega
theorem sum_ok {ls : List W.Cs} (hne : ls ≠ []) (hl : ∀ l ∈ ls, W.CsOk l ∧ l.length ≤ 1000 ∧ ∀ b ∈ l, Fit b.1) (hn : ls.length ≤ 8) :
    ∃ r, F__law_sum [lsD ls] = some (false, csD r) ∧ W.IsSum ls r ∧ r.length ≤ (ls.map List.length).sum := by
  obtain ⟨md, v2, e1, hm, n2⟩ := hours_loop (inp := lsD ls) ls [] .ow none (by intro z; cases z) rfl (fun l h => (hl l h).2.1) (by simp; omega)
  obtain ⟨h1, h2, h3⟩ := hoursP_ok ls [] .nil (fun l h => (hl l h).1)
  have hlen : ∀ (ls : List W.Cs), (∀ l ∈ ls, l.length ≤ 1000) → (ls.map List.length).sum ≤ 1000 * ls.length := by
    intro ls
    induction ls with
    | nil => intro _; simp
    | cons a ls ih =>
      intro q
      have h1 := ih (fun l h => q l (.tail _ h))
      have h2 := q a (.head _)
      simp only [List.map_cons, List.sum_cons, List.length_cons]
      omega
  have hlen := hlen ls (fun l h => (hl l h).2.1)
  have nn : ∀ t ∈ hoursP ls [], 0 ≤ t := fun t ht => by
    rcases (h2 t).mp ht with q | ⟨l, hl', b, hb, e⟩
    · cases q
    · obtain ⟨c, bs, el⟩ := (hl l hl').1.zero
      have ris := (hl l hl').1.ris
      subst el
      rcases List.mem_cons.mp hb with q | q
      · subst q; rw [← e]; exact Rat.le_refl
      · have := W.Rising.lt ris b q
        rw [← e]; exact Rat.le_of_lt this
  have fit : ∀ t ∈ hoursP ls [], Fit t := fun t ht => by
    rcases (h2 t).mp ht with q | ⟨l, hl', b, hb, e⟩
    · cases q
    · rw [← e]; exact (hl l hl').2.2 b hb
  have lh : (hoursP ls []).length ≤ 8000 := by
    have : ([] : List Rat).length = 0 := rfl
    omega
  obtain ⟨r, w2, w5, w6, w7, e2, k1, k2, k3, k4⟩ := sum_while (hr := .lst ((hoursP ls []).map qD)) hl 10000 (hoursP ls []) [] v2 none none none (by omega) h1 fit nn (by simp; omega) n2 rfl rfl
  have hmd : md = .sh := by
    rcases hm with q | q
    · exact q
    · exact absurd q.1 hne
  subst hmd
  refine ⟨r, ?_, ⟨⟨k1, ?_⟩, fun t => ?_, k3⟩, by rw [k4]; simpa using h3⟩
  · have p1 : sSetO 1 (eLst aNil) (init 9 [lsD ls]) = some (.nx [some (.sh, lsD ls), some (.ow, .lst (([] : List Rat).map qD)), none, none, none, none, none, none, none]) := rfl
    have p2 : iSeq (eVar 0) [some (.sh, lsD ls), some (.ow, .lst (([] : List Rat).map qD)), none, none, none, none, none, none, none] = some (ls.map csD, [some (.sh, lsD ls), some (.ow, .lst (([] : List Rat).map qD)), none, none, none, none, none, none, none]) := rfl
    have p3 : sSetO 3 (eLst aNil) [some (.sh, lsD ls), some (.sh, .lst ((hoursP ls []).map qD)), v2, none, none, none, none, none, none] = some (.nx [some (.sh, lsD ls), some (.sh, .lst ((hoursP ls []).map qD)), v2, some (.ow, .lst []), none, none, none, none, none]) := rfl
    unfold F__law_sum f__law_sum
    simp only [runF]
    have p4 : sSetO 4 (eB1 gList (pVar 1)) [some (.sh, lsD ls), some (.sh, .lst ((hoursP ls []).map qD)), v2, some (.ow, .lst []), none, none, none, none, none] = some (.nx (stS (lsD ls) (.lst ((hoursP ls []).map qD)) v2 [] .ow (hoursP ls []) none none none)) := by
      simp (disch := omega) [stS, small_of]
    have p5 : sWhile (fun _ => 10000) (bT (eOpP gNe (pVar 4) (pE (eLst aNil)))) L__law_sum_3 (stS (lsD ls) (.lst ((hoursP ls []).map qD)) v2 [] .ow (hoursP ls []) none none none) = some (.nx (stS (lsD ls) (.lst ((hoursP ls []).map qD)) w2 ([] ++ r) .ow [] w5 w6 w7)) := e2
    rw [seq_nx p1, seq_nx ((for_of p2).trans e1), seq_nx p3, seq_nx p4, seq_nx p5]
    rfl
  · have : ∃ l, l ∈ ls := by
      cases ls with
      | nil => exact absurd rfl hne
      | cons a _ => exact ⟨a, .head _⟩
    obtain ⟨l, hl'⟩ := this
    obtain ⟨c, bs, el⟩ := (hl l hl').1.zero
    have m0 : (0 : Rat) ∈ hoursP ls [] := (h2 0).mpr (.inr ⟨l, hl', (0, c), by rw [el]; exact .head _, rfl⟩)
    obtain ⟨b, hb, eb⟩ := (k2 0).mpr m0
    cases r with
    | nil => cases hb
    | cons a r =>
      rcases List.mem_cons.mp hb with q | q
      · subst q; exact ⟨b.2, r, by rw [← eb]⟩
      · have hlt := W.Rising.lt k1 b q
        have := nn a.1 ((k2 a.1).mp ⟨a, .head _, rfl⟩)
        grind
  · rw [k2 t, h2 t]; simp
end Px.S

set_option Elab.async false
set_option linter.all false
set_option maxRecDepth 100000
set_option maxHeartbeats 4000000
/-! MWays: the law's ways of all tubs, one tub's turn -/
namespace Px.S
open PySem L2 Px
abbrev Wt := List (Int × List Int)
def wD (a : Int × List Int) : D := .tup [.int a.1, .tup (a.2.map D.int)]
def weatherD (wt : Wt) : D := .tup (wt.map wD)
def beginD (bg : List Rat) : D := .tup (bg.map qD)
def rainCs (wt : Wt) (i : Nat) : W.Cs := wt.map fun a => ((a.1 : Rat), a.2.getD i 0)
def moreCs (rows : List W.Row) (n : Nat) : W.Cs := rows.map fun w => (w.t, w.l.getD n 0)
def rowsD (rows : List W.Row) : D := .lst (rows.map rowD)
/-- the lists that lead into a tub, from one tub's holes -/
def inH (rows : List W.Row) (name : Str) : List Hole → Nat → List W.Cs
  | [], _ => []
  | h :: hs, n => if h.2.2 = name then moreCs rows n :: inH rows name hs (n + 1) else inH rows name hs (n + 1)
def stY (ts bg wt : D) (fk : List Key) (fv : List D) (ik : List Key) (iv : List D) (v5 v6 v7 v8 v9 v10 v11 v12 : Option Sl) : S :=
  [some (.sh, ts), some (.sh, wt), some (.sh, bg), some (.ow, .dK fk fv), some (.ow, .dK ik iv), v5, v6, v7, v8, v9, v10, v11, v12, none, none]
/-- what a dict of lists tells -/
def intoD (ik : List Key) (iv : List D) (x : Str) : D := (look ik iv (Sum.inr x)).getD (.lst [])
theorem csD_int (wt : Wt) (i : Nat) : (wt.map fun a => D.tup [.tup [.int a.1, .int 1], .int (a.2.getD i 0)]) = (rainCs wt i).map cD := by
  unfold rainCs
  rw [List.map_map]
  refine List.map_congr_left fun a _ => ?_
  simp only [Function.comp, cD, qD_int]
theorem into_turn {ts bg wt : D} {fk : List Key} {fv : List D} {t : Tub} {rows : List W.Row} {v5 v7 v8 : Option Sl} (hr : rows.length ≤ 1000) : ∀ (hs : List Hole) (n : Nat) (ik : List Key) (iv : List D) (v10 v11 v12 : Option Sl) (prev : Str → List W.Cs), ik.length = iv.length → ik.length + hs.length ≤ 1000 → (∀ x : Str, x ≠ "" → intoD ik iv x = lsD (prev x)) → (∀ x : Str, x ≠ "" → (prev x).length + hs.length ≤ 1000) → (∀ w ∈ rows, n + hs.length ≤ w.l.length) →
    ∃ ik' iv' v10' v11' v12', loopD (hTup (hCons (hName 10) (hCons (hName 11) hNil))) L__law_ways_1 (enumD n (hs.map hD)) (stY ts bg wt fk fv ik iv v5 (some (.sh, tD t)) v7 v8 (some (.sh, rowsD rows)) v10 v11 v12) = some (.nx (stY ts bg wt fk fv ik' iv' v5 (some (.sh, tD t)) v7 v8 (some (.sh, rowsD rows)) v10' v11' v12')) ∧
      ik'.length = iv'.length ∧ ik'.length ≤ ik.length + hs.length ∧ ∀ x : Str, x ≠ "" → intoD ik' iv' x = lsD (prev x ++ inH rows x hs n)
  | [], n, ik, iv, v10, v11, v12, prev, h1, h2, h3, h4, h5 => ⟨ik, iv, v10, v11, v12, rfl, h1, by simp, fun x hx => by simp [inH, h3 x hx]⟩
  | h :: hs, n, ik, iv, v10, v11, v12, prev, h1, h2, h3, h4, h5 => by
    rw [List.length_cons] at h2
    show ∃ ik' iv' v10' v11' v12', loopD _ _ (D.tup [.int n, hD h] :: enumD (n + 1) (hs.map hD)) _ = _ ∧ _
    by_cases z : h.2.2 = ""
    · obtain ⟨ik', iv', w10, w11, w12, e, g1, g2, g3⟩ := into_turn (ts := ts) (bg := bg) (wt := wt) (fk := fk) (fv := fv) (t := t) (v5 := v5) (v7 := v7) (v8 := v8) hr hs (n + 1) ik iv (some (.sh, .int n)) (some (.sh, hD h)) v12 prev h1 (by omega) h3 (fun x hx => by have := h4 x hx; rw [List.length_cons] at this; omega) (fun w hw => by have := h5 w hw; rw [List.length_cons] at this; omega)
      refine ⟨ik', iv', w10, w11, w12, ?_, g1, by rw [List.length_cons]; omega, fun x hx => ?_⟩
      · refine (loop_cons rfl ?_).trans e
        have t0 : bT (eOpP gNe (pE (eIx (pVar 11) (eC (.int 2)))) (pE (eC (.str "")))) (stY ts bg wt fk fv ik iv v5 (some (.sh, tD t)) v7 v8 (some (.sh, rowsD rows)) (some (.sh, .int n)) (some (.sh, hD h)) v12) = some (false, stY ts bg wt fk fv ik iv v5 (some (.sh, tD t)) v7 v8 (some (.sh, rowsD rows)) (some (.sh, .int n)) (some (.sh, hD h)) v12) := by
          simp [stY, hD, show atI [D.int h.1, D.int h.2.1, D.str ""] 2 = some (.str "") from rfl, z]
        show L__law_ways_1 (stY ts bg wt fk fv ik iv v5 (some (.sh, tD t)) v7 v8 (some (.sh, rowsD rows)) (some (.sh, .int n)) (some (.sh, hD h)) v12) = _
        unfold L__law_ways_1
        rw [if_no t0]
        rfl
      · rw [g3 x hx]
        simp only [inH]
        rw [if_neg (by rw [z]; exact fun q => hx q.symm)]
    · -- a hole that leads on
      have hadd : ∀ y, y = lsD (prev h.2.2 ++ [moreCs rows n]) → True := fun _ _ => trivial
      let nv : D := lsD (prev h.2.2 ++ [moreCs rows n])
      obtain ⟨ik', iv', w10, w11, w12, e, g1, g2, g3⟩ := into_turn (ts := ts) (bg := bg) (wt := wt) (fk := fk) (fv := fv) (t := t) (v5 := v5) (v7 := v7) (v8 := v8) hr hs (n + 1) (putD ik iv (Sum.inr h.2.2) nv).1 (putD ik iv (Sum.inr h.2.2) nv).2 (some (.sh, .int n)) (some (.sh, hD h)) (some (.sh, csD (moreCs rows n))) (fun x => if x = h.2.2 then prev x ++ [moreCs rows n] else prev x) (putD_len h1) (by have := putD_fst_le (k := (Sum.inr h.2.2 : Key)) (d := nv) (ks := ik) (ds := iv); omega) (fun x hx => by
          unfold intoD
          by_cases q : x = h.2.2
          · subst q; rw [look_put_same h1, if_pos rfl]; rfl
          · rw [look_put_ne (fun e => q (by cases e; rfl)) h1, if_neg q]; exact h3 x hx) (fun x hx => by
            have := h4 x hx; rw [List.length_cons] at this
            by_cases q : x = h.2.2
            · simp only [if_pos q]; simp; omega
            · simp only [if_neg q]; omega) (fun w hw => by have := h5 w hw; rw [List.length_cons] at this; omega)
      refine ⟨ik', iv', w10, w11, w12, ?_, g1, ?_, fun x hx => ?_⟩
      · refine (loop_cons rfl ?_).trans e
        let s0 : S := stY ts bg wt fk fv ik iv v5 (some (.sh, tD t)) v7 v8 (some (.sh, rowsD rows)) (some (.sh, .int n)) (some (.sh, hD h)) v12
        let s1 : S := stY ts bg wt fk fv ik iv v5 (some (.sh, tD t)) v7 v8 (some (.sh, rowsD rows)) (some (.sh, .int n)) (some (.sh, hD h)) (some (.ow, csD (moreCs rows n)))
        have t1 : bT (eOpP gNe (pE (eIx (pVar 11) (eC (.int 2)))) (pE (eC (.str "")))) s0 = some (true, s0) := by
          simp [s0, stY, hD, atH2, z]
        have cc : compD (hName 14) bYes (eTup (aCons (eIx (pVar 14) (eC (.int 0))) (aCons (eIx (pE (eIx (pVar 14) (eC (.int 3)))) (eVar 10)) aNil))) [14] (rows.map rowD) s0 [] = some ((moreCs rows n).map cD, s0) := by
          rw [comp_map rowD (fun w => cD (w.t, w.l.getD n 0)) rows [] (by simp; omega), List.nil_append, moreCs, List.map_map]
          · rfl
          intro w hw
          have hwl := h5 w hw
          rw [List.length_cons] at hwl
          have a3 : atI (w.l.map D.int) (n : Int) = some (.int (w.l.getD n 0)) := by
            rw [atI_natM, List.getElem?_map, List.getElem?_eq_getElem (by omega)]
            simp [List.getD_eq_getElem?_getD, show n < w.l.length by omega]
          have a0 : atI [qD w.t, qD w.h, D.int w.r, D.lst (w.l.map D.int)] 0 = some (qD w.t) := rfl
          have a3' : atI [qD w.t, qD w.h, D.int w.r, D.lst (w.l.map D.int)] 3 = some (.lst (w.l.map D.int)) := rfl
          let s2 : S := [some (.sh, ts), some (.sh, wt), some (.sh, bg), some (.ow, .dK fk fv), some (.ow, .dK ik iv), v5, some (.sh, tD t), v7, v8, some (.sh, rowsD rows), some (.sh, .int n), some (.sh, hD h), v12, none, some (.sh, rowD w)]
          refine ⟨s2, s2, s2, rfl, rfl, ?_, rfl⟩
          simp [s2, rowD, a0, a3', a3, cD]
        have q1 : sSetO 12 (eLc (iSeq (eVar 9)) (hName 14) bYes (eTup (aCons (eIx (pVar 14) (eC (.int 0))) (aCons (eIx (pE (eIx (pVar 14) (eC (.int 3)))) (eVar 10)) aNil))) [14]) s0 = some (.nx s1) := by
          have hi : iSeq (eVar 9) s0 = some (rows.map rowD, s0) := rfl
          simp only [sSetO, eLc, hi, Option.bind_some]
          rw [if_pos (by rfl), show wipeS s0 [14] = s0 from rfl, cc]
          rfl
        have hk := h3 h.2.2 z
        unfold intoD at hk
        have hl4 := h4 h.2.2 z
        rw [List.length_cons] at hl4
        have q2 : sDPut 4 (eIx (pVar 11) (eC (.int 2))) (eOp gCatL (eGetD (pVar 4) (eIx (pVar 11) (eC (.int 2))) (eLst aNil)) (eLst (aCons (eVar 12) aNil))) s1 = some (.nx (stY ts bg wt fk fv (putD ik iv (Sum.inr h.2.2) nv).1 (putD ik iv (Sum.inr h.2.2) nv).2 v5 (some (.sh, tD t)) v7 v8 (some (.sh, rowsD rows)) (some (.sh, .int n)) (some (.sh, hD h)) (some (.sh, csD (moreCs rows n))))) := by
          have hsm : small ((prev h.2.2).length + 1) = true := small_of (by omega)
          have hsm2 : small iv.length = true := small_of (by omega)
          simp [s1, stY, hD, atH2, h1, hk, lsD, hsm, hsm2, nv]
        show L__law_ways_1 s0 = _
        unfold L__law_ways_1
        rw [if_yes t1, seq_nx q1, q2]
      · have := putD_fst_le (k := (Sum.inr h.2.2 : Key)) (d := nv) (ks := ik) (ds := iv)
        rw [List.length_cons]; omega
      · rw [g3 x hx]
        simp only [inH]
        by_cases q : x = h.2.2
        · subst q; simp
        · rw [if_neg q, if_neg (fun e => q e.symm)]
end Px.S

set_option Elab.async false
set_option linter.all false
set_option maxRecDepth 100000
set_option maxHeartbeats 4000000
/-! MBegin: the law's beginnings -/
namespace Px.S
open PySem L2 Px
/-- a small fraction -/
def Smq (q : Rat) : Prop := ∃ (t : Int) (d : Nat), 0 ≤ t ∧ t ≤ 5000 ∧ 1 ≤ d ∧ d ≤ 4 ∧ q = mkRat t d
theorem Smq.int {n : Int} (h0 : 0 ≤ n) (h1 : n ≤ 5000) : Smq (n : Rat) := ⟨n, 1, h0, h1, by omega, by omega, by rw [Rat.mkRat_eq_div]; show _ = (n : Rat) / 1; grind⟩
/-- a smaller one, as it is drawn -/
def Sm1 (q : Rat) : Prop := ∃ (t : Int) (d : Nat), 0 ≤ t ∧ t ≤ 1000 ∧ 1 ≤ d ∧ d ≤ 4 ∧ q = mkRat t d
theorem Sm1.int {n : Int} (h0 : 0 ≤ n) (h1 : n ≤ 1000) : Sm1 (n : Rat) := ⟨n, 1, h0, h1, by omega, by omega, by rw [Rat.mkRat_eq_div]; show _ = (n : Rat) / 1; grind⟩
theorem Sm1.smq {q : Rat} (h : Sm1 q) : Smq q := by
  obtain ⟨t, d, a, b, c, e, f⟩ := h
  exact ⟨t, d, a, by omega, c, e, f⟩
def stB (a b : Int) (ts : List Tub) (fd : List Rat) (v3 v4 v5 v6 : Option Sl) : S := [some (.rf, bagD a b), some (.sh, tubsD ts), some (.ow, .lst (fd.map qD)), v3, v4, v5, v6, none]
theorem begin_turn {a b : Int} {ts : List Tub} {t : Tub} {later : List Str} {fd : List Rat} {v6 : Option Sl} (ok : BagOk a b) (ht : TubOk later t) (hf : fd.length ≤ 3) :
    ∃ (a' b' : Int) (q : Rat) (v6' : Option Sl), L__law_beginning_1 (stB a b ts fd (some (.sh, .str t.1)) (some (.sh, .int t.2.1)) (some (.sh, .tup (t.2.2.map hD))) v6) = some (.nx (stB a' b' ts (fd ++ [q]) (some (.sh, .str t.1)) (some (.sh, .int t.2.1)) (some (.sh, .tup (t.2.2.map hD))) v6')) ∧ BagOk a' b' ∧ Sm1 q := by
  have few := ht.few
  obtain ⟨q1, a1, b1, e1, ok1, t1, d1, p1, p2, p3, p4, p5⟩ := part_ok (w := 15) ok (by omega) (by omega)
  let xs : List Rat := 0 :: q1 :: t.2.2.map fun h => (h.1 : Rat)
  have xall : ∀ x ∈ xs, Sm1 x := fun x hx => by
    rcases List.mem_cons.mp hx with z | z
    · subst z; exact Sm1.int (n := 0) (by omega) (by omega)
    · rcases List.mem_cons.mp z with z | z
      · subst z; exact ⟨t1, d1, p1, by omega, p3, p4, p5⟩
      · obtain ⟨h, hh, rfl⟩ := List.mem_map.mp z
        have := ht.holes h hh
        exact Sm1.int this.h0 this.h1
  obtain ⟨d, a2, b2, e2, ok2, hd⟩ := of_ok ok1 (xs.map qD) (by simp [xs]) (by simp [xs]; omega)
  obtain ⟨x, hx, rfl⟩ := List.mem_map.mp hd
  let s0 (v7 : Option Sl) : S := [some (.rf, bagD a1 b1), some (.sh, tubsD ts), some (.ow, .lst (fd.map qD)), some (.sh, .str t.1), some (.sh, .int t.2.1), some (.sh, .tup (t.2.2.map hD)), v6, v7]
  have cc : compD (hName 7) bYes (eTup (aCons (eIx (pVar 7) (eC (.int 0))) (aCons (eC (.int 1)) aNil))) [7] (t.2.2.map hD) (s0 none) [] = some (t.2.2.map (fun h => qD (h.1 : Rat)), s0 none) := by
    rw [comp_map hD (fun h => qD (h.1 : Rat)) t.2.2 [] (by simp; omega), List.nil_append]
    intro h hh
    exact ⟨s0 (some (.sh, hD h)), s0 (some (.sh, hD h)), s0 (some (.sh, hD h)), rfl, rfl, by rw [qD_int]; rfl, rfl⟩
  have q2 : eLc (iSeq (eVar 5)) (hName 7) bYes (eTup (aCons (eIx (pVar 7) (eC (.int 0))) (aCons (eC (.int 1)) aNil))) [7] (s0 none) = some (.lst (t.2.2.map (fun h => qD (h.1 : Rat))), s0 none) := by
    have hi : iSeq (eVar 5) (s0 none) = some (t.2.2.map hD, s0 none) := rfl
    simp only [eLc, hi, Option.bind_some]
    rw [if_pos (by rfl), show wipeS (s0 none) [7] = s0 none from rfl, cc]
    rfl
  have q1' : eLst (aCons (eTup (aCons (eC (.int 0)) (aCons (eC (.int 1)) aNil))) (aCons (eCallB F__law_part 0 (aCons (eC (.int 15)) aNil)) aNil)) (stB a b ts fd (some (.sh, .str t.1)) (some (.sh, .int t.2.1)) (some (.sh, .tup (t.2.2.map hD))) v6) = some (.lst [qD 0, qD q1], s0 none) := by
    simp [stB, e1, s0, qD]
  have hxs : .lst ([qD 0, qD q1] ++ t.2.2.map fun h => qD (h.1 : Rat)) = D.lst (xs.map qD) := by simp [xs, Function.comp_def]
  have p6 : sSet 6 (eOp gCatL (eLst (aCons (eTup (aCons (eC (.int 0)) (aCons (eC (.int 1)) aNil))) (aCons (eCallB F__law_part 0 (aCons (eC (.int 15)) aNil)) aNil))) (eLc (iSeq (eVar 5)) (hName 7) bYes (eTup (aCons (eIx (pVar 7) (eC (.int 0))) (aCons (eC (.int 1)) aNil))) [7])) (stB a b ts fd (some (.sh, .str t.1)) (some (.sh, .int t.2.1)) (some (.sh, .tup (t.2.2.map hD))) v6) = some (.nx (stB a1 b1 ts fd (some (.sh, .str t.1)) (some (.sh, .int t.2.1)) (some (.sh, .tup (t.2.2.map hD))) (some (.sh, .lst (xs.map qD))))) := by
    refine (set_of (d := .lst (xs.map qD)) (s1 := s0 none) ?_).trans rfl
    have hsm : small ([qD 0, qD q1].length + (t.2.2.map fun h => qD (h.1 : Rat)).length) = true := small_of (by simp; omega)
    simp only [eOp, q1', q2, Option.bind_some, gCatL, hsm, if_true, hxs]
  refine ⟨a2, b2, x, some (.sh, .lst (xs.map qD)), ?_, ok2, xall x hx⟩
  unfold L__law_beginning_1
  rw [seq_nx p6]
  simp (disch := omega) [stB, e2, small_of]
end Px.S

set_option Elab.async false
set_option linter.all false
set_option maxRecDepth 100000
set_option maxHeartbeats 4000000
/-! MBegin2: the law's beginnings, whole -/
namespace Px.S
open PySem L2 Px
theorem beginning_ok1 {a b : Int} {ts : List Tub} (ok : BagOk a b) (ht : TubsOk ts) : ∃ (bg : List Rat) (a' b' : Int), F__law_beginning (bagD a b) [tubsD ts] = some (false, beginD bg, bagD a' b') ∧ BagOk a' b' ∧ bg.length = ts.length ∧ ∀ q ∈ bg, Sm1 q := by
  have few := ht.few
  obtain ⟨s', e, a', b', bg, v3, v4, v5, v6, rfl, ok', h1, h2⟩ := loop_inv0 (g := hTup (hCons (hName 3) (hCons (hName 4) (hCons (hName 5) hNil)))) (fb := L__law_beginning_1)
    (fun i s => ∃ (a' b' : Int) (bg : List Rat) (v3 v4 v5 v6 : Option Sl), s = stB a' b' ts bg v3 v4 v5 v6 ∧ BagOk a' b' ∧ bg.length = i ∧ ∀ q ∈ bg, Sm1 q)
    (ts.map tD) (stB a b ts [] none none none none)
    ⟨a, b, [], _, _, _, _, rfl, ok, rfl, by simp⟩ fun i d s hi ⟨a3, b3, bg, v3, v4, v5, v6, hs, ok3, l1, l2⟩ => by
      subst hs
      rw [List.getElem?_map] at hi
      obtain ⟨t, ht1, rfl⟩ := Option.map_eq_some_iff.mp hi
      have hi2 := (List.getElem?_eq_some_iff.mp ht1).1
      obtain ⟨a4, b4, q, v6', e4, ok4, h0⟩ := begin_turn (ts := ts) (fd := bg) (v6 := v6) ok3 (ht.tub i t ht1) (by omega)
      refine ⟨_, _, rfl, e4, a4, b4, bg ++ [q], _, _, _, _, rfl, ok4, by simp [l1], fun x hx => ?_⟩
      rcases List.mem_append.mp hx with z | z
      · exact l2 x z
      · have : x = q := by simpa using z
        subst this; exact h0
  rw [List.length_map] at h1
  refine ⟨bg, a', b', ?_, ok', h1, h2⟩
  have q1 : sSetO 2 (eLst aNil) (initB 8 (bagD a b) [tubsD ts]) = some (.nx (stB a b ts [] none none none none)) := rfl
  have q2 : iSeq (eVar 1) (stB a b ts [] none none none none) = some (ts.map tD, stB a b ts [] none none none none) := rfl
  unfold F__law_beginning f__law_beginning
  simp only [runB]
  rw [seq_nx q1, seq_nx ((for_of q2).trans e)]
  have hts : bg.length ≤ 3 := by omega
  simp (disch := omega) [stB, small_of, beginD]
theorem beginning_ok {a b : Int} {ts : List Tub} (ok : BagOk a b) (ht : TubsOk ts) : ∃ (bg : List Rat) (a' b' : Int), F__law_beginning (bagD a b) [tubsD ts] = some (false, beginD bg, bagD a' b') ∧ BagOk a' b' ∧ bg.length = ts.length ∧ ∀ q ∈ bg, Smq q := by
  obtain ⟨bg, a', b', e, ok', hl, hs⟩ := beginning_ok1 ok ht
  exact ⟨bg, a', b', e, ok', hl, fun q hq => (hs q hq).smq⟩
end Px.S

set_option Elab.async false
set_option linter.all false
set_option maxRecDepth 100000
set_option maxHeartbeats 4000000
/-! MSys: the ways of all tubs as a system; sizes -/
namespace Px.W
theorem WayFrom.ris {g : Rat} {hs : Hs} {c : Rat → Int} (f : Row → Int) : ∀ {ws : List Row} {w : Row}, WayFrom g hs c (w :: ws) → Rising (w.t, f w) (ws.map fun v => (v.t, f v))
  | [], _, _ => trivial
  | w2 :: ws, w, h => ⟨h.1.lt, WayFrom.ris f h.2.2⟩
theorem rowAt_c (f : Row → Int) : ∀ (ws : List Row) (w : Row) (t : Rat), cAt (w.t, f w) (ws.map fun v => (v.t, f v)) t = f (rowAt w ws t)
  | [], _, _ => rfl
  | w2 :: ws, w, t => by
    simp only [List.map_cons, cAt, rowAt]
    by_cases z : t < w2.t
    · rw [if_pos z, if_pos z]
    · rw [if_neg z, if_neg z]; exact rowAt_c f ws w2 t
theorem rowAt_mem : ∀ (ws : List Row) (w : Row) (t : Rat), rowAt w ws t ∈ w :: ws
  | [], w, t => .head _
  | w2 :: ws, w, t => by
    simp only [rowAt]
    split
    · exact .head _
    · exact .tail _ (rowAt_mem ws w2 t)
theorem cL_mem {l : Cs} (h : CsOk l) (t : Rat) : ∃ b ∈ l, cL l t = b.2 := by
  obtain ⟨c, bs, e⟩ := h.zero
  subst e
  have gen : ∀ (bs : Cs) (a : Rat × Int), ∃ b ∈ a :: bs, cAt a bs t = b.2 := by
    intro bs
    induction bs with
    | nil => intro a; exact ⟨a, .head _, rfl⟩
    | cons b bs ih =>
      intro a
      simp only [cAt]
      split
      · exact ⟨a, .head _, rfl⟩
      · obtain ⟨x, hx, e⟩ := ih b
        exact ⟨x, .tail _ hx, e⟩
  exact gen bs (0, c)
theorem sumL_bd {lo hi : Int} : ∀ {ls : List Cs} {t : Rat}, (∀ l ∈ ls, CsOk l ∧ ∀ b ∈ l, lo ≤ b.2 ∧ b.2 ≤ hi) → lo * ls.length ≤ sumL ls t ∧ sumL ls t ≤ hi * ls.length
  | [], _, _ => by simp [sumL]
  | l :: ls, t, h => by
    obtain ⟨h1, h2⟩ := h l (.head _)
    obtain ⟨b, hb, e⟩ := cL_mem h1 t
    have := h2 b hb
    obtain ⟨i1, i2⟩ := sumL_bd (ls := ls) (t := t) fun x hx => h x (.tail _ hx)
    unfold sumL at i1 i2 ⊢
    simp only [List.map_cons, List.sum_cons, List.length_cons, e]
    have e1 : lo * ((ls.length + 1 : Nat) : Int) = lo * ls.length + lo := by rw [Int.natCast_add, Int.mul_add]; simp
    have e2 : hi * ((ls.length + 1 : Nat) : Int) = hi * ls.length + hi := by rw [Int.natCast_add, Int.mul_add]; simp
    omega
end Px.W
namespace Px.S
open PySem L2 Px
/-- a tub that can be reckoned with -/
structure TG (t : Tub) : Prop where
  g0 : 0 < t.2.1
  g1 : t.2.1 ≤ 5000
  ok : W.HsOk (hsOf t.2.2)
  bd : W.HBd (hsOf t.2.2)
  hb : HB t.2.2
def gN (t : Tub) : Nat := t.2.1.toNat
theorem TG.eg {t : Tub} (h : TG t) : t.2.1 = (gN t : Int) := by have := h.g0; unfold gN; omega
theorem TG.gp {t : Tub} (h : TG t) : 0 < gN t := by have := h.g0; unfold gN; omega
theorem TG.gl {t : Tub} (h : TG t) : gN t ≤ 5000 := by have := h.g1; unfold gN; omega
theorem TubOk.tg {later : List Str} {t : Tub} (h : TubOk later t) : TG t := by
  refine ⟨by have := h.g0; omega, by have := h.g1; omega, ⟨?_, fun x hx => ?_⟩, hbd_of h.holes h.few, fun x hx => ?_⟩
  · have := h.rising
    rw [List.pairwise_map] at this
    rw [show hsOf t.2.2 = t.2.2.map lr from rfl, List.pairwise_map]
    exact this
  · obtain ⟨y, hy, rfl⟩ := List.mem_map.mp hx
    show 0 < y.2.1
    have := (h.holes y hy).r0; omega
  · have q := h.holes x hx
    exact ⟨q.h0, by have := q.h1; omega, q.r0, by have := q.r1; omega⟩
structure WtOk (wt : Wt) (n : Nat) : Prop where
  few : wt.length ≤ 4
  zero : ∃ r rest, wt = (0, r) :: rest
  ris : (wt.map (·.1)).Pairwise (· < ·)
  hour : ∀ a ∈ wt, 0 ≤ a.1 ∧ a.1 ≤ 5000
  len : ∀ a ∈ wt, a.2.length = n
  rate : ∀ a ∈ wt, ∀ r ∈ a.2, 0 ≤ r ∧ r ≤ 1000
abbrev Prev := List (Tub × List W.Row)
def inL (prev : Prev) (x : Str) : List W.Cs := prev.flatMap fun p => inH p.2 x p.1.2.2 0
/-- one tub's way among those ahead of it -/
structure TubWay (wt : Wt) (h : Rat) (prev : Prev) (t : Tub) (R : List W.Row) : Prop where
  way : ∃ w ws cs, R = w :: ws ∧ w.t = 0 ∧ w.h = h ∧ W.IsSum (rainCs wt prev.length :: inL prev t.1) cs ∧ W.WayFrom (gN t : Rat) (hsOf t.2.2) (W.cL cs) R
structure PrevOk (wt : Wt) (bg : List Rat) (prev : Prev) (M B : Nat) : Prop where
  cnt : wt.length + (prev.map fun p => p.2.length).sum ≤ 4 * 5 ^ prev.length
  m0 : 0 < M
  m : M ≤ 2 ^ (20 + 33 * (5 ^ prev.length - 1))
  b0 : 5000 ≤ B
  b : B ≤ 2 ^ (40 + 56 * (5 ^ prev.length - 1))
  beg : ∀ q ∈ bg, W.Dn M q ∧ W.Ab B q
  tg : ∀ p ∈ prev, TG p.1
  rows : ∀ p ∈ prev, ∀ w ∈ p.2, W.Sz (gN p.1) M B w.t w.h ∧ (-300 ≤ w.r ∧ w.r ≤ 1700) ∧ w.l.length = p.1.2.2.length ∧ ∀ l ∈ w.l, 0 ≤ l ∧ l ≤ 100
  way : ∀ p ∈ prev, ∃ w ws c, p.2 = w :: ws ∧ w.t = 0 ∧ W.WayFrom (gN p.1 : Rat) (hsOf p.1.2.2) c p.2
theorem rain_cs {wt : Wt} {n i : Nat} (h : WtOk wt n) : W.CsOk (rainCs wt i) := by
  obtain ⟨r, rest, e⟩ := h.zero
  have ris := h.ris
  subst e
  refine ⟨?_, ⟨r.getD i 0, rest.map fun a => ((a.1 : Rat), a.2.getD i 0), by simp [rainCs]⟩⟩
  show W.Rising _ (rest.map fun a => ((a.1 : Rat), a.2.getD i 0))
  have gen : ∀ (rest : Wt) (a : Int × List Int), ((a :: rest).map (·.1)).Pairwise (· < ·) → W.Rising ((a.1 : Rat), a.2.getD i 0) (rest.map fun a => ((a.1 : Rat), a.2.getD i 0)) := by
    intro rest
    induction rest with
    | nil => intro a _; trivial
    | cons b rest ih =>
      intro a hp
      rw [List.map_cons, List.pairwise_cons] at hp
      have : a.1 < b.1 := hp.1 b.1 (by simp)
      exact ⟨by show (a.1 : Rat) < (b.1 : Rat); exact Rat.intCast_lt_intCast.mpr this, ih b hp.2⟩
  exact gen rest (0, r) ris
theorem inH_mem {rows : List W.Row} {x : Str} : ∀ {hs : List Hole} {n : Nat} {l : W.Cs}, l ∈ inH rows x hs n → ∃ k, n ≤ k ∧ k < n + hs.length ∧ l = moreCs rows k
  | [], n, l, h => by cases h
  | h :: hs, n, l, hm => by
    simp only [inH] at hm
    split at hm
    · rcases List.mem_cons.mp hm with e | e
      · exact ⟨n, by omega, by simp, e⟩
      · obtain ⟨k, h1, h2, h3⟩ := inH_mem e
        exact ⟨k, by omega, by simp at h2 ⊢; omega, h3⟩
    · obtain ⟨k, h1, h2, h3⟩ := inH_mem hm
      exact ⟨k, by omega, by simp at h2 ⊢; omega, h3⟩
theorem inH_len {rows : List W.Row} {x : Str} : ∀ {hs : List Hole} {n : Nat}, (inH rows x hs n).length ≤ hs.length
  | [], n => by simp [inH]
  | h :: hs, n => by
    have := inH_len (rows := rows) (x := x) (hs := hs) (n := n + 1)
    simp only [inH]
    split <;> simp <;> omega
theorem more_cs {g : Rat} {hs : W.Hs} {c : Rat → Int} {w : W.Row} {ws : List W.Row} (n : Nat) (h : W.WayFrom g hs c (w :: ws)) (h0 : w.t = 0) : W.CsOk (moreCs (w :: ws) n) := by
  refine ⟨?_, ⟨w.l.getD n 0, ws.map fun w => (w.t, w.l.getD n 0), by simp [moreCs, h0]⟩⟩
  show W.Rising _ (ws.map fun w => (w.t, w.l.getD n 0))
  exact h.ris (fun w => w.l.getD n 0)
theorem PrevOk.lists {wt : Wt} {bg : List Rat} {prev : Prev} {M B n : Nat} (P : PrevOk wt bg prev M B) (hw : WtOk wt n) (hp : prev.length ≤ 2) (x : Str) (i : Nat) (hi : i < n) : (inL prev x).length ≤ 6 ∧
    ∀ l ∈ rainCs wt i :: inL prev x, W.CsOk l ∧ l.length ≤ 1000 ∧ (∀ b ∈ l, W.Dn M b.1 ∧ 0 ≤ b.1 ∧ b.1 ≤ (B : Rat) ∧ 0 ≤ b.2 ∧ b.2 ≤ 1000) := by
  have hlen : ∀ (ps : Prev), (∀ p ∈ ps, TG p.1) → (inL ps x).length ≤ 3 * ps.length := by
    intro ps
    induction ps with
    | nil => intro _; simp [inL]
    | cons p ps ih =>
      intro h
      have h1 := ih fun q hq => h q (.tail _ hq)
      have h2 := inH_len (rows := p.2) (x := x) (hs := p.1.2.2) (n := 0)
      have h3 : p.1.2.2.length ≤ 3 := by simpa using (h p (.head _)).bd.few
      unfold inL at h1 ⊢
      simp only [List.flatMap_cons, List.length_append, List.length_cons]
      omega
  have l1 := hlen prev P.tg
  refine ⟨by omega, fun l hl => ?_⟩
  rcases List.mem_cons.mp hl with e | e
  · subst e
    refine ⟨rain_cs hw, by simp [rainCs]; have := hw.few; omega, fun b hb => ?_⟩
    obtain ⟨a, ha, rfl⟩ := List.mem_map.mp hb
    have hh := hw.hour a ha
    have hr : 0 ≤ a.2.getD i 0 ∧ a.2.getD i 0 ≤ 1000 := by
      have hl := hw.len a ha
      rw [List.getD_eq_getElem?_getD, List.getElem?_eq_getElem (by omega)]
      exact hw.rate a ha _ (List.getElem_mem _)
    have b0 : (5000 : Rat) ≤ (B : Rat) := W.le_lit (n := 5000) (m := (B : Int)) (by have := P.b0; omega)
    exact ⟨W.Dn.int _, W.le_lit (n := 0) hh.1, by have := W.le_lit (m := 5000) hh.2; show (a.1 : Rat) ≤ _; grind, hr.1, hr.2⟩
  · obtain ⟨p, hp', hl'⟩ := List.mem_flatMap.mp e
    obtain ⟨k, _, k1, rfl⟩ := inH_mem hl'
    obtain ⟨w, ws, c, er, h0, W⟩ := P.way p hp'
    have cs := more_cs k (er ▸ W) h0
    rw [← er] at cs
    refine ⟨cs, ?_, fun b hb => ?_⟩
    · have c1 := P.cnt
      have : p.2.length ≤ (prev.map fun p => p.2.length).sum := by
        have gen : ∀ (ps : Prev), p ∈ ps → p.2.length ≤ (ps.map fun p => p.2.length).sum := by
          intro ps
          induction ps with
          | nil => intro h; cases h
          | cons q ps ih =>
            intro h
            rcases List.mem_cons.mp h with e | e
            · subst e; simp
            · have := ih e; simp; omega
        exact gen prev hp'
      have h5 : 5 ^ prev.length ≤ 5 ^ 2 := Nat.pow_le_pow_right (by omega) hp
      simp [moreCs]; omega
    · obtain ⟨v, hv, rfl⟩ := List.mem_map.mp hb
      obtain ⟨sz, _, ll, lb⟩ := P.rows p hp' v hv
      have hk : k < v.l.length := by omega
      have hl : v.l.getD k 0 ∈ v.l := by
        rw [List.getD_eq_getElem?_getD, List.getElem?_eq_getElem hk]
        exact List.getElem_mem _
      have := lb _ hl
      exact ⟨sz.dt, sz.t0, sz.t1, this.1, by show v.l.getD k 0 ≤ 1000; omega⟩
end Px.S

set_option Elab.async false
set_option linter.all false
set_option maxRecDepth 100000
set_option maxHeartbeats 4000000
/-! MWeather: the law's weather -/
namespace Px.S
open PySem L2 Px
def stV (a b : Int) (ts : List Tub) (ns : List Int) (ds : List D) (v3 v4 : Option Sl) : S := [some (.rf, bagD a b), some (.sh, tubsD ts), some (.ow, .dK (ksI ns) ds), v3, v4]
theorem hour_turn {a b : Int} {ts : List Tub} {ns : List Int} {ds : List D} {v3 : Option Sl} (ok : BagOk a b) (hl : ns.length = ds.length) (hs : ns.length ≤ 10) :
    ∃ a' b' ns' ds', L__law_weather_1 (stV a b ts ns ds v3 none) = some (.nx (stV a' b' ts ns' ds' v3 none)) ∧ BagOk a' b' ∧ ns'.length = ds'.length ∧ ns'.length ≤ ns.length + 1 ∧ (ns.Nodup → ns'.Nodup) ∧ ∀ m, m ∈ ns' ↔ m ∈ ns ∨ (m ∈ ns' ∧ 1 ≤ m ∧ m ≤ 60) := by
  obtain ⟨r1, a1, b1, e1, ok1, h10, h11⟩ := take_ok (m := 2) ok (by omega) (by omega)
  obtain ⟨d, hd, ed⟩ := atI_mem (l := [D.int 6, D.int 60]) h10 (by simpa using h11)
  obtain ⟨w, rfl, hw⟩ : ∃ w, d = .int w ∧ (w = 6 ∨ w = 60) := by
    rcases mem_two hd with rfl | rfl
    · exact ⟨6, rfl, .inl rfl⟩
    · exact ⟨60, rfl, .inr rfl⟩
  obtain ⟨r2, a2, b2, e2, ok2, h20, h21⟩ := take_ok (m := w) ok1 (by omega) (by omega)
  obtain ⟨ns', ds', ep, g1, g2, g3, g4⟩ := putD_keys (n := 1 + r2) (d := .bl true) hl
  refine ⟨a2, b2, ns', ds', ?_, ok2, g1, g2, g3, fun m => ⟨fun hm => ?_, fun h => ?_⟩⟩
  · have hl' : (ksI ns).length = ds.length := by simp [ksI, hl]
    simp (disch := omega) [L__law_weather_1, stV, e1, ed, e2, hl', small_of, ep]
  · rcases (g4 m).mp hm with z | z
    · exact .inl z
    · exact .inr ⟨hm, by omega, by omega⟩
  · rcases h with z | z
    · exact (g4 m).mpr (.inl z)
    · exact z.1
theorem rains_comp {ts : List Tub} {ns : List Int} {ds : List D} {v3 : Option Sl} (ht : TubsOk ts) : ∀ (hs : List Int) (a b : Int) (acc : List D), BagOk a b → acc.length + hs.length ≤ 1000 →
    ∃ (rs : List (List Int)) (a' b' : Int), compD (hName 4) bYes (eTup (aCons (eVar 4) (aCons (eCallB F__law_rain 0 (aCons (eVar 1) aNil)) aNil))) [4] (hs.map D.int) (stV a b ts ns ds v3 none) acc = some (acc ++ (hs.zip rs).map wD, stV a' b' ts ns ds v3 none) ∧ BagOk a' b' ∧ rs.length = hs.length ∧ ∀ r ∈ rs, r.length = ts.length ∧ ∀ x ∈ r, 0 ≤ x ∧ x ≤ 300
  | [], a, b, acc, ok, _ => ⟨[], a, b, by simp, ok, rfl, by simp⟩
  | h :: hs, a, b, acc, ok, hl => by
    rw [List.length_cons] at hl
    obtain ⟨r, a1, b1, e1, ok1, l1, q1⟩ := rain_ok ok ht
    obtain ⟨rs, a2, b2, e2, ok2, l2, q2⟩ := rains_comp (ns := ns) (ds := ds) (v3 := v3) ht hs a1 b1 (acc ++ [wD (h, r)]) ok1 (by simp; omega)
    refine ⟨r :: rs, a2, b2, ?_, ok2, by simp [l2], fun x hx => ?_⟩
    · have t1 : eTup (aCons (eVar 4) (aCons (eCallB F__law_rain 0 (aCons (eVar 1) aNil)) aNil)) (stV a b ts ns ds v3 (some (.sh, .int h))) = some (wD (h, r), stV a1 b1 ts ns ds v3 (some (.sh, .int h))) := by
        simp [stV, e1, wD]
      have hsm : small acc.length = true := small_of (by omega)
      have g1 : hName 4 (.int h) (stV a b ts ns ds v3 none) = some (stV a b ts ns ds v3 (some (.sh, .int h))) := rfl
      have w1 : wipeS (stV a1 b1 ts ns ds v3 (some (.sh, .int h))) [4] = stV a1 b1 ts ns ds v3 none := rfl
      simp only [List.map_cons, compD, g1, Option.bind_some, bYes, if_true, t1, hsm, w1, e2]
      simp
    · rcases List.mem_cons.mp hx with z | z
      · subst z; exact ⟨l1, q1⟩
      · exact q2 x z
end Px.S

set_option Elab.async false
set_option linter.all false
set_option maxRecDepth 100000
set_option maxHeartbeats 4000000
/-! MWeather2: the law's weather, whole -/
namespace Px.S
open PySem L2 Px
theorem weather_ok {a b : Int} {ts : List Tub} (ok : BagOk a b) (ht : TubsOk ts) : ∃ (wt : Wt) (a' b' : Int), F__law_weather (bagD a b) [tubsD ts] = some (false, weatherD wt, bagD a' b') ∧ BagOk a' b' ∧ WtOk wt ts.length ∧ (∀ x ∈ wt, x.1 ≤ 60 ∧ ∀ r ∈ x.2, r ≤ 300) := by
  obtain ⟨r, a1, b1, e1, ok1, h10, h11⟩ := take_ok (m := 4) ok (by omega) (by omega)
  obtain ⟨s', e, a', b', ns, ds, v3, rfl, ok', h1, h2, h3, h4, h5⟩ := loop_inv0 (g := hName 3) (fb := L__law_weather_1)
    (fun i s => ∃ (a' b' : Int) (ns : List Int) (ds : List D) (v3 : Option Sl), s = stV a' b' ts ns ds v3 none ∧ BagOk a' b' ∧ ns.length = ds.length ∧ ns.length ≤ i + 1 ∧ ns.Nodup ∧ (0 : Int) ∈ ns ∧ ∀ m ∈ ns, 0 ≤ m ∧ m ≤ 60)
    (rng 0 r.toNat) (stV a1 b1 ts [0] [.bl true] none none)
    ⟨a1, b1, [0], [.bl true], none, rfl, ok1, rfl, by simp, by simp, by simp, by simp⟩ fun i d s hi ⟨a3, b3, ns, ds, v3, hs, ok3, l1, l2, l3, l4, l5⟩ => by
      subst hs
      have hi2 := (rng_get hi).2
      obtain ⟨a4, b4, ns', ds', e4, ok4, g1, g2, g3, g4⟩ := hour_turn (ts := ts) (v3 := some (.sh, d)) ok3 l1 (by omega)
      refine ⟨_, _, rfl, e4, a4, b4, ns', ds', _, rfl, ok4, g1, by omega, g3 l3, (g4 0).mpr (.inl l4), fun m hm => ?_⟩
      rcases (g4 m).mp hm with z | z
      · exact l5 m z
      · omega
  rw [rng_length] at h2
  have sl : (sortI ns).length = ns.length := (sortI_perm ns).length_eq
  obtain ⟨rs, a2, b2, e2, ok2, k1, k2⟩ := rains_comp (ts := ts) (ns := ns) (ds := ds) (v3 := v3) ht (sortI ns) a' b' [] ok' (by simp; omega)
  rw [List.nil_append] at e2
  have hs0 : (sortI ns).Pairwise (· < ·) := sortI_lt h3
  have mem : ∀ m, m ∈ sortI ns ↔ m ∈ ns := fun m => (sortI_perm ns).mem_iff
  have zf : ((sortI ns).zip rs).map (·.1) = sortI ns := List.map_fst_zip (by omega)
  have wlen : ((sortI ns).zip rs).length ≤ 4 := by rw [List.length_zip]; omega
  refine ⟨(sortI ns).zip rs, a2, b2, ?_, ok2, ⟨wlen, ?_, by rw [zf]; exact hs0, fun x hx => ?_, fun x hx => (k2 x.2 (List.of_mem_zip hx).2).1, fun x hx y hy => ?_⟩, fun x hx => ?_⟩
  · have p1 : sSetO 2 (eDOne (.inl 0) (.bl true)) (initB 5 (bagD a b) [tubsD ts]) = some (.nx (stV a b ts [0] [.bl true] none none)) := rfl
    have p2 : iRng1 (eCallB F__law_take 0 (aCons (eC (.int 4)) aNil)) (stV a b ts [0] [.bl true] none none) = some (rng 0 r.toNat, stV a1 b1 ts [0] [.bl true] none none) := by
      refine rng1_of (m := r.toNat) ?_ (by omega)
      rw [show ((r.toNat : Nat) : Int) = r by omega]
      simp [stV, e1]
    have hlen : ns.length < 64 := by omega
    have hi : iSeq (eB1 gSortedD (pVar 2)) (stV a' b' ts ns ds v3 none) = some ((sortI ns).map D.int, stV a' b' ts ns ds v3 none) := by
      simp [stV, ksI, kints_map, hlen]
    have q2 : eLc (iSeq (eB1 gSortedD (pVar 2))) (hName 4) bYes (eTup (aCons (eVar 4) (aCons (eCallB F__law_rain 0 (aCons (eVar 1) aNil)) aNil))) [4] (stV a' b' ts ns ds v3 none) = some (.lst (((sortI ns).zip rs).map wD), stV a2 b2 ts ns ds v3 none) := by
      simp only [eLc, hi, Option.bind_some]
      rw [if_pos (by rfl), show wipeS (stV a' b' ts ns ds v3 none) [4] = stV a' b' ts ns ds v3 none from rfl, e2]
      rfl
    unfold F__law_weather f__law_weather
    simp only [runB]
    rw [seq_nx p1, seq_nx ((for_of p2).trans e)]
    have hsm : small (((sortI ns).zip rs).map wD).length = true := small_of (by rw [List.length_map]; omega)
    simp only [sRet, eB1, pE, q2, Option.bind_some, PR.get, gTuple, hsm, if_true]
    rfl
  · have m0 : (0 : Int) ∈ sortI ns := (mem 0).mpr h4
    cases hsI : sortI ns with
    | nil => rw [hsI] at m0; cases m0
    | cons x xs =>
      rw [hsI] at hs0 m0 k1
      have x0 : x = 0 := by
        rcases List.mem_cons.mp m0 with z | z
        · exact z.symm
        · have := (List.pairwise_cons.mp hs0).1 0 z
          have := (h5 x ((mem x).mp (by rw [hsI]; exact .head _))).1
          omega
      subst x0
      cases rs with
      | nil => simp at k1
      | cons r0 rs => exact ⟨r0, xs.zip rs, rfl⟩
  · have := h5 x.1 ((mem _).mp (List.of_mem_zip hx).1)
    omega
  · have := (k2 x.2 (List.of_mem_zip hx).2).2 y hy
    omega
  · exact ⟨(h5 x.1 ((mem _).mp (List.of_mem_zip hx).1)).2, fun y hy => ((k2 x.2 (List.of_mem_zip hx).2).2 y hy).2⟩
end Px.S

set_option Elab.async false
set_option linter.all false
set_option maxRecDepth 100000
set_option maxHeartbeats 4000000
/-! MBag2: a new bag -/
namespace Px.S
open PySem L2 Px
theorem bag_new {c k : Int} (h0 : 0 ≤ c) (hk : 0 ≤ k) (hk2 : k < 1000) {v0 : Option Sl} :
    ∃ a b s', sSeq (sIf (bT (eLt (eVar 2) (ePow (eC (.int 10)) (eC (.int 18))))) (sRetO (eLst (aCons (eC (.int 0)) (aCons (eAdd (eC (.int 1)) (eMod (eAdd (eMul (eVar 2) (eC (.int 7919))) (eMul (eC (.int 104729)) (eVar 1))) (eC (.int 2147483646)))) aNil)))) sNil)
      (sRetO (eLst (aCons (eVar 2) (aCons (eAdd (eC (.int 1)) (eMod (eAdd (eVar 2) (eVar 1)) (eC (.int 2147483646)))) aNil)))) [v0, some (.sh, .int k), some (.sh, .int c)] = some (.ret true (bagD a b) s') ∧ BagOk a b := by
  have cp : cPow 10 18 = true := by decide
  have e10 : (10 : Int) ^ (18 : Int).toNat = 1000000000000000000 := by decide
  by_cases z : c < 1000000000000000000
  · refine ⟨0, 1 + (c * 7919 + 104729 * k) % 2147483646, [v0, some (.sh, .int k), some (.sh, .int c)], ?_, by omega, by omega, by omega⟩
    have l1 : c.natAbs.log2 < 60 := log2_lt (by omega) (by omega)
    have l2 : k.natAbs.log2 < 10 := log2_lt (by omega) (by omega)
    have l3 : (7919 : Int).natAbs.log2 < 13 := log2_lt (by decide) (by omega)
    have l4 : (104729 : Int).natAbs.log2 < 17 := log2_lt (by decide) (by omega)
    have c1 : cMul c 7919 = true := decide_eq_true (by omega)
    have c2 : cMul 104729 k = true := decide_eq_true (by omega)
    simp [cp, e10, z, c1, c2, bagD]
  · refine ⟨c, 1 + (c + k) % 2147483646, [v0, some (.sh, .int k), some (.sh, .int c)], ?_, by omega, by omega, by omega⟩
    simp [cp, e10, z, bagD]
theorem bag_ok (ns : List Int) (k : Nat) (hk : k < 1000) : ∃ a b, F__law_bag [.scr ns, .int k] = some (true, bagD a b) ∧ BagOk a b := by
  have p1 : sSet 2 (eC (.int 0)) (init 3 [.scr ns, .int k]) = some (.nx [some (.sh, .scr ns), some (.sh, .int k), some (.sh, .int 0)]) := rfl
  unfold F__law_bag f__law_bag
  simp only [runF]
  rw [seq_nx p1]
  by_cases z : k < ns.length
  · have p2 : sIf (bT (eLt (eVar 1) (eB1 gLen (pVar 0)))) (sSet 2 (eB1 gAbs (pE (eIx (pVar 0) (eVar 1))))) sNil [some (.sh, .scr ns), some (.sh, .int k), some (.sh, .int 0)] = some (.nx [some (.sh, .scr ns), some (.sh, .int k), some (.sh, .int ns[k].natAbs)]) := by
      have hat : atI ns (k : Int) = some ns[k] := by
        unfold atI ixN
        rw [if_pos (by omega), if_pos (by omega)]
        simp [z]
      simp [z, hat]
      split <;> omega
    rw [seq_nx p2]
    obtain ⟨a, b, s', e, ok⟩ := bag_new (c := (ns[k].natAbs : Int)) (k := k) (v0 := some (.sh, .scr ns)) (by omega) (by omega) (by omega)
    exact ⟨a, b, by rw [e]; rfl, ok⟩
  · have p2 : sIf (bT (eLt (eVar 1) (eB1 gLen (pVar 0)))) (sSet 2 (eB1 gAbs (pE (eIx (pVar 0) (eVar 1))))) sNil [some (.sh, .scr ns), some (.sh, .int k), some (.sh, .int 0)] = some (.nx [some (.sh, .scr ns), some (.sh, .int k), some (.sh, .int 0)]) := by
      simp [z]
    rw [seq_nx p2]
    obtain ⟨a, b, s', e, ok⟩ := bag_new (c := 0) (k := k) (v0 := some (.sh, .scr ns)) (by omega) (by omega) (by omega)
    exact ⟨a, b, by rw [e]; rfl, ok⟩
end Px.S

set_option Elab.async false
set_option linter.all false
set_option maxRecDepth 100000
set_option maxHeartbeats 4000000
/-! MT1: things of any kind; whole numbers, names, holes -/
namespace Px.S
open PySem L2 Px
/-- a thing: c bounds its sizes, n its depth -/
inductive Th (c : Nat) : Nat → D → Prop
  | non {n : Nat} : Th c n .non
  | bl {n : Nat} (b : Bool) : Th c n (.bl b)
  | int {n : Nat} (i : Int) (h : i.natAbs < 2 ^ (110 + c)) : Th c n (.int i)
  | str {n : Nat} (x : Str) (h : x.length ≤ 4 ^ (c + 4)) : Th c n (.str x)
  | tup {n : Nat} (ds : List D) (hl : ds.length ≤ 10 + c) (h : ∀ d ∈ ds, Th c n d) : Th c (n + 1) (.tup ds)
  | lst {n : Nat} (ds : List D) (hl : ds.length ≤ 10 + c) (h : ∀ d ∈ ds, Th c n d) : Th c (n + 1) (.lst ds)
theorem allT {α : Type} {g : FG} {fe : F} {vs : List Nat} {s : S} (e : α → D) (f : α → Bool) (as : List α) (hl : as.length ≤ 100000) (h : ∀ a ∈ as, ∃ s1 s2 s3, g (e a) s = some s1 ∧ bYes s1 = some (true, s2) ∧ fe s2 = some (.bl (f a), s3) ∧ wipeS s3 vs = s) :
    compD g bYes fe vs (as.map e) s [] = some ((as.map f).map D.bl, s) := by
  rw [comp_map e (fun a => .bl (f a)) as [] (by simp; omega), List.nil_append, List.map_map]
  · rfl
  · exact h
def wholeB : D → Bool
  | .int _ => true
  | _ => false
def withinB (a b : Int) : D → Bool
  | .int i => decide (a ≤ i) && decide (i ≤ b)
  | _ => false
section
variable {c n : Nat} {d : D}
theorem whole_t (t : Th c n d) : F_is_whole [d] = some (false, .bl (wholeB d)) := by
  cases t <;> simp [F_is_whole, f_is_whole, wholeB]
theorem lwhole_t (t : Th c n d) : F__law_whole [d] = some (false, .bl (wholeB d)) := by
  cases t <;> simp [F__law_whole, f__law_whole, wholeB]
theorem within_t (t : Th c n d) (a b : Int) : F_is_within [d, .int a, .int b] = some (false, .bl (withinB a b d)) := by
  have w := whole_t t
  cases t with
  | int i h =>
    by_cases z : a ≤ i
    · simp [F_is_within, f_is_within, w, wholeB, withinB, z]
    · simp [F_is_within, f_is_within, w, wholeB, withinB, z]
  | _ => simp [F_is_within, f_is_within, w, wholeB, withinB]
theorem lwithin_t (t : Th c n d) (a b : Int) : F__law_within [d, .int a, .int b] = some (false, .bl (withinB a b d)) := by
  cases t with
  | int i h =>
    by_cases z : a ≤ i
    · simp [F__law_within, f__law_within, withinB, z]
    · simp [F__law_within, f__law_within, withinB, z]
  | _ => simp [F__law_within, f__law_within, withinB]
/-! ### names -/
def lettersS : Str := "abcdefghijklmnopqrstuvwxyz"
def inLt (k : Nat) : Bool := !(Builtin.Str.occurrences lettersS ⟨#[k]⟩ 0 lettersS.length 1).isEmpty
def nameB : D → Bool
  | .str x => decide (1 ≤ x.length) && decide (x.length ≤ 8) && (x.cps.toList.map inLt).all id
  | _ => false
def sgn (k : Nat) : D := .str ⟨#[k]⟩
theorem signs_eq (x : Str) : signs x = x.cps.toList.map sgn := rfl
theorem ltoi (x : Str) : x.cps.toList.length = x.length := by simp [Str.length]
theorem pow4 {c : Nat} (hc : c ≤ 6) : 4 ^ (c + 4) ≤ 1048576 := Nat.le_trans (Nat.pow_le_pow_right (by omega) (show c + 4 ≤ 10 by omega)) (by decide)
theorem len_chain {c : Nat} {x : Str} (hc : c ≤ 6) (h : x.length ≤ 4 ^ (c + 4)) : eChain (fun i j => decide (i ≤ j)) (fun i j => decide (i ≤ j)) (eC (.int 1)) (eB1 gLen (pVar 0)) (eC (.int 8)) [some (.sh, .str x), none] = some (.bl (decide (1 ≤ x.length) && decide (x.length ≤ 8)), [some (.sh, .str x), none]) := by
  have := pow4 hc
  have sm : small x.length = true := small_of (by omega)
  by_cases z : 1 ≤ x.length
  · have z1 : (1 : Int) ≤ (x.length : Int) := by omega
    by_cases y : x.length ≤ 8
    · have y1 : (x.length : Int) ≤ 8 := by omega
      simp [z1, y1, z, y, sm]
    · have y1 : ¬ (x.length : Int) ≤ 8 := by omega
      simp [z1, y1, z, y, sm]
  · have z1 : ¬ (1 : Int) ≤ (x.length : Int) := by omega
    simp [z1, z, sm]
theorem name_t (hc : c ≤ 6) (t : Th c n d) : F_is_name [d] = some (false, .bl (nameB d)) := by
  cases t with
  | str x h =>
    let s0 : S := [some (.sh, .str x), none]
    have i1 : eB1 (gIsL "str") (pVar 0) s0 = some (.bl true, s0) := by simp [s0]
    have ch : eChain (fun i j => decide (i ≤ j)) (fun i j => decide (i ≤ j)) (eC (.int 1)) (eB1 gLen (pVar 0)) (eC (.int 8)) s0 = some (.bl (decide (1 ≤ x.length) && decide (x.length ≤ 8)), s0) := len_chain hc h
    unfold F_is_name f_is_name
    simp only [runF]
    show (sRet _ s0).bind _ = _
    cases q : (decide (1 ≤ x.length) && decide (x.length ≤ 8)) with
    | false =>
      rw [q] at ch
      simp only [sRet, eAndV, bT, i1, ch, Option.bind_some, nameB, q]
      rfl
    | true =>
      rw [q] at ch
      have cc := allT (g := hName 1) (fe := eOpP gInS (pVar 1) (pE (eC c_LETTERS))) (vs := [1]) (s := s0) sgn inLt x.cps.toList (by
        rw [ltoi]; simp only [Bool.and_eq_true, decide_eq_true_eq] at q; omega) fun k _ => ⟨[some (.sh, .str x), some (.sh, sgn k)], _, [some (.sh, .str x), some (.sh, sgn k)], rfl, rfl, rfl, rfl⟩
      have lc : eLc (iTxt (eVar 0)) (hName 1) bYes (eOpP gInS (pVar 1) (pE (eC c_LETTERS))) [1] s0 = some (.lst ((x.cps.toList.map inLt).map D.bl), s0) := by
        have hi : iTxt (eVar 0) s0 = some (x.cps.toList.map sgn, s0) := rfl
        simp only [eLc, hi, Option.bind_some]
        rw [if_pos (by rfl), show wipeS s0 [1] = s0 from rfl, cc]
        rfl
      have al : eB1 gAll (pE (eLc (iTxt (eVar 0)) (hName 1) bYes (eOpP gInS (pVar 1) (pE (eC c_LETTERS))) [1])) s0 = some (.bl ((x.cps.toList.map inLt).all id), s0) := by
        simp only [eB1, pE, lc, Option.bind_some, PR.get, gAll, bls_map]
      simp only [sRet, eAndV, bT, i1, ch, al, Option.bind_some, nameB, q, Bool.true_and]
      rfl
  | _ => simp [F_is_name, f_is_name, nameB]
theorem lname_t (hc : c ≤ 6) (t : Th c n d) : F__law_is_name [d] = some (false, .bl (nameB d)) := by
  cases t with
  | str x h =>
    let s0 : S := [some (.sh, .str x), none]
    have i1 : eB1 (gIsL "str") (pVar 0) s0 = some (.bl true, s0) := by simp [s0]
    have ch : eChain (fun i j => decide (i ≤ j)) (fun i j => decide (i ≤ j)) (eC (.int 1)) (eB1 gLen (pVar 0)) (eC (.int 8)) s0 = some (.bl (decide (1 ≤ x.length) && decide (x.length ≤ 8)), s0) := len_chain hc h
    unfold F__law_is_name f__law_is_name
    simp only [runF]
    show (sSeq _ _ s0).bind _ = _
    cases q : (decide (1 ≤ x.length) && decide (x.length ≤ 8)) with
    | false =>
      rw [q] at ch
      simp only [sSeq, sIf, bOr, bNot, bT, i1, ch, Option.bind_some, nameB, q]
      rfl
    | true =>
      rw [q] at ch
      have p1 : sIf (bOr (bNot (bT (eB1 (gIsL "str") (pVar 0)))) (bNot (bT (eChain (fun i j => decide (i ≤ j)) (fun i j => decide (i ≤ j)) (eC (.int 1)) (eB1 gLen (pVar 0)) (eC (.int 8)))))) (sRet (eC (.bl false))) sNil s0 = some (.nx s0) := by
        refine (if_no (s1 := s0) ?_).trans rfl
        simp only [bOr, bNot, bT, i1, ch, Option.bind_some]
        rfl
      have cc : compD (hName 1) (bT (eOpP gNinS (pVar 1) (pE (eC (.str "abcdefghijklmnopqrstuvwxyz"))))) (eVar 1) [1] (x.cps.toList.map sgn) s0 [] = some ((x.cps.toList.filter fun k => !inLt k).map sgn, s0) := by
        rw [comp_filter sgn sgn (fun k => !inLt k) x.cps.toList [] (by
          rw [ltoi]; simp only [Bool.and_eq_true, decide_eq_true_eq] at q; simp; omega), List.nil_append]
        intro k _
        exact ⟨[some (.sh, .str x), some (.sh, sgn k)], [some (.sh, .str x), some (.sh, sgn k)], rfl, rfl, fun _ => ⟨[some (.sh, .str x), some (.sh, sgn k)], rfl, rfl⟩, fun _ => rfl⟩
      have lc : eLc (iTxt (eVar 0)) (hName 1) (bT (eOpP gNinS (pVar 1) (pE (eC (.str "abcdefghijklmnopqrstuvwxyz"))))) (eVar 1) [1] s0 = some (.lst ((x.cps.toList.filter fun k => !inLt k).map sgn), s0) := by
        have hi : iTxt (eVar 0) s0 = some (x.cps.toList.map sgn, s0) := rfl
        simp only [eLc, hi, Option.bind_some]
        rw [if_pos (by rfl), show wipeS s0 [1] = s0 from rfl, cc]
        rfl
      have o1 : okD (.lst ((x.cps.toList.filter fun k => !inLt k).map sgn)) = true := (Pl.lst (n := 0) (ds := (x.cps.toList.filter fun k => !inLt k).map sgn) (by
        intro e he
        obtain ⟨k, _, rfl⟩ := List.mem_map.mp he
        exact .str _)).ok
      have o2 : okD (.lst []) = true := (Pl.lst (n := 0) (ds := []) (by simp)).ok
      have eqn : eqD (.lst ((x.cps.toList.filter fun k => !inLt k).map sgn)) (.lst []) = (x.cps.toList.map inLt).all id := by
        cases hf : x.cps.toList.filter fun k => !inLt k with
        | nil =>
          have ha : (x.cps.toList.map inLt).all id = true := by
            rw [List.all_eq_true]
            intro b hb
            obtain ⟨k, hk, rfl⟩ := List.mem_map.mp hb
            have := List.filter_eq_nil_iff.mp hf k hk
            simpa using this
          rw [ha]; rfl
        | cons k l =>
          have hk : k ∈ x.cps.toList.filter fun k => !inLt k := by rw [hf]; exact .head _
          obtain ⟨h1, h2⟩ := List.mem_filter.mp hk
          have ha : (x.cps.toList.map inLt).all id = false := by
            rw [List.all_eq_false]
            refine ⟨inLt k, List.mem_map.mpr ⟨k, h1, rfl⟩, ?_⟩
            simpa using h2
          rw [ha]
          simp [eqD, D.py, pys, PyData.eqv, PyData.eqvAll]
      rw [seq_nx p1]
      have hl : eLst aNil s0 = some (.lst [], s0) := rfl
      simp only [sRet, eOpP, pE, lc, hl, Option.bind_some, PR.get, gEq, o1, o2, eqn, nameB, q, Bool.true_and, Bool.and_self, if_true]
  | _ => simp [F__law_is_name, f__law_is_name, nameB]
end
end Px.S

set_option Elab.async false
set_option linter.all false
set_option maxRecDepth 100000
set_option maxHeartbeats 4000000
/-! MT2: holes, tubs of any thing -/
namespace Px.S
open PySem L2 Px
def intoB (later : List Str) : D → Bool
  | .str x => decide (x = "") || decide (x ∈ later)
  | _ => false
def holeL (later : List Str) : List D → Bool
  | [a, b, e] => withinB 0 1000 a && (withinB 1 100 b && intoB later e)
  | _ => false
def holeB (later : List Str) : D → Bool
  | .tup ds => holeL later ds
  | _ => false
theorem three {ds : List D} (h : ds.length = 3) : ∃ a b e, ds = [a, b, e] := by
  match ds, h with
  | [a, b, e], _ => exact ⟨a, b, e, rfl⟩
theorem holeL_ne {later : List Str} : ∀ {ds : List D}, ds.length ≠ 3 → holeL later ds = false
  | [], _ => rfl
  | [_], _ => rfl
  | [_, _], _ => rfl
  | [_, _, _], h => absurd rfl h
  | _ :: _ :: _ :: _ :: _, _ => rfl
def fewB : D → Bool
  | .tup hs => decide (hs.length ≤ 3)
  | _ => false
def tubL : List D → Bool
  | [a, b, e] => nameB a && (withinB 1 1000 b && fewB e)
  | _ => false
def tubB : D → Bool
  | .tup ds => tubL ds
  | _ => false
theorem tubL_ne : ∀ {ds : List D}, ds.length ≠ 3 → tubL ds = false
  | [], _ => rfl
  | [_], _ => rfl
  | [_, _], _ => rfl
  | [_, _, _], h => absurd rfl h
  | _ :: _ :: _ :: _ :: _, _ => rfl
theorem a3_0 (a b e : D) : atI [a, b, e] 0 = some a := rfl
theorem a3_1 (a b e : D) : atI [a, b, e] 1 = some b := rfl
theorem a3_2 (a b e : D) : atI [a, b, e] 2 = some e := rfl
section
variable {c n : Nat} {d : D}
theorem okI (z : Int) : okD (.int z) = true := (Pl.int (n := 0) z).ok
theorem into_any (later : List Str) (x : Str) : ((D.str "" :: later.map D.str).any fun z => eqD z (.str x)) = (decide (x = "") || decide (x ∈ later)) := by
  rw [List.any_cons, eqD_str]
  congr 1
  · by_cases h : x = ""
    · rw [h]
    · rw [decide_eq_false h, decide_eq_false (fun z => h z.symm)]
  · rw [Bool.eq_iff_iff, List.any_eq_true, decide_eq_true_eq]
    constructor
    · rintro ⟨z, hz, e⟩
      obtain ⟨y, hy, rfl⟩ := List.mem_map.mp hz
      rw [eqD_str, decide_eq_true_eq] at e
      rw [← e]; exact hy
    · intro h
      exact ⟨.str x, List.mem_map.mpr ⟨x, h, rfl⟩, by rw [eqD_str]; simp⟩
theorem hole_t {later : List Str} (hl : later.length ≤ 10) (t : Th c n d) : F_is_hole [d, .lst (later.map D.str)] = some (false, .bl (holeB later d)) := by
  cases t with
  | tup ds hd h =>
    let s0 : S := [some (.sh, .tup ds), some (.sh, .lst (later.map D.str))]
    by_cases h3 : ds.length = 3
    · obtain ⟨a, b, e, rfl⟩ := three h3
      have ta := h a (by simp)
      have tb := h b (by simp)
      have te := h e (by simp)
      have wa := within_t ta 0 1000
      have wb := within_t tb 1 100
      have f1 : eCall F_is_within (aCons (eIx (pVar 0) (eC (.int 0))) (aCons (eC (.int 0)) (aCons (eC c_MOST_PART) aNil))) s0 = some (.bl (withinB 0 1000 a), s0) := by
        refine call_three (s1 := s0) (s2 := s0) (d1 := a) (d2 := .int 0) (d3 := .int 1000) ?_ rfl rfl wa
        simp [s0, a3_0]
      have f2 : eCall F_is_within (aCons (eIx (pVar 0) (eC (.int 1))) (aCons (eC (.int 1)) (aCons (eC c_MOST_RATE) aNil))) s0 = some (.bl (withinB 1 100 b), s0) := by
        refine call_three (s1 := s0) (s2 := s0) (d1 := b) (d2 := .int 1) (d3 := .int 100) ?_ rfl rfl wb
        simp [s0, a3_1]
      have i1 : eB1 (gIsL "tuple") (pVar 0) s0 = some (.bl true, s0) := by simp [s0]
      have i2 : eOpP gNe (pE (eB1 gLen (pVar 0))) (pE (eC (.int 3))) s0 = some (.bl false, s0) := by simp [s0, okI]
      have sm : small (1 + later.length) = true := small_of (by omega)
      have f3 : eAndV (eB1 (gIsL "str") (pE (eIx (pVar 0) (eC (.int 2))))) (eOpP (gInQ false) (pE (eIx (pVar 0) (eC (.int 2)))) (pE (eOp gCatL (eLst (aCons (eC (.str "")) aNil)) (eVar 1)))) s0 = some (.bl (intoB later e), s0) := by
        cases te with
        | str x hx =>
          have os : okD (.str x) = true := (Pl.str (n := 0) x).ok
          have ol : okD (.lst (.str "" :: later.map D.str)) = true := (Pl.lst (n := 0) (ds := .str "" :: later.map D.str) (by
            intro q hq
            rcases List.mem_cons.mp hq with z | z
            · rw [z]; exact .str _
            · obtain ⟨y, _, rfl⟩ := List.mem_map.mp z
              exact .str _)).ok
          have an := into_any later x
          simp [s0, a3_2, sm, seq?, os, ol, an, intoB]
        | _ => simp [s0, a3_2, intoB]
      unfold F_is_hole f_is_hole
      simp only [runF]
      show (sSeq _ _ s0).bind _ = _
      cases q1 : withinB 0 1000 a with
      | false =>
        rw [q1] at f1
        have p1 : sIf (bOr (bNot (bT (eB1 (gIsL "tuple") (pVar 0)))) (bOr (bT (eOpP gNe (pE (eB1 gLen (pVar 0))) (pE (eC (.int 3))))) (bNot (bT (eCall F_is_within (aCons (eIx (pVar 0) (eC (.int 0))) (aCons (eC (.int 0)) (aCons (eC c_MOST_PART) aNil)))))))) (sRet (eC (.bl false))) sNil s0 = some (.ret false (.bl false) s0) := by
          refine (if_yes (s1 := s0) ?_).trans rfl
          simp only [bOr, bNot, bT, i1, i2, f1, Option.bind_some]
          rfl
        simp only [sSeq, p1, Option.bind_some, holeB, holeL, q1, Bool.false_and]
      | true =>
        rw [q1] at f1
        have p1 : sIf (bOr (bNot (bT (eB1 (gIsL "tuple") (pVar 0)))) (bOr (bT (eOpP gNe (pE (eB1 gLen (pVar 0))) (pE (eC (.int 3))))) (bNot (bT (eCall F_is_within (aCons (eIx (pVar 0) (eC (.int 0))) (aCons (eC (.int 0)) (aCons (eC c_MOST_PART) aNil)))))))) (sRet (eC (.bl false))) sNil s0 = some (.nx s0) := by
          refine (if_no (s1 := s0) ?_).trans rfl
          simp only [bOr, bNot, bT, i1, i2, f1, Option.bind_some]
          rfl
        rw [seq_nx p1]
        have an : ∀ (f g : F) (u v : Bool), f s0 = some (.bl u, s0) → g s0 = some (.bl v, s0) → eAndV f g s0 = some (.bl (u && v), s0) := fun f g u v h1 h2 => by
          cases u <;> simp [eAndV, bT, h1, h2]
        simp only [sRet, an _ _ _ _ f2 f3, Option.bind_some, holeB, holeL, q1, Bool.true_and]
    · have hi : ¬ ((ds.length : Int) = 3) := by omega
      have : holeB later (.tup ds) = false := holeL_ne h3
      rw [this]
      simp [F_is_hole, f_is_hole, okI, hi]
  | _ => simp [F_is_hole, f_is_hole, holeB]
theorem lhole_t {later : List Str} (hl : later.length ≤ 10) (t : Th c n d) : F__law_is_hole [d, .lst (later.map D.str)] = some (false, .bl (holeB later d)) := by
  cases t with
  | tup ds hd h =>
    let s0 : S := [some (.sh, .tup ds), some (.sh, .lst (later.map D.str))]
    by_cases h3 : ds.length = 3
    · obtain ⟨a, b, e, rfl⟩ := three h3
      have ta := h a (by simp)
      have tb := h b (by simp)
      have te := h e (by simp)
      have wa := lwithin_t ta 0 1000
      have wb := lwithin_t tb 1 100
      have f1 : eCall F__law_within (aCons (eIx (pVar 0) (eC (.int 0))) (aCons (eC (.int 0)) (aCons (eC (.int 1000)) aNil))) s0 = some (.bl (withinB 0 1000 a), s0) := by
        refine call_three (s1 := s0) (s2 := s0) (d1 := a) (d2 := .int 0) (d3 := .int 1000) ?_ rfl rfl wa
        simp [s0, a3_0]
      have f2 : eCall F__law_within (aCons (eIx (pVar 0) (eC (.int 1))) (aCons (eC (.int 1)) (aCons (eC (.int 100)) aNil))) s0 = some (.bl (withinB 1 100 b), s0) := by
        refine call_three (s1 := s0) (s2 := s0) (d1 := b) (d2 := .int 1) (d3 := .int 100) ?_ rfl rfl wb
        simp [s0, a3_1]
      have i1 : eB1 (gIsL "tuple") (pVar 0) s0 = some (.bl true, s0) := by simp [s0]
      have i2 : eOpP gNe (pE (eB1 gLen (pVar 0))) (pE (eC (.int 3))) s0 = some (.bl false, s0) := by simp [s0, okI]
      have sm : small (1 + later.length) = true := small_of (by omega)
      have f3 : eAndV (eB1 (gIsL "str") (pE (eIx (pVar 0) (eC (.int 2))))) (eOpP (gInQ false) (pE (eIx (pVar 0) (eC (.int 2)))) (pE (eOp gCatL (eLst (aCons (eC (.str "")) aNil)) (eVar 1)))) s0 = some (.bl (intoB later e), s0) := by
        cases te with
        | str x hx =>
          have os : okD (.str x) = true := (Pl.str (n := 0) x).ok
          have ol : okD (.lst (.str "" :: later.map D.str)) = true := (Pl.lst (n := 0) (ds := .str "" :: later.map D.str) (by
            intro q hq
            rcases List.mem_cons.mp hq with z | z
            · rw [z]; exact .str _
            · obtain ⟨y, _, rfl⟩ := List.mem_map.mp z
              exact .str _)).ok
          have an := into_any later x
          simp [s0, a3_2, sm, seq?, os, ol, an, intoB]
        | _ => simp [s0, a3_2, intoB]
      unfold F__law_is_hole f__law_is_hole
      simp only [runF]
      show (sSeq _ _ s0).bind _ = _
      cases q1 : withinB 0 1000 a with
      | false =>
        rw [q1] at f1
        have p1 : sIf (bOr (bNot (bT (eB1 (gIsL "tuple") (pVar 0)))) (bOr (bT (eOpP gNe (pE (eB1 gLen (pVar 0))) (pE (eC (.int 3))))) (bNot (bT (eCall F__law_within (aCons (eIx (pVar 0) (eC (.int 0))) (aCons (eC (.int 0)) (aCons (eC (.int 1000)) aNil)))))))) (sRet (eC (.bl false))) sNil s0 = some (.ret false (.bl false) s0) := by
          refine (if_yes (s1 := s0) ?_).trans rfl
          simp only [bOr, bNot, bT, i1, i2, f1, Option.bind_some]
          rfl
        simp only [sSeq, p1, Option.bind_some, holeB, holeL, q1, Bool.false_and]
      | true =>
        rw [q1] at f1
        have p1 : sIf (bOr (bNot (bT (eB1 (gIsL "tuple") (pVar 0)))) (bOr (bT (eOpP gNe (pE (eB1 gLen (pVar 0))) (pE (eC (.int 3))))) (bNot (bT (eCall F__law_within (aCons (eIx (pVar 0) (eC (.int 0))) (aCons (eC (.int 0)) (aCons (eC (.int 1000)) aNil)))))))) (sRet (eC (.bl false))) sNil s0 = some (.nx s0) := by
          refine (if_no (s1 := s0) ?_).trans rfl
          simp only [bOr, bNot, bT, i1, i2, f1, Option.bind_some]
          rfl
        rw [seq_nx p1]
        have an : ∀ (f g : F) (u v : Bool), f s0 = some (.bl u, s0) → g s0 = some (.bl v, s0) → eAndV f g s0 = some (.bl (u && v), s0) := fun f g u v h1 h2 => by
          cases u <;> simp [eAndV, bT, h1, h2]
        simp only [sRet, an _ _ _ _ f2 f3, Option.bind_some, holeB, holeL, q1, Bool.true_and]
    · have hi : ¬ ((ds.length : Int) = 3) := by omega
      have : holeB later (.tup ds) = false := holeL_ne h3
      rw [this]
      simp [F__law_is_hole, f__law_is_hole, okI, hi]
  | _ => simp [F__law_is_hole, f__law_is_hole, holeB]
theorem tub_t (hc : c ≤ 6) (t : Th c n d) : F_is_tub [d] = some (false, .bl (tubB d)) := by
  cases t with
  | tup ds hd h =>
    let s0 : S := [some (.sh, .tup ds)]
    by_cases h3 : ds.length = 3
    · obtain ⟨a, b, e, rfl⟩ := three h3
      have ta := h a (by simp)
      have tb := h b (by simp)
      have te := h e (by simp)
      have wa := name_t hc ta
      have wb := within_t tb 1 1000
      have f1 : eCall F_is_name (aCons (eIx (pVar 0) (eC (.int 0))) aNil) s0 = some (.bl (nameB a), s0) := by
        refine call_one (s1 := s0) (d1 := a) ?_ wa
        simp [s0, a3_0]
      have f2 : eCall F_is_within (aCons (eIx (pVar 0) (eC (.int 1))) (aCons (eC (.int 1)) (aCons (eC c_MOST_PART) aNil))) s0 = some (.bl (withinB 1 1000 b), s0) := by
        refine call_three (s1 := s0) (s2 := s0) (d1 := b) (d2 := .int 1) (d3 := .int 1000) ?_ rfl rfl wb
        simp [s0, a3_1]
      have i1 : eB1 (gIsL "tuple") (pVar 0) s0 = some (.bl true, s0) := by simp [s0]
      have i2 : eOpP gNe (pE (eB1 gLen (pVar 0))) (pE (eC (.int 3))) s0 = some (.bl false, s0) := by simp [s0, okI]
      have f3 : eAndV (eB1 (gIsL "tuple") (pE (eIx (pVar 0) (eC (.int 2))))) (eLe (eB1 gLen (pE (eIx (pVar 0) (eC (.int 2))))) (eC c_MOST_HOLES)) s0 = some (.bl (fewB e), s0) := by
        cases te with
        | tup hs h1 h2 =>
          have : ((hs.length : Int) ≤ 3) = (hs.length ≤ 3) := by simp; omega
          simp [s0, a3_2, fewB, c_MOST_HOLES, this]
        | _ => simp [s0, a3_2, fewB]
      unfold F_is_tub f_is_tub
      simp only [runF]
      show (sSeq _ _ s0).bind _ = _
      cases q1 : nameB a with
      | false =>
        rw [q1] at f1
        have p1 : sIf (bOr (bNot (bT (eB1 (gIsL "tuple") (pVar 0)))) (bOr (bT (eOpP gNe (pE (eB1 gLen (pVar 0))) (pE (eC (.int 3))))) (bNot (bT (eCall F_is_name (aCons (eIx (pVar 0) (eC (.int 0))) aNil)))))) (sRet (eC (.bl false))) sNil s0 = some (.ret false (.bl false) s0) := by
          refine (if_yes (s1 := s0) ?_).trans rfl
          simp only [bOr, bNot, bT, i1, i2, f1, Option.bind_some]
          rfl
        simp only [sSeq, p1, Option.bind_some, tubB, tubL, q1, Bool.false_and]
      | true =>
        rw [q1] at f1
        have p1 : sIf (bOr (bNot (bT (eB1 (gIsL "tuple") (pVar 0)))) (bOr (bT (eOpP gNe (pE (eB1 gLen (pVar 0))) (pE (eC (.int 3))))) (bNot (bT (eCall F_is_name (aCons (eIx (pVar 0) (eC (.int 0))) aNil)))))) (sRet (eC (.bl false))) sNil s0 = some (.nx s0) := by
          refine (if_no (s1 := s0) ?_).trans rfl
          simp only [bOr, bNot, bT, i1, i2, f1, Option.bind_some]
          rfl
        rw [seq_nx p1]
        have an : ∀ (f g : F) (u v : Bool), f s0 = some (.bl u, s0) → g s0 = some (.bl v, s0) → eAndV f g s0 = some (.bl (u && v), s0) := fun f g u v h1 h2 => by
          cases u <;> simp [eAndV, bT, h1, h2]
        simp only [sRet, an _ _ _ _ f2 f3, Option.bind_some, tubB, tubL, q1, Bool.true_and]
    · have hi : ¬ ((ds.length : Int) = 3) := by omega
      have : tubB (.tup ds) = false := tubL_ne h3
      rw [this]
      simp [F_is_tub, f_is_tub, okI, hi]
  | _ => simp [F_is_tub, f_is_tub, tubB]
theorem tub_form {d : D} (h : tubB d = true) : ∃ (x : Str) (g : Int) (hs : List D), d = .tup [.str x, .int g, .tup hs] ∧ hs.length ≤ 3 ∧ nameB (.str x) = true ∧ withinB 1 1000 (.int g) = true := by
  cases d with
  | tup ds =>
    by_cases h3 : ds.length = 3
    · obtain ⟨a, b, e, rfl⟩ := three h3
      simp only [tubB, tubL, Bool.and_eq_true] at h
      obtain ⟨h1, h2, h4⟩ := h
      cases a <;> simp only [nameB] at h1 <;> try cases h1
      cases b <;> simp only [withinB] at h2 <;> try cases h2
      cases e <;> simp only [fewB] at h4 <;> try cases h4
      rename_i x g hs
      exact ⟨x, g, hs, rfl, by simpa using h4, h1, h2⟩
    · rw [show tubB (.tup ds) = tubL ds from rfl, tubL_ne h3] at h; cases h
  | _ => cases h
theorem hole_form {later : List Str} {d : D} (h : holeB later d = true) : ∃ (l r : Int) (x : Str), d = .tup [.int l, .int r, .str x] := by
  cases d with
  | tup ds =>
    by_cases h3 : ds.length = 3
    · obtain ⟨a, b, e, rfl⟩ := three h3
      simp only [holeB, holeL, Bool.and_eq_true] at h
      obtain ⟨h1, h2, h4⟩ := h
      cases a <;> simp only [withinB] at h1 <;> try cases h1
      cases b <;> simp only [withinB] at h2 <;> try cases h2
      cases e <;> simp only [intoB] at h4 <;> try cases h4
      exact ⟨_, _, _, rfl⟩
    · rw [show holeB later (.tup ds) = holeL later ds from rfl, holeL_ne h3] at h; cases h
  | _ => cases h
end
end Px.S

set_option Elab.async false
set_option linter.all false
set_option maxRecDepth 100000
set_option maxHeartbeats 4000000
/-! MT3: are_tubs of any thing -/
namespace Px.S
open PySem L2 Px
theorem cut_ints1 (ns : List Int) : cutD (ns.map D.int) (some 1) none = (ns.drop 1).map D.int := by
  unfold cutD
  rw [show (1 : Int) = ((1 : Nat) : Int) from rfl, HT.sIx_nat, HT.sIx_none, List.length_map, List.map_drop]
  by_cases h : 1 ≤ ns.length
  · rw [Nat.min_eq_left h, List.take_of_length_le (by simp)]
  · have : ns = [] := List.eq_nil_of_length_eq_zero (by omega)
    subst this; simp
theorem cut_names1 (nm : List Str) (n : Nat) : cutD (nm.map D.str) (some ((n : Int) + 1)) none = (nm.drop (n + 1)).map D.str := by
  unfold cutD
  rw [show (n : Int) + 1 = ((n + 1 : Nat) : Int) by omega, HT.sIx_nat, HT.sIx_none, List.length_map, List.map_drop]
  by_cases h : n + 1 ≤ nm.length
  · rw [Nat.min_eq_left h, List.take_of_length_le (by simp)]
  · rw [Nat.min_eq_right (by omega), List.drop_eq_nil_of_le (by simp), List.drop_eq_nil_of_le (by simp; omega)]
    simp
def upB (ns : List Int) : Bool := decide (ns.Pairwise (· < ·))
theorem up_zip : ∀ (ns : List Int), (((ns.zip (ns.drop 1)).map fun p => decide (p.1 < p.2)).all id) = upB ns
  | [] => rfl
  | [_] => by simp [upB]
  | a :: b :: ns => by
    have ih := up_zip (b :: ns)
    simp only [List.drop_succ_cons, List.drop_zero, List.zip_cons_cons, List.map_cons, List.all_cons, id] at ih ⊢
    rw [ih]
    unfold upB
    rw [Bool.eq_iff_iff, Bool.and_eq_true, decide_eq_true_eq, decide_eq_true_eq, decide_eq_true_eq]
    constructor
    · rintro ⟨h1, h2⟩
      rw [List.pairwise_cons]
      refine ⟨fun z hz => ?_, h2⟩
      rcases List.mem_cons.mp hz with e | e
      · rw [e]; exact h1
      · have := (List.pairwise_cons.mp h2).1 z e; omega
    · intro h
      rw [List.pairwise_cons] at h
      exact ⟨h.1 b (.head _), h.2⟩
theorem rising_t {ns : List Int} (hl : ns.length ≤ 100) : F_are_rising [.lst (ns.map D.int)] = some (false, .bl (upB ns)) := by
  have hi : iZip (eVar 0) (eSl (pVar 0) (oSome (eC (.int 1))) oNone) [some (.sh, .lst (ns.map D.int)), none, none] = some ((ns.zip (ns.drop 1)).map fun p => .tup [.int p.1, .int p.2], [some (.sh, .lst (ns.map D.int)), none, none]) := by
    have e := zipD_map D.int D.int ns (ns.drop 1)
    have c := cut_ints1 ns
    have h1 : eSl (pVar 0) (oSome (eC (.int 1))) oNone [some (.sh, .lst (ns.map D.int)), none, none] = some (.lst ((ns.drop 1).map D.int), [some (.sh, .lst (ns.map D.int)), none, none]) := by
      have sm : small ns.length = true := small_of (by omega)
      simp [c, sm]
    have h0 : eVar 0 [some (.sh, .lst (ns.map D.int)), none, none] = some (.lst (ns.map D.int), [some (.sh, .lst (ns.map D.int)), none, none]) := rfl
    simp only [iZip, h0, h1, Option.bind_some]
    rw [← e]
    rfl
  have cc := allT (g := hTup (hCons (hName 1) (hCons (hName 2) hNil))) (fe := eLt (eVar 1) (eVar 2)) (vs := [1, 2]) (s := [some (.sh, .lst (ns.map D.int)), none, none]) (fun p : Int × Int => .tup [.int p.1, .int p.2]) (fun p => decide (p.1 < p.2)) (ns.zip (ns.drop 1)) (by simp; omega) fun p _ => ⟨_, _, _, rfl, rfl, rfl, rfl⟩
  have hlc : eLc (iZip (eVar 0) (eSl (pVar 0) (oSome (eC (.int 1))) oNone)) (hTup (hCons (hName 1) (hCons (hName 2) hNil))) bYes (eLt (eVar 1) (eVar 2)) [1, 2] [some (.sh, .lst (ns.map D.int)), none, none] = some (.lst (((ns.zip (ns.drop 1)).map fun p => decide (p.1 < p.2)).map D.bl), [some (.sh, .lst (ns.map D.int)), none, none]) := by
    simp only [eLc, hi, Option.bind_some]
    rw [if_pos (by rfl), show wipeS [some (.sh, .lst (ns.map D.int)), none, none] [1, 2] = [some (.sh, .lst (ns.map D.int)), none, none] from rfl, cc]
    rfl
  unfold F_are_rising f_are_rising
  simp only [runF]
  show (sRet _ [some (.sh, .lst (ns.map D.int)), none, none]).bind _ = _
  simp only [sRet, eB1, pE, hlc, Option.bind_some, PR.get, gAll, bls_map, up_zip]
/-! ### names, each once -/
theorem dlen {g : FG} {fk fv : F} {vs : List Nat} {s : S} (h : ∀ x : Str, ∃ s1 s2 s3 s4, g (.str x) s = some s1 ∧ bYes s1 = some (true, s2) ∧ fk s2 = some (.str x, s3) ∧ fv s3 = some (.bl true, s4) ∧ wipeS s4 vs = s) : ∀ (as ks : List Str) (acc : List D), ks.length + as.length ≤ 1000 → ks.Nodup → ks.length = acc.length →
    ∃ ks' acc', dcompD g bYes fk fv vs (as.map D.str) s (ksS ks) acc = some ((ksS ks', acc'), s) ∧ ks'.length ≤ ks.length + as.length ∧ (ks'.length = ks.length + as.length ↔ (ks ++ as).Nodup)
  | [], ks, acc, _, nd, _ => ⟨ks, acc, rfl, by simp, by simp [nd]⟩
  | x :: as, ks, acc, hl, nd, hla => by
    rw [List.length_cons] at hl
    obtain ⟨s1, s2, s3, s4, h1, h2, h3, h4, h5⟩ := h x
    have sm : small (ksS ks).length = true := small_of (by simp [ksS]; omega)
    have kx : (.inr x : Key) ∈ ksS ks ↔ x ∈ ks := by
      unfold ksS
      rw [List.mem_map]
      constructor
      · rintro ⟨y, hy, e⟩; injection e with e; rw [← e]; exact hy
      · intro hx; exact ⟨x, hx, rfl⟩
    by_cases hx : x ∈ ks
    · have ep : putD (ksS ks) acc (.inr x) (.bl true) = (ksS ks, (putD (ksS ks) acc (.inr x) (.bl true)).2) := by
        unfold putD; rw [if_pos (kx.mpr hx)]
      have hla2 : ks.length = (putD (ksS ks) acc (.inr x) (.bl true)).2.length := by
        unfold putD; rw [if_pos (kx.mpr hx)]; simp [ksS, hla]
      obtain ⟨ks', acc', e, l1, l2⟩ := dlen h as ks (putD (ksS ks) acc (.inr x) (.bl true)).2 (by omega) nd hla2
      refine ⟨ks', acc', ?_, by rw [List.length_cons]; omega, ⟨fun q => ?_, fun q => ?_⟩⟩
      · rw [List.map_cons]
        simp only [dcompD, h1, h2, h3, h4, Option.bind_some, if_true, key?, sm, h5]
        rw [ep]
        exact e
      · rw [List.length_cons] at q; omega
      · exact absurd rfl ((List.nodup_append.mp q).2.2 x hx x (.head _))
    · have ep : putD (ksS ks) acc (.inr x) (.bl true) = (ksS (ks ++ [x]), acc ++ [.bl true]) := by
        unfold putD; rw [if_neg (fun q => hx (kx.mp q))]; simp [ksS]
      have nd2 : (ks ++ [x]).Nodup := by
        rw [List.nodup_append]
        refine ⟨nd, by simp, fun a ha b hb e => ?_⟩
        have : b = x := by simpa using hb
        rw [e, this] at ha; exact hx ha
      obtain ⟨ks', acc', e, l1, l2⟩ := dlen h as (ks ++ [x]) (acc ++ [.bl true]) (by simp; omega) nd2 (by simp [hla])
      rw [List.length_append, List.length_singleton] at l1 l2
      refine ⟨ks', acc', ?_, by rw [List.length_cons]; omega, ?_⟩
      · rw [List.map_cons]
        simp only [dcompD, h1, h2, h3, h4, Option.bind_some, if_true, key?, sm, h5]
        rw [ep]
        exact e
      · rw [List.length_cons, show ks.length + (as.length + 1) = ks.length + 1 + as.length by omega, l2]
        simp
/-! ### tubs by parts -/
abbrev RT := Str × Int × List D
def pT (u : RT) : D := .tup [.str u.1, .int u.2.1, .tup u.2.2]
def lvD : D → Int
  | .tup [.int l, _, _] => l
  | _ => 0
def hsOkB (later : List Str) (hs : List D) : Bool := (hs.map (holeB later)).all id && upB (hs.map lvD)
def restB (nm : List Str) : Nat → List RT → Bool
  | _, [] => true
  | k, u :: us => hsOkB (nm.drop (k + 1)) u.2.2 && restB nm (k + 1) us
def rtD : D → RT
  | .tup [.str x, .int g, .tup hs] => (x, g, hs)
  | _ => ("", 0, [])
def tubsL (ds : List D) : Bool := decide (1 ≤ ds.length) && decide (ds.length ≤ 3) && (ds.map tubB).all id && decide ((ds.map fun d => (rtD d).1).Nodup) && restB (ds.map fun d => (rtD d).1) 0 (ds.map rtD)
def tubsB : D → Bool
  | .tup ds => tubsL ds
  | _ => false
theorem tubs_form : ∀ {ds : List D}, (ds.map tubB).all id = true → ∃ us : List RT, ds = us.map pT ∧ ∀ u ∈ us, u.2.2.length ≤ 3
  | [], _ => ⟨[], rfl, by simp⟩
  | d :: ds, h => by
    rw [List.map_cons, List.all_cons, Bool.and_eq_true] at h
    obtain ⟨x, g, hs, rfl, hl, _⟩ := tub_form h.1
    obtain ⟨us, rfl, h2⟩ := tubs_form h.2
    refine ⟨(x, g, hs) :: us, rfl, fun u hu => ?_⟩
    rcases List.mem_cons.mp hu with e | e
    · rw [e]; exact hl
    · exact h2 u e
theorem rt_map (us : List RT) : (us.map pT).map rtD = us := by
  rw [List.map_map]
  have : rtD ∘ pT = id := by funext u; rfl
  rw [this, List.map_id]
theorem nm_map (us : List RT) : ((us.map pT).map fun d => (rtD d).1) = us.map (·.1) := by
  rw [List.map_map]; rfl
def stAt (ds : List D) (nm : List Str) (v2 v3 : Option Sl) : S := [some (.sh, .tup ds), some (.sh, .lst (nm.map D.str)), v2, v3, none, none]
section
variable {c n : Nat}
theorem pT_2 (u : RT) : atI [D.str u.1, D.int u.2.1, D.tup u.2.2] 2 = some (.tup u.2.2) := rfl
theorem pT_0 (u : RT) : atI [D.str u.1, D.int u.2.1, D.tup u.2.2] 0 = some (.str u.1) := rfl
theorem holes_allT {ds : List D} {nm : List Str} {k : Nat} {u : RT} (few : u.2.2.length ≤ 3) (hl : nm.length ≤ 3) (ht : ∀ d ∈ u.2.2, Th c n d) :
    eB1 gAll (pE (eLc (iSeq (eIx (pVar 3) (eC (.int 2)))) (hName 5) bYes (eCall F_is_hole (aCons (eVar 5) (aCons (eSl (pVar 1) (oSome (eAdd (eVar 2) (eC (.int 1)))) oNone) aNil))) [5])) (stAt ds nm (some (.sh, .int k)) (some (.sh, pT u))) = some (.bl ((u.2.2.map (holeB (nm.drop (k + 1)))).all id), stAt ds nm (some (.sh, .int k)) (some (.sh, pT u))) := by
  let s0 : S := stAt ds nm (some (.sh, .int k)) (some (.sh, pT u))
  have hi0 : iSeq (eIx (pVar 3) (eC (.int 2))) s0 = some (u.2.2, s0) := by
    simp [s0, stAt, pT, pT_2]
  have cc := allT (g := hName 5) (fe := eCall F_is_hole (aCons (eVar 5) (aCons (eSl (pVar 1) (oSome (eAdd (eVar 2) (eC (.int 1)))) oNone) aNil))) (vs := [5]) (s := s0) (fun d => d) (holeB (nm.drop (k + 1))) u.2.2 (by omega) fun h hh => by
    refine ⟨s0.set 5 (some (.sh, h)), _, s0.set 5 (some (.sh, h)), rfl, rfl, ?_, rfl⟩
    have m2 : eSl (pVar 1) (oSome (eAdd (eVar 2) (eC (.int 1)))) oNone (s0.set 5 (some (.sh, h))) = some (.lst ((nm.drop (k + 1)).map D.str), s0.set 5 (some (.sh, h))) := by
      have cq := cut_names1 nm k
      have sm : small nm.length = true := small_of (by omega)
      simp [s0, stAt, cq, sm]
    exact call_two rfl m2 (hole_t (by simp; omega) (ht h hh))
  rw [List.map_id'] at cc
  have hlc : eLc (iSeq (eIx (pVar 3) (eC (.int 2)))) (hName 5) bYes (eCall F_is_hole (aCons (eVar 5) (aCons (eSl (pVar 1) (oSome (eAdd (eVar 2) (eC (.int 1)))) oNone) aNil))) [5] s0 = some (.lst ((u.2.2.map (holeB (nm.drop (k + 1)))).map D.bl), s0) := by
    simp only [eLc, hi0, Option.bind_some]
    rw [if_pos (by rfl), show wipeS s0 [5] = s0 from rfl, cc]
    rfl
  show eB1 gAll _ s0 = _
  simp only [eB1, pE, hlc, Option.bind_some, PR.get, gAll, bls_map]
  rfl
theorem levelsT {ds : List D} {nm later : List Str} {k : Nat} {u : RT} (few : u.2.2.length ≤ 3) (ha : (u.2.2.map (holeB later)).all id = true) :
    eCall F_are_rising (aCons (eLc (iSeq (eIx (pVar 3) (eC (.int 2)))) (hName 5) bYes (eIx (pVar 5) (eC (.int 0))) [5]) aNil) (stAt ds nm (some (.sh, .int k)) (some (.sh, pT u))) = some (.bl (upB (u.2.2.map lvD)), stAt ds nm (some (.sh, .int k)) (some (.sh, pT u))) := by
  let s0 : S := stAt ds nm (some (.sh, .int k)) (some (.sh, pT u))
  have hi0 : iSeq (eIx (pVar 3) (eC (.int 2))) s0 = some (u.2.2, s0) := by
    simp [s0, stAt, pT, pT_2]
  have cc : compD (hName 5) bYes (eIx (pVar 5) (eC (.int 0))) [5] (u.2.2.map fun d => d) s0 [] = some ((u.2.2.map lvD).map D.int, s0) := by
    rw [comp_map (fun d => d) (fun h => .int (lvD h)) u.2.2 [] (by simp; omega), List.nil_append, List.map_map]
    · rfl
    intro h hh
    rw [List.all_eq_true] at ha
    obtain ⟨l, r, x, rfl⟩ := hole_form (ha _ (List.mem_map.mpr ⟨h, hh, rfl⟩))
    exact ⟨s0.set 5 (some (.sh, .tup [.int l, .int r, .str x])), _, s0.set 5 (some (.sh, .tup [.int l, .int r, .str x])), rfl, rfl, rfl, rfl⟩
  rw [List.map_id'] at cc
  have hlc : eLc (iSeq (eIx (pVar 3) (eC (.int 2)))) (hName 5) bYes (eIx (pVar 5) (eC (.int 0))) [5] s0 = some (.lst ((u.2.2.map lvD).map D.int), s0) := by
    simp only [eLc, hi0, Option.bind_some]
    rw [if_pos (by rfl), show wipeS s0 [5] = s0 from rfl, cc]
    rfl
  exact call_one hlc (rising_t (by simp; omega))
theorem tubs_loopT {ds : List D} {nm : List Str} (hl : nm.length ≤ 3) : ∀ (us : List RT) (k : Nat) (v2 v3 : Option Sl), (∀ u ∈ us, u.2.2.length ≤ 3 ∧ ∃ n, ∀ d ∈ u.2.2, Th c n d) →
    ∃ s', loopD (hTup (hCons (hName 2) (hCons (hName 3) hNil))) L_are_tubs_1 (enumD k (us.map pT)) (stAt ds nm v2 v3) = if restB nm k us = true then some (.nx s') else some (.ret false (.bl false) s')
  | [], k, v2, v3, _ => ⟨_, rfl⟩
  | u :: us, k, v2, v3, hh => by
    obtain ⟨few, n, ht⟩ := hh u (.head _)
    have a1 := holes_allT (ds := ds) (nm := nm) (k := k) few hl ht
    have g1 : hTup (hCons (hName 2) (hCons (hName 3) hNil)) (.tup [.int k, pT u]) (stAt ds nm v2 v3) = some (stAt ds nm (some (.sh, .int k)) (some (.sh, pT u))) := rfl
    show ∃ s', loopD _ L_are_tubs_1 (.tup [.int k, pT u] :: enumD (k + 1) (us.map pT)) _ = _
    cases q : (u.2.2.map (holeB (nm.drop (k + 1)))).all id with
    | false =>
      rw [q] at a1
      refine ⟨stAt ds nm (some (.sh, .int k)) (some (.sh, pT u)), ?_⟩
      rw [show restB nm k (u :: us) = false by simp [restB, hsOkB, q], if_neg (by decide)]
      refine loop_ret g1 ?_
      unfold L_are_tubs_1
      refine (if_yes (s1 := stAt ds nm (some (.sh, .int k)) (some (.sh, pT u))) ?_).trans rfl
      simp only [bOr, bNot, bT, a1, Option.bind_some]
      rfl
    | true =>
      have a2 := levelsT (ds := ds) (nm := nm) (k := k) few q
      rw [q] at a1
      cases q2 : upB (u.2.2.map lvD) with
      | false =>
        rw [q2] at a2
        refine ⟨stAt ds nm (some (.sh, .int k)) (some (.sh, pT u)), ?_⟩
        rw [show restB nm k (u :: us) = false by simp [restB, hsOkB, q2], if_neg (by decide)]
        refine loop_ret g1 ?_
        unfold L_are_tubs_1
        refine (if_yes (s1 := stAt ds nm (some (.sh, .int k)) (some (.sh, pT u))) ?_).trans rfl
        simp only [bOr, bNot, bT, a1, a2, Option.bind_some]
        rfl
      | true =>
        rw [q2] at a2
        have b1 : L_are_tubs_1 (stAt ds nm (some (.sh, .int k)) (some (.sh, pT u))) = some (.nx (stAt ds nm (some (.sh, .int k)) (some (.sh, pT u)))) := by
          unfold L_are_tubs_1
          refine (if_no (s1 := stAt ds nm (some (.sh, .int k)) (some (.sh, pT u))) ?_).trans rfl
          simp only [bOr, bNot, bT, a1, a2, Option.bind_some]
          rfl
        rw [loop_cons g1 b1]
        obtain ⟨s', e⟩ := tubs_loopT hl us (k + 1) (some (.sh, .int k)) (some (.sh, pT u)) (fun w hw => hh w (.tail _ hw))
        refine ⟨s', ?_⟩
        rw [e]
        have : restB nm k (u :: us) = restB nm (k + 1) us := by simp [restB, hsOkB, q, q2]
        rw [this]
theorem are_tubs_t {d : D} (hc : c ≤ 6) (t : Th c n d) : F_are_tubs [d] = some (false, .bl (tubsB d)) := by
  cases t with
  | tup ds hd h =>
    rename_i m
    let s0 : S := [some (.sh, .tup ds), none, none, none, none, none]
    have i1 : eB1 (gIsL "tuple") (pVar 0) s0 = some (.bl true, s0) := by simp [s0]
    have ch : eChain (fun i j => decide (i ≤ j)) (fun i j => decide (i ≤ j)) (eC (.int 1)) (eB1 gLen (pVar 0)) (eC c_MOST_TUBS) s0 = some (.bl (decide (1 ≤ ds.length) && decide (ds.length ≤ 3)), s0) := by
      by_cases z : 1 ≤ ds.length
      · have z1 : (1 : Int) ≤ (ds.length : Int) := by omega
        by_cases y : ds.length ≤ 3
        · have y1 : (ds.length : Int) ≤ 3 := by omega
          simp [s0, z1, y1, z, y, c_MOST_TUBS]
        · have y1 : ¬ (ds.length : Int) ≤ 3 := by omega
          simp [s0, z1, y1, z, y, c_MOST_TUBS]
      · have z1 : ¬ (1 : Int) ≤ (ds.length : Int) := by omega
        simp [s0, z1, z, c_MOST_TUBS]
    have cc := allT (g := hName 3) (fe := eCall F_is_tub (aCons (eVar 3) aNil)) (vs := [3]) (s := s0) (fun d => d) tubB ds (by omega) fun x hx => ⟨s0.set 3 (some (.sh, x)), _, s0.set 3 (some (.sh, x)), rfl, rfl, call_one rfl (tub_t hc (h x hx)), rfl⟩
    rw [List.map_id'] at cc
    have al : eB1 gAll (pE (eLc (iSeq (eVar 0)) (hName 3) bYes (eCall F_is_tub (aCons (eVar 3) aNil)) [3])) s0 = some (.bl ((ds.map tubB).all id), s0) := by
      have hi : iSeq (eVar 0) s0 = some (ds, s0) := rfl
      have hlc : eLc (iSeq (eVar 0)) (hName 3) bYes (eCall F_is_tub (aCons (eVar 3) aNil)) [3] s0 = some (.lst ((ds.map tubB).map D.bl), s0) := by
        simp only [eLc, hi, Option.bind_some]
        rw [if_pos (by rfl), show wipeS s0 [3] = s0 from rfl, cc]
        rfl
      simp only [eB1, pE, hlc, Option.bind_some, PR.get, gAll, bls_map]
    unfold F_are_tubs f_are_tubs
    simp only [runF]
    show (sSeq _ _ s0).bind _ = _
    cases q1 : (decide (1 ≤ ds.length) && decide (ds.length ≤ 3)) with
    | false =>
      rw [q1] at ch
      have p1 : sIf (bOr (bNot (bT (eB1 (gIsL "tuple") (pVar 0)))) (bOr (bNot (bT (eChain (fun i j => decide (i ≤ j)) (fun i j => decide (i ≤ j)) (eC (.int 1)) (eB1 gLen (pVar 0)) (eC c_MOST_TUBS)))) (bNot (bT (eB1 gAll (pE (eLc (iSeq (eVar 0)) (hName 3) bYes (eCall F_is_tub (aCons (eVar 3) aNil)) [3]))))))) (sRet (eC (.bl false))) sNil s0 = some (.ret false (.bl false) s0) := by
        refine (if_yes (s1 := s0) ?_).trans rfl
        simp only [bOr, bNot, bT, i1, ch, Option.bind_some]
        rfl
      simp only [sSeq, p1, Option.bind_some, tubsB, tubsL, q1, Bool.false_and]
    | true =>
      rw [q1] at ch
      cases q2 : (ds.map tubB).all id with
      | false =>
        rw [q2] at al
        have p1 : sIf (bOr (bNot (bT (eB1 (gIsL "tuple") (pVar 0)))) (bOr (bNot (bT (eChain (fun i j => decide (i ≤ j)) (fun i j => decide (i ≤ j)) (eC (.int 1)) (eB1 gLen (pVar 0)) (eC c_MOST_TUBS)))) (bNot (bT (eB1 gAll (pE (eLc (iSeq (eVar 0)) (hName 3) bYes (eCall F_is_tub (aCons (eVar 3) aNil)) [3]))))))) (sRet (eC (.bl false))) sNil s0 = some (.ret false (.bl false) s0) := by
          refine (if_yes (s1 := s0) ?_).trans rfl
          simp only [bOr, bNot, bT, i1, ch, al, Option.bind_some]
          rfl
        simp only [sSeq, p1, Option.bind_some, tubsB, tubsL, q1, q2, Bool.false_and, Bool.and_false]
      | true =>
        rw [q2] at al
        have p1 : sIf (bOr (bNot (bT (eB1 (gIsL "tuple") (pVar 0)))) (bOr (bNot (bT (eChain (fun i j => decide (i ≤ j)) (fun i j => decide (i ≤ j)) (eC (.int 1)) (eB1 gLen (pVar 0)) (eC c_MOST_TUBS)))) (bNot (bT (eB1 gAll (pE (eLc (iSeq (eVar 0)) (hName 3) bYes (eCall F_is_tub (aCons (eVar 3) aNil)) [3]))))))) (sRet (eC (.bl false))) sNil s0 = some (.nx s0) := by
          refine (if_no (s1 := s0) ?_).trans rfl
          simp only [bOr, bNot, bT, i1, ch, al, Option.bind_some]
          rfl
        obtain ⟨us, rfl, few⟩ := tubs_form q2
        have l3 : us.length ≤ 3 := by
          simp only [Bool.and_eq_true, decide_eq_true_eq, List.length_map] at q1; omega
        have hu : ∀ u ∈ us, u.2.2.length ≤ 3 ∧ ∃ n', ∀ d ∈ u.2.2, Th c n' d := fun u hu => by
          refine ⟨few u hu, ?_⟩
          have t1 := h (pT u) (List.mem_map.mpr ⟨u, hu, rfl⟩)
          unfold pT at t1
          cases t1 with
          | tup ds' _ h' =>
            have t2 := h' (.tup u.2.2) (by simp)
            cases t2 with
            | tup ds'' _ h'' => exact ⟨_, h''⟩
        have hl1 : (us.map pT).length = us.length := by simp
        let nm : List Str := us.map (·.1)
        have nl : nm.length = us.length := by simp [nm]
        have c2 : compD (hName 3) bYes (eIx (pVar 3) (eC (.int 0))) [3] (us.map pT) s0 [] = some (nm.map D.str, s0) := by
          rw [comp_map pT (fun u => .str u.1) us [] (by simp; omega), List.nil_append]
          · show _ = some ((us.map (·.1)).map D.str, s0)
            rw [List.map_map]; rfl
          intro u _
          exact ⟨_, _, s0.set 3 (some (.sh, pT u)), rfl, rfl, rfl, rfl⟩
        let sN : S := [some (.sh, .tup (us.map pT)), some (.ow, .lst (nm.map D.str)), none, none, none, none]
        have p2 : sSetO 1 (eLc (iSeq (eVar 0)) (hName 3) bYes (eIx (pVar 3) (eC (.int 0))) [3]) s0 = some (.nx sN) := by
          have hi : iSeq (eVar 0) s0 = some (us.map pT, s0) := rfl
          simp only [sSetO, eLc, hi, Option.bind_some]
          rw [if_pos (by rfl), show wipeS s0 [3] = s0 from rfl, c2]
          rfl
        obtain ⟨ks, acc, ed, l1, l2⟩ := dlen (g := hName 4) (fk := eVar 4) (fv := eC (.bl true)) (vs := [4]) (s := stAt (us.map pT) nm none none) (fun x => ⟨_, _, _, _, rfl, rfl, rfl, rfl, rfl⟩) nm [] [] (by simp; omega) (by simp) rfl
        rw [List.length_nil, Nat.zero_add] at l1 l2
        rw [List.nil_append] at l2
        have hdc : eDc (iSeq (eVar 1)) (hName 4) bYes (eVar 4) (eC (.bl true)) [4] sN = some (.dK (ksS ks) acc, stAt (us.map pT) nm none none) := by
          have hi : iSeq (eVar 1) sN = some (nm.map D.str, stAt (us.map pT) nm none none) := rfl
          have k0 : (ksS [] : List Key) = [] := rfl
          rw [k0] at ed
          simp only [eDc, hi, Option.bind_some]
          rw [if_pos (by rfl), show wipeS (stAt (us.map pT) nm none none) [4] = stAt (us.map pT) nm none none from rfl, ed]
          rfl
        have m1 : eB1 gLen (pE (eDc (iSeq (eVar 1)) (hName 4) bYes (eVar 4) (eC (.bl true)) [4])) sN = some (.int ks.length, stAt (us.map pT) nm none none) := by
          simp only [eB1, pE, hdc, Option.bind_some, PR.get, gLen]
          simp [ksS]
        have m2 : eB1 gLen (pVar 1) (stAt (us.map pT) nm none none) = some (.int nm.length, stAt (us.map pT) nm none none) := by
          simp [stAt]
        have lt : bT (eLt (eB1 gLen (pE (eDc (iSeq (eVar 1)) (hName 4) bYes (eVar 4) (eC (.bl true)) [4]))) (eB1 gLen (pVar 1))) sN = some (!decide nm.Nodup, stAt (us.map pT) nm none none) := by
          unfold bT eLt eOp
          simp only [m1, m2, Option.bind_some]
          by_cases nd : nm.Nodup
          · have : ks.length = nm.length := l2.mpr nd
            simp [this, nd]
          · have : ¬ ks.length = nm.length := fun q => nd (l2.mp q)
            have : ks.length < nm.length := by omega
            simp [this, nd]
        rw [seq_nx p1, seq_nx p2]
        have eB : tubsB (.tup (us.map pT)) = (decide nm.Nodup && restB nm 0 us) := by
          show tubsL _ = _
          unfold tubsL
          rw [q1, q2, nm_map, rt_map]
          rfl
        rw [eB]
        by_cases nd : nm.Nodup
        · rw [decide_eq_true nd] at lt ⊢
          have p3 : sIf (bT (eLt (eB1 gLen (pE (eDc (iSeq (eVar 1)) (hName 4) bYes (eVar 4) (eC (.bl true)) [4]))) (eB1 gLen (pVar 1)))) (sRet (eC (.bl false))) sNil sN = some (.nx (stAt (us.map pT) nm none none)) := (if_no lt).trans rfl
          rw [seq_nx p3]
          obtain ⟨s', e⟩ := tubs_loopT (c := c) (ds := us.map pT) (nm := nm) (by omega) us 0 none none hu
          have hi : iEnum (eVar 0) (stAt (us.map pT) nm none none) = some (enumD 0 (us.map pT), stAt (us.map pT) nm none none) := rfl
          have lp := (for_of (g := hTup (hCons (hName 2) (hCons (hName 3) hNil))) (fb := L_are_tubs_1) hi).trans e
          cases q3 : restB nm 0 us with
          | true =>
            rw [q3, if_pos rfl] at lp
            rw [seq_nx lp]
            rfl
          | false =>
            rw [q3, if_neg (by decide)] at lp
            simp only [sSeq, lp, Option.bind_some]
            rfl
        · rw [decide_eq_false nd] at lt ⊢
          have p3 : sIf (bT (eLt (eB1 gLen (pE (eDc (iSeq (eVar 1)) (hName 4) bYes (eVar 4) (eC (.bl true)) [4]))) (eB1 gLen (pVar 1)))) (sRet (eC (.bl false))) sNil sN = some (.ret false (.bl false) (stAt (us.map pT) nm none none)) := (if_yes lt).trans rfl
          simp only [sSeq, p3, Option.bind_some]
          rfl
  | _ => simp [F_are_tubs, f_are_tubs, tubsB]
end
end Px.S

set_option Elab.async false
set_option linter.all false
set_option maxRecDepth 100000
set_option maxHeartbeats 4000000
/-! MT4: the law's own reading of tubs -/
namespace Px.S
open PySem L2 Px
theorem Th.pl {c n : Nat} {d : D} (t : Th c n d) : Pl n d := by
  induction t with
  | non => exact .non
  | bl b => exact .bl b
  | int i h => exact .int i
  | str x h => exact .str x
  | tup ds hl h ih => exact .tup ih
  | lst ds hl h ih => exact .lst ih
theorem eqD_ints : ∀ (a b : List Int), eqD (.lst (a.map D.int)) (.lst (b.map D.int)) = decide (a = b) := by
  have key : ∀ (a b : List Int), PyData.eqvAll (pys (a.map D.int)) (pys (b.map D.int)) = decide (a = b) := by
    intro a
    induction a with
    | nil => intro b; cases b <;> simp [pys, PyData.eqvAll]
    | cons x a ih =>
      intro b
      cases b with
      | nil => simp [pys, PyData.eqvAll]
      | cons y b =>
        have e : PyData.eqvAll (pys ((x :: a).map D.int)) (pys ((y :: b).map D.int)) = (eqD (.int x) (.int y) && PyData.eqvAll (pys (a.map D.int)) (pys (b.map D.int))) := by
          simp [pys, PyData.eqvAll, eqD, D.py]
        rw [e, eqD_int, ih b]
        by_cases h1 : x = y
        · by_cases h2 : a = b
          · simp [h1, h2]
          · simp [h1, h2]
        · simp [h1]
  intro a b
  rw [← key a b]
  simp [eqD, D.py, PyData.eqv]
theorem eqD_nil (l : List D) : eqD (.lst l) (.lst []) = decide (l = []) := by
  cases l <;> simp [eqD, D.py, pys, PyData.eqv, PyData.eqvAll]
theorem sortU_iff (ns : List Int) : (ns = sortU ns) ↔ ns.Pairwise (· < ·) := by
  constructor
  · intro h; rw [h]; exact sortU_up ns
  · intro h; exact up_same h (sortU_up ns) fun k => (sortU_mem ns k).symm
def stLt (ds : List D) (nm : List Str) (v2 v3 v4 : Option Sl) : S := [some (.sh, .tup ds), some (.ow, .lst (nm.map D.str)), v2, v3, v4, none]
section
variable {c n : Nat}
theorem in_names (nm : List Str) (x : Str) : ((nm.map D.str).any fun z => eqD z (.str x)) = decide (x ∈ nm) := by
  rw [Bool.eq_iff_iff, List.any_eq_true, decide_eq_true_eq]
  constructor
  · rintro ⟨z, hz, e⟩
    obtain ⟨y, hy, rfl⟩ := List.mem_map.mp hz
    rw [eqD_str, decide_eq_true_eq] at e
    rw [← e]; exact hy
  · intro h
    exact ⟨.str x, List.mem_map.mpr ⟨x, h, rfl⟩, by rw [eqD_str]; simp⟩
/-- one tub of the first loop -/
theorem ltub_turn {ds : List D} {nm : List Str} {d : D} {v3 v4 : Option Sl} (hc : c ≤ 6) (hl : nm.length ≤ 10) (t : Th c n d) :
    ∃ s', L__law_are_tubs_2 (stLt ds nm (some (.sh, d)) v3 v4) = if (tubB d && !decide ((rtD d).1 ∈ nm)) = true then some (.nx (stLt ds (nm ++ [(rtD d).1]) (some (.sh, d)) v3 v4)) else some (.ret false (.bl false) s') := by
  refine ⟨stLt ds nm (some (.sh, d)) v3 v4, ?_⟩
  cases t with
  | tup es hd h =>
    let s0 : S := stLt ds nm (some (.sh, .tup es)) v3 v4
    by_cases h3 : es.length = 3
    · obtain ⟨a, b, e, rfl⟩ := three h3
      have ta := h a (by simp)
      have tb := h b (by simp)
      have te := h e (by simp)
      have f1 : eCall F__law_is_name (aCons (eIx (pVar 2) (eC (.int 0))) aNil) s0 = some (.bl (nameB a), s0) := by
        refine call_one (s1 := s0) (d1 := a) ?_ (lname_t hc ta)
        simp [s0, stLt, a3_0]
      have f2 : eCall F__law_within (aCons (eIx (pVar 2) (eC (.int 1))) (aCons (eC (.int 1)) (aCons (eC (.int 1000)) aNil))) s0 = some (.bl (withinB 1 1000 b), s0) := by
        refine call_three (s1 := s0) (s2 := s0) (d1 := b) (d2 := .int 1) (d3 := .int 1000) ?_ rfl rfl (lwithin_t tb 1 1000)
        simp [s0, stLt, a3_1]
      have i1 : eB1 (gIsL "tuple") (pVar 2) s0 = some (.bl true, s0) := by simp [s0, stLt]
      have i2 : eOpP gNe (pE (eB1 gLen (pVar 2))) (pE (eC (.int 3))) s0 = some (.bl false, s0) := by simp [s0, stLt, okI]
      unfold L__law_are_tubs_2
      show sSeq _ _ s0 = _
      cases q1 : nameB a with
      | false =>
        rw [q1] at f1
        have p1 : sIf (bOr (bNot (bT (eB1 (gIsL "tuple") (pVar 2)))) (bOr (bT (eOpP gNe (pE (eB1 gLen (pVar 2))) (pE (eC (.int 3))))) (bOr (bNot (bT (eCall F__law_is_name (aCons (eIx (pVar 2) (eC (.int 0))) aNil)))) (bNot (bT (eCall F__law_within (aCons (eIx (pVar 2) (eC (.int 1))) (aCons (eC (.int 1)) (aCons (eC (.int 1000)) aNil))))))))) (sRet (eC (.bl false))) sNil s0 = some (.ret false (.bl false) s0) := by
          refine (if_yes (s1 := s0) ?_).trans rfl
          simp only [bOr, bNot, bT, i1, i2, f1, Option.bind_some]
          rfl
        simp only [sSeq, p1, Option.bind_some, tubB, tubL, q1, Bool.false_and]
        rfl
      | true =>
        rw [q1] at f1
        cases q2 : withinB 1 1000 b with
        | false =>
          rw [q2] at f2
          have p1 : sIf (bOr (bNot (bT (eB1 (gIsL "tuple") (pVar 2)))) (bOr (bT (eOpP gNe (pE (eB1 gLen (pVar 2))) (pE (eC (.int 3))))) (bOr (bNot (bT (eCall F__law_is_name (aCons (eIx (pVar 2) (eC (.int 0))) aNil)))) (bNot (bT (eCall F__law_within (aCons (eIx (pVar 2) (eC (.int 1))) (aCons (eC (.int 1)) (aCons (eC (.int 1000)) aNil))))))))) (sRet (eC (.bl false))) sNil s0 = some (.ret false (.bl false) s0) := by
            refine (if_yes (s1 := s0) ?_).trans rfl
            simp only [bOr, bNot, bT, i1, i2, f1, f2, Option.bind_some]
            rfl
          simp only [sSeq, p1, Option.bind_some, tubB, tubL, q1, q2, Bool.false_and, Bool.and_false]
          rfl
        | true =>
          rw [q2] at f2
          have p1 : sIf (bOr (bNot (bT (eB1 (gIsL "tuple") (pVar 2)))) (bOr (bT (eOpP gNe (pE (eB1 gLen (pVar 2))) (pE (eC (.int 3))))) (bOr (bNot (bT (eCall F__law_is_name (aCons (eIx (pVar 2) (eC (.int 0))) aNil)))) (bNot (bT (eCall F__law_within (aCons (eIx (pVar 2) (eC (.int 1))) (aCons (eC (.int 1)) (aCons (eC (.int 1000)) aNil))))))))) (sRet (eC (.bl false))) sNil s0 = some (.nx s0) := by
            refine (if_no (s1 := s0) ?_).trans rfl
            simp only [bOr, bNot, bT, i1, i2, f1, f2, Option.bind_some]
            rfl
          rw [seq_nx p1]
          -- the name and the ground are such
          cases a with
          | str x =>
            cases b with
            | int g =>
              have os : okD (.str x) = true := (Pl.str (n := 0) x).ok
              have ol : okD (.lst (nm.map D.str)) = true := (Pl.lst (n := 0) (ds := nm.map D.str) (by
                intro z hz
                obtain ⟨y, _, rfl⟩ := List.mem_map.mp hz
                exact .str _)).ok
              have an := in_names nm x
              have sm : small nm.length = true := small_of (by omega)
              cases te with
              | tup hs h1 h2 =>
                by_cases hf : hs.length ≤ 3
                · have hf' : ¬ ((hs.length : Int) > 3) := by omega
                  by_cases hx : x ∈ nm
                  · simp [s0, stLt, a3_0, a3_2, hf', seq?, os, ol, an, hx, tubB, tubL, q1, q2, fewB, hf, rtD]
                  · simp [s0, stLt, a3_0, a3_2, hf', seq?, os, ol, an, hx, tubB, tubL, q1, q2, fewB, hf, rtD, sm]
                · have hf' : (hs.length : Int) > 3 := by omega
                  simp [s0, stLt, a3_0, a3_2, hf', tubB, tubL, q1, q2, fewB, hf]
              | _ => simp [s0, stLt, a3_2, tubB, tubL, fewB]
            | _ => simp [withinB] at q2
          | _ => simp [nameB] at q1
    · have hi : ¬ ((es.length : Int) = 3) := by omega
      have : tubB (.tup es) = false := tubL_ne h3
      rw [this]
      simp [L__law_are_tubs_2, stLt, okI, hi]
  | _ => simp [L__law_are_tubs_2, stLt, tubB]
end
end Px.S

set_option Elab.async false
set_option linter.all false
set_option maxRecDepth 100000
set_option maxHeartbeats 4000000
/-! MT5: the law's own reading of tubs, whole -/
namespace Px.S
open PySem L2 Px
def namesB : List Str → List D → Bool
  | _, [] => true
  | nm, d :: ds => (tubB d && !decide ((rtD d).1 ∈ nm)) && namesB (nm ++ [(rtD d).1]) ds
theorem namesB_eq : ∀ (ds : List D) (nm : List Str), nm.Nodup → namesB nm ds = ((ds.map tubB).all id && decide ((nm ++ ds.map fun d => (rtD d).1).Nodup))
  | [], nm, nd => by simp [namesB, nd]
  | d :: ds, nm, nd => by
    rw [namesB, List.map_cons, List.all_cons, List.map_cons]
    by_cases hx : (rtD d).1 ∈ nm
    · have : ¬ (nm ++ (rtD d).1 :: ds.map fun d => (rtD d).1).Nodup := fun q => absurd rfl ((List.nodup_append.mp q).2.2 _ hx _ (.head _))
      rw [decide_eq_true hx, decide_eq_false this]; simp
    · have nd2 : (nm ++ [(rtD d).1]).Nodup := by
        rw [List.nodup_append]
        refine ⟨nd, by simp, fun a ha b hb e => ?_⟩
        have : b = (rtD d).1 := by simpa using hb
        rw [e, this] at ha; exact hx ha
      rw [namesB_eq ds _ nd2, decide_eq_false hx, List.append_assoc, List.singleton_append]
      simp [Bool.and_assoc]
section
variable {c n : Nat}
theorem ltub_loop {ds : List D} {v3 v4 : Option Sl} (hc : c ≤ 6) : ∀ (es : List D) (nm : List Str) (v2 : Option Sl), nm.length + es.length ≤ 10 → (∀ d ∈ es, Th c n d) →
    ∃ s' v2', loopD (hName 2) L__law_are_tubs_2 es (stLt ds nm v2 v3 v4) = if namesB nm es = true then some (.nx (stLt ds (nm ++ es.map fun d => (rtD d).1) v2' v3 v4)) else some (.ret false (.bl false) s')
  | [], nm, v2, _, _ => ⟨[], v2, by simp [loopD, namesB]⟩
  | d :: es, nm, v2, hl, ht => by
    rw [List.length_cons] at hl
    have g1 : hName 2 d (stLt ds nm v2 v3 v4) = some (stLt ds nm (some (.sh, d)) v3 v4) := rfl
    obtain ⟨s', e⟩ := ltub_turn (ds := ds) (nm := nm) (v3 := v3) (v4 := v4) hc (by omega) (ht d (.head _))
    cases q : (tubB d && !decide ((rtD d).1 ∈ nm)) with
    | false =>
      rw [q, if_neg (by decide)] at e
      refine ⟨s', none, ?_⟩
      rw [namesB, q, Bool.false_and, if_neg (by decide)]
      exact loop_ret g1 e
    | true =>
      rw [q, if_pos rfl] at e
      rw [loop_cons g1 e, namesB, q, Bool.true_and]
      obtain ⟨s2, v2', e2⟩ := ltub_loop hc es (nm ++ [(rtD d).1]) (some (.sh, d)) (by simp; omega) fun x hx => ht x (.tail _ hx)
      refine ⟨s2, v2', ?_⟩
      rw [e2, List.append_assoc, List.singleton_append, List.map_cons]
/-! ### the second loop -/
theorem lholes {ds : List D} {nm : List Str} {k : Nat} {u : RT} {v4 : Option Sl} (few : u.2.2.length ≤ 3) (hl : nm.length ≤ 3) (ht : ∀ d ∈ u.2.2, Th c n d) (hn : n ≤ 60) :
    bT (eOpP gNe (pE (eLc (iSeq (eIx (pVar 2) (eC (.int 2)))) (hName 5) (bNot (bT (eCall F__law_is_hole (aCons (eVar 5) (aCons (eSl (pVar 1) (oSome (eAdd (eVar 3) (eC (.int 1)))) oNone) aNil))))) (eVar 5) [5])) (pE (eLst aNil))) (stLt ds nm (some (.sh, pT u)) (some (.sh, .int k)) v4) = some (!(u.2.2.map (holeB (nm.drop (k + 1)))).all id, stLt ds nm (some (.sh, pT u)) (some (.sh, .int k)) v4) := by
  let s0 : S := stLt ds nm (some (.sh, pT u)) (some (.sh, .int k)) v4
  have hi0 : iSeq (eIx (pVar 2) (eC (.int 2))) s0 = some (u.2.2, s0) := by
    simp [s0, stLt, pT, pT_2]
  let p : D → Bool := fun h => !holeB (nm.drop (k + 1)) h
  have cc : compD (hName 5) (bNot (bT (eCall F__law_is_hole (aCons (eVar 5) (aCons (eSl (pVar 1) (oSome (eAdd (eVar 3) (eC (.int 1)))) oNone) aNil))))) (eVar 5) [5] (u.2.2.map fun d => d) s0 [] = some ((u.2.2.filter p).map (fun d => d), s0) := by
    rw [comp_filter (fun d => d) (fun d => d) p u.2.2 [] (by simp; omega), List.nil_append]
    intro h hh
    have m2 : eSl (pVar 1) (oSome (eAdd (eVar 3) (eC (.int 1)))) oNone (s0.set 5 (some (.sh, h))) = some (.lst ((nm.drop (k + 1)).map D.str), s0.set 5 (some (.sh, h))) := by
      have cq := cut_names1 nm k
      have sm : small nm.length = true := small_of (by omega)
      simp [s0, stLt, cq, sm]
    have cl : eCall F__law_is_hole (aCons (eVar 5) (aCons (eSl (pVar 1) (oSome (eAdd (eVar 3) (eC (.int 1)))) oNone) aNil)) (s0.set 5 (some (.sh, h))) = some (.bl (holeB (nm.drop (k + 1)) h), s0.set 5 (some (.sh, h))) := call_two rfl m2 (lhole_t (by simp; omega) (ht h hh))
    refine ⟨s0.set 5 (some (.sh, h)), s0.set 5 (some (.sh, h)), rfl, ?_, fun _ => ⟨_, rfl, rfl⟩, fun _ => rfl⟩
    simp only [bNot, bT, cl, Option.bind_some]
    rfl
  rw [List.map_id', List.map_id'] at cc
  have hlc : eLc (iSeq (eIx (pVar 2) (eC (.int 2)))) (hName 5) (bNot (bT (eCall F__law_is_hole (aCons (eVar 5) (aCons (eSl (pVar 1) (oSome (eAdd (eVar 3) (eC (.int 1)))) oNone) aNil))))) (eVar 5) [5] s0 = some (.lst (u.2.2.filter p), s0) := by
    simp only [eLc, hi0, Option.bind_some]
    rw [if_pos (by rfl), show wipeS s0 [5] = s0 from rfl, cc]
    rfl
  have o1 : okD (.lst (u.2.2.filter p)) = true := (Pl.lst (n := n) (ds := u.2.2.filter p) (fun d hd => (ht d (List.mem_filter.mp hd).1).pl)).ok (by omega)
  have o2 : okD (.lst []) = true := (Pl.lst (n := 0) (ds := []) (by simp)).ok
  have hnil : eLst aNil s0 = some (.lst [], s0) := rfl
  show bT _ s0 = _
  simp only [bT, eOpP, pE, hlc, hnil, Option.bind_some, PR.get, gNe, o1, o2, Bool.and_self, if_true, eqD_nil]
  have : decide (u.2.2.filter p = []) = (u.2.2.map (holeB (nm.drop (k + 1)))).all id := by
    rw [Bool.eq_iff_iff, decide_eq_true_eq, List.filter_eq_nil_iff, List.all_eq_true]
    constructor
    · intro h b hb
      obtain ⟨z, hz, rfl⟩ := List.mem_map.mp hb
      have := h z hz
      simpa [p] using this
    · intro h z hz
      have := h _ (List.mem_map.mpr ⟨z, hz, rfl⟩)
      simpa [p] using this
  rw [this]
theorem llevels {ds : List D} {nm later : List Str} {k : Nat} {u : RT} {v4 : Option Sl} (few : u.2.2.length ≤ 3) (ha : (u.2.2.map (holeB later)).all id = true) :
    sSetO 4 (eLc (iSeq (eIx (pVar 2) (eC (.int 2)))) (hName 5) bYes (eIx (pVar 5) (eC (.int 0))) [5]) (stLt ds nm (some (.sh, pT u)) (some (.sh, .int k)) v4) = some (.nx (stLt ds nm (some (.sh, pT u)) (some (.sh, .int k)) (some (.ow, .lst ((u.2.2.map lvD).map D.int))))) := by
  let s0 : S := stLt ds nm (some (.sh, pT u)) (some (.sh, .int k)) v4
  have hi0 : iSeq (eIx (pVar 2) (eC (.int 2))) s0 = some (u.2.2, s0) := by
    simp [s0, stLt, pT, pT_2]
  have cc : compD (hName 5) bYes (eIx (pVar 5) (eC (.int 0))) [5] (u.2.2.map fun d => d) s0 [] = some ((u.2.2.map lvD).map D.int, s0) := by
    rw [comp_map (fun d => d) (fun h => .int (lvD h)) u.2.2 [] (by simp; omega), List.nil_append, List.map_map]
    · rfl
    intro h hh
    rw [List.all_eq_true] at ha
    obtain ⟨l, r, x, rfl⟩ := hole_form (ha _ (List.mem_map.mpr ⟨h, hh, rfl⟩))
    exact ⟨s0.set 5 (some (.sh, .tup [.int l, .int r, .str x])), _, s0.set 5 (some (.sh, .tup [.int l, .int r, .str x])), rfl, rfl, rfl, rfl⟩
  rw [List.map_id'] at cc
  have hlc : eLc (iSeq (eIx (pVar 2) (eC (.int 2)))) (hName 5) bYes (eIx (pVar 5) (eC (.int 0))) [5] s0 = some (.lst ((u.2.2.map lvD).map D.int), s0) := by
    simp only [eLc, hi0, Option.bind_some]
    rw [if_pos (by rfl), show wipeS s0 [5] = s0 from rfl, cc]
    rfl
  exact setO_of hlc
theorem sortU_dec (ns : List Int) : decide (ns = sortU ns) = upB ns := by
  unfold upB
  exact decide_eq_decide.mpr (sortU_iff ns)
theorem ok_ints (ns : List Int) : okD (.lst (ns.map D.int)) = true := (Pl.lst (n := 0) (ds := ns.map D.int) (Pl.ints ns)).ok
theorem lturn {ds : List D} {nm : List Str} {k : Nat} {u : RT} {v4 : Option Sl} (few : u.2.2.length ≤ 3) (hl : nm.length ≤ 3) (ht : ∀ d ∈ u.2.2, Th c n d) (hn : n ≤ 60) :
    ∃ v4' s', L__law_are_tubs_1 (stLt ds nm (some (.sh, pT u)) (some (.sh, .int k)) v4) = if hsOkB (nm.drop (k + 1)) u.2.2 = true then some (.nx (stLt ds nm (some (.sh, pT u)) (some (.sh, .int k)) v4')) else some (.ret false (.bl false) s') := by
  have a1 := lholes (ds := ds) (nm := nm) (k := k) (v4 := v4) few hl ht hn
  unfold L__law_are_tubs_1
  cases q : (u.2.2.map (holeB (nm.drop (k + 1)))).all id with
  | false =>
    rw [q] at a1
    refine ⟨none, stLt ds nm (some (.sh, pT u)) (some (.sh, .int k)) v4, ?_⟩
    rw [show hsOkB (nm.drop (k + 1)) u.2.2 = false by simp [hsOkB, q], if_neg (by decide)]
    simp only [sSeq, sIf, a1, Option.bind_some]
    rfl
  | true =>
    rw [q] at a1
    have p1 : sIf (bT (eOpP gNe (pE (eLc (iSeq (eIx (pVar 2) (eC (.int 2)))) (hName 5) (bNot (bT (eCall F__law_is_hole (aCons (eVar 5) (aCons (eSl (pVar 1) (oSome (eAdd (eVar 3) (eC (.int 1)))) oNone) aNil))))) (eVar 5) [5])) (pE (eLst aNil)))) (sRet (eC (.bl false))) sNil (stLt ds nm (some (.sh, pT u)) (some (.sh, .int k)) v4) = some (.nx (stLt ds nm (some (.sh, pT u)) (some (.sh, .int k)) v4)) := (if_no a1).trans rfl
    rw [seq_nx p1, seq_nx (llevels few q)]
    let ns := u.2.2.map lvD
    have l3 : ns.length ≤ 3 := by simp [ns]; exact few
    have e1 : hsOkB (nm.drop (k + 1)) u.2.2 = upB ns := by simp [hsOkB, q, ns]
    have b1 : bT (eOpP gNe (pVar 4) (pE (eB1 gSortU (pVar 4)))) (stLt ds nm (some (.sh, pT u)) (some (.sh, .int k)) (some (.ow, .lst (ns.map D.int)))) = some (!upB ns, stLt ds nm (some (.sh, pT u)) (some (.sh, .int k)) (some (.ow, .lst (ns.map D.int)))) := by
      have l6 : ns.length < 60 := by omega
      simp [stLt, ints_map, l6, ok_ints, eqD_ints, ← sortU_dec]
    rw [e1]
    refine ⟨some (.ow, .lst (ns.map D.int)), stLt ds nm (some (.sh, pT u)) (some (.sh, .int k)) (some (.ow, .lst (ns.map D.int))), ?_⟩
    show sIf _ _ _ (stLt ds nm (some (.sh, pT u)) (some (.sh, .int k)) (some (.ow, .lst (ns.map D.int)))) = _
    cases q2 : upB ns with
    | false => rw [q2] at b1; rw [if_yes b1, if_neg (by decide)]; rfl
    | true => rw [q2] at b1; rw [if_no b1, if_pos rfl]; rfl
theorem ltubs_loop {ds : List D} {nm : List Str} (hl : nm.length ≤ 3) : ∀ (us : List RT) (k : Nat) (v2 v3 v4 : Option Sl), (∀ u ∈ us, u.2.2.length ≤ 3 ∧ ∃ n, n ≤ 60 ∧ ∀ d ∈ u.2.2, Th c n d) →
    ∃ s', loopD (hTup (hCons (hName 3) (hCons (hName 2) hNil))) L__law_are_tubs_1 (enumD k (us.map pT)) (stLt ds nm v2 v3 v4) = if restB nm k us = true then some (.nx s') else some (.ret false (.bl false) s')
  | [], k, v2, v3, v4, _ => ⟨_, rfl⟩
  | u :: us, k, v2, v3, v4, hh => by
    obtain ⟨few, n, hn, ht⟩ := hh u (.head _)
    have g1 : hTup (hCons (hName 3) (hCons (hName 2) hNil)) (.tup [.int k, pT u]) (stLt ds nm v2 v3 v4) = some (stLt ds nm (some (.sh, pT u)) (some (.sh, .int k)) v4) := rfl
    show ∃ s', loopD _ L__law_are_tubs_1 (.tup [.int k, pT u] :: enumD (k + 1) (us.map pT)) _ = _
    obtain ⟨v4', s1, e⟩ := lturn (ds := ds) (nm := nm) (k := k) (v4 := v4) few hl ht hn
    cases q : hsOkB (nm.drop (k + 1)) u.2.2 with
    | false =>
      rw [q, if_neg (by decide)] at e
      refine ⟨s1, ?_⟩
      rw [restB, q, Bool.false_and, if_neg (by decide)]
      exact loop_ret g1 e
    | true =>
      rw [q, if_pos rfl] at e
      rw [loop_cons g1 e, restB, q, Bool.true_and]
      exact ltubs_loop hl us (k + 1) _ _ _ (fun w hw => hh w (.tail _ hw))
theorem lare_tubs_t {d : D} (hc : c ≤ 6) (hn : n ≤ 60) (t : Th c n d) : F__law_are_tubs [d] = some (false, .bl (tubsB d)) := by
  cases t with
  | tup ds hd h =>
    rename_i m
    let s0 : S := [some (.sh, .tup ds), none, none, none, none, none]
    have i1 : eB1 (gIsL "tuple") (pVar 0) s0 = some (.bl true, s0) := by simp [s0]
    have ch : eChain (fun i j => decide (i ≤ j)) (fun i j => decide (i ≤ j)) (eC (.int 1)) (eB1 gLen (pVar 0)) (eC (.int 3)) s0 = some (.bl (decide (1 ≤ ds.length) && decide (ds.length ≤ 3)), s0) := by
      by_cases z : 1 ≤ ds.length
      · have z1 : (1 : Int) ≤ (ds.length : Int) := by omega
        by_cases y : ds.length ≤ 3
        · have y1 : (ds.length : Int) ≤ 3 := by omega
          simp [s0, z1, y1, z, y]
        · have y1 : ¬ (ds.length : Int) ≤ 3 := by omega
          simp [s0, z1, y1, z, y]
      · have z1 : ¬ (1 : Int) ≤ (ds.length : Int) := by omega
        simp [s0, z1, z]
    unfold F__law_are_tubs f__law_are_tubs
    simp only [runF]
    show (sSeq _ _ s0).bind _ = _
    cases q1 : (decide (1 ≤ ds.length) && decide (ds.length ≤ 3)) with
    | false =>
      rw [q1] at ch
      have p1 : sIf (bOr (bNot (bT (eB1 (gIsL "tuple") (pVar 0)))) (bNot (bT (eChain (fun i j => decide (i ≤ j)) (fun i j => decide (i ≤ j)) (eC (.int 1)) (eB1 gLen (pVar 0)) (eC (.int 3)))))) (sRet (eC (.bl false))) sNil s0 = some (.ret false (.bl false) s0) := by
        refine (if_yes (s1 := s0) ?_).trans rfl
        simp only [bOr, bNot, bT, i1, ch, Option.bind_some]
        rfl
      simp only [sSeq, p1, Option.bind_some, tubsB, tubsL, q1, Bool.false_and]
    | true =>
      rw [q1] at ch
      have p1 : sIf (bOr (bNot (bT (eB1 (gIsL "tuple") (pVar 0)))) (bNot (bT (eChain (fun i j => decide (i ≤ j)) (fun i j => decide (i ≤ j)) (eC (.int 1)) (eB1 gLen (pVar 0)) (eC (.int 3)))))) (sRet (eC (.bl false))) sNil s0 = some (.nx s0) := by
        refine (if_no (s1 := s0) ?_).trans rfl
        simp only [bOr, bNot, bT, i1, ch, Option.bind_some]
        rfl
      have l3 : ds.length ≤ 3 := by
        simp only [Bool.and_eq_true, decide_eq_true_eq] at q1; omega
      have p2 : sSetO 1 (eLst aNil) s0 = some (.nx (stLt ds [] none none none)) := rfl
      rw [seq_nx p1, seq_nx p2]
      obtain ⟨s1, v2', e1⟩ := ltub_loop (c := c) (n := m) (ds := ds) (v3 := none) (v4 := none) hc ds [] none (by simp; omega) h
      have hi1 : iSeq (eVar 0) (stLt ds [] none none none) = some (ds, stLt ds [] none none none) := rfl
      have lp1 := (for_of (g := hName 2) (fb := L__law_are_tubs_2) hi1).trans e1
      rw [namesB_eq ds [] (by simp), List.nil_append] at lp1
      cases q2 : ((ds.map tubB).all id && decide ((ds.map fun d => (rtD d).1).Nodup)) with
      | false =>
        rw [q2, if_neg (by decide)] at lp1
        have : tubsB (.tup ds) = false := by
          show tubsL _ = _
          unfold tubsL
          rw [q1, Bool.true_and, q2, Bool.false_and]
        simp only [sSeq, lp1, Option.bind_some, this]
      | true =>
        rw [q2, if_pos rfl] at lp1
        rw [seq_nx lp1]
        have eB : tubsB (.tup ds) = restB (ds.map fun d => (rtD d).1) 0 (ds.map rtD) := by
          show tubsL _ = _
          unfold tubsL
          rw [q1, Bool.true_and, q2, Bool.true_and]
        rw [eB]
        obtain ⟨us, rfl, few⟩ := tubs_form (Bool.and_eq_true_iff.mp q2).1
        rw [nm_map, rt_map]
        have hu : ∀ u ∈ us, u.2.2.length ≤ 3 ∧ ∃ n', n' ≤ 60 ∧ ∀ d ∈ u.2.2, Th c n' d := fun u hu => by
          refine ⟨few u hu, ?_⟩
          have t1 := h (pT u) (List.mem_map.mpr ⟨u, hu, rfl⟩)
          unfold pT at t1
          cases t1 with
          | tup ds' _ h' =>
            have t2 := h' (.tup u.2.2) (by simp)
            cases t2 with
            | tup ds'' _ h'' => exact ⟨_, by omega, h''⟩
        obtain ⟨s', e⟩ := ltubs_loop (c := c) (ds := us.map pT) (nm := us.map (·.1)) (by simpa using l3) us 0 v2' none none hu
        have hi : iEnum (eVar 0) (stLt (us.map pT) (us.map (·.1)) v2' none none) = some (enumD 0 (us.map pT), stLt (us.map pT) (us.map (·.1)) v2' none none) := rfl
        have lp := (for_of (g := hTup (hCons (hName 3) (hCons (hName 2) hNil))) (fb := L__law_are_tubs_1) hi).trans e
        cases q3 : restB (us.map (·.1)) 0 us with
        | true =>
          rw [q3, if_pos rfl] at lp
          rw [seq_nx lp]
          rfl
        | false =>
          rw [q3, if_neg (by decide)] at lp
          simp only [sSeq, lp, Option.bind_some]
  | _ => simp [F__law_are_tubs, f__law_are_tubs, tubsB]
end
end Px.S

set_option Elab.async false
set_option linter.all false
set_option maxRecDepth 100000
set_option maxHeartbeats 4000000
/-! MT6: rain and weather of any thing -/
namespace Px.S
open PySem L2 Px
def rainT (m : Nat) : D → Bool
  | .tup ds => decide (ds.length = m) && (ds.map (withinB 0 1000)).all id
  | _ => false
def rowT (m : Nat) : D → Bool
  | .tup [a, b] => withinB 0 1000 a && rainT m b
  | _ => false
def hourT : D → Int
  | .tup [.int h, _] => h
  | _ => 0
def weatherT (m : Nat) : D → Bool
  | .tup ds => decide (1 ≤ ds.length) && decide (ds.length ≤ 4) && (ds.map (rowT m)).all id && (decide ((ds.map hourT).head? = some 0) && upB (ds.map hourT))
  | _ => false
theorem two {ds : List D} (h : ds.length = 2) : ∃ a b, ds = [a, b] := by
  match ds, h with
  | [a, b], _ => exact ⟨a, b, rfl⟩
theorem rowT_ne {m : Nat} : ∀ {ds : List D}, ds.length ≠ 2 → rowT m (.tup ds) = false
  | [], _ => rfl
  | [_], _ => rfl
  | [_, _], h => absurd rfl h
  | _ :: _ :: _ :: _, _ => rfl
theorem a2_0 (a b : D) : atI [a, b] 0 = some a := rfl
theorem a2_1 (a b : D) : atI [a, b] 1 = some b := rfl
theorem at_head {α : Type} (d : α) (ds : List α) : atI (d :: ds) 0 = some d := by
  unfold atI ixN
  simp
theorem filt_all {α : Type} (f : α → Bool) (l : List α) : decide (l.filter (fun x => !f x) = []) = (l.map f).all id := by
  rw [Bool.eq_iff_iff, decide_eq_true_eq, List.filter_eq_nil_iff, List.all_eq_true]
  constructor
  · intro h b hb
    obtain ⟨z, hz, rfl⟩ := List.mem_map.mp hb
    have := h z hz
    simpa using this
  · intro h z hz
    have := h _ (List.mem_map.mpr ⟨z, hz, rfl⟩)
    simpa using this
theorem row_form {m : Nat} {d : D} (h : rowT m d = true) : ∃ (i : Int) (b : D), d = .tup [.int i, b] ∧ rainT m b = true := by
  unfold rowT at h
  split at h
  · next a b =>
    rw [Bool.and_eq_true] at h
    cases a with
    | int i => exact ⟨i, b, rfl, h.2⟩
    | _ => simp [withinB] at h
  · exact absurd h (by decide)
section
variable {c n : Nat} {d : D} {bs : List D}
theorem lenNe (es : List D) (r : S) : bT (eOpP gNe (pE (eB1 gLen (pVar 1))) (pE (eB1 gLen (pVar 0)))) (some (.sh, .tup bs) :: some (.sh, .tup es) :: r) = some (!decide (es.length = bs.length), some (.sh, .tup bs) :: some (.sh, .tup es) :: r) := by
  by_cases h : es.length = bs.length
  · simp [okI, h, eqD_int]
  · have : ¬ ((es.length : Int) = (bs.length : Int)) := by omega
    simp [okI, h, eqD_int, this]
theorem rain_t (hc : c ≤ 6) (t : Th c n d) : F_is_rain [.tup bs, d] = some (false, .bl (rainT bs.length d)) := by
  cases t with
  | tup es he h =>
    let s0 : S := [some (.sh, .tup bs), some (.sh, .tup es), none]
    have i1 : eB1 (gIsL "tuple") (pVar 1) s0 = some (.bl true, s0) := by simp [s0]
    have ne := lenNe (bs := bs) es [none]
    unfold F_is_rain f_is_rain
    simp only [runF]
    show (sSeq _ _ s0).bind _ = _
    by_cases q : es.length = bs.length
    · rw [decide_eq_true q] at ne
      have p1 : sIf (bOr (bNot (bT (eB1 (gIsL "tuple") (pVar 1)))) (bT (eOpP gNe (pE (eB1 gLen (pVar 1))) (pE (eB1 gLen (pVar 0)))))) (sRet (eC (.bl false))) sNil s0 = some (.nx s0) := by
        refine (if_no (s1 := s0) ?_).trans rfl
        simp only [bOr, bNot, bT, i1, Option.bind_some]
        exact ne
      have cc := allT (g := hName 2) (fe := eCall F_is_within (aCons (eVar 2) (aCons (eC (.int 0)) (aCons (eC c_MOST_PART) aNil)))) (vs := [2]) (s := s0) (fun d => d) (withinB 0 1000) es (by omega) fun x hx => ⟨s0.set 2 (some (.sh, x)), _, s0.set 2 (some (.sh, x)), rfl, rfl, call_three rfl rfl rfl (within_t (h x hx) 0 1000), rfl⟩
      rw [List.map_id'] at cc
      have al : eB1 gAll (pE (eLc (iSeq (eVar 1)) (hName 2) bYes (eCall F_is_within (aCons (eVar 2) (aCons (eC (.int 0)) (aCons (eC c_MOST_PART) aNil)))) [2])) s0 = some (.bl ((es.map (withinB 0 1000)).all id), s0) := by
        have hi : iSeq (eVar 1) s0 = some (es, s0) := rfl
        have hlc : eLc (iSeq (eVar 1)) (hName 2) bYes (eCall F_is_within (aCons (eVar 2) (aCons (eC (.int 0)) (aCons (eC c_MOST_PART) aNil)))) [2] s0 = some (.lst ((es.map (withinB 0 1000)).map D.bl), s0) := by
          simp only [eLc, hi, Option.bind_some]
          rw [if_pos (by rfl), show wipeS s0 [2] = s0 from rfl, cc]
          rfl
        simp only [eB1, pE, hlc, Option.bind_some, PR.get, gAll, bls_map]
      rw [seq_nx p1]
      simp only [sRet, al, Option.bind_some, rainT, decide_eq_true q, Bool.true_and]
    · rw [decide_eq_false q] at ne
      have p1 : sIf (bOr (bNot (bT (eB1 (gIsL "tuple") (pVar 1)))) (bT (eOpP gNe (pE (eB1 gLen (pVar 1))) (pE (eB1 gLen (pVar 0)))))) (sRet (eC (.bl false))) sNil s0 = some (.ret false (.bl false) s0) := by
        refine (if_yes (s1 := s0) ?_).trans rfl
        simp only [bOr, bNot, bT, i1, Option.bind_some]
        exact ne
      simp only [sSeq, p1, Option.bind_some, rainT, decide_eq_false q, Bool.false_and]
  | _ => simp [F_is_rain, f_is_rain, rainT]
theorem lrain_t (hc : c ≤ 6) (hn : n ≤ 60) (t : Th c n d) : F__law_is_rain [.tup bs, d] = some (false, .bl (rainT bs.length d)) := by
  cases t with
  | tup es he h =>
    rename_i m
    let s0 : S := [some (.sh, .tup bs), some (.sh, .tup es), none]
    have i1 : eB1 (gIsL "tuple") (pVar 1) s0 = some (.bl true, s0) := by simp [s0]
    have ne := lenNe (bs := bs) es [none]
    unfold F__law_is_rain f__law_is_rain
    simp only [runF]
    show (sSeq _ _ s0).bind _ = _
    by_cases q : es.length = bs.length
    · rw [decide_eq_true q] at ne
      have p1 : sIf (bOr (bNot (bT (eB1 (gIsL "tuple") (pVar 1)))) (bT (eOpP gNe (pE (eB1 gLen (pVar 1))) (pE (eB1 gLen (pVar 0)))))) (sRet (eC (.bl false))) sNil s0 = some (.nx s0) := by
        refine (if_no (s1 := s0) ?_).trans rfl
        simp only [bOr, bNot, bT, i1, Option.bind_some]
        exact ne
      have cc : compD (hName 2) (bNot (bT (eCall F__law_within (aCons (eVar 2) (aCons (eC (.int 0)) (aCons (eC (.int 1000)) aNil)))))) (eVar 2) [2] (es.map fun d => d) s0 [] = some ((es.filter fun x => !withinB 0 1000 x).map (fun d => d), s0) := by
        rw [comp_filter (fun d => d) (fun d => d) (fun x => !withinB 0 1000 x) es [] (by simp; omega), List.nil_append]
        intro x hx
        have cl : eCall F__law_within (aCons (eVar 2) (aCons (eC (.int 0)) (aCons (eC (.int 1000)) aNil))) (s0.set 2 (some (.sh, x))) = some (.bl (withinB 0 1000 x), s0.set 2 (some (.sh, x))) := call_three rfl rfl rfl (lwithin_t (h x hx) 0 1000)
        refine ⟨s0.set 2 (some (.sh, x)), s0.set 2 (some (.sh, x)), rfl, ?_, fun _ => ⟨_, rfl, rfl⟩, fun _ => rfl⟩
        simp only [bNot, bT, cl, Option.bind_some]
      rw [List.map_id', List.map_id'] at cc
      have hlc : eLc (iSeq (eVar 1)) (hName 2) (bNot (bT (eCall F__law_within (aCons (eVar 2) (aCons (eC (.int 0)) (aCons (eC (.int 1000)) aNil)))))) (eVar 2) [2] s0 = some (.lst (es.filter fun x => !withinB 0 1000 x), s0) := by
        have hi : iSeq (eVar 1) s0 = some (es, s0) := rfl
        simp only [eLc, hi, Option.bind_some]
        rw [if_pos (by rfl), show wipeS s0 [2] = s0 from rfl, cc]
        rfl
      have o1 : okD (.lst (es.filter fun x => !withinB 0 1000 x)) = true := (Pl.lst (n := m) (ds := es.filter fun x => !withinB 0 1000 x) (fun d hd => (h d (List.mem_filter.mp hd).1).pl)).ok (by omega)
      have o2 : okD (.lst []) = true := (Pl.lst (n := 0) (ds := []) (by simp)).ok
      have hnil : eLst aNil s0 = some (.lst [], s0) := rfl
      rw [seq_nx p1]
      simp only [sRet, eOpP, pE, hlc, hnil, Option.bind_some, PR.get, gEq, o1, o2, Bool.and_self, if_true, eqD_nil, filt_all, rainT, decide_eq_true q, Bool.true_and]
    · rw [decide_eq_false q] at ne
      have p1 : sIf (bOr (bNot (bT (eB1 (gIsL "tuple") (pVar 1)))) (bT (eOpP gNe (pE (eB1 gLen (pVar 1))) (pE (eB1 gLen (pVar 0)))))) (sRet (eC (.bl false))) sNil s0 = some (.ret false (.bl false) s0) := by
        refine (if_yes (s1 := s0) ?_).trans rfl
        simp only [bOr, bNot, bT, i1, Option.bind_some]
        exact ne
      simp only [sSeq, p1, Option.bind_some, rainT, decide_eq_false q, Bool.false_and]
  | _ => simp [F__law_is_rain, f__law_is_rain, rainT]
theorem row_t {es : List D} {r : S} (hc : c ≤ 6) (t : Th c n d) : L_is_weather_1 (some (.sh, .tup bs) :: some (.sh, .tup es) :: some (.sh, d) :: r) = if rowT bs.length d = true then some (.nx (some (.sh, .tup bs) :: some (.sh, .tup es) :: some (.sh, d) :: r)) else some (.ret false (.bl false) (some (.sh, .tup bs) :: some (.sh, .tup es) :: some (.sh, d) :: r)) := by
  cases t with
  | tup ws hw h =>
    let s0 : S := some (.sh, .tup bs) :: some (.sh, .tup es) :: some (.sh, .tup ws) :: r
    have i1 : eB1 (gIsL "tuple") (pVar 2) s0 = some (.bl true, s0) := by simp [s0]
    by_cases h2 : ws.length = 2
    · obtain ⟨a, b, rfl⟩ := two h2
      have ta := h a (by simp)
      have tb := h b (by simp)
      have i2 : eOpP gNe (pE (eB1 gLen (pVar 2))) (pE (eC (.int 2))) s0 = some (.bl false, s0) := by simp [s0, okI]
      have f1 : eCall F_is_within (aCons (eIx (pVar 2) (eC (.int 0))) (aCons (eC (.int 0)) (aCons (eC c_MOST_PART) aNil))) s0 = some (.bl (withinB 0 1000 a), s0) := by
        refine call_three (s1 := s0) (s2 := s0) (d1 := a) (d2 := .int 0) (d3 := .int 1000) ?_ rfl rfl (within_t ta 0 1000)
        simp [s0, a2_0]
      have f2 : eCall F_is_rain (aCons (eVar 0) (aCons (eIx (pVar 2) (eC (.int 1))) aNil)) s0 = some (.bl (rainT bs.length b), s0) := by
        refine call_two (s1 := s0) (s2 := s0) (d1 := .tup bs) (d2 := b) rfl ?_ (rain_t hc tb)
        simp [s0, a2_1]
      unfold L_is_weather_1
      show sSeq _ _ s0 = _
      cases q1 : withinB 0 1000 a with
      | false =>
        rw [q1] at f1
        have p1 : sIf (bOr (bNot (bT (eB1 (gIsL "tuple") (pVar 2)))) (bOr (bT (eOpP gNe (pE (eB1 gLen (pVar 2))) (pE (eC (.int 2))))) (bNot (bT (eCall F_is_within (aCons (eIx (pVar 2) (eC (.int 0))) (aCons (eC (.int 0)) (aCons (eC c_MOST_PART) aNil)))))))) (sRet (eC (.bl false))) sNil s0 = some (.ret false (.bl false) s0) := by
          refine (if_yes (s1 := s0) ?_).trans rfl
          simp only [bOr, bNot, bT, i1, i2, f1, Option.bind_some]
          rfl
        simp only [sSeq, p1, Option.bind_some, rowT, q1, Bool.false_and]
        rfl
      | true =>
        rw [q1] at f1
        have p1 : sIf (bOr (bNot (bT (eB1 (gIsL "tuple") (pVar 2)))) (bOr (bT (eOpP gNe (pE (eB1 gLen (pVar 2))) (pE (eC (.int 2))))) (bNot (bT (eCall F_is_within (aCons (eIx (pVar 2) (eC (.int 0))) (aCons (eC (.int 0)) (aCons (eC c_MOST_PART) aNil)))))))) (sRet (eC (.bl false))) sNil s0 = some (.nx s0) := by
          refine (if_no (s1 := s0) ?_).trans rfl
          simp only [bOr, bNot, bT, i1, i2, f1, Option.bind_some]
          rfl
        rw [seq_nx p1]
        cases q2 : rainT bs.length b with
        | false =>
          rw [q2] at f2
          simp only [sIf, bNot, bT, f2, Option.bind_some, rowT, q1, q2, Bool.and_false]
          rfl
        | true =>
          rw [q2] at f2
          simp only [sIf, bNot, bT, f2, Option.bind_some, rowT, q1, q2, Bool.and_self]
          rfl
    · have hi : ¬ ((ws.length : Int) = 2) := by omega
      have : rowT bs.length (.tup ws) = false := rowT_ne h2
      rw [this]
      simp [L_is_weather_1, okI, hi]
  | _ => simp [L_is_weather_1, rowT]
theorem row_loop {es : List D} {r : S} (hc : c ≤ 6) : ∀ (ws : List D) (v2 : Option Sl), (∀ w ∈ ws, Th c n w) →
    (v2 = none ∨ ∃ w, v2 = some (.sh, w)) → ∃ v2' s', (v2' = none ∨ ∃ w, v2' = some (.sh, w)) ∧ loopD (hName 2) L_is_weather_1 ws (some (.sh, .tup bs) :: some (.sh, .tup es) :: v2 :: r) = if (ws.map (rowT bs.length)).all id = true then some (.nx (some (.sh, .tup bs) :: some (.sh, .tup es) :: v2' :: r)) else some (.ret false (.bl false) s')
  | [], v2, _, hv => ⟨v2, [], hv, by simp [loopD]⟩
  | w :: ws, v2, hh, hv => by
    have g1 : hName 2 w (some (.sh, .tup bs) :: some (.sh, .tup es) :: v2 :: r) = some (some (.sh, .tup bs) :: some (.sh, .tup es) :: some (.sh, w) :: r) := rfl
    have e := row_t (bs := bs) (es := es) (r := r) hc (hh w (.head _))
    rw [List.map_cons, List.all_cons]
    cases q : rowT bs.length w with
    | false =>
      rw [q, if_neg (by decide)] at e
      refine ⟨none, some (.sh, .tup bs) :: some (.sh, .tup es) :: some (.sh, w) :: r, .inl rfl, ?_⟩
      rw [id, Bool.false_and, if_neg (by decide)]
      exact loop_ret g1 e
    | true =>
      rw [q, if_pos rfl] at e
      rw [loop_cons g1 e, id, Bool.true_and]
      exact row_loop hc ws _ (fun x hx => hh x (.tail _ hx)) (.inr ⟨w, rfl⟩)
theorem lrow_t {es : List D} {r : S} (hc : c ≤ 6) (hn : n ≤ 60) (t : Th c n d) : L__law_is_weather_1 (some (.sh, .tup bs) :: some (.sh, .tup es) :: some (.sh, d) :: r) = if rowT bs.length d = true then some (.nx (some (.sh, .tup bs) :: some (.sh, .tup es) :: some (.sh, d) :: r)) else some (.ret false (.bl false) (some (.sh, .tup bs) :: some (.sh, .tup es) :: some (.sh, d) :: r)) := by
  cases t with
  | tup ws hw h =>
    let s0 : S := some (.sh, .tup bs) :: some (.sh, .tup es) :: some (.sh, .tup ws) :: r
    have i1 : eB1 (gIsL "tuple") (pVar 2) s0 = some (.bl true, s0) := by simp [s0]
    by_cases h2 : ws.length = 2
    · obtain ⟨a, b, rfl⟩ := two h2
      have ta := h a (by simp)
      have tb := h b (by simp)
      have i2 : eOpP gNe (pE (eB1 gLen (pVar 2))) (pE (eC (.int 2))) s0 = some (.bl false, s0) := by simp [s0, okI]
      have f1 : eCall F__law_within (aCons (eIx (pVar 2) (eC (.int 0))) (aCons (eC (.int 0)) (aCons (eC (.int 1000)) aNil))) s0 = some (.bl (withinB 0 1000 a), s0) := by
        refine call_three (s1 := s0) (s2 := s0) (d1 := a) (d2 := .int 0) (d3 := .int 1000) ?_ rfl rfl (lwithin_t ta 0 1000)
        simp [s0, a2_0]
      have f2 : eCall F__law_is_rain (aCons (eVar 0) (aCons (eIx (pVar 2) (eC (.int 1))) aNil)) s0 = some (.bl (rainT bs.length b), s0) := by
        refine call_two (s1 := s0) (s2 := s0) (d1 := .tup bs) (d2 := b) rfl ?_ (lrain_t hc (by omega) tb)
        simp [s0, a2_1]
      unfold L__law_is_weather_1
      show sSeq _ _ s0 = _
      cases q1 : withinB 0 1000 a with
      | false =>
        rw [q1] at f1
        have p1 : sIf (bOr (bNot (bT (eB1 (gIsL "tuple") (pVar 2)))) (bOr (bT (eOpP gNe (pE (eB1 gLen (pVar 2))) (pE (eC (.int 2))))) (bNot (bT (eCall F__law_within (aCons (eIx (pVar 2) (eC (.int 0))) (aCons (eC (.int 0)) (aCons (eC (.int 1000)) aNil)))))))) (sRet (eC (.bl false))) sNil s0 = some (.ret false (.bl false) s0) := by
          refine (if_yes (s1 := s0) ?_).trans rfl
          simp only [bOr, bNot, bT, i1, i2, f1, Option.bind_some]
          rfl
        simp only [sSeq, p1, Option.bind_some, rowT, q1, Bool.false_and]
        rfl
      | true =>
        rw [q1] at f1
        have p1 : sIf (bOr (bNot (bT (eB1 (gIsL "tuple") (pVar 2)))) (bOr (bT (eOpP gNe (pE (eB1 gLen (pVar 2))) (pE (eC (.int 2))))) (bNot (bT (eCall F__law_within (aCons (eIx (pVar 2) (eC (.int 0))) (aCons (eC (.int 0)) (aCons (eC (.int 1000)) aNil)))))))) (sRet (eC (.bl false))) sNil s0 = some (.nx s0) := by
          refine (if_no (s1 := s0) ?_).trans rfl
          simp only [bOr, bNot, bT, i1, i2, f1, Option.bind_some]
          rfl
        rw [seq_nx p1]
        cases q2 : rainT bs.length b with
        | false =>
          rw [q2] at f2
          simp only [sIf, bNot, bT, f2, Option.bind_some, rowT, q1, q2, Bool.and_false]
          rfl
        | true =>
          rw [q2] at f2
          simp only [sIf, bNot, bT, f2, Option.bind_some, rowT, q1, q2, Bool.and_self]
          rfl
    · have hi : ¬ ((ws.length : Int) = 2) := by omega
      have : rowT bs.length (.tup ws) = false := rowT_ne h2
      rw [this]
      simp [L__law_is_weather_1, okI, hi]
  | _ => simp [L__law_is_weather_1, rowT]
theorem lrow_loop {es : List D} {r : S} (hc : c ≤ 6) (hn : n ≤ 60) : ∀ (ws : List D) (v2 : Option Sl), (∀ w ∈ ws, Th c n w) →
    (v2 = none ∨ ∃ w, v2 = some (.sh, w)) → ∃ v2' s', (v2' = none ∨ ∃ w, v2' = some (.sh, w)) ∧ loopD (hName 2) L__law_is_weather_1 ws (some (.sh, .tup bs) :: some (.sh, .tup es) :: v2 :: r) = if (ws.map (rowT bs.length)).all id = true then some (.nx (some (.sh, .tup bs) :: some (.sh, .tup es) :: v2' :: r)) else some (.ret false (.bl false) s')
  | [], v2, _, hv => ⟨v2, [], hv, by simp [loopD]⟩
  | w :: ws, v2, hh, hv => by
    have g1 : hName 2 w (some (.sh, .tup bs) :: some (.sh, .tup es) :: v2 :: r) = some (some (.sh, .tup bs) :: some (.sh, .tup es) :: some (.sh, w) :: r) := rfl
    have e := lrow_t (bs := bs) (es := es) (r := r) hc hn (hh w (.head _))
    rw [List.map_cons, List.all_cons]
    cases q : rowT bs.length w with
    | false =>
      rw [q, if_neg (by decide)] at e
      refine ⟨none, some (.sh, .tup bs) :: some (.sh, .tup es) :: some (.sh, w) :: r, .inl rfl, ?_⟩
      rw [id, Bool.false_and, if_neg (by decide)]
      exact loop_ret g1 e
    | true =>
      rw [q, if_pos rfl] at e
      rw [loop_cons g1 e, id, Bool.true_and]
      exact lrow_loop hc hn ws _ (fun x hx => hh x (.tail _ hx)) (.inr ⟨w, rfl⟩)
theorem lweather_t (hc : c ≤ 6) (hn : n ≤ 60) (t : Th c n d) : F__law_is_weather [.tup bs, d] = some (false, .bl (weatherT bs.length d)) := by
  cases t with
  | tup es he h =>
    rename_i m
    let s0 : S := some (.sh, .tup bs) :: some (.sh, .tup es) :: none :: [none]
    have i1 : eB1 (gIsL "tuple") (pVar 1) s0 = some (.bl true, s0) := by simp [s0]
    have ch : eChain (fun i j => decide (i ≤ j)) (fun i j => decide (i ≤ j)) (eC (.int 1)) (eB1 gLen (pVar 1)) (eC (.int 4)) s0 = some (.bl (decide (1 ≤ es.length) && decide (es.length ≤ 4)), s0) := by
      by_cases z : 1 ≤ es.length
      · have z1 : (1 : Int) ≤ (es.length : Int) := by omega
        by_cases y : es.length ≤ 4
        · have y1 : (es.length : Int) ≤ 4 := by omega
          simp [s0, z1, y1, z, y]
        · have y1 : ¬ (es.length : Int) ≤ 4 := by omega
          simp [s0, z1, y1, z, y]
      · have z1 : ¬ (1 : Int) ≤ (es.length : Int) := by omega
        simp [s0, z1, z]
    unfold F__law_is_weather f__law_is_weather
    simp only [runF]
    show (sSeq _ _ s0).bind _ = _
    cases q1 : (decide (1 ≤ es.length) && decide (es.length ≤ 4)) with
    | false =>
      rw [q1] at ch
      have p1 : sIf (bOr (bNot (bT (eB1 (gIsL "tuple") (pVar 1)))) (bNot (bT (eChain (fun i j => decide (i ≤ j)) (fun i j => decide (i ≤ j)) (eC (.int 1)) (eB1 gLen (pVar 1)) (eC (.int 4)))))) (sRet (eC (.bl false))) sNil s0 = some (.ret false (.bl false) s0) := by
        refine (if_yes (s1 := s0) ?_).trans rfl
        simp only [bOr, bNot, bT, i1, ch, Option.bind_some]
        rfl
      simp only [sSeq, p1, Option.bind_some, weatherT, q1, Bool.false_and]
    | true =>
      rw [q1] at ch
      have p1 : sIf (bOr (bNot (bT (eB1 (gIsL "tuple") (pVar 1)))) (bNot (bT (eChain (fun i j => decide (i ≤ j)) (fun i j => decide (i ≤ j)) (eC (.int 1)) (eB1 gLen (pVar 1)) (eC (.int 4)))))) (sRet (eC (.bl false))) sNil s0 = some (.nx s0) := by
        refine (if_no (s1 := s0) ?_).trans rfl
        simp only [bOr, bNot, bT, i1, ch, Option.bind_some]
        rfl
      have l4 : es.length ≤ 4 ∧ 1 ≤ es.length := by
        simp only [Bool.and_eq_true, decide_eq_true_eq] at q1; omega
      obtain ⟨v2', s', hv, e⟩ := lrow_loop (c := c) (n := m) (bs := bs) (es := es) (r := [none]) hc (by omega) es none h (.inl rfl)
      have hi : iSeq (eVar 1) s0 = some (es, s0) := rfl
      have lp := (for_of (g := hName 2) (fb := L__law_is_weather_1) hi).trans e
      rw [seq_nx p1]
      cases q2 : (es.map (rowT bs.length)).all id with
      | false =>
        rw [q2, if_neg (by decide)] at lp
        simp only [sSeq, lp, Option.bind_some, weatherT, q1, q2, Bool.false_and, Bool.and_false]
      | true =>
        rw [q2, if_pos rfl] at lp
        rw [seq_nx lp]
        let s1 : S := some (.sh, .tup bs) :: some (.sh, .tup es) :: v2' :: [none]
        let s2 : S := some (.sh, .tup bs) :: some (.sh, .tup es) :: none :: [none]
        let ns : List Int := es.map hourT
        have cc : compD (hName 2) bYes (eIx (pVar 2) (eC (.int 0))) [2] (es.map fun d => d) s2 [] = some (ns.map D.int, s2) := by
          rw [comp_map (fun d => d) (fun h => .int (hourT h)) es [] (by simp; omega), List.nil_append]
          · show _ = some ((es.map hourT).map D.int, s2)
            rw [List.map_map]; rfl
          intro x hx
          obtain ⟨i, b, rfl, _⟩ := row_form (List.all_eq_true.mp q2 _ (List.mem_map.mpr ⟨x, hx, rfl⟩))
          exact ⟨s2.set 2 (some (.sh, .tup [.int i, b])), _, s2.set 2 (some (.sh, .tup [.int i, b])), rfl, rfl, rfl, rfl⟩
        rw [List.map_id'] at cc
        have hlc : eLc (iSeq (eVar 1)) (hName 2) bYes (eIx (pVar 2) (eC (.int 0))) [2] s1 = some (.lst (ns.map D.int), s1) := by
          have hi1 : iSeq (eVar 1) s1 = some (es, s1) := rfl
          simp only [eLc, hi1, Option.bind_some]
          rw [if_pos (by rcases hv with rfl | ⟨w, rfl⟩ <;> rfl), show wipeS s1 [2] = s2 from rfl, cc]
          rcases hv with rfl | ⟨w, rfl⟩ <;> rfl
        have eW : weatherT bs.length (.tup es) = (decide (ns.head? = some 0) && upB ns) := by
          show (_ && _ && _ && (decide (ns.head? = some 0) && upB ns)) = _
          rw [q1, q2, Bool.and_self, Bool.true_and]
        have nl : ns.length = es.length := by simp [ns]
        rw [eW]
        have p2 : sSetO 3 (eLc (iSeq (eVar 1)) (hName 2) bYes (eIx (pVar 2) (eC (.int 0))) [2]) s1 = some (.nx (s1.set 3 (some (.ow, .lst (ns.map D.int))))) := setO_of hlc
        show (sSeq _ _ s1).bind _ = _
        rw [seq_nx p2]
        show (sRet _ [some (.sh, .tup bs), some (.sh, .tup es), v2', some (.ow, .lst (ns.map D.int))]).bind _ = _
        have l6 : ns.length < 60 := by omega
        have b1 : eOpP gEq (pVar 3) (pE (eB1 gSortU (pVar 3))) [some (.sh, .tup bs), some (.sh, .tup es), v2', some (.ow, .lst (ns.map D.int))] = some (.bl (upB ns), [some (.sh, .tup bs), some (.sh, .tup es), v2', some (.ow, .lst (ns.map D.int))]) := by
          simp [ints_map, l6, ok_ints, eqD_ints, ← sortU_dec]
        cases hns : ns with
        | nil => rw [hns] at nl; simp at nl; omega
        | cons i is =>
          rw [hns] at b1
          have a0 : atI ((i :: is).map D.int) 0 = some (.int i) := at_head _ _
          have b0 : eOpP gEq (pE (eIx (pVar 3) (eC (.int 0)))) (pE (eC (.int 0))) [some (.sh, .tup bs), some (.sh, .tup es), v2', some (.ow, .lst ((i :: is).map D.int))] = some (.bl (decide (i = 0)), [some (.sh, .tup bs), some (.sh, .tup es), v2', some (.ow, .lst ((i :: is).map D.int))]) := by
            simp [okI, eqD_int, -List.map_cons, a0]
          by_cases hz : i = 0
          · rw [decide_eq_true hz] at b0
            have : decide ((i :: is).head? = some 0) = true := by simp [hz]
            rw [this, Bool.true_and]
            simp only [sRet, eAndV, bT, b0, b1, Option.bind_some]
            rfl
          · rw [decide_eq_false hz] at b0
            have : decide ((i :: is).head? = some 0) = false := by simp [hz]
            rw [this, Bool.false_and]
            simp only [sRet, eAndV, bT, b0, Option.bind_some]
            rfl
  | _ => simp [F__law_is_weather, f__law_is_weather, weatherT]
theorem weather_t (hc : c ≤ 6) (t : Th c n d) : F_is_weather [.tup bs, d] = some (false, .bl (weatherT bs.length d)) := by
  cases t with
  | tup es he h =>
    rename_i m
    let s0 : S := some (.sh, .tup bs) :: some (.sh, .tup es) :: none :: []
    have i1 : eB1 (gIsL "tuple") (pVar 1) s0 = some (.bl true, s0) := by simp [s0]
    have ch : eChain (fun i j => decide (i ≤ j)) (fun i j => decide (i ≤ j)) (eC (.int 1)) (eB1 gLen (pVar 1)) (eC c_MOST_ROWS) s0 = some (.bl (decide (1 ≤ es.length) && decide (es.length ≤ 4)), s0) := by
      by_cases z : 1 ≤ es.length
      · have z1 : (1 : Int) ≤ (es.length : Int) := by omega
        by_cases y : es.length ≤ 4
        · have y1 : (es.length : Int) ≤ 4 := by omega
          simp [s0, z1, y1, z, y, c_MOST_ROWS]
        · have y1 : ¬ (es.length : Int) ≤ 4 := by omega
          simp [s0, z1, y1, z, y, c_MOST_ROWS]
      · have z1 : ¬ (1 : Int) ≤ (es.length : Int) := by omega
        simp [s0, z1, z, c_MOST_ROWS]
    unfold F_is_weather f_is_weather
    simp only [runF]
    show (sSeq _ _ s0).bind _ = _
    cases q1 : (decide (1 ≤ es.length) && decide (es.length ≤ 4)) with
    | false =>
      rw [q1] at ch
      have p1 : sIf (bOr (bNot (bT (eB1 (gIsL "tuple") (pVar 1)))) (bNot (bT (eChain (fun i j => decide (i ≤ j)) (fun i j => decide (i ≤ j)) (eC (.int 1)) (eB1 gLen (pVar 1)) (eC c_MOST_ROWS))))) (sRet (eC (.bl false))) sNil s0 = some (.ret false (.bl false) s0) := by
        refine (if_yes (s1 := s0) ?_).trans rfl
        simp only [bOr, bNot, bT, i1, ch, Option.bind_some]
        rfl
      simp only [sSeq, p1, Option.bind_some, weatherT, q1, Bool.false_and]
    | true =>
      rw [q1] at ch
      have p1 : sIf (bOr (bNot (bT (eB1 (gIsL "tuple") (pVar 1)))) (bNot (bT (eChain (fun i j => decide (i ≤ j)) (fun i j => decide (i ≤ j)) (eC (.int 1)) (eB1 gLen (pVar 1)) (eC c_MOST_ROWS))))) (sRet (eC (.bl false))) sNil s0 = some (.nx s0) := by
        refine (if_no (s1 := s0) ?_).trans rfl
        simp only [bOr, bNot, bT, i1, ch, Option.bind_some]
        rfl
      have l4 : es.length ≤ 4 ∧ 1 ≤ es.length := by
        simp only [Bool.and_eq_true, decide_eq_true_eq] at q1; omega
      obtain ⟨v2', s', hv, e⟩ := row_loop (c := c) (n := m) (bs := bs) (es := es) (r := []) hc es none h (.inl rfl)
      have hi : iSeq (eVar 1) s0 = some (es, s0) := rfl
      have lp := (for_of (g := hName 2) (fb := L_is_weather_1) hi).trans e
      rw [seq_nx p1]
      cases q2 : (es.map (rowT bs.length)).all id with
      | false =>
        rw [q2, if_neg (by decide)] at lp
        simp only [sSeq, lp, Option.bind_some, weatherT, q1, q2, Bool.false_and, Bool.and_false]
      | true =>
        rw [q2, if_pos rfl] at lp
        rw [seq_nx lp]
        let s1 : S := some (.sh, .tup bs) :: some (.sh, .tup es) :: v2' :: []
        let s2 : S := some (.sh, .tup bs) :: some (.sh, .tup es) :: none :: []
        let ns : List Int := es.map hourT
        have cc : compD (hName 2) bYes (eIx (pVar 2) (eC (.int 0))) [2] (es.map fun d => d) s2 [] = some (ns.map D.int, s2) := by
          rw [comp_map (fun d => d) (fun h => .int (hourT h)) es [] (by simp; omega), List.nil_append]
          · show _ = some ((es.map hourT).map D.int, s2)
            rw [List.map_map]; rfl
          intro x hx
          obtain ⟨i, b, rfl, _⟩ := row_form (List.all_eq_true.mp q2 _ (List.mem_map.mpr ⟨x, hx, rfl⟩))
          exact ⟨s2.set 2 (some (.sh, .tup [.int i, b])), _, s2.set 2 (some (.sh, .tup [.int i, b])), rfl, rfl, rfl, rfl⟩
        rw [List.map_id'] at cc
        have hlc : eLc (iSeq (eVar 1)) (hName 2) bYes (eIx (pVar 2) (eC (.int 0))) [2] s1 = some (.lst (ns.map D.int), s1) := by
          have hi1 : iSeq (eVar 1) s1 = some (es, s1) := rfl
          simp only [eLc, hi1, Option.bind_some]
          rw [if_pos (by rcases hv with rfl | ⟨w, rfl⟩ <;> rfl), show wipeS s1 [2] = s2 from rfl, cc]
          rcases hv with rfl | ⟨w, rfl⟩ <;> rfl
        have eW : weatherT bs.length (.tup es) = (decide (ns.head? = some 0) && upB ns) := by
          show (_ && _ && _ && (decide (ns.head? = some 0) && upB ns)) = _
          rw [q1, q2, Bool.and_self, Bool.true_and]
        have nl : ns.length = es.length := by simp [ns]
        rw [eW]
        have b1 : eCall F_are_rising (aCons (eLc (iSeq (eVar 1)) (hName 2) bYes (eIx (pVar 2) (eC (.int 0))) [2]) aNil) s1 = some (.bl (upB ns), s1) := call_one hlc (rising_t (by omega))
        show (sRet _ s1).bind _ = _
        have b0 : eOpP gEq (pE (eIx (pE (eIx (pVar 1) (eC (.int 0)))) (eC (.int 0)))) (pE (eC (.int 0))) s1 = some (.bl (decide (ns.head? = some 0)), s1) := by
          show eOpP gEq (pE (eIx (pE (eIx (pVar 1) (eC (.int 0)))) (eC (.int 0)))) (pE (eC (.int 0))) [some (.sh, .tup bs), some (.sh, .tup es), v2'] = some (.bl (decide ((es.map hourT).head? = some 0)), [some (.sh, .tup bs), some (.sh, .tup es), v2'])
          cases hes : es with
          | nil => rw [hes] at l4; simp at l4
          | cons x xs =>
            obtain ⟨i, b, rfl, _⟩ := row_form (List.all_eq_true.mp q2 _ (List.mem_map.mpr ⟨x, by rw [hes]; exact .head _, rfl⟩))
            have e1 := at_head (D.tup [.int i, b]) xs
            have e2 := at_head (D.int i) [b]
            simp [okI, eqD_int, e1, e2, hourT]
        cases q3 : decide (ns.head? = some 0) with
        | true =>
          rw [q3] at b0
          simp only [sRet, eAndV, bT, b0, b1, Option.bind_some]
          rfl
        | false =>
          rw [q3] at b0
          simp only [sRet, eAndV, bT, b0, Option.bind_some]
          rfl
  | _ => simp [F_is_weather, f_is_weather, weatherT]
end
end Px.S

set_option Elab.async false
set_option linter.all false
set_option maxRecDepth 100000
set_option maxHeartbeats 4000000
/-! MT7: fractions and beginnings of any thing -/
namespace Px.S
open PySem L2 Px
def fracT : D → Bool
  | .tup [.int a, .int b] => decide (0 ≤ a) && (decide (1 ≤ b) && eqD (qD (mkRat a b.toNat)) (.tup [.int a, .int b]))
  | _ => false
def beginT (m : Nat) : D → Bool
  | .tup ds => decide (ds.length = m) && (ds.map fracT).all id
  | _ => false
theorem fracT_ne : ∀ {ds : List D}, ds.length ≠ 2 → fracT (.tup ds) = false
  | [], _ => rfl
  | [_], _ => by simp [fracT]
  | [_, _], h => absurd rfl h
  | _ :: _ :: _ :: _, _ => by simp [fracT]
theorem fracT_1 {a b : D} (h : wholeB a = false) : fracT (.tup [a, b]) = false := by
  cases a <;> first | rfl | simp [wholeB] at h
theorem fracT_2 {a b : D} (h : wholeB b = false) : fracT (.tup [a, b]) = false := by
  cases b with
  | int i => simp [wholeB] at h
  | _ => cases a <;> rfl
theorem whole_int {a : D} (h : wholeB a = true) : ∃ i, a = .int i := by
  cases a with
  | int i => exact ⟨i, rfl⟩
  | _ => simp [wholeB] at h
section
variable {c n : Nat} {d : D} {bs : List D}
theorem low_th {a b : Int} (hc : c ≤ 6) (hb : 1 ≤ b) (tb : Th c n (.int b)) : F_lowest [.int a, .int b] = some (false, qD (mkRat a b.toNat)) := by
  cases tb with
  | int i h =>
    have e : ((b.toNat : Nat) : Int) = b := by omega
    have h1 : b.toNat < 2 ^ 116 := by
      have h2 : 2 ^ (110 + c) ≤ 2 ^ 116 := Nat.pow_le_pow_right (by omega) (by omega)
      have h3 := Nat.lt_of_lt_of_le h h2
      generalize 2 ^ 116 = k at h3 ⊢
      omega
    have h4 : b.toNat.log2 < 9000 := Nat.lt_of_lt_of_le ((Nat.log2_lt (by omega)).mpr h1) (by decide)
    have := lowest_ok (t := a) (b := b.toNat) (by omega) h4
    rw [e] at this
    exact this
theorem okQ (q : Rat) : okD (qD q) = true := (Pl.tup (n := 0) (ds := [.int q.num, .int q.den]) (by
  intro d hd; rcases mem_two hd with rfl | rfl <;> exact .int _)).ok
theorem okP (a b : Int) : okD (.tup [.int a, .int b]) = true := (Pl.tup (n := 0) (ds := [.int a, .int b]) (by
  intro d hd; rcases mem_two hd with rfl | rfl <;> exact .int _)).ok
theorem fraction_t (hc : c ≤ 6) (t : Th c n d) : F_is_fraction [d] = some (false, .bl (fracT d)) := by
  cases t with
  | tup ws hw h =>
    let s0 : S := [some (.sh, .tup ws)]
    have i1 : eB1 (gIsL "tuple") (pVar 0) s0 = some (.bl true, s0) := by simp [s0]
    by_cases h2 : ws.length = 2
    · obtain ⟨a, b, rfl⟩ := two h2
      have ta := h a (by simp)
      have tb := h b (by simp)
      have i2 : eOpP gNe (pE (eB1 gLen (pVar 0))) (pE (eC (.int 2))) s0 = some (.bl false, s0) := by simp [s0, okI]
      have f1 : eCall F_is_whole (aCons (eIx (pVar 0) (eC (.int 0))) aNil) s0 = some (.bl (wholeB a), s0) := by
        refine call_one (s1 := s0) (d1 := a) ?_ (whole_t ta)
        simp [s0, a2_0]
      have f2 : eCall F_is_whole (aCons (eIx (pVar 0) (eC (.int 1))) aNil) s0 = some (.bl (wholeB b), s0) := by
        refine call_one (s1 := s0) (d1 := b) ?_ (whole_t tb)
        simp [s0, a2_1]
      unfold F_is_fraction f_is_fraction
      simp only [runF]
      show (sSeq _ _ s0).bind _ = _
      cases q1 : wholeB a with
      | false =>
        rw [q1] at f1
        simp only [sSeq, sIf, bOr, bNot, bT, i1, i2, f1, Option.bind_some, fracT_1 q1]
        rfl
      | true =>
        rw [q1] at f1
        cases q2 : wholeB b with
        | false =>
          rw [q2] at f2
          simp only [sSeq, sIf, bOr, bNot, bT, i1, i2, f1, f2, Option.bind_some, fracT_2 q2]
          rfl
        | true =>
          rw [q2] at f2
          obtain ⟨x, rfl⟩ := whole_int q1
          obtain ⟨y, rfl⟩ := whole_int q2
          have p1 : sIf (bOr (bNot (bT (eB1 (gIsL "tuple") (pVar 0)))) (bOr (bT (eOpP gNe (pE (eB1 gLen (pVar 0))) (pE (eC (.int 2))))) (bOr (bNot (bT (eCall F_is_whole (aCons (eIx (pVar 0) (eC (.int 0))) aNil)))) (bNot (bT (eCall F_is_whole (aCons (eIx (pVar 0) (eC (.int 1))) aNil))))))) (sRet (eC (.bl false))) sNil s0 = some (.nx s0) := by
            refine (if_no (s1 := s0) ?_).trans rfl
            simp only [bOr, bNot, bT, i1, i2, f1, f2, Option.bind_some]
            rfl
          rw [seq_nx p1]
          have g1 : eGe (eIx (pVar 0) (eC (.int 0))) (eC (.int 0)) s0 = some (.bl (decide (0 ≤ x)), s0) := by simp [s0, a2_0]
          have g2 : eGe (eIx (pVar 0) (eC (.int 1))) (eC (.int 1)) s0 = some (.bl (decide (1 ≤ y)), s0) := by simp [s0, a2_1]
          by_cases hx : 0 ≤ x
          · by_cases hy : 1 ≤ y
            · have cl : eCall F_lowest (aCons (eIx (pVar 0) (eC (.int 0))) (aCons (eIx (pVar 0) (eC (.int 1))) aNil)) s0 = some (qD (mkRat x y.toNat), s0) := call_two (s1 := s0) (s2 := s0) (d1 := .int x) (d2 := .int y) (by simp [s0, a2_0]) (by simp [s0, a2_1]) (low_th hc hy tb)
              have g3 : eOpP gEq (pE (eCall F_lowest (aCons (eIx (pVar 0) (eC (.int 0))) (aCons (eIx (pVar 0) (eC (.int 1))) aNil)))) (pVar 0) s0 = some (.bl (eqD (qD (mkRat x y.toNat)) (.tup [.int x, .int y])), s0) := by
                have pv : pVar 0 s0 = some (.dat (.tup [.int x, .int y]), s0) := rfl
                simp only [eOpP, pE, cl, pv, Option.bind_some, PR.get, gEq, okQ, okP, Bool.and_self, if_true]
              rw [decide_eq_true hx] at g1
              rw [decide_eq_true hy] at g2
              simp only [sRet, eAndV, bT, g1, g2, g3, Option.bind_some, fracT, decide_eq_true hx, decide_eq_true hy, Bool.true_and]
              rfl
            · rw [decide_eq_true hx] at g1
              rw [decide_eq_false hy] at g2
              simp only [sRet, eAndV, bT, g1, g2, Option.bind_some, fracT, decide_eq_true hx, decide_eq_false hy, Bool.true_and, Bool.false_and]
              rfl
          · rw [decide_eq_false hx] at g1
            simp only [sRet, eAndV, bT, g1, Option.bind_some, fracT, decide_eq_false hx, Bool.false_and]
            rfl
    · have hi : ¬ ((ws.length : Int) = 2) := by omega
      rw [fracT_ne h2]
      simp [F_is_fraction, f_is_fraction, okI, hi]
  | _ => simp [F_is_fraction, f_is_fraction, fracT]
theorem beginning_t (hc : c ≤ 6) (t : Th c n d) : F_is_beginning [.tup bs, d] = some (false, .bl (beginT bs.length d)) := by
  cases t with
  | tup es he h =>
    let s0 : S := [some (.sh, .tup bs), some (.sh, .tup es), none]
    have i1 : eB1 (gIsL "tuple") (pVar 1) s0 = some (.bl true, s0) := by simp [s0]
    have i2 : eOpP gEq (pE (eB1 gLen (pVar 1))) (pE (eB1 gLen (pVar 0))) s0 = some (.bl (decide (es.length = bs.length)), s0) := by
      by_cases h : es.length = bs.length
      · simp [s0, okI, h, eqD_int]
      · have : ¬ ((es.length : Int) = (bs.length : Int)) := by omega
        simp [s0, okI, h, eqD_int, this]
    have cc := allT (g := hName 2) (fe := eCall F_is_fraction (aCons (eVar 2) aNil)) (vs := [2]) (s := s0) (fun d => d) fracT es (by omega) fun x hx => ⟨s0.set 2 (some (.sh, x)), _, s0.set 2 (some (.sh, x)), rfl, rfl, call_one rfl (fraction_t hc (h x hx)), rfl⟩
    rw [List.map_id'] at cc
    have al : eB1 gAll (pE (eLc (iSeq (eVar 1)) (hName 2) bYes (eCall F_is_fraction (aCons (eVar 2) aNil)) [2])) s0 = some (.bl ((es.map fracT).all id), s0) := by
      have hi : iSeq (eVar 1) s0 = some (es, s0) := rfl
      have hlc : eLc (iSeq (eVar 1)) (hName 2) bYes (eCall F_is_fraction (aCons (eVar 2) aNil)) [2] s0 = some (.lst ((es.map fracT).map D.bl), s0) := by
        simp only [eLc, hi, Option.bind_some]
        rw [if_pos (by rfl), show wipeS s0 [2] = s0 from rfl, cc]
        rfl
      simp only [eB1, pE, hlc, Option.bind_some, PR.get, gAll, bls_map]
    unfold F_is_beginning f_is_beginning
    simp only [runF]
    show (sRet _ s0).bind _ = _
    by_cases q : es.length = bs.length
    · rw [decide_eq_true q] at i2
      simp only [sRet, eAndV, bT, i1, i2, al, Option.bind_some, beginT, decide_eq_true q, Bool.true_and]
      rfl
    · rw [decide_eq_false q] at i2
      simp only [sRet, eAndV, bT, i1, i2, Option.bind_some, beginT, decide_eq_false q, Bool.false_and]
      rfl
  | _ => simp [F_is_beginning, f_is_beginning, beginT]
theorem lfrac_turn {es : List D} (hc : c ≤ 6) (t : Th c n d) : L__law_is_beginning_1 [some (.sh, .tup bs), some (.sh, .tup es), some (.sh, d)] = if fracT d = true then some (.nx [some (.sh, .tup bs), some (.sh, .tup es), some (.sh, d)]) else some (.ret false (.bl false) [some (.sh, .tup bs), some (.sh, .tup es), some (.sh, d)]) := by
  cases t with
  | tup ws hw h =>
    let s0 : S := [some (.sh, .tup bs), some (.sh, .tup es), some (.sh, .tup ws)]
    have i1 : eB1 (gIsL "tuple") (pVar 2) s0 = some (.bl true, s0) := by simp [s0]
    by_cases h2 : ws.length = 2
    · obtain ⟨a, b, rfl⟩ := two h2
      have ta := h a (by simp)
      have tb := h b (by simp)
      have i2 : eOpP gNe (pE (eB1 gLen (pVar 2))) (pE (eC (.int 2))) s0 = some (.bl false, s0) := by simp [s0, okI]
      have f1 : eCall F__law_whole (aCons (eIx (pVar 2) (eC (.int 0))) aNil) s0 = some (.bl (wholeB a), s0) := by
        refine call_one (s1 := s0) (d1 := a) ?_ (lwhole_t ta)
        simp [s0, a2_0]
      have f2 : eCall F__law_whole (aCons (eIx (pVar 2) (eC (.int 1))) aNil) s0 = some (.bl (wholeB b), s0) := by
        refine call_one (s1 := s0) (d1 := b) ?_ (lwhole_t tb)
        simp [s0, a2_1]
      unfold L__law_is_beginning_1
      show sSeq _ _ s0 = _
      cases q1 : wholeB a with
      | false =>
        rw [q1] at f1
        simp only [sSeq, sIf, bOr, bNot, bT, i1, i2, f1, Option.bind_some, fracT_1 q1]
        rfl
      | true =>
        rw [q1] at f1
        cases q2 : wholeB b with
        | false =>
          rw [q2] at f2
          simp only [sSeq, sIf, bOr, bNot, bT, i1, i2, f1, f2, Option.bind_some, fracT_2 q2]
          rfl
        | true =>
          rw [q2] at f2
          obtain ⟨x, rfl⟩ := whole_int q1
          obtain ⟨y, rfl⟩ := whole_int q2
          have p1 : sIf (bOr (bNot (bT (eB1 (gIsL "tuple") (pVar 2)))) (bOr (bT (eOpP gNe (pE (eB1 gLen (pVar 2))) (pE (eC (.int 2))))) (bOr (bNot (bT (eCall F__law_whole (aCons (eIx (pVar 2) (eC (.int 0))) aNil)))) (bNot (bT (eCall F__law_whole (aCons (eIx (pVar 2) (eC (.int 1))) aNil))))))) (sRet (eC (.bl false))) sNil s0 = some (.nx s0) := by
            refine (if_no (s1 := s0) ?_).trans rfl
            simp only [bOr, bNot, bT, i1, i2, f1, f2, Option.bind_some]
            rfl
          rw [seq_nx p1]
          have g1 : eLt (eIx (pVar 2) (eC (.int 0))) (eC (.int 0)) s0 = some (.bl (decide (x < 0)), s0) := by simp [s0, a2_0]
          have g2 : eLt (eIx (pVar 2) (eC (.int 1))) (eC (.int 1)) s0 = some (.bl (decide (y < 1)), s0) := by simp [s0, a2_1]
          by_cases hx : 0 ≤ x
          · rw [decide_eq_false (show ¬ x < 0 by omega)] at g1
            by_cases hy : 1 ≤ y
            · have cl : eCall F__law_lowest (aCons (eIx (pVar 2) (eC (.int 0))) (aCons (eIx (pVar 2) (eC (.int 1))) aNil)) s0 = some (qD (mkRat x y.toNat), s0) := call_two (s1 := s0) (s2 := s0) (d1 := .int x) (d2 := .int y) (by simp [s0, a2_0]) (by simp [s0, a2_1]) (low_th hc hy tb)
              have g3 : eOpP gNe (pE (eCall F__law_lowest (aCons (eIx (pVar 2) (eC (.int 0))) (aCons (eIx (pVar 2) (eC (.int 1))) aNil)))) (pVar 2) s0 = some (.bl (!eqD (qD (mkRat x y.toNat)) (.tup [.int x, .int y])), s0) := by
                have pv : pVar 2 s0 = some (.dat (.tup [.int x, .int y]), s0) := rfl
                simp only [eOpP, pE, cl, pv, Option.bind_some, PR.get, gNe, okQ, okP, Bool.and_self, if_true]
              rw [decide_eq_false (show ¬ y < 1 by omega)] at g2
              have eF : fracT (.tup [.int x, .int y]) = eqD (qD (mkRat x y.toNat)) (.tup [.int x, .int y]) := by simp [fracT, hx, hy]
              rw [eF]
              cases q3 : eqD (qD (mkRat x y.toNat)) (.tup [.int x, .int y]) with
              | true =>
                rw [q3] at g3
                simp only [sIf, bOr, bT, g1, g2, g3, Option.bind_some]
                rfl
              | false =>
                rw [q3] at g3
                simp only [sIf, bOr, bT, g1, g2, g3, Option.bind_some]
                rfl
            · rw [decide_eq_true (show y < 1 by omega)] at g2
              simp only [sIf, bOr, bT, g1, g2, Option.bind_some, fracT, decide_eq_true hx, decide_eq_false hy, Bool.true_and, Bool.false_and]
              rfl
          · rw [decide_eq_true (show x < 0 by omega)] at g1
            simp only [sIf, bOr, bT, g1, Option.bind_some, fracT, decide_eq_false hx, Bool.false_and]
            rfl
    · have hi : ¬ ((ws.length : Int) = 2) := by omega
      rw [fracT_ne h2]
      simp [L__law_is_beginning_1, okI, hi]
  | _ => simp [L__law_is_beginning_1, fracT]
theorem lfrac_loop {es : List D} (hc : c ≤ 6) : ∀ (ws : List D) (v2 : Option Sl), (∀ w ∈ ws, Th c n w) →
    ∃ s', loopD (hName 2) L__law_is_beginning_1 ws [some (.sh, .tup bs), some (.sh, .tup es), v2] = if (ws.map fracT).all id = true then some (.nx s') else some (.ret false (.bl false) s')
  | [], v2, _ => ⟨_, rfl⟩
  | w :: ws, v2, hh => by
    have g1 : hName 2 w [some (.sh, .tup bs), some (.sh, .tup es), v2] = some [some (.sh, .tup bs), some (.sh, .tup es), some (.sh, w)] := rfl
    have e := lfrac_turn (bs := bs) (es := es) hc (hh w (.head _))
    rw [List.map_cons, List.all_cons]
    cases q : fracT w with
    | false =>
      rw [q, if_neg (by decide)] at e
      refine ⟨[some (.sh, .tup bs), some (.sh, .tup es), some (.sh, w)], ?_⟩
      rw [id, Bool.false_and, if_neg (by decide)]
      exact loop_ret g1 e
    | true =>
      rw [q, if_pos rfl] at e
      rw [loop_cons g1 e, id, Bool.true_and]
      exact lfrac_loop hc ws _ (fun x hx => hh x (.tail _ hx))
theorem lbeginning_t (hc : c ≤ 6) (t : Th c n d) : F__law_is_beginning [.tup bs, d] = some (false, .bl (beginT bs.length d)) := by
  cases t with
  | tup es he h =>
    rename_i m
    let s0 : S := [some (.sh, .tup bs), some (.sh, .tup es), none]
    have i1 : eB1 (gIsL "tuple") (pVar 1) s0 = some (.bl true, s0) := by simp [s0]
    have ne := lenNe (bs := bs) es [none]
    unfold F__law_is_beginning f__law_is_beginning
    simp only [runF]
    show (sSeq _ _ s0).bind _ = _
    by_cases q : es.length = bs.length
    · rw [decide_eq_true q] at ne
      have p1 : sIf (bOr (bNot (bT (eB1 (gIsL "tuple") (pVar 1)))) (bT (eOpP gNe (pE (eB1 gLen (pVar 1))) (pE (eB1 gLen (pVar 0)))))) (sRet (eC (.bl false))) sNil s0 = some (.nx s0) := by
        refine (if_no (s1 := s0) ?_).trans rfl
        simp only [bOr, bNot, bT, i1, Option.bind_some]
        exact ne
      rw [seq_nx p1]
      obtain ⟨s', e⟩ := lfrac_loop (c := c) (n := m) (bs := bs) (es := es) hc es none h
      have hi : iSeq (eVar 1) s0 = some (es, s0) := rfl
      have lp := (for_of (g := hName 2) (fb := L__law_is_beginning_1) hi).trans e
      have eB : beginT bs.length (.tup es) = (es.map fracT).all id := by simp [beginT, q]
      rw [eB]
      cases q2 : (es.map fracT).all id with
      | true =>
        rw [q2, if_pos rfl] at lp
        rw [seq_nx lp]; rfl
      | false =>
        rw [q2, if_neg (by decide)] at lp
        simp only [sSeq, lp, Option.bind_some]
    · rw [decide_eq_false q] at ne
      have p1 : sIf (bOr (bNot (bT (eB1 (gIsL "tuple") (pVar 1)))) (bT (eOpP gNe (pE (eB1 gLen (pVar 1))) (pE (eB1 gLen (pVar 0)))))) (sRet (eC (.bl false))) sNil s0 = some (.ret false (.bl false) s0) := by
        refine (if_yes (s1 := s0) ?_).trans rfl
        simp only [bOr, bNot, bT, i1, Option.bind_some]
        exact ne
      simp only [sSeq, p1, Option.bind_some, beginT, decide_eq_false q, Bool.false_and]
  | _ => simp [F__law_is_beginning, f__law_is_beginning, beginT]
end
end Px.S

set_option Elab.async false
set_option linter.all false
set_option maxRecDepth 100000
set_option maxHeartbeats 4000000
/-! MT8: odd things; a thing with a part otherwise -/
namespace Px.S
open PySem L2 Px
theorem Th.mono {c c' : Nat} (hc : c ≤ c') {n : Nat} {d : D} (t : Th c n d) : ∀ {n' : Nat}, n ≤ n' → Th c' n' d := by
  induction t with
  | non => intro n' _; exact .non
  | bl b => intro n' _; exact .bl b
  | int i h => intro n' _; exact .int i (Nat.lt_of_lt_of_le h (Nat.pow_le_pow_right (by omega) (by omega)))
  | str x h => intro n' _; exact .str x (Nat.le_trans h (Nat.pow_le_pow_right (by omega) (by omega)))
  | tup ds hl h ih =>
    intro n' hn
    cases n' with
    | zero => omega
    | succ m => exact .tup ds (by omega) fun d hd => ih d hd (by omega)
  | lst ds hl h ih =>
    intro n' hn
    cases n' with
    | zero => omega
    | succ m => exact .lst ds (by omega) fun d hd => ih d hd (by omega)
theorem Th.sm {n : Nat} (i : Int) (h : i.natAbs < 2 ^ 110) : Th 0 n (.int i) := .int i h
theorem Th.s0 {n : Nat} (x : Str) (h : x.length ≤ 256) : Th 0 n (.str x) := .str x h
def odds1 : List D := [.non, .bl true, .bl false, .int 0, .int 1, .int (-1), .int 5, .int (10 ^ 30), .str "", .str "ann", .tup [], .lst [], .tup [.int 1, .int 2], .tup [.int (-1), .int 2], .tup [.int 2, .int 4], .tup [.int 0, .int 2], .tup [.int 0, .int 1]]
def odds2 : List D := [.tup [.non], .tup [.str "ann", .int 1, .tup []], .tup [.tup [.str "ann", .int 1, .tup []]], .tup [.tup [.int 0, .tup [.int 0]]], .tup [.str "ann", .int 0], .tup [.str "ann", .bl true], .tup [.int 1, .int 1, .str ""]]
theorem odd_th {d : D} (h : d ∈ odds1 ++ odds2) : Th 0 3 d := by
  have u1 : ∀ n, Th 0 n (.str "ann") := fun n => .s0 _ (by decide)
  have u2 : ∀ n, Th 0 n (.str "") := fun n => .s0 _ (by decide)
  have u3 : ∀ n, Th 0 n (.int 0) := fun n => .sm _ (by decide)
  have u4 : ∀ n, Th 0 n (.int 1) := fun n => .sm _ (by decide)
  have u5 : ∀ n, Th 0 n (.int (-1)) := fun n => .sm _ (by decide)
  have u6 : ∀ n, Th 0 n (.int 2) := fun n => .sm _ (by decide)
  have u7 : ∀ n, Th 0 n (.int 4) := fun n => .sm _ (by decide)
  have u8 : ∀ n, Th 0 n (.int 5) := fun n => .sm _ (by decide)
  have u9 : ∀ n, Th 0 n (.int (10 ^ 30)) := fun n => .sm _ (by decide)
  have e0 : ∀ n, Th 0 (n + 1) (.tup []) := fun n => .tup [] (by simp) (by simp)
  have e1 : ∀ n, Th 0 (n + 1) (.lst []) := fun n => .lst [] (by simp) (by simp)
  have p2 : ∀ n a b, Th 0 n a → Th 0 n b → Th 0 (n + 1) (.tup [a, b]) := fun n a b h1 h2 => .tup _ (by simp) (by
    intro d hd; rcases mem_two hd with rfl | rfl
    · exact h1
    · exact h2)
  have p3 : ∀ n a b e, Th 0 n a → Th 0 n b → Th 0 n e → Th 0 (n + 1) (.tup [a, b, e]) := fun n a b e h1 h2 h3 => .tup _ (by simp) (by
    intro d hd; rcases mem_three hd with rfl | rfl | rfl
    · exact h1
    · exact h2
    · exact h3)
  have p1 : ∀ n a, Th 0 n a → Th 0 (n + 1) (.tup [a]) := fun n a h1 => .tup _ (by simp) (by
    intro d hd
    have : d = a := by simpa using hd
    rw [this]; exact h1)
  simp only [odds1, odds2, List.cons_append, List.nil_append, List.mem_cons, List.not_mem_nil, or_false] at h
  rcases h with rfl | rfl | rfl | rfl | rfl | rfl | rfl | rfl | rfl | rfl | rfl | rfl | rfl | rfl | rfl | rfl | rfl | rfl | rfl | rfl | rfl | rfl | rfl | rfl
  · exact .non
  · exact .bl _
  · exact .bl _
  · exact u3 _
  · exact u4 _
  · exact u5 _
  · exact u8 _
  · exact u9 _
  · exact u2 _
  · exact u1 _
  · exact e0 _
  · exact e1 _
  · exact p2 2 _ _ (u4 _) (u6 _)
  · exact p2 2 _ _ (u5 _) (u6 _)
  · exact p2 2 _ _ (u6 _) (u7 _)
  · exact p2 2 _ _ (u3 _) (u6 _)
  · exact p2 2 _ _ (u3 _) (u4 _)
  · exact p1 2 _ .non
  · exact p3 2 _ _ _ (u1 _) (u4 _) (e0 _)
  · exact p1 2 _ (p3 1 _ _ _ (u1 _) (u4 _) (e0 _))
  · exact p1 2 _ (p2 1 _ _ (u3 _) (p1 0 _ (u3 _)))
  · exact p2 2 _ _ (u1 _) (u3 _)
  · exact p2 2 _ _ (u1 _) (.bl _)
  · exact p3 2 _ _ _ (u4 _) (u4 _) (u2 _)
theorem odd_t {a b : Int} (ok : BagOk a b) : ∃ d a' b', F__law_odd (bagD a b) [] = some (false, d, bagD a' b') ∧ BagOk a' b' ∧ Th 0 3 d := by
  obtain ⟨r, a', b', e, ok', h0, h1⟩ := take_ok (m := 24) ok (by omega) (by omega)
  obtain ⟨d, hd, ed⟩ := atI_mem (l := odds1 ++ odds2) h0 (by simpa [odds1, odds2] using h1)
  refine ⟨d, a', b', ?_, ok', odd_th hd⟩
  unfold F__law_odd f__law_odd
  simp only [runB]
  have p1 : ∀ f, sSeq (sSetO 1 (eLst (aCons (eC .non) (aCons (eC (.bl true)) (aCons (eC (.bl false)) (aCons (eC (.int 0)) (aCons (eC (.int 1)) (aCons (eUn gNeg (eC (.int 1))) (aCons (eC (.int 5)) (aCons (ePow (eC (.int 10)) (eC (.int 30))) (aCons (eC (.str "")) (aCons (eC (.str "ann")) (aCons (eTup aNil) (aCons (eLst aNil) (aCons (eTup (aCons (eC (.int 1)) (aCons (eC (.int 2)) aNil))) (aCons (eTup (aCons (eUn gNeg (eC (.int 1))) (aCons (eC (.int 2)) aNil))) (aCons (eTup (aCons (eC (.int 2)) (aCons (eC (.int 4)) aNil))) (aCons (eTup (aCons (eC (.int 0)) (aCons (eC (.int 2)) aNil))) (aCons (eTup (aCons (eC (.int 0)) (aCons (eC (.int 1)) aNil))) aNil))))))))))))))))))) f (initB 2 (bagD a b) []) = f [some (.rf, bagD a b), some (.ow, .lst odds1)] := by
    intro f
    exact seq_nx rfl
  rw [p1]
  have p2 : ∀ f, sSeq (sSet 1 (eOp gCatL (eVar 1) (eLst (aCons (eTup (aCons (eC .non) aNil)) (aCons (eTup (aCons (eC (.str "ann")) (aCons (eC (.int 1)) (aCons (eTup aNil) aNil)))) (aCons (eTup (aCons (eTup (aCons (eC (.str "ann")) (aCons (eC (.int 1)) (aCons (eTup aNil) aNil)))) aNil)) (aCons (eTup (aCons (eTup (aCons (eC (.int 0)) (aCons (eTup (aCons (eC (.int 0)) aNil)) aNil))) aNil)) (aCons (eTup (aCons (eC (.str "ann")) (aCons (eC (.int 0)) aNil))) (aCons (eTup (aCons (eC (.str "ann")) (aCons (eC (.bl true)) aNil))) (aCons (eTup (aCons (eC (.int 1)) (aCons (eC (.int 1)) (aCons (eC (.str "")) aNil)))) aNil)))))))))) f [some (.rf, bagD a b), some (.ow, .lst odds1)] = f [some (.rf, bagD a b), some (.sh, .lst (odds1 ++ odds2))] := by
    intro f
    exact seq_nx rfl
  rw [p2]
  have hl : (odds1 ++ odds2).length = 24 := rfl
  generalize odds1 ++ odds2 = l at hl ed
  simp [hl, e, ed]
end Px.S

set_option Elab.async false
set_option linter.all false
set_option maxRecDepth 100000
set_option maxHeartbeats 4000000
/-! MT9: a thing with a part otherwise: texts, numbers, the rest -/
namespace Px.S
open PySem L2 Px
def stZ (a b : Int) (d : D) (k : Int) (v3 v4 v5 : Option Sl) : S := [some (.rf, bagD a b), some (.sh, d), some (.sh, .int k), v3, v4, v5]
def eStrs : F := eLst (aCons (eOp gCatS (eVar 1) (eC (.str "a"))) (aCons (eSlS (pVar 1) oNone (oSome (eUn gNeg (eC (.int 1))))) (aCons (eOp gCatS (eVar 1) (eC (.str " "))) (aCons (eUpper (eVar 1)) (aCons (eOp gCatS (eVar 1) (eVar 1)) (aCons (eOp gCatS (eC (.str "z")) (eVar 1)) (aCons (eC (.str "")) aNil)))))))
def eInts : F := eLst (aCons (eOp (gBI fun i j => i + j) (eVar 1) (eC (.int 1))) (aCons (eOp (gBI fun i j => i - j) (eVar 1) (eC (.int 1))) (aCons (eUn gNegB (eVar 1)) (aCons (eOp (gBI fun i j => i + j) (eVar 1) (eC (.int 1000))) (aCons (eB1 gStrB (pVar 1)) (aCons (eOp (gBI fun i j => i + j) (eVar 1) (eC (.int 50))) (aCons (eTup (aCons (eVar 1) aNil)) aNil)))))))
def sStrs : FS := sIf (bAnd (bT (eB1 (gIsL "str") (pVar 1))) (bT (eGt (eVar 2) (eC (.int 1))))) (sRet (eIx (pE eStrs) (eSub (eVar 2) (eC (.int 2))))) sNil
def sInts : FS := sIf (bAnd (bT (eB1 (gIsL "int") (pVar 1))) (bT (eGt (eVar 2) (eC (.int 1))))) (sRet (eIx (pE eInts) (eSub (eVar 2) (eC (.int 2))))) sNil
def sTail : FS := sSeq sStrs (sSeq sInts (sRet (eCallB F__law_odd 0 aNil)))
theorem Th.up {c n : Nat} {d : D} (t : Th 0 n d) : Th c n d := t.mono (Nat.zero_le c) (Nat.le_refl n)
theorem int_up {c n : Nat} {i : Int} (h : i.natAbs < 2 ^ (110 + c)) (j : Int) (hj : j.natAbs ≤ i.natAbs + 1000) : Th (c + 1) n (.int j) := by
  refine .int j ?_
  have h1 : 2 ^ (110 + (c + 1)) = 2 * 2 ^ (110 + c) := by rw [← Nat.add_assoc, Nat.pow_succ, Nat.mul_comm]
  have h2 : 2 ^ 110 ≤ 2 ^ (110 + c) := Nat.pow_le_pow_right (by omega) (by omega)
  have h3 : 1000 < 2 ^ 110 := by decide
  rw [h1]
  generalize 2 ^ (110 + c) = k at *
  generalize 2 ^ 110 = l at *
  omega
theorem str_up {c n : Nat} {m : Nat} (h : m ≤ 4 ^ (c + 4)) (y : Str) (hy : y.length ≤ 3 * m + 1) : Th (c + 1) n (.str y) := by
  refine .str y ?_
  have h1 : 4 ^ (c + 1 + 4) = 4 * 4 ^ (c + 4) := by rw [show c + 1 + 4 = (c + 4) + 1 by omega, Nat.pow_succ, Nat.mul_comm]
  have h2 : 1 ≤ 4 ^ (c + 4) := Nat.pos_of_ne_zero (by simp)
  rw [h1]
  generalize 4 ^ (c + 4) = k at *
  omega
theorem sone_a : ("a" : Str).length = 1 := by decide
theorem sone_z : ("z" : Str).length = 1 := by decide
theorem sone_b : (" " : Str).length = 1 := by decide
section
variable {c n : Nat} {d : D} {a b k : Int}
theorem strs_t {x : Str} (hc : c ≤ 5) (h : x.length ≤ 4 ^ (c + 4)) : ∃ l, eStrs (stZ a b (.str x) k none none none) = some (.lst l, stZ a b (.str x) k none none none) ∧ l.length = 7 ∧ ∀ e ∈ l, Th (c + 1) n e := by
  have p4 := pow4 (c := c) (by omega)
  have s1 : small (x.length + ("a" : Str).length) = true := small_of (by rw [sone_a]; omega)
  have s2 : small x.length = true := small_of (by omega)
  have s3 : small (x.length + (" " : Str).length) = true := small_of (by rw [sone_b]; omega)
  have s4 : x.length ≤ 5000000 := by omega
  have s5 : small (x.length + x.length) = true := small_of (by omega)
  have s6 : small (("z" : Str).length + x.length) = true := small_of (by rw [sone_z]; omega)
  refine ⟨[.str (x ++ "a"), .str (cutS x none (some (-1))), .str (x ++ " "), .str (Txt.upper x), .str (x ++ x), .str ("z" ++ x), .str ""], ?_, rfl, ?_⟩
  · simp [eStrs, stZ, s1, s2, s3, s4, s5, s6]
  · have l1 : ("a" : Str).length = 1 := by decide
    have l2 : (" " : Str).length = 1 := by decide
    have l3 : ("z" : Str).length = 1 := by decide
    have l0 : ("" : Str).length = 0 := by decide
    have l4 := PyProof.Rows.len_upper x
    have l5 := cutS_length x none (some (-1))
    intro e he
    simp only [List.mem_cons, List.not_mem_nil, or_false] at he
    rcases he with rfl | rfl | rfl | rfl | rfl | rfl | rfl
    · exact str_up h _ (by rw [Str.length_append]; omega)
    · exact str_up h _ (by omega)
    · exact str_up h _ (by rw [Str.length_append]; omega)
    · exact str_up h _ (by omega)
    · exact str_up h _ (by rw [Str.length_append]; omega)
    · exact str_up h _ (by rw [Str.length_append]; omega)
    · exact str_up h _ (by omega)
theorem ints_t {i : Int} (hc : c ≤ 5) (h : i.natAbs < 2 ^ (110 + c)) : ∃ l, eInts (stZ a b (.int i) k none none none) = some (.lst l, stZ a b (.int i) k none none none) ∧ l.length = 7 ∧ ∀ e ∈ l, Th (c + 1) (n + 1) e := by
  have hlog : i.natAbs.log2 < 110 + c := by
    by_cases z : i.natAbs = 0
    · rw [z]; simp; omega
    · exact (Nat.log2_lt z).mpr h
  have h19 : i.natAbs.log2 < 1920 := by omega
  refine ⟨[.int (i + 1), .int (i - 1), .int (-i), .int (i + 1000), .str (toString i), .int (i + 50), .tup [.int i]], ?_, rfl, ?_⟩
  · simp [eInts, stZ, h19]
  · have l1 : (Str.ofString (toString i)).length ≤ 110 + c + 1 := by
      rw [ofString_length]
      exact int_text_length_le (by omega) hlog
    intro e he
    simp only [List.mem_cons, List.not_mem_nil, or_false] at he
    rcases he with rfl | rfl | rfl | rfl | rfl | rfl | rfl
    · exact int_up h _ (by omega)
    · exact int_up h _ (by omega)
    · exact int_up h _ (by omega)
    · exact int_up h _ (by omega)
    · refine .str _ ?_
      have : 4 ^ 4 ≤ 4 ^ (c + 1 + 4) := Nat.pow_le_pow_right (by omega) (by omega)
      have h4 : 4 ^ 4 = 256 := by decide
      show (Str.ofString (toString i)).length ≤ _
      omega
    · exact int_up h _ (by omega)
    · refine .tup _ (by simp; omega) fun d hd => ?_
      have : d = .int i := by simpa using hd
      rw [this]
      exact int_up h _ (by omega)
theorem bools_t {i : Bool} : ∃ l, eInts (stZ a b (.bl i) k none none none) = some (.lst l, stZ a b (.bl i) k none none none) ∧ l.length = 7 ∧ ∀ e ∈ l, Th (c + 1) (n + 1) e := by
  refine ⟨[.int (b2n i + 1), .int (b2n i - 1), .int (-b2n i), .int (b2n i + 1000), .str (if i then "True" else "False"), .int (b2n i + 50), .tup [.bl i]], ?_, rfl, ?_⟩
  · simp [eInts, stZ]
  · intro e he
    simp only [List.mem_cons, List.not_mem_nil, or_false] at he
    have tt : ∀ d, Th 0 (n + 1) d → Th (c + 1) (n + 1) d := fun d t => t.mono (by omega) (by omega)
    apply tt
    rcases he with rfl | rfl | rfl | rfl | rfl | rfl | rfl
    · cases i <;> exact .sm _ (by decide)
    · cases i <;> exact .sm _ (by decide)
    · cases i <;> exact .sm _ (by decide)
    · cases i <;> exact .sm _ (by decide)
    · cases i <;> exact .s0 _ (by decide)
    · cases i <;> exact .sm _ (by decide)
    · refine .tup _ (by simp) fun d hd => ?_
      have : d = .bl i := by simpa using hd
      rw [this]; exact .bl _
theorem odd_end (ok : BagOk a b) {r : S} : ∃ d a' b', sRet (eCallB F__law_odd 0 aNil) (some (.rf, bagD a b) :: r) = some (.ret false d (some (.rf, bagD a' b') :: r)) ∧ BagOk a' b' ∧ Th 0 3 d := by
  obtain ⟨d, a', b', e, ok', t⟩ := odd_t ok
  refine ⟨d, a', b', ?_, ok', t⟩
  simp [e]
theorem strs_no (h : gIsL "str" d = some (.bl false) ∨ ¬ 1 < k) (h2 : ∃ z, gIsL "str" d = some (.bl z)) : sStrs (stZ a b d k none none none) = some (.nx (stZ a b d k none none none)) := by
  obtain ⟨z, hz⟩ := h2
  have i1 : eB1 (gIsL "str") (pVar 1) (stZ a b d k none none none) = some (.bl z, stZ a b d k none none none) := by
    simp only [eB1, stZ, pVar, List.getElem?_cons_succ, List.getElem?_cons_zero, Option.bind_some, PR.get, hz]
  have i2 : eGt (eVar 2) (eC (.int 1)) (stZ a b d k none none none) = some (.bl (decide (1 < k)), stZ a b d k none none none) := by simp [stZ]
  unfold sStrs
  refine (if_no (s1 := stZ a b d k none none none) ?_).trans rfl
  cases z with
  | false => simp only [bAnd, bT, i1, Option.bind_some]; rfl
  | true =>
    rcases h with h | h
    · rw [h] at hz; cases hz
    · rw [decide_eq_false h] at i2
      simp only [bAnd, bT, i1, i2, Option.bind_some]; rfl
theorem ints_no (h : gIsL "int" d = some (.bl false) ∨ ¬ 1 < k) (h2 : ∃ z, gIsL "int" d = some (.bl z)) : sInts (stZ a b d k none none none) = some (.nx (stZ a b d k none none none)) := by
  obtain ⟨z, hz⟩ := h2
  have i1 : eB1 (gIsL "int") (pVar 1) (stZ a b d k none none none) = some (.bl z, stZ a b d k none none none) := by
    simp only [eB1, stZ, pVar, List.getElem?_cons_succ, List.getElem?_cons_zero, Option.bind_some, PR.get, hz]
  have i2 : eGt (eVar 2) (eC (.int 1)) (stZ a b d k none none none) = some (.bl (decide (1 < k)), stZ a b d k none none none) := by simp [stZ]
  unfold sInts
  refine (if_no (s1 := stZ a b d k none none none) ?_).trans rfl
  cases z with
  | false => simp only [bAnd, bT, i1, Option.bind_some]; rfl
  | true =>
    rcases h with h | h
    · rw [h] at hz; cases hz
    · rw [decide_eq_false h] at i2
      simp only [bAnd, bT, i1, i2, Option.bind_some]; rfl
theorem tail_odd (ok : BagOk a b) (h1 : sStrs (stZ a b d k none none none) = some (.nx (stZ a b d k none none none))) (h2 : sInts (stZ a b d k none none none) = some (.nx (stZ a b d k none none none))) : ∃ r a' b' s', sTail (stZ a b d k none none none) = some (.ret false r (some (.rf, bagD a' b') :: s')) ∧ BagOk a' b' ∧ Th (c + 1) (n + 3) r := by
  obtain ⟨r, a', b', e, ok', t⟩ := odd_end ok (r := [some (.sh, d), some (.sh, .int k), none, none, none])
  refine ⟨r, a', b', [some (.sh, d), some (.sh, .int k), none, none, none], ?_, ok', t.mono (by omega) (by omega)⟩
  · unfold sTail
    rw [seq_nx h1, seq_nx h2]
    exact e
theorem tail_t (ok : BagOk a b) (hk : k < 9) (hc : c ≤ 5) (t : Th c n d) : ∃ r a' b' s', sTail (stZ a b d k none none none) = some (.ret false r (some (.rf, bagD a' b') :: s')) ∧ BagOk a' b' ∧ Th (c + 1) (n + 3) r := by
  by_cases hk1 : 1 < k
  · have i2 : ∀ d, eGt (eVar 2) (eC (.int 1)) (stZ a b d k none none none) = some (.bl true, stZ a b d k none none none) := by intro d; simp [stZ, hk1]
    cases t with
    | str x h =>
      obtain ⟨l, e, hl, ht⟩ := strs_t (n := n + 3) (a := a) (b := b) (k := k) hc h
      obtain ⟨r, hr, er⟩ := atI_mem (l := l) (r := k - 2) (by omega) (by omega)
      refine ⟨r, a, b, [some (.sh, .str x), some (.sh, .int k), none, none, none], ?_, ok, ht r hr⟩
      have i1 : eB1 (gIsL "str") (pVar 1) (stZ a b (.str x) k none none none) = some (.bl true, stZ a b (.str x) k none none none) := by simp [stZ]
      have p1 : sStrs (stZ a b (.str x) k none none none) = some (.ret false r (stZ a b (.str x) k none none none)) := by
        unfold sStrs
        refine (if_yes (s1 := stZ a b (.str x) k none none none) ?_).trans ?_
        · simp only [bAnd, bT, i1, i2, Option.bind_some]; rfl
        · have s2 : eSub (eVar 2) (eC (.int 2)) (stZ a b (.str x) k none none none) = some (.int (k - 2), stZ a b (.str x) k none none none) := by simp [stZ]
          simp only [sRet, eIx, eOpP, pE, e, s2, Option.bind_some, PR.get, gIx, er]
      unfold sTail
      simp only [sSeq, p1, Option.bind_some]
      rfl
    | int i h =>
      obtain ⟨l, e, hl, ht⟩ := ints_t (n := n + 2) (a := a) (b := b) (k := k) hc h
      obtain ⟨r, hr, er⟩ := atI_mem (l := l) (r := k - 2) (by omega) (by omega)
      refine ⟨r, a, b, [some (.sh, .int i), some (.sh, .int k), none, none, none], ?_, ok, ht r hr⟩
      have i1 : eB1 (gIsL "int") (pVar 1) (stZ a b (.int i) k none none none) = some (.bl true, stZ a b (.int i) k none none none) := by simp [stZ]
      have p1 : sInts (stZ a b (.int i) k none none none) = some (.ret false r (stZ a b (.int i) k none none none)) := by
        unfold sInts
        refine (if_yes (s1 := stZ a b (.int i) k none none none) ?_).trans ?_
        · simp only [bAnd, bT, i1, i2, Option.bind_some]; rfl
        · have s2 : eSub (eVar 2) (eC (.int 2)) (stZ a b (.int i) k none none none) = some (.int (k - 2), stZ a b (.int i) k none none none) := by simp [stZ]
          simp only [sRet, eIx, eOpP, pE, e, s2, Option.bind_some, PR.get, gIx, er]
      unfold sTail
      rw [seq_nx (strs_no (.inl (by simp)) ⟨false, by simp⟩)]
      simp only [sSeq, p1, Option.bind_some]
      rfl
    | bl i =>
      obtain ⟨l, e, hl, ht⟩ := bools_t (c := c) (n := n + 2) (a := a) (b := b) (k := k) (i := i)
      obtain ⟨r, hr, er⟩ := atI_mem (l := l) (r := k - 2) (by omega) (by omega)
      refine ⟨r, a, b, [some (.sh, .bl i), some (.sh, .int k), none, none, none], ?_, ok, ht r hr⟩
      have i1 : eB1 (gIsL "int") (pVar 1) (stZ a b (.bl i) k none none none) = some (.bl true, stZ a b (.bl i) k none none none) := by simp [stZ]
      have p1 : sInts (stZ a b (.bl i) k none none none) = some (.ret false r (stZ a b (.bl i) k none none none)) := by
        unfold sInts
        refine (if_yes (s1 := stZ a b (.bl i) k none none none) ?_).trans ?_
        · simp only [bAnd, bT, i1, i2, Option.bind_some]; rfl
        · have s2 : eSub (eVar 2) (eC (.int 2)) (stZ a b (.bl i) k none none none) = some (.int (k - 2), stZ a b (.bl i) k none none none) := by simp [stZ]
          simp only [sRet, eIx, eOpP, pE, e, s2, Option.bind_some, PR.get, gIx, er]
      unfold sTail
      rw [seq_nx (strs_no (.inl (by simp)) ⟨false, by simp⟩)]
      simp only [sSeq, p1, Option.bind_some]
      rfl
    | non => exact tail_odd ok (strs_no (.inl (by simp)) ⟨false, by simp⟩) (ints_no (.inl (by simp)) ⟨false, by simp⟩)
    | tup ds _ _ => exact tail_odd ok (strs_no (.inl (by simp)) ⟨false, by simp⟩) (ints_no (.inl (by simp)) ⟨false, by simp⟩)
    | lst ds _ _ => exact tail_odd ok (strs_no (.inl (by simp)) ⟨false, by simp⟩) (ints_no (.inl (by simp)) ⟨false, by simp⟩)
  · exact tail_odd ok (strs_no (.inr hk1) (by cases t <;> simp)) (ints_no (.inr hk1) (by cases t <;> simp))
end
end Px.S

set_option Elab.async false
set_option linter.all false
set_option maxRecDepth 100000
set_option maxHeartbeats 4000000
/-! MT10: a thing with a part otherwise: rows, and whole -/
namespace Px.S
open PySem L2 Px
def sK4 : FS := sRet (eIf (bT (eB1 (gIsL "tuple") (pVar 1))) (eVar 3) (eB1 gTuple (pVar 3)))
def sK3 : FS := sSeq (sSet 5 (eCallB F__law_take 0 (aCons (eB1 gLen (pVar 3)) aNil))) (sAsg (eTup (aCons (eIx (pVar 3) (eVar 5)) (aCons (eIx (pVar 3) (eVar 4)) aNil))) (hTup (hCons (hPut 3 (eVar 4)) (hCons (hPut 3 (eVar 5)) hNil))))
def sK5 (G : FnB) : FS := sLPut 3 (eVar 4) (eCallB G 0 (aCons (eIx (pVar 3) (eVar 4)) aNil))
def sK1 : FS := sSetO 3 (eOp gCatL (eSl (pVar 3) oNone (oSome (eVar 4))) (eSl (pVar 3) (oSome (eAdd (eVar 4) (eC (.int 1)))) oNone))
def sK2 : FS := sSetO 3 (eOp gCatL (eSl (pVar 3) oNone (oSome (eAdd (eVar 4) (eC (.int 1))))) (eSl (pVar 3) (oSome (eVar 4)) oNone))
def tK (j : Int) : TB := bT (eOpP gEq (pVar 2) (pE (eC (.int j))))
def sKs (G : FnB) : FS := sIf (tK 1) sK1 (sIf (tK 2) sK2 (sIf (tK 3) sK3 (sIf (tK 4) sK4 (sK5 G))))
def sEnd : FS := sRet (eIf (bT (eB1 (gIsL "tuple") (pVar 1))) (eB1 gTuple (pVar 3)) (eVar 3))
def sRow (G : FnB) : FS := sSeq (sSetO 3 (eB1 gList (pVar 1))) (sSeq (sSet 4 (eCallB F__law_take 0 (aCons (eB1 gLen (pVar 3)) aNil))) (sSeq (sKs G) sEnd))
def tRow : TB := bAnd (bT (eB1 gIsTL (pVar 1))) (bAnd (bT (eGt (eB1 gLen (pVar 1)) (eC (.int 0)))) (bT (eGt (eVar 2) (eC (.int 0)))))
theorem spoilt_eq (G : FnB) : f__law_spoilt G = sSeq (sSet 2 (eCallB F__law_take 0 (aCons (eC (.int 9)) aNil))) (sSeq (sIf tRow (sRow G) sNil) sTail) := rfl
theorem cut_drop (ds : List D) (n : Nat) : cutD ds (some (n : Int)) none = ds.drop n := by
  unfold cutD
  rw [HT.sIx_nat, HT.sIx_none]
  by_cases h : n ≤ ds.length
  · rw [Nat.min_eq_left h, List.take_of_length_le (by simp)]
  · rw [Nat.min_eq_right (by omega), List.drop_eq_nil_of_le (by simp), List.drop_eq_nil_of_le (by omega)]
    simp
theorem ixN_nat {l n : Nat} (h : n < l) : ixN l (n : Int) = some n := by
  unfold ixN
  rw [if_pos (by omega), if_pos (by omega)]
  simp
theorem at_nat {α : Type} (l : List α) (n : Nat) (h : n < l.length) : atI l (n : Int) = some l[n] := by
  unfold atI
  rw [ixN_nat h]
  simp [h]
section
variable {c m : Nat} {d : D} {a b k : Int}
theorem tK_t {v3 v4 v5 : Option Sl} (j : Int) : tK j (stZ a b d k v3 v4 v5) = some (decide (k = j), stZ a b d k v3 v4 v5) := by
  by_cases h : k = j
  · simp [tK, stZ, okI, eqD_int, h]
  · simp [tK, stZ, okI, eqD_int, h]
theorem K1_t {ds : List D} {n : Nat} (hl : ds.length ≤ 100) (hn : n < ds.length) : sK1 (stZ a b d k (some (.ow, .lst ds)) (some (.sh, .int n)) none) = some (.nx (stZ a b d k (some (.ow, .lst (ds.take n ++ ds.drop (n + 1)))) (some (.sh, .int n)) none)) := by
  have c1 := cut_take ds n
  have c2 := cut_drop ds (n + 1)
  rw [show ((n + 1 : Nat) : Int) = (n : Int) + 1 by omega] at c2
  simp (disch := omega) [sK1, stZ, c1, c2, small_of]
theorem K2_t {ds : List D} {n : Nat} (hl : ds.length ≤ 100) (hn : n < ds.length) : sK2 (stZ a b d k (some (.ow, .lst ds)) (some (.sh, .int n)) none) = some (.nx (stZ a b d k (some (.ow, .lst (ds.take (n + 1) ++ ds.drop n))) (some (.sh, .int n)) none)) := by
  have c1 := cut_take ds (n + 1)
  rw [show ((n + 1 : Nat) : Int) = (n : Int) + 1 by omega] at c1
  have c2 := cut_drop ds n
  simp (disch := omega) [sK2, stZ, c1, c2, small_of]
theorem K3_t (ok : BagOk a b) {ds : List D} {n : Nat} (hl : ds.length ≤ 100) (hn : n < ds.length) : ∃ (j : Nat) (hj : j < ds.length) (a' b' : Int), sK3 (stZ a b d k (some (.ow, .lst ds)) (some (.sh, .int n)) none) = some (.nx (stZ a' b' d k (some (.ow, .lst ((ds.set n ds[j]).set j ds[n]))) (some (.sh, .int n)) (some (.sh, .int j)))) ∧ BagOk a' b' := by
  obtain ⟨r, a', b', e, ok', h0, h1⟩ := take_ok (m := ds.length) ok (by omega) (by omega)
  obtain ⟨j, rfl⟩ : ∃ j : Nat, r = j := ⟨r.toNat, by omega⟩
  have hj : j < ds.length := by omega
  refine ⟨j, hj, a', b', ?_, ok'⟩
  have e1 := at_nat ds n hn
  have e2 := at_nat ds j hj
  have e3 := ixN_nat hn
  have e4 := ixN_nat hj
  have p1 : sSet 5 (eCallB F__law_take 0 (aCons (eB1 gLen (pVar 3)) aNil)) (stZ a b d k (some (.ow, .lst ds)) (some (.sh, .int n)) none) = some (.nx (stZ a' b' d k (some (.ow, .lst ds)) (some (.sh, .int n)) (some (.sh, .int j)))) := by
    simp [stZ, e]
  unfold sK3
  rw [seq_nx p1]
  simp [stZ, e1, e2, e3, e4]
theorem K5_t {G : FnB} {ds : List D} {n : Nat} {r : D} {a' b' : Int} {o : Bool} (hn : n < ds.length) (e : G (bagD a b) [ds[n]] = some (o, r, bagD a' b')) : sK5 G (stZ a b d k (some (.ow, .lst ds)) (some (.sh, .int n)) none) = some (.nx (stZ a' b' d k (some (.ow, .lst (ds.set n r))) (some (.sh, .int n)) none)) := by
  have e1 := at_nat ds n hn
  have e3 := ixN_nat hn
  simp [sK5, stZ, e1, e, e3]
theorem end_t {ds : List D} {z : Bool} (hz : gIsL "tuple" d = some (.bl z)) {v4 v5 : Option Sl} (hl : ds.length ≤ 10 + c) (ht : ∀ e ∈ ds, Th c m e) : ∃ r s', sEnd (stZ a b d k (some (.ow, .lst ds)) v4 v5) = some (.ret false r (some (.rf, bagD a b) :: s')) ∧ Th c (m + 1) r := by
  have i1 : bT (eB1 (gIsL "tuple") (pVar 1)) (stZ a b d k (some (.ow, .lst ds)) v4 v5) = some (z, stZ a b d k (some (.ow, .lst ds)) v4 v5) := by
    simp only [bT, eB1, stZ, pVar, List.getElem?_cons_succ, List.getElem?_cons_zero, Option.bind_some, PR.get, hz]
  unfold sEnd
  cases z with
  | true =>
    refine ⟨.tup ds, [some (.sh, d), some (.sh, .int k), some (.ow, .lst ds), v4, v5], ?_, .tup ds hl ht⟩
    simp only [sRet, eIf, i1, Option.bind_some]
    rfl
  | false =>
    refine ⟨.lst ds, [some (.sh, d), some (.sh, .int k), some (.sh, .lst ds), v4, v5], ?_, .lst ds hl ht⟩
    simp only [sRet, eIf, i1, Option.bind_some]
    rfl
theorem K4_t {ds : List D} {z : Bool} (hz : gIsL "tuple" d = some (.bl z)) {v4 v5 : Option Sl} (hl : ds.length ≤ 10 + c) (ht : ∀ e ∈ ds, Th c m e) : ∃ r s', sK4 (stZ a b d k (some (.ow, .lst ds)) v4 v5) = some (.ret false r (some (.rf, bagD a b) :: s')) ∧ Th c (m + 1) r := by
  have i1 : bT (eB1 (gIsL "tuple") (pVar 1)) (stZ a b d k (some (.ow, .lst ds)) v4 v5) = some (z, stZ a b d k (some (.ow, .lst ds)) v4 v5) := by
    simp only [bT, eB1, stZ, pVar, List.getElem?_cons_succ, List.getElem?_cons_zero, Option.bind_some, PR.get, hz]
  unfold sK4
  cases z with
  | false =>
    refine ⟨.tup ds, [some (.sh, d), some (.sh, .int k), some (.ow, .lst ds), v4, v5], ?_, .tup ds hl ht⟩
    simp only [sRet, eIf, i1, Option.bind_some]
    rfl
  | true =>
    refine ⟨.lst ds, [some (.sh, d), some (.sh, .int k), some (.sh, .lst ds), v4, v5], ?_, .lst ds hl ht⟩
    simp only [sRet, eIf, i1, Option.bind_some]
    rfl
theorem Ks_t {G : FnB} {ds : List D} {n : Nat} {z : Bool} (ok : BagOk a b) (hk0 : 1 ≤ k) (hk : k < 9) (hc : c ≤ 5) (hz : gIsL "tuple" d = some (.bl z)) (hl : ds.length ≤ 10 + c) (hn : n < ds.length) (ht : ∀ e ∈ ds, Th c m e)
    (hG : ∀ e ∈ ds, ∀ a b, BagOk a b → ∃ o r a' b', G (bagD a b) [e] = some (o, r, bagD a' b') ∧ BagOk a' b' ∧ Th (c + 1) (m + 3) r) :
    ∃ r a' b' s', sSeq (sKs G) sEnd (stZ a b d k (some (.ow, .lst ds)) (some (.sh, .int n)) none) = some (.ret false r (some (.rf, bagD a' b') :: s')) ∧ BagOk a' b' ∧ Th (c + 1) (m + 4) r := by
  have up : ∀ e ∈ ds, Th (c + 1) (m + 3) e := fun e he => (ht e he).mono (by omega) (by omega)
  have fin : ∀ {ds' : List D} {a' b' : Int} {v4 v5 : Option Sl}, sKs G (stZ a b d k (some (.ow, .lst ds)) (some (.sh, .int n)) none) = some (.nx (stZ a' b' d k (some (.ow, .lst ds')) v4 v5)) → BagOk a' b' → ds'.length ≤ 10 + (c + 1) → (∀ e ∈ ds', Th (c + 1) (m + 3) e) → ∃ r a' b' s', sSeq (sKs G) sEnd (stZ a b d k (some (.ow, .lst ds)) (some (.sh, .int n)) none) = some (.ret false r (some (.rf, bagD a' b') :: s')) ∧ BagOk a' b' ∧ Th (c + 1) (m + 4) r := by
    intro ds' a' b' v4 v5 e ok' l' t'
    obtain ⟨r, s', e2, t2⟩ := end_t (a := a') (b := b') (k := k) (v4 := v4) (v5 := v5) hz l' t'
    refine ⟨r, a', b', s', ?_, ok', t2⟩
    rw [seq_nx e]; exact e2
  by_cases k1 : k = 1
  · refine fin (v4 := some (.sh, .int n)) (v5 := none) (a' := a) (b' := b) (ds' := ds.take n ++ ds.drop (n + 1)) ?_ ok (by simp; omega) fun e he => ?_
    · unfold sKs
      rw [if_yes (by rw [tK_t, decide_eq_true k1])]
      exact K1_t (by omega) hn
    · rcases List.mem_append.mp he with q | q
      · exact up e (List.mem_of_mem_take q)
      · exact up e (List.mem_of_mem_drop q)
  by_cases k2 : k = 2
  · refine fin (v4 := some (.sh, .int n)) (v5 := none) (a' := a) (b' := b) (ds' := ds.take (n + 1) ++ ds.drop n) ?_ ok (by simp; omega) fun e he => ?_
    · unfold sKs
      rw [if_no (by rw [tK_t, decide_eq_false k1]), if_yes (by rw [tK_t, decide_eq_true k2])]
      exact K2_t (by omega) hn
    · rcases List.mem_append.mp he with q | q
      · exact up e (List.mem_of_mem_take q)
      · exact up e (List.mem_of_mem_drop q)
  by_cases k3 : k = 3
  · obtain ⟨j, hj, a', b', e, ok'⟩ := K3_t (d := d) (k := k) ok (ds := ds) (n := n) (by omega) hn
    refine fin (v4 := some (.sh, .int n)) (v5 := some (.sh, .int j)) (a' := a') (b' := b') (ds' := (ds.set n ds[j]).set j ds[n]) ?_ ok' (by simp; omega) fun x hx => ?_
    · unfold sKs
      rw [if_no (by rw [tK_t, decide_eq_false k1]), if_no (by rw [tK_t, decide_eq_false k2]), if_yes (by rw [tK_t, decide_eq_true k3])]
      exact e
    · rcases List.mem_or_eq_of_mem_set hx with q | q
      · rcases List.mem_or_eq_of_mem_set q with q | q
        · exact up x q
        · rw [q]; exact up _ (List.getElem_mem _)
      · rw [q]; exact up _ (List.getElem_mem _)
  by_cases k4 : k = 4
  · obtain ⟨r, s', e, t⟩ := K4_t (a := a) (b := b) (k := k) (v4 := some (.sh, .int n)) (v5 := none) hz hl ht
    refine ⟨r, a, b, s', ?_, ok, t.mono (by omega) (by omega)⟩
    have : sKs G (stZ a b d k (some (.ow, .lst ds)) (some (.sh, .int n)) none) = some (.ret false r (some (.rf, bagD a b) :: s')) := by
      unfold sKs
      rw [if_no (by rw [tK_t, decide_eq_false k1]), if_no (by rw [tK_t, decide_eq_false k2]), if_no (by rw [tK_t, decide_eq_false k3]), if_yes (by rw [tK_t, decide_eq_true k4])]
      exact e
    simp only [sSeq, this, Option.bind_some]
  · obtain ⟨o, r, a', b', e, ok', t⟩ := hG ds[n] (List.getElem_mem _) a b ok
    refine fin (v4 := some (.sh, .int n)) (v5 := none) (a' := a') (b' := b') (ds' := ds.set n r) ?_ ok' (by simp; omega) fun x hx => ?_
    · unfold sKs
      rw [if_no (by rw [tK_t, decide_eq_false k1]), if_no (by rw [tK_t, decide_eq_false k2]), if_no (by rw [tK_t, decide_eq_false k3]), if_no (by rw [tK_t, decide_eq_false k4])]
      exact K5_t hn e
    · rcases List.mem_or_eq_of_mem_set hx with q | q
      · exact up x q
      · rw [q]; exact t
theorem row_t2 {G : FnB} {ds : List D} {z : Bool} (ok : BagOk a b) (hk0 : 1 ≤ k) (hk : k < 9) (hc : c ≤ 5) (hz : gIsL "tuple" d = some (.bl z)) (hd : gList d = some (.lst ds)) (hl : ds.length ≤ 10 + c) (hn : 0 < ds.length) (ht : ∀ e ∈ ds, Th c m e)
    (hG : ∀ e ∈ ds, ∀ a b, BagOk a b → ∃ o r a' b', G (bagD a b) [e] = some (o, r, bagD a' b') ∧ BagOk a' b' ∧ Th (c + 1) (m + 3) r) :
    ∃ r a' b' s', sRow G (stZ a b d k none none none) = some (.ret false r (some (.rf, bagD a' b') :: s')) ∧ BagOk a' b' ∧ Th (c + 1) (m + 4) r := by
  obtain ⟨r, a1, b1, e, ok1, h0, h1⟩ := take_ok (m := ds.length) ok (by omega) (by omega)
  obtain ⟨n, rfl⟩ : ∃ n : Nat, r = n := ⟨r.toNat, by omega⟩
  have p1 : sSetO 3 (eB1 gList (pVar 1)) (stZ a b d k none none none) = some (.nx (stZ a b d k (some (.ow, .lst ds)) none none)) := by
    refine (setO_of (s1 := stZ a b d k none none none) (d := .lst ds) ?_).trans rfl
    simp only [eB1, stZ, pVar, List.getElem?_cons_succ, List.getElem?_cons_zero, Option.bind_some, PR.get, hd]
  have p2 : sSet 4 (eCallB F__law_take 0 (aCons (eB1 gLen (pVar 3)) aNil)) (stZ a b d k (some (.ow, .lst ds)) none none) = some (.nx (stZ a1 b1 d k (some (.ow, .lst ds)) (some (.sh, .int n)) none)) := by
    simp [stZ, e]
  unfold sRow
  rw [seq_nx p1, seq_nx p2]
  exact Ks_t ok1 hk0 hk hc hz hl (by omega) ht hG
theorem spoilt_step {G : FnB} {n : Nat} (hc : c ≤ 5) (t : Th c n d) (ok : BagOk a b)
    (hG : ∀ e m, m < n → Th c m e → ∀ a b, BagOk a b → ∃ o r a' b', G (bagD a b) [e] = some (o, r, bagD a' b') ∧ BagOk a' b' ∧ Th (c + 1) (m + 3) r) :
    ∃ r a' b', runB 6 (f__law_spoilt G) (bagD a b) [d] = some (false, r, bagD a' b') ∧ BagOk a' b' ∧ Th (c + 1) (n + 3) r := by
  obtain ⟨k, a1, b1, e, ok1, h0, h1⟩ := take_ok (m := 9) ok (by omega) (by omega)
  have p1 : sSet 2 (eCallB F__law_take 0 (aCons (eC (.int 9)) aNil)) (initB 6 (bagD a b) [d]) = some (.nx (stZ a1 b1 d k none none none)) := by
    show sSet 2 _ [some (.rf, bagD a b), some (.sh, d), none, none, none, none] = _
    simp [stZ, e]
  have goal : ∀ {r : D} {a' b' : Int} {s' : S}, sSeq (sIf tRow (sRow G) sNil) sTail (stZ a1 b1 d k none none none) = some (.ret false r (some (.rf, bagD a' b') :: s')) → BagOk a' b' → Th (c + 1) (n + 3) r → ∃ r a' b', runB 6 (f__law_spoilt G) (bagD a b) [d] = some (false, r, bagD a' b') ∧ BagOk a' b' ∧ Th (c + 1) (n + 3) r := by
    intro r a' b' s' e ok' t'
    refine ⟨r, a', b', ?_, ok', t'⟩
    rw [spoilt_eq]
    simp only [runB]
    rw [seq_nx p1, e]
    rfl
  have no : tRow (stZ a1 b1 d k none none none) = some (false, stZ a1 b1 d k none none none) → ∃ r a' b', runB 6 (f__law_spoilt G) (bagD a b) [d] = some (false, r, bagD a' b') ∧ BagOk a' b' ∧ Th (c + 1) (n + 3) r := by
    intro q
    obtain ⟨r, a', b', s', e2, ok2, t2⟩ := tail_t (k := k) ok1 h1 hc t
    refine goal (r := r) (a' := a') (b' := b') (s' := s') ?_ ok2 t2
    have : sIf tRow (sRow G) sNil (stZ a1 b1 d k none none none) = some (.nx (stZ a1 b1 d k none none none)) := (if_no q).trans rfl
    rw [seq_nx this]; exact e2
  have yes : ∀ {ds : List D} {m : Nat} {z : Bool}, n = m + 1 → 0 < ds.length → 0 < k → tRow (stZ a1 b1 d k none none none) = some (true, stZ a1 b1 d k none none none) → gIsL "tuple" d = some (.bl z) → gList d = some (.lst ds) → ds.length ≤ 10 + c → (∀ e ∈ ds, Th c m e) → ∃ r a' b', runB 6 (f__law_spoilt G) (bagD a b) [d] = some (false, r, bagD a' b') ∧ BagOk a' b' ∧ Th (c + 1) (n + 3) r := by
    intro ds m z hn hp hk q hz hd hl ht
    obtain ⟨r, a', b', s', e2, ok2, t2⟩ := row_t2 (G := G) (k := k) ok1 (by omega) h1 hc hz hd hl hp ht fun e he => hG e m (by omega) (ht e he)
    refine goal (r := r) (a' := a') (b' := b') (s' := s') ?_ ok2 (by rw [hn]; exact t2)
    have : sIf tRow (sRow G) sNil (stZ a1 b1 d k none none none) = some (.ret false r (some (.rf, bagD a' b') :: s')) := (if_yes q).trans e2
    simp only [sSeq, this, Option.bind_some]
  cases t with
  | non => exact no (by simp [tRow, stZ])
  | bl i => exact no (by simp [tRow, stZ])
  | int i h => exact no (by simp [tRow, stZ])
  | str x h => exact no (by simp [tRow, stZ])
  | tup ds hl h =>
    by_cases hp : 0 < ds.length
    · have hp' : (0 : Int) < (ds.length : Int) := by omega
      by_cases hk : 0 < k
      · exact yes (z := true) rfl hp hk (by simp [tRow, stZ, hp, hk]) (by simp) rfl hl h
      · exact no (by simp [tRow, stZ, hp, hk])
    · exact no (by simp [tRow, stZ, hp])
  | lst ds hl h =>
    by_cases hp : 0 < ds.length
    · have hp' : (0 : Int) < (ds.length : Int) := by omega
      by_cases hk : 0 < k
      · exact yes (z := false) rfl hp hk (by simp [tRow, stZ, hp, hk]) (by simp) rfl hl h
      · exact no (by simp [tRow, stZ, hp, hk])
    · exact no (by simp [tRow, stZ, hp])
theorem spoilt_t : ∀ (fuel : Nat) {n : Nat} {d : D} {a b : Int}, n < fuel → c ≤ 5 → Th c n d → BagOk a b → ∃ r a' b', F__law_spoilt fuel (bagD a b) [d] = some (false, r, bagD a' b') ∧ BagOk a' b' ∧ Th (c + 1) (n + 3) r
  | 0, _, _, _, _, h, _, _, _ => by omega
  | fuel + 1, n, d, a, b, h, hc, t, ok => by
    show ∃ r a' b', runB 6 (f__law_spoilt (F__law_spoilt fuel)) (bagD a b) [d] = some (false, r, bagD a' b') ∧ BagOk a' b' ∧ Th (c + 1) (n + 3) r
    refine spoilt_step hc t ok fun e m hm te a b ok => ?_
    obtain ⟨r, a', b', e, ok', t'⟩ := spoilt_t fuel (n := m) (by omega) hc te ok
    exact ⟨false, r, a', b', e, ok', t'⟩
end
end Px.S

set_option Elab.async false
set_option linter.all false
set_option maxRecDepth 100000
set_option maxHeartbeats 4000000
/-! MT11: the law's turns: any thing, and three things spoilt again and again -/
namespace Px.S
open PySem L2 Px
def stQ (ns : List Int) (k : Nat) (a b : Int) (bs : List D) (v4 v5 v6 v7 v8 v9 v10 v11 v12 v13 : Option Sl) : S :=
  [some (.sh, .scr ns), some (.sh, .int k), some (.ow, bagD a b), some (.sh, .tup bs), v4, v5, v6, v7, v8, v9, v10, v11, v12, v13, none, none]
theorem ne_bl {f g : F} {s : S} {x : Bool} (h1 : f s = some (.bl x, s)) (h2 : g s = some (.bl x, s)) : bT (eOpP gNe (pE f) (pE g)) s = some (false, s) := by
  have o : okD (.bl x) = true := (Pl.bl (n := 0) x).ok
  have e : eqD (.bl x) (.bl x) = true := (Pl.bl (n := 0) x).eq
  simp only [bT, eOpP, pE, h1, h2, Option.bind_some, PR.get, gNe, o, e, Bool.and_self, if_true]
  rfl
section
variable {ns : List Int} {k : Nat} {bs : List D} {c n : Nat} {a b : Int} {v4 v5 v6 v7 v8 v9 v10 v11 v12 v13 : Option Sl}
theorem law2_turn {d : D} (hc : c ≤ 6) (hn : n ≤ 60) (t : Th c n d) : L_law_2 (stQ ns k a b bs v4 v5 v6 v7 v8 v9 v10 (some (.sh, d)) v12 v13) = some (.nx (stQ ns k a b bs v4 v5 v6 v7 v8 v9 v10 (some (.sh, d)) v12 v13)) := by
  let s0 : S := stQ ns k a b bs v4 v5 v6 v7 v8 v9 v10 (some (.sh, d)) v12 v13
  have c1 : eCall F_are_tubs (aCons (eVar 11) aNil) s0 = some (.bl (tubsB d), s0) := call_one rfl (are_tubs_t hc t)
  have c2 : eCall F__law_are_tubs (aCons (eVar 11) aNil) s0 = some (.bl (tubsB d), s0) := call_one rfl (lare_tubs_t hc hn t)
  have c3 : eCall F_is_weather (aCons (eVar 3) (aCons (eVar 11) aNil)) s0 = some (.bl (weatherT bs.length d), s0) := call_two rfl rfl (weather_t hc t)
  have c4 : eCall F__law_is_weather (aCons (eVar 3) (aCons (eVar 11) aNil)) s0 = some (.bl (weatherT bs.length d), s0) := call_two rfl rfl (lweather_t hc hn t)
  have c5 : eCall F_is_beginning (aCons (eVar 3) (aCons (eVar 11) aNil)) s0 = some (.bl (beginT bs.length d), s0) := call_two rfl rfl (beginning_t hc t)
  have c6 : eCall F__law_is_beginning (aCons (eVar 3) (aCons (eVar 11) aNil)) s0 = some (.bl (beginT bs.length d), s0) := call_two rfl rfl (lbeginning_t hc t)
  unfold L_law_2
  show sSeq _ _ s0 = _
  have p1 : sIf (bOr (bT (eOpP gNe (pE (eCall F_are_tubs (aCons (eVar 11) aNil))) (pE (eCall F__law_are_tubs (aCons (eVar 11) aNil))))) (bT (eOpP gNe (pE (eCall F_is_weather (aCons (eVar 3) (aCons (eVar 11) aNil)))) (pE (eCall F__law_is_weather (aCons (eVar 3) (aCons (eVar 11) aNil))))))) (sRet (eC (.bl false))) sNil s0 = some (.nx s0) := by
    refine (if_no (s1 := s0) ?_).trans rfl
    simp only [bOr, ne_bl c1 c2, Option.bind_some]
    exact ne_bl c3 c4
  rw [seq_nx p1]
  exact (if_no (ne_bl c5 c6)).trans rfl
theorem law2_loop (hc : c ≤ 6) (hn : n ≤ 60) : ∀ (ds : List D) (v11 : Option Sl), (v11 = none ∨ ∃ w, v11 = some (.sh, w)) → (∀ d ∈ ds, Th c n d) →
    ∃ v11', (v11' = none ∨ ∃ w, v11' = some (.sh, w)) ∧ loopD (hName 11) L_law_2 ds (stQ ns k a b bs v4 v5 v6 v7 v8 v9 v10 v11 v12 v13) = some (.nx (stQ ns k a b bs v4 v5 v6 v7 v8 v9 v10 v11' v12 v13))
  | [], v11, hv, _ => ⟨v11, hv, rfl⟩
  | d :: ds, v11, hv, hh => by
    obtain ⟨v', hv', e⟩ := law2_loop hc hn ds (some (.sh, d)) (.inr ⟨d, rfl⟩) fun x hx => hh x (.tail _ hx)
    refine ⟨v', hv', ?_⟩
    rw [← e]
    exact loop_cons rfl (law2_turn hc hn (hh d (.head _)))
/-! ### three things -/
theorem told_ok {x y z : Bool} : okD (.lst [.bl x, .bl y, .bl z]) = true := (Pl.lst (n := 0) (ds := [.bl x, .bl y, .bl z]) (by
  intro d hd; rcases mem_three hd with rfl | rfl | rfl <;> exact .bl _)).ok
theorem told_eq {x y z : Bool} : eqD (.lst [.bl x, .bl y, .bl z]) (.lst [.bl x, .bl y, .bl z]) = true := (Pl.lst (n := 0) (ds := [.bl x, .bl y, .bl z]) (by
  intro d hd; rcases mem_three hd with rfl | rfl | rfl <;> exact .bl _)).eq
theorem law1_turn {d1 d2 d3 : D} (hc : c ≤ 5) (hn : n < 30) (ok : BagOk a b) (hv : v11 = none ∨ ∃ w, v11 = some (.sh, w)) (t1 : Th c n d1) (t2 : Th c n d2) (t3 : Th c n d3) :
    ∃ a' b' e1 e2 e3 v13', L_law_1 (stQ ns k a b bs (some (.sh, d1)) (some (.sh, d2)) (some (.sh, d3)) v7 v8 v9 v10 v11 v12 v13) = some (.nx (stQ ns k a' b' bs (some (.sh, e1)) (some (.sh, e2)) (some (.sh, e3)) v7 v8 v9 v10 v11 v12 v13')) ∧ BagOk a' b' ∧ Th (c + 1) (n + 3) e1 ∧ Th (c + 1) (n + 3) e2 ∧ Th (c + 1) (n + 3) e3 := by
  obtain ⟨r1, a1, b1, q1, ok1, u1⟩ := spoilt_t 30 hn hc t1 ok
  obtain ⟨r2, a2, b2, q2, ok2, u2⟩ := spoilt_t 30 hn hc t2 ok1
  obtain ⟨r3, a3, b3, q3, ok3, u3⟩ := spoilt_t 30 hn hc t3 ok2
  let x := tubsB d1
  let y := weatherT bs.length d2
  let z := beginT bs.length d3
  refine ⟨a3, b3, r1, r2, r3, some (.sh, .lst [.bl x, .bl y, .bl z]), ?_, ok3, u1, u2, u3⟩
  let s0 : S := stQ ns k a b bs (some (.sh, d1)) (some (.sh, d2)) (some (.sh, d3)) v7 v8 v9 v10 v11 v12 v13
  have c1 : eCall F_are_tubs (aCons (eVar 4) aNil) s0 = some (.bl x, s0) := call_one rfl (are_tubs_t (by omega) t1)
  have c3 : eCall F_is_weather (aCons (eVar 3) (aCons (eVar 5) aNil)) s0 = some (.bl y, s0) := call_two rfl rfl (weather_t (by omega) t2)
  have c5 : eCall F_is_beginning (aCons (eVar 3) (aCons (eVar 6) aNil)) s0 = some (.bl z, s0) := call_two rfl rfl (beginning_t (by omega) t3)
  let s1 : S := stQ ns k a b bs (some (.sh, d1)) (some (.sh, d2)) (some (.sh, d3)) v7 v8 v9 v10 v11 v12 (some (.ow, .lst [.bl x, .bl y, .bl z]))
  let s2 : S := stQ ns k a b bs (some (.sh, d1)) (some (.sh, d2)) (some (.sh, d3)) v7 v8 v9 v10 v11 v12 (some (.sh, .lst [.bl x, .bl y, .bl z]))
  have p1 : sSetO 13 (eLst (aCons (eCall F_are_tubs (aCons (eVar 4) aNil)) (aCons (eCall F_is_weather (aCons (eVar 3) (aCons (eVar 5) aNil))) (aCons (eCall F_is_beginning (aCons (eVar 3) (aCons (eVar 6) aNil))) aNil)))) s0 = some (.nx s1) := by
    simp only [sSetO, eLst, aCons, aNil, c1, c3, c5, Option.bind_some]
    rfl
  have lc : eLc (iSeq (eVar 13)) (hName 15) (bNot (bT (eB1 (gIsL "bool") (pVar 15)))) (eVar 15) [15] s1 = some (.lst [], s2) := by
    simp [s1, s2, stQ]
  have p2 : sIf (bT (eOpP gNe (pE (eLc (iSeq (eVar 13)) (hName 15) (bNot (bT (eB1 (gIsL "bool") (pVar 15)))) (eVar 15) [15])) (pE (eLst aNil)))) (sRet (eC (.bl false))) sNil s1 = some (.nx s2) := by
    refine (if_no (s1 := s2) ?_).trans rfl
    have o2 : okD (.lst []) = true := (Pl.lst (n := 0) (ds := []) (by simp)).ok
    have hnil : eLst aNil s2 = some (.lst [], s2) := rfl
    simp only [bT, eOpP, pE, lc, hnil, Option.bind_some, PR.get, gNe, o2, eqD_nil, Bool.and_self, if_true]
    rfl
  have c2 : eCall F__law_are_tubs (aCons (eVar 4) aNil) s2 = some (.bl x, s2) := call_one rfl (lare_tubs_t (by omega) (by omega) t1)
  have c4 : eCall F__law_is_weather (aCons (eVar 3) (aCons (eVar 5) aNil)) s2 = some (.bl y, s2) := call_two rfl rfl (lweather_t (by omega) (by omega) t2)
  have c6 : eCall F__law_is_beginning (aCons (eVar 3) (aCons (eVar 6) aNil)) s2 = some (.bl z, s2) := call_two rfl rfl (lbeginning_t (by omega) t3)
  have p3 : sIf (bT (eOpP gNe (pVar 13) (pE (eLst (aCons (eCall F__law_are_tubs (aCons (eVar 4) aNil)) (aCons (eCall F__law_is_weather (aCons (eVar 3) (aCons (eVar 5) aNil))) (aCons (eCall F__law_is_beginning (aCons (eVar 3) (aCons (eVar 6) aNil))) aNil))))))) (sRet (eC (.bl false))) sNil s2 = some (.nx s2) := by
    refine (if_no (s1 := s2) ?_).trans rfl
    have pv : pVar 13 s2 = some (.dat (.lst [.bl x, .bl y, .bl z]), s2) := rfl
    have le : eLst (aCons (eCall F__law_are_tubs (aCons (eVar 4) aNil)) (aCons (eCall F__law_is_weather (aCons (eVar 3) (aCons (eVar 5) aNil))) (aCons (eCall F__law_is_beginning (aCons (eVar 3) (aCons (eVar 6) aNil))) aNil))) s2 = some (.lst [.bl x, .bl y, .bl z], s2) := by
      simp only [eLst, aCons, aNil, c2, c4, c6, Option.bind_some]
      rfl
    simp only [bT, eOpP, pE, pv, le, Option.bind_some, PR.get, gNe, told_ok, told_eq, Bool.and_self, if_true]
    rfl
  unfold L_law_1
  show sSeq _ _ s0 = _
  rw [seq_nx p1, seq_nx p2, seq_nx p3]
  -- the three are spoilt
  have lc2 : eLc (iSeq (eLst (aCons (eVar 4) (aCons (eVar 5) (aCons (eVar 6) aNil))))) (hName 11) bYes (eCallB (F__law_spoilt 30) 2 (aCons (eVar 11) aNil)) [11] s2 = some (.lst [r1, r2, r3], stQ ns k a3 b3 bs (some (.sh, d1)) (some (.sh, d2)) (some (.sh, d3)) v7 v8 v9 v10 v11 v12 (some (.sh, .lst [.bl x, .bl y, .bl z]))) := by
    have sm0 : small 0 = true := small_of (by omega)
    have sm1 : small 1 = true := small_of (by omega)
    have sm2 : small 2 = true := small_of (by omega)
    rcases hv with rfl | ⟨w, rfl⟩
    · simp [s2, stQ, q1, q2, q3, sm0, sm1, sm2]
    · simp [s2, stQ, q1, q2, q3, sm0, sm1, sm2]
  simp only [sAsg, lc2, Option.bind_some]
  rfl
theorem law1_loop {d1 d2 d3 : D} (ok : BagOk a b) (hv : v11 = none ∨ ∃ w, v11 = some (.sh, w)) (t1 : Th 0 5 d1) (t2 : Th 0 5 d2) (t3 : Th 0 5 d3) :
    ∃ s', loopD (hName 12) L_law_1 (rng 0 6) (stQ ns k a b bs (some (.sh, d1)) (some (.sh, d2)) (some (.sh, d3)) v7 v8 v9 v10 v11 v12 v13) = some (.nx s') ∧ ∃ a' b' v4 v5 v6 v12 v13, s' = stQ ns k a' b' bs v4 v5 v6 v7 v8 v9 v10 v11 v12 v13 := by
  obtain ⟨s', e, a', b', e1, e2, e3, v12', v13', rfl, ok', _⟩ := loop_inv0 (g := hName 12) (fb := L_law_1)
    (fun i s => ∃ a b d1 d2 d3 v12 v13, s = stQ ns k a b bs (some (.sh, d1)) (some (.sh, d2)) (some (.sh, d3)) v7 v8 v9 v10 v11 v12 v13 ∧ BagOk a b ∧ Th i (5 + 3 * i) d1 ∧ Th i (5 + 3 * i) d2 ∧ Th i (5 + 3 * i) d3)
    (rng 0 6) (stQ ns k a b bs (some (.sh, d1)) (some (.sh, d2)) (some (.sh, d3)) v7 v8 v9 v10 v11 v12 v13)
    ⟨a, b, d1, d2, d3, v12, v13, rfl, ok, t1, t2, t3⟩ fun i d s hi ⟨a, b, d1, d2, d3, v12, v13, hs, ok, t1, t2, t3⟩ => by
      subst hs
      have hi2 := (rng_get hi).2
      obtain ⟨a', b', e1, e2, e3, v13', e, ok', u1, u2, u3⟩ := law1_turn (ns := ns) (k := k) (bs := bs) (v7 := v7) (v8 := v8) (v9 := v9) (v10 := v10) (v12 := some (.sh, d)) (v13 := v13) (c := i) (n := 5 + 3 * i) (by omega) (by omega) ok hv t1 t2 t3
      exact ⟨_, _, rfl, e, a', b', e1, e2, e3, _, v13', rfl, ok', u1, u2, u3⟩
  exact ⟨_, e, a', b', _, _, _, _, _, rfl⟩
end
end Px.S

set_option Elab.async false
set_option linter.all false
set_option maxRecDepth 100000
set_option maxHeartbeats 4000000
/-! the law k01: one cell -/
namespace Px.S
open PySem L2 Px
theorem cut_mem {ds : List D} {lo hi : Option Int} {d : D} (h : d ∈ cutD ds lo hi) : d ∈ ds := by
  unfold cutD at h
  exact List.mem_of_mem_drop (List.mem_of_mem_take h)
theorem cut_len (ds : List D) (lo hi : Option Int) : (cutD ds lo hi).length ≤ ds.length := by
  unfold cutD
  rw [List.length_take, List.length_drop]; omega
theorem th_int {n : Nat} {i : Int} (h0 : -10000 ≤ i) (h1 : i ≤ 10000) : Th 0 n (.int i) := .sm i (by
  have : (10000 : Nat) < 2 ^ 110 := by decide
  generalize 2 ^ 110 = z at *
  omega)
theorem th_named {n : Nat} {x : Str} (h : Named x) : Th 0 n (.str x) := by
  rcases h with rfl | rfl | rfl <;> exact .s0 _ (by decide)
theorem th_tub {ts : List Tub} (ht : TubsOk ts) (hn : ∀ t ∈ ts, Named t.1) {n : Nat} {t : Tub} (h : t ∈ ts) : Th 0 (n + 3) (tD t) := by
  obtain ⟨j, hj, e⟩ := List.getElem_of_mem h
  have tk := ht.tub j t (by rw [List.getElem?_eq_getElem hj, e])
  refine .tup _ (by simp) fun d hd => ?_
  rcases mem_three hd with rfl | rfl | rfl
  · exact th_named (hn t h)
  · exact th_int (by have := tk.g0; omega) (by have := tk.g1; omega)
  · refine .tup _ (by simp; have := tk.few; omega) fun d hd => ?_
    obtain ⟨x, hx, rfl⟩ := List.mem_map.mp hd
    have hk := tk.holes x hx
    refine .tup _ (by simp) fun d hd => ?_
    rcases mem_three hd with rfl | rfl | rfl
    · exact th_int (by have := hk.h0; omega) (by have := hk.h1; omega)
    · exact th_int (by have := hk.r0; omega) (by have := hk.r1; omega)
    · rcases hk.into with q | q
      · rw [q]; exact .s0 _ (by decide)
      · have q2 := List.mem_of_mem_drop q
        obtain ⟨u, hu, e⟩ := List.mem_map.mp q2
        rw [← e]; exact th_named (hn u hu)
theorem th_row {wt : Wt} {m : Nat} (hw : WtOk wt m) (hm : m ≤ 3) {n : Nat} {w : Int × List Int} (h : w ∈ wt) : Th 0 (n + 2) (wD w) := by
  refine .tup _ (by simp) fun d hd => ?_
  rcases mem_two hd with rfl | rfl
  · exact th_int (by have := hw.hour w h; omega) (by have := hw.hour w h; omega)
  · refine .tup _ (by simp; have := hw.len w h; omega) fun d hd => ?_
    obtain ⟨r, hr, rfl⟩ := List.mem_map.mp hd
    exact th_int (by have := hw.rate w h r hr; omega) (by have := hw.rate w h r hr; omega)
theorem th_q {n : Nat} {q : Rat} (h : Sm1 q) : Th 0 (n + 1) (qD q) := by
  obtain ⟨t, d, t0, t1, d0, d1, rfl⟩ := h
  refine .tup _ (by simp) fun x hx => ?_
  have e1 : (mkRat t d).num.natAbs ≤ 1000 := by
    rw [Rat.num_mkRat, if_neg (by omega), Int.natAbs_ediv_of_dvd (Int.ofNat_dvd_left.mpr (Nat.gcd_dvd_right _ _))]
    exact Nat.le_trans (Nat.div_le_self _ _) (by omega)
  have e2 : (mkRat t d).den ≤ 4 := by
    rw [Rat.den_mkRat, if_neg (by omega)]
    exact Nat.le_trans (Nat.div_le_self _ _) (by omega)
  rcases mem_two hx with rfl | rfl
  · exact th_int (by omega) (by omega)
  · exact th_int (by omega) (by omega)
def fourD : List D := [.tup [.str "a", .int 1, .tup []], .tup [.str "b", .int 1, .tup []], .tup [.str "c", .int 1, .tup []], .tup [.str "d", .int 1, .tup []]]
theorem th_four {n : Nat} {d : D} (h : d ∈ fourD) : Th 0 (n + 2) d := by
  have hh : ∃ x : Str, d = .tup [.str x, .int 1, .tup []] ∧ x.length ≤ 256 := by
    simp only [fourD, List.mem_cons, List.not_mem_nil, or_false] at h
    rcases h with rfl | rfl | rfl | rfl
    · exact ⟨"a", rfl, by decide⟩
    · exact ⟨"b", rfl, by decide⟩
    · exact ⟨"c", rfl, by decide⟩
    · exact ⟨"d", rfl, by decide⟩
  obtain ⟨x, rfl, hx⟩ := hh
  refine .tup _ (by simp) fun d hd => ?_
  rcases mem_three hd with rfl | rfl | rfl
  · exact .s0 _ hx
  · exact th_int (by omega) (by omega)
  · exact .tup _ (by simp) (by simp)
def edgeD (g h r x : D) : List D := [.tup [.str "ann", g, .tup [.tup [h, r, x]]], .tup [.str "bo", .int 1, .tup []]]
theorem th_edge {n : Nat} {g h r x : D} (tg : ∀ n, Th 0 n g) (th : ∀ n, Th 0 n h) (tr : ∀ n, Th 0 n r) (tx : ∀ n, Th 0 n x) : Th 0 (n + 4) (.tup (edgeD g h r x)) := by
  refine .tup _ (by simp [edgeD]) fun d hd => ?_
  rcases mem_two hd with rfl | rfl
  · refine .tup _ (by simp) fun d hd => ?_
    rcases mem_three hd with rfl | rfl | rfl
    · exact .s0 _ (by decide)
    · exact tg _
    · refine .tup _ (by simp) fun d hd => ?_
      have : d = .tup [h, r, x] := by simpa using hd
      rw [this]
      refine .tup _ (by simp) fun d hd => ?_
      rcases mem_three hd with rfl | rfl | rfl
      · exact th _
      · exact tr _
      · exact tx _
  · refine .tup _ (by simp) fun d hd => ?_
    rcases mem_three hd with rfl | rfl | rfl
    · exact .s0 _ (by decide)
    · exact th_int (by omega) (by omega)
    · exact .tup _ (by simp) (by simp)
theorem turn01 {ns : List Int} {k : Nat} (hk : k < 1000) {v2 v3 v4 v5 v6 v7 v8 v9 v10 v11 v12 v13 : Option Sl} (hv : v11 = none ∨ ∃ w, v11 = some (.sh, w)) :
    ∃ w2 w3 w4 w5 w6 w7 w8 w9 w10 w11 w12 w13, (w11 = none ∨ ∃ w, w11 = some (.sh, w)) ∧ L_law_3 [some (.sh, .scr ns), some (.sh, .int k), v2, v3, v4, v5, v6, v7, v8, v9, v10, v11, v12, v13, none, none] = some (.nx [some (.sh, .scr ns), some (.sh, .int k), w2, w3, w4, w5, w6, w7, w8, w9, w10, w11, w12, w13, none, none]) := by
  obtain ⟨a, b, e1, ok⟩ := bag_ok ns k hk
  obtain ⟨ts, a1, b1, e2, ok1, ht, hn⟩ := tubs_ok2 ok
  obtain ⟨wt, a2, b2, e3, ok2, hw, _⟩ := weather_ok ok1 ht
  obtain ⟨bg, a3, b3, e4, ok3, hb, hs⟩ := beginning_ok1 ok2 ht
  obtain ⟨g1, a4, b4, e5, ok4, m1⟩ := of_ok ok3 [.int 0, .int 1000, .int 1001] (by simp) (by simp)
  obtain ⟨g2, a5, b5, e6, ok5, m2⟩ := of_ok ok4 [.int 0, .int 1, .int 100, .int 101] (by simp) (by simp)
  obtain ⟨g3, a6, b6, e7, ok6, m3⟩ := of_ok ok5 [.str "", .str "ann", .str "bo"] (by simp) (by simp)
  obtain ⟨g4, a7, b7, e8, ok7, m4⟩ := of_ok ok6 [.int 0, .int 1, .int 1000, .int 1001] (by simp) (by simp)
  obtain ⟨od, a8, b8, e9, ok8, tod⟩ := odd_t ok7
  have t1 : ∀ n, Th 0 n g1 := fun n => by
    rcases mem_three m1 with rfl | rfl | rfl <;> exact th_int (by omega) (by omega)
  have t2 : ∀ n, Th 0 n g2 := fun n => by
    rcases mem_four m2 with rfl | rfl | rfl | rfl <;> exact th_int (by omega) (by omega)
  have t3 : ∀ n, Th 0 n g3 := fun n => by
    rcases mem_three m3 with rfl | rfl | rfl <;> exact .s0 _ (by decide)
  have t4 : ∀ n, Th 0 n g4 := fun n => by
    rcases mem_four m4 with rfl | rfl | rfl | rfl <;> exact th_int (by omega) (by omega)
  let bs : List D := ts.map tD
  let ws : List D := wt.map wD
  have bsl : bs.length ≤ 3 := by simp [bs]; exact ht.few
  have wsl : ws.length ≤ 4 := by simp [ws]; exact hw.few
  have bst : ∀ d ∈ bs, Th 0 4 d := fun d hd => by
    obtain ⟨t, h, rfl⟩ := List.mem_map.mp hd
    exact th_tub (n := 1) ht hn h
  have wst : ∀ d ∈ ws, Th 0 4 d := fun d hd => by
    obtain ⟨w, h, rfl⟩ := List.mem_map.mp hd
    exact th_row (n := 2) hw ht.few h
  let s0 : S := [some (.sh, .scr ns), some (.sh, .int k), v2, v3, v4, v5, v6, v7, v8, v9, v10, v11, v12, v13, none, none]
  let s1 : S := [some (.sh, .scr ns), some (.sh, .int k), some (.ow, bagD a b), v3, v4, v5, v6, v7, v8, v9, v10, v11, v12, v13, none, none]
  let s2 : S := stQ ns k a1 b1 bs v4 v5 v6 v7 v8 v9 v10 v11 v12 v13
  let T : Option Sl := some (.sh, .tup bs)
  let W : Option Sl := some (.sh, .tup ws)
  let B : Option Sl := some (.sh, .tup (bg.map qD))
  let s3 : S := stQ ns k a3 b3 bs T W B v7 v8 v9 v10 v11 v12 v13
  let s4 : S := stQ ns k a6 b6 bs T W B (some (.sh, .tup [g1, g2, g3])) v8 v9 v10 v11 v12 v13
  let s5 : S := stQ ns k a7 b7 bs T W B (some (.sh, .tup [g1, g2, g3])) (some (.sh, .tup (edgeD g4 g1 g2 g3))) v9 v10 v11 v12 v13
  let s6 : S := stQ ns k a7 b7 bs T W B (some (.sh, .tup [g1, g2, g3])) (some (.sh, .tup (edgeD g4 g1 g2 g3))) (some (.sh, .tup fourD)) v10 v11 v12 v13
  let l : List D := [.tup fourD, .tup (cutD fourD none (some 3)), .tup (edgeD g4 g1 g2 g3), .tup bs.reverse, .tup (bs ++ cutD bs (some (-1)) none), .lst bs, .tup (ws ++ ws), .tup (cutD ws (some 1) none), .tup (List.replicate 5 (ws.take 1)).flatten]
  let s7 : S := stQ ns k a7 b7 bs T W B (some (.sh, .tup [g1, g2, g3])) (some (.sh, .tup (edgeD g4 g1 g2 g3))) (some (.sh, .tup fourD)) (some (.ow, .lst l)) v11 v12 v13
  let s8 : S := stQ ns k a8 b8 bs T W B (some (.sh, .tup [g1, g2, g3])) (some (.sh, .tup (edgeD g4 g1 g2 g3))) (some (.sh, .tup fourD)) (some (.sh, .lst l)) v11 v12 v13
  have p1 : sSetO 2 (eCallO F__law_bag (aCons (eVar 0) (aCons (eVar 1) aNil))) s0 = some (.nx s1) := by
    simp [e1, s0, s1]
  have p2 : sSet 3 (eCallB F__law_tubs 2 (aCons (eC (.int 3)) aNil)) s1 = some (.nx s2) := by
    simp [e2, s1, s2, stQ, tubsD, bs]
  have p3 : sPar3 4 5 6 (eVar 3) (eCallB F__law_weather 2 (aCons (eVar 3) aNil)) (eCallB F__law_beginning 2 (aCons (eVar 3) aNil)) s2 = some (.nx s3) := by
    have e3' : F__law_weather (bagD a1 b1) [.tup bs] = some (false, .tup ws, bagD a2 b2) := e3
    have e4' : F__law_beginning (bagD a2 b2) [.tup bs] = some (false, .tup (bg.map qD), bagD a3 b3) := e4
    simp [e3', e4', s2, s3, stQ, T, W, B]
  have p4 : sSet 7 (eTup (aCons (eCallB F__law_of 2 (aCons (eLst (aCons (eC (.int 0)) (aCons (eC (.int 1000)) (aCons (eC (.int 1001)) aNil)))) aNil)) (aCons (eCallB F__law_of 2 (aCons (eLst (aCons (eC (.int 0)) (aCons (eC (.int 1)) (aCons (eC (.int 100)) (aCons (eC (.int 101)) aNil))))) aNil)) (aCons (eCallB F__law_of 2 (aCons (eLst (aCons (eC (.str "")) (aCons (eC (.str "ann")) (aCons (eC (.str "bo")) aNil)))) aNil)) aNil)))) s3 = some (.nx s4) := by
    simp (disch := omega) [e5, e6, e7, s3, s4, stQ, small_of]
  have p5 : sSet 8 (eTup (aCons (eTup (aCons (eC (.str "ann")) (aCons (eCallB F__law_of 2 (aCons (eLst (aCons (eC (.int 0)) (aCons (eC (.int 1)) (aCons (eC (.int 1000)) (aCons (eC (.int 1001)) aNil))))) aNil)) (aCons (eTup (aCons (eVar 7) aNil)) aNil)))) (aCons (eTup (aCons (eC (.str "bo")) (aCons (eC (.int 1)) (aCons (eTup aNil) aNil)))) aNil))) s4 = some (.nx s5) := by
    simp (disch := omega) [e8, s4, s5, stQ, small_of, edgeD]
  have p6 : sSet 9 (eB1 gTuple (pE (eLc (iSeq (eLst (aCons (eC (.str "a")) (aCons (eC (.str "b")) (aCons (eC (.str "c")) (aCons (eC (.str "d")) aNil)))))) (hName 14) bYes (eTup (aCons (eVar 14) (aCons (eC (.int 1)) (aCons (eTup aNil) aNil)))) [14]))) s5 = some (.nx s6) := by
    rfl
  have wne : ws.take 1 ≠ [] := by
    obtain ⟨r, rest, e⟩ := hw.zero
    simp [ws, e]
  have ct : cutD ws none (some 1) = ws.take 1 := cut_take ws 1
  have wl1 : (ws.take 1).length ≤ 1000 := by rw [List.length_take]; omega
  have p7 : sSetO 10 (eLst (aCons (eVar 9) (aCons (eSl (pVar 9) oNone (oSome (eC (.int 3)))) (aCons (eVar 8) (aCons (eB1 gRev (pVar 3)) (aCons (eOp gCatT (eVar 3) (eSl (pVar 3) (oSome (eUn gNeg (eC (.int 1)))) oNone)) (aCons (eB1 gList (pVar 3)) (aCons (eOp gCatT (eVar 5) (eVar 5)) (aCons (eSl (pVar 5) (oSome (eC (.int 1))) oNone) (aCons (eOp gRepT (eSl (pVar 5) oNone (oSome (eC (.int 1)))) (eC (.int 5))) aNil)))))))))) s6 = some (.nx s7) := by
    have l1 := cut_len bs (some (-1)) none
    have sm1 : small (bs.length + (cutD bs (some (-1)) none).length) = true := small_of (by omega)
    have sm2 : small (ws.length + ws.length) = true := small_of (by omega)
    have f1 : eVar 9 s6 = some (.tup fourD, s6) := rfl
    have f2 : eSl (pVar 9) oNone (oSome (eC (.int 3))) s6 = some (.tup (cutD fourD none (some 3)), s6) := rfl
    have f3 : eVar 8 s6 = some (.tup (edgeD g4 g1 g2 g3), s6) := rfl
    have f4 : eB1 gRev (pVar 3) s6 = some (.tup bs.reverse, s6) := rfl
    have h1 : eVar 3 s6 = some (.tup bs, s6) := rfl
    have h2 : eSl (pVar 3) (oSome (eUn gNeg (eC (.int 1)))) oNone s6 = some (.tup (cutD bs (some (-1)) none), s6) := rfl
    have f5 : eOp gCatT (eVar 3) (eSl (pVar 3) (oSome (eUn gNeg (eC (.int 1)))) oNone) s6 = some (.tup (bs ++ cutD bs (some (-1)) none), s6) := by
      simp only [eOp, h1, h2, Option.bind_some, gCatT, sm1, if_true]
    have f6 : eB1 gList (pVar 3) s6 = some (.lst bs, s6) := rfl
    have h3 : eVar 5 s6 = some (.tup ws, s6) := rfl
    have f7 : eOp gCatT (eVar 5) (eVar 5) s6 = some (.tup (ws ++ ws), s6) := by
      simp only [eOp, h3, Option.bind_some, gCatT, sm2, if_true]
    have f8 : eSl (pVar 5) (oSome (eC (.int 1))) oNone s6 = some (.tup (cutD ws (some 1) none), s6) := rfl
    have h4 : eSl (pVar 5) oNone (oSome (eC (.int 1))) s6 = some (.tup (ws.take 1), s6) := by
      rw [← ct]; rfl
    have h5 : eC (.int 5) s6 = some (.int 5, s6) := rfl
    have f9 : eOp gRepT (eSl (pVar 5) oNone (oSome (eC (.int 1)))) (eC (.int 5)) s6 = some (.tup (List.replicate 5 (ws.take 1)).flatten, s6) := by
      simp only [eOp, h4, h5, Option.bind_some, gRepT]
      rw [if_pos ⟨wne, wl1, by omega, by omega⟩]
      rfl
    simp only [sSetO, eLst, aCons, aNil, f1, f2, f3, f4, f5, f6, f7, f8, f9, Option.bind_some]
    rfl
  have p8 : iSeq (eOp gCatL (eVar 10) (eLst (aCons (eCallB F__law_odd 2 aNil) (aCons (eTup aNil) aNil)))) s7 = some (l ++ [od, .tup []], s8) := by
    have ll : l.length = 9 := rfl
    generalize hl : l = z at ll
    simp (disch := omega) [s7, s8, stQ, e9, hl, ll, small_of]
  have lt : ∀ d ∈ l ++ [od, .tup []], Th 0 5 d := by
    intro d hd
    rcases List.mem_append.mp hd with q | q
    · simp only [l, List.mem_cons, List.not_mem_nil, or_false] at q
      rcases q with rfl | rfl | rfl | rfl | rfl | rfl | rfl | rfl | rfl
      · exact .tup _ (by simp [fourD]) fun d hd => th_four (n := 2) hd
      · exact .tup _ (by have := cut_len fourD none (some 3); simp [fourD] at this ⊢; omega) fun d hd => th_four (n := 2) (cut_mem hd)
      · exact th_edge (n := 1) t4 t1 t2 t3
      · exact .tup _ (by simp; omega) fun d hd => bst d (List.mem_reverse.mp hd)
      · refine .tup _ (by have := cut_len bs (some (-1)) none; simp; omega) fun d hd => ?_
        rcases List.mem_append.mp hd with q | q
        · exact bst d q
        · exact bst d (cut_mem q)
      · exact .lst _ (by omega) bst
      · refine .tup _ (by simp; omega) fun d hd => ?_
        rcases List.mem_append.mp hd with q | q <;> exact wst d q
      · exact .tup _ (by have := cut_len ws (some 1) none; omega) fun d hd => wst d (cut_mem hd)
      · refine .tup _ ?_ fun d hd => ?_
        · have : (ws.take 1).length ≤ 1 := by rw [List.length_take]; omega
          generalize ws.take 1 = z at this
          simp [List.replicate]; omega
        · obtain ⟨y, hy, h2⟩ := List.mem_flatten.mp hd
          have : y = ws.take 1 := List.eq_of_mem_replicate hy
          rw [this] at h2
          exact wst d (List.mem_of_mem_take h2)
    · rcases mem_two q with rfl | rfl
      · exact tod.mono (by omega) (by omega)
      · exact .tup _ (by simp) (by simp)
  obtain ⟨v11', hv', p9⟩ := law2_loop (c := 0) (n := 5) (ns := ns) (k := k) (bs := bs) (a := a8) (b := b8) (v4 := T) (v5 := W) (v6 := B) (v7 := some (.sh, .tup [g1, g2, g3])) (v8 := some (.sh, .tup (edgeD g4 g1 g2 g3))) (v9 := some (.sh, .tup fourD)) (v10 := some (.sh, .lst l)) (v12 := v12) (v13 := v13) (by omega) (by omega) (l ++ [od, .tup []]) v11 hv lt
  have x1 : Th 0 5 (.tup bs) := .tup _ (by omega) bst
  have x2 : Th 0 5 (.tup ws) := .tup _ (by omega) wst
  have x3 : Th 0 5 (.tup (bg.map qD)) := .tup _ (by simp; have := ht.few; omega) fun d hd => by
    obtain ⟨q, hq, rfl⟩ := List.mem_map.mp hd
    exact th_q (n := 3) (hs q hq)
  obtain ⟨s', p10, a9, b9, u4, u5, u6, u12, u13, rfl⟩ := law1_loop (ns := ns) (k := k) (bs := bs) (a := a8) (b := b8) (v7 := some (.sh, .tup [g1, g2, g3])) (v8 := some (.sh, .tup (edgeD g4 g1 g2 g3))) (v9 := some (.sh, .tup fourD)) (v10 := some (.sh, .lst l)) (v12 := v12) (v13 := v13) ok8 hv' x1 x2 x3
  have p10i : iRng1 (eC (.int 6)) (stQ ns k a8 b8 bs T W B (some (.sh, .tup [g1, g2, g3])) (some (.sh, .tup (edgeD g4 g1 g2 g3))) (some (.sh, .tup fourD)) (some (.sh, .lst l)) v11' v12 v13) = some (rng 0 6, stQ ns k a8 b8 bs T W B (some (.sh, .tup [g1, g2, g3])) (some (.sh, .tup (edgeD g4 g1 g2 g3))) (some (.sh, .tup fourD)) (some (.sh, .lst l)) v11' v12 v13) := rng1_of (m := 6) rfl (by omega)
  unfold L_law_3
  exact ⟨_, _, _, _, _, _, _, _, _, _, _, _, hv', (seq_nx p1).trans ((seq_nx p2).trans ((seq_nx p3).trans ((seq_nx p4).trans ((seq_nx p5).trans ((seq_nx p6).trans ((seq_nx p7).trans ((seq_nx ((for_of p8).trans p9)).trans ((for_of p10i).trans p10))))))))⟩
theorem law_true (ns : List Int) (h : ns.length ≤ 63) : F_law [.scr ns] = some (false, .bl true) := by
  have hm : ∃ m : Nat, m ≤ 31 ∧ eAdd (eC (.int 1)) (eMin (eB1 gLen (pVar 0)) (eC (.int 30))) (init 16 [.scr ns]) = some (.int m, init 16 [.scr ns]) := by
    refine ⟨1 + min ns.length 30, by omega, ?_⟩
    simp
    omega
  obtain ⟨m, hm9, em⟩ := hm
  have p1 := rng1_of em (by omega)
  obtain ⟨s', p2, w1, w2, w3, w4, w5, w6, w7, w8, w9, w10, w11, w12, w13, _, rfl⟩ := loop_inv0 (g := hName 1) (fb := L_law_3) (fun i s => ∃ w1 w2 w3 w4 w5 w6 w7 w8 w9 w10 w11 w12 w13, (w11 = none ∨ ∃ w, w11 = some (.sh, w)) ∧ s = [some (.sh, .scr ns), w1, w2, w3, w4, w5, w6, w7, w8, w9, w10, w11, w12, w13, none, none]) (rng 0 m) (init 16 [.scr ns]) ⟨none, none, none, none, none, none, none, none, none, none, none, none, none, .inl rfl, rfl⟩ (fun i d s hi ⟨w1, w2, w3, w4, w5, w6, w7, w8, w9, w10, w11, w12, w13, hv, hs⟩ => by
    subst hs
    obtain ⟨rfl, hin⟩ := rng_get hi
    rw [Int.zero_add]
    obtain ⟨u2, u3, u4, u5, u6, u7, u8, u9, u10, u11, u12, u13, hv', e⟩ := turn01 (ns := ns) (k := i) (by omega) (v2 := w2) (v3 := w3) (v4 := w4) (v5 := w5) (v6 := w6) (v7 := w7) (v8 := w8) (v9 := w9) (v10 := w10) (v12 := w12) (v13 := w13) hv
    exact ⟨_, _, rfl, e, _, _, _, _, _, _, _, _, _, _, _, _, _, hv', rfl⟩)
  unfold F_law f_law
  simp only [runF]
  rw [seq_nx ((for_of p1).trans p2)]
  rfl
end Px.S

set_option Elab.async false
set_option linter.all false
set_option maxRecDepth 100000
set_option maxHeartbeats 4000000
namespace Px.S
open PySem L2 Px
theorem all_mk {l : PySem.W.OpenLaw} {w : World} {K : PySem.W.Frag} {h : Heap} {mg : Str → Option Value} {fa : Addr} (X : K.In h) (G : h.Ns mainGlobals mg) (hfa : mg "law" = some (.ref fa))
    {f0 : Addr} {od0 an0 : Option Addr} {sl0 : Array (Option Value)} {oc0 kV0 dc0 pm0 cd0 ct0 : Value} (a0 : PySem.W.nsIn K mainGlobals "_law_bag" = some (some (.ref f0))) (l0 : K.lookup f0 = some ⟨oc0, od0, .func (PySem.W.fnOf "_law_bag" "_law_bag" (defArgs s__law_bag) (defBody s__law_bag) (defScope s__law_bag) .none kV0 dc0 pm0 an0 cd0 ct0), sl0⟩) (c0 : PySem.W.codeIn K cd0 "_law_bag" = true) (k0 : PySem.W.keepIn K (.ref f0) = true)
    {f1 : Addr} {od1 an1 : Option Addr} {sl1 : Array (Option Value)} {oc1 kV1 dc1 pm1 cd1 ct1 : Value} (a1 : PySem.W.nsIn K mainGlobals "_law_take" = some (some (.ref f1))) (l1 : K.lookup f1 = some ⟨oc1, od1, .func (PySem.W.fnOf "_law_take" "_law_take" (defArgs s__law_take) (defBody s__law_take) (defScope s__law_take) .none kV1 dc1 pm1 an1 cd1 ct1), sl1⟩) (c1 : PySem.W.codeIn K cd1 "_law_take" = true) (k1 : PySem.W.keepIn K (.ref f1) = true)
    {f2 : Addr} {od2 an2 : Option Addr} {sl2 : Array (Option Value)} {oc2 kV2 dc2 pm2 cd2 ct2 : Value} (a2 : PySem.W.nsIn K mainGlobals "_law_of" = some (some (.ref f2))) (l2 : K.lookup f2 = some ⟨oc2, od2, .func (PySem.W.fnOf "_law_of" "_law_of" (defArgs s__law_of) (defBody s__law_of) (defScope s__law_of) .none kV2 dc2 pm2 an2 cd2 ct2), sl2⟩) (c2 : PySem.W.codeIn K cd2 "_law_of" = true) (k2 : PySem.W.keepIn K (.ref f2) = true)
    {f3 : Addr} {od3 an3 : Option Addr} {sl3 : Array (Option Value)} {oc3 kV3 dc3 pm3 cd3 ct3 : Value} (a3 : PySem.W.nsIn K mainGlobals "_law_tubs" = some (some (.ref f3))) (l3 : K.lookup f3 = some ⟨oc3, od3, .func (PySem.W.fnOf "_law_tubs" "_law_tubs" (defArgs s__law_tubs) (defBody s__law_tubs) (defScope s__law_tubs) .none kV3 dc3 pm3 an3 cd3 ct3), sl3⟩) (c3 : PySem.W.codeIn K cd3 "_law_tubs" = true) (k3 : PySem.W.keepIn K (.ref f3) = true)
    {f4 : Addr} {od4 an4 : Option Addr} {sl4 : Array (Option Value)} {oc4 kV4 dc4 pm4 cd4 ct4 : Value} (a4 : PySem.W.nsIn K mainGlobals "_law_rain" = some (some (.ref f4))) (l4 : K.lookup f4 = some ⟨oc4, od4, .func (PySem.W.fnOf "_law_rain" "_law_rain" (defArgs s__law_rain) (defBody s__law_rain) (defScope s__law_rain) .none kV4 dc4 pm4 an4 cd4 ct4), sl4⟩) (c4 : PySem.W.codeIn K cd4 "_law_rain" = true) (k4 : PySem.W.keepIn K (.ref f4) = true)
    {f5 : Addr} {od5 an5 : Option Addr} {sl5 : Array (Option Value)} {oc5 kV5 dc5 pm5 cd5 ct5 : Value} (a5 : PySem.W.nsIn K mainGlobals "_law_weather" = some (some (.ref f5))) (l5 : K.lookup f5 = some ⟨oc5, od5, .func (PySem.W.fnOf "_law_weather" "_law_weather" (defArgs s__law_weather) (defBody s__law_weather) (defScope s__law_weather) .none kV5 dc5 pm5 an5 cd5 ct5), sl5⟩) (c5 : PySem.W.codeIn K cd5 "_law_weather" = true) (k5 : PySem.W.keepIn K (.ref f5) = true)
    {f6 : Addr} {od6 an6 : Option Addr} {sl6 : Array (Option Value)} {oc6 kV6 dc6 pm6 cd6 ct6 : Value} (a6 : PySem.W.nsIn K mainGlobals "_law_lowest" = some (some (.ref f6))) (l6 : K.lookup f6 = some ⟨oc6, od6, .func (PySem.W.fnOf "_law_lowest" "_law_lowest" (defArgs s__law_lowest) (defBody s__law_lowest) (defScope s__law_lowest) .none kV6 dc6 pm6 an6 cd6 ct6), sl6⟩) (c6 : PySem.W.codeIn K cd6 "_law_lowest" = true) (k6 : PySem.W.keepIn K (.ref f6) = true)
    {f7 : Addr} {od7 an7 : Option Addr} {sl7 : Array (Option Value)} {oc7 kV7 dc7 pm7 cd7 ct7 : Value} (a7 : PySem.W.nsIn K mainGlobals "_law_part" = some (some (.ref f7))) (l7 : K.lookup f7 = some ⟨oc7, od7, .func (PySem.W.fnOf "_law_part" "_law_part" (defArgs s__law_part) (defBody s__law_part) (defScope s__law_part) .none kV7 dc7 pm7 an7 cd7 ct7), sl7⟩) (c7 : PySem.W.codeIn K cd7 "_law_part" = true) (k7 : PySem.W.keepIn K (.ref f7) = true)
    {f8 : Addr} {od8 an8 : Option Addr} {sl8 : Array (Option Value)} {oc8 kV8 dc8 pm8 cd8 ct8 : Value} (a8 : PySem.W.nsIn K mainGlobals "_law_beginning" = some (some (.ref f8))) (l8 : K.lookup f8 = some ⟨oc8, od8, .func (PySem.W.fnOf "_law_beginning" "_law_beginning" (defArgs s__law_beginning) (defBody s__law_beginning) (defScope s__law_beginning) .none kV8 dc8 pm8 an8 cd8 ct8), sl8⟩) (c8 : PySem.W.codeIn K cd8 "_law_beginning" = true) (k8 : PySem.W.keepIn K (.ref f8) = true)
    {f9 : Addr} {od9 an9 : Option Addr} {sl9 : Array (Option Value)} {oc9 kV9 dc9 pm9 cd9 ct9 : Value} (a9 : PySem.W.nsIn K mainGlobals "_law_odd" = some (some (.ref f9))) (l9 : K.lookup f9 = some ⟨oc9, od9, .func (PySem.W.fnOf "_law_odd" "_law_odd" (defArgs s__law_odd) (defBody s__law_odd) (defScope s__law_odd) .none kV9 dc9 pm9 an9 cd9 ct9), sl9⟩) (c9 : PySem.W.codeIn K cd9 "_law_odd" = true) (k9 : PySem.W.keepIn K (.ref f9) = true)
    {f10 : Addr} {od10 an10 : Option Addr} {sl10 : Array (Option Value)} {oc10 kV10 dc10 pm10 cd10 ct10 : Value} (a10 : PySem.W.nsIn K mainGlobals "is_whole" = some (some (.ref f10))) (l10 : K.lookup f10 = some ⟨oc10, od10, .func (PySem.W.fnOf "is_whole" "is_whole" (defArgs s_is_whole) (defBody s_is_whole) (defScope s_is_whole) .none kV10 dc10 pm10 an10 cd10 ct10), sl10⟩) (c10 : PySem.W.codeIn K cd10 "is_whole" = true) (k10 : PySem.W.keepIn K (.ref f10) = true)
    {f11 : Addr} {od11 an11 : Option Addr} {sl11 : Array (Option Value)} {oc11 kV11 dc11 pm11 cd11 ct11 : Value} (a11 : PySem.W.nsIn K mainGlobals "lowest" = some (some (.ref f11))) (l11 : K.lookup f11 = some ⟨oc11, od11, .func (PySem.W.fnOf "lowest" "lowest" (defArgs s_lowest) (defBody s_lowest) (defScope s_lowest) .none kV11 dc11 pm11 an11 cd11 ct11), sl11⟩) (c11 : PySem.W.codeIn K cd11 "lowest" = true) (k11 : PySem.W.keepIn K (.ref f11) = true)
    {f12 : Addr} {od12 an12 : Option Addr} {sl12 : Array (Option Value)} {oc12 kV12 dc12 pm12 cd12 ct12 : Value} (a12 : PySem.W.nsIn K mainGlobals "is_fraction" = some (some (.ref f12))) (l12 : K.lookup f12 = some ⟨oc12, od12, .func (PySem.W.fnOf "is_fraction" "is_fraction" (defArgs s_is_fraction) (defBody s_is_fraction) (defScope s_is_fraction) .none kV12 dc12 pm12 an12 cd12 ct12), sl12⟩) (c12 : PySem.W.codeIn K cd12 "is_fraction" = true) (k12 : PySem.W.keepIn K (.ref f12) = true)
    {f13 : Addr} {od13 an13 : Option Addr} {sl13 : Array (Option Value)} {oc13 kV13 dc13 pm13 cd13 ct13 : Value} (a13 : PySem.W.nsIn K mainGlobals "is_beginning" = some (some (.ref f13))) (l13 : K.lookup f13 = some ⟨oc13, od13, .func (PySem.W.fnOf "is_beginning" "is_beginning" (defArgs s_is_beginning) (defBody s_is_beginning) (defScope s_is_beginning) .none kV13 dc13 pm13 an13 cd13 ct13), sl13⟩) (c13 : PySem.W.codeIn K cd13 "is_beginning" = true) (k13 : PySem.W.keepIn K (.ref f13) = true)
    {f14 : Addr} {od14 an14 : Option Addr} {sl14 : Array (Option Value)} {oc14 kV14 dc14 pm14 cd14 ct14 : Value} (a14 : PySem.W.nsIn K mainGlobals "_law_whole" = some (some (.ref f14))) (l14 : K.lookup f14 = some ⟨oc14, od14, .func (PySem.W.fnOf "_law_whole" "_law_whole" (defArgs s__law_whole) (defBody s__law_whole) (defScope s__law_whole) .none kV14 dc14 pm14 an14 cd14 ct14), sl14⟩) (c14 : PySem.W.codeIn K cd14 "_law_whole" = true) (k14 : PySem.W.keepIn K (.ref f14) = true)
    {f15 : Addr} {od15 an15 : Option Addr} {sl15 : Array (Option Value)} {oc15 kV15 dc15 pm15 cd15 ct15 : Value} (a15 : PySem.W.nsIn K mainGlobals "_law_is_beginning" = some (some (.ref f15))) (l15 : K.lookup f15 = some ⟨oc15, od15, .func (PySem.W.fnOf "_law_is_beginning" "_law_is_beginning" (defArgs s__law_is_beginning) (defBody s__law_is_beginning) (defScope s__law_is_beginning) .none kV15 dc15 pm15 an15 cd15 ct15), sl15⟩) (c15 : PySem.W.codeIn K cd15 "_law_is_beginning" = true) (k15 : PySem.W.keepIn K (.ref f15) = true)
    {f16 : Addr} {od16 an16 : Option Addr} {sl16 : Array (Option Value)} {oc16 kV16 dc16 pm16 cd16 ct16 : Value} (a16 : PySem.W.nsIn K mainGlobals "are_rising" = some (some (.ref f16))) (l16 : K.lookup f16 = some ⟨oc16, od16, .func (PySem.W.fnOf "are_rising" "are_rising" (defArgs s_are_rising) (defBody s_are_rising) (defScope s_are_rising) .none kV16 dc16 pm16 an16 cd16 ct16), sl16⟩) (c16 : PySem.W.codeIn K cd16 "are_rising" = true) (k16 : PySem.W.keepIn K (.ref f16) = true)
    {f17 : Addr} {od17 an17 : Option Addr} {sl17 : Array (Option Value)} {oc17 kV17 dc17 pm17 cd17 ct17 : Value} (a17 : PySem.W.nsIn K mainGlobals "is_within" = some (some (.ref f17))) (l17 : K.lookup f17 = some ⟨oc17, od17, .func (PySem.W.fnOf "is_within" "is_within" (defArgs s_is_within) (defBody s_is_within) (defScope s_is_within) .none kV17 dc17 pm17 an17 cd17 ct17), sl17⟩) (c17 : PySem.W.codeIn K cd17 "is_within" = true) (k17 : PySem.W.keepIn K (.ref f17) = true)
    {f18 : Addr} {od18 an18 : Option Addr} {sl18 : Array (Option Value)} {oc18 kV18 dc18 pm18 cd18 ct18 : Value} (a18 : PySem.W.nsIn K mainGlobals "is_name" = some (some (.ref f18))) (l18 : K.lookup f18 = some ⟨oc18, od18, .func (PySem.W.fnOf "is_name" "is_name" (defArgs s_is_name) (defBody s_is_name) (defScope s_is_name) .none kV18 dc18 pm18 an18 cd18 ct18), sl18⟩) (c18 : PySem.W.codeIn K cd18 "is_name" = true) (k18 : PySem.W.keepIn K (.ref f18) = true)
    {f19 : Addr} {od19 an19 : Option Addr} {sl19 : Array (Option Value)} {oc19 kV19 dc19 pm19 cd19 ct19 : Value} (a19 : PySem.W.nsIn K mainGlobals "is_tub" = some (some (.ref f19))) (l19 : K.lookup f19 = some ⟨oc19, od19, .func (PySem.W.fnOf "is_tub" "is_tub" (defArgs s_is_tub) (defBody s_is_tub) (defScope s_is_tub) .none kV19 dc19 pm19 an19 cd19 ct19), sl19⟩) (c19 : PySem.W.codeIn K cd19 "is_tub" = true) (k19 : PySem.W.keepIn K (.ref f19) = true)
    {f20 : Addr} {od20 an20 : Option Addr} {sl20 : Array (Option Value)} {oc20 kV20 dc20 pm20 cd20 ct20 : Value} (a20 : PySem.W.nsIn K mainGlobals "is_hole" = some (some (.ref f20))) (l20 : K.lookup f20 = some ⟨oc20, od20, .func (PySem.W.fnOf "is_hole" "is_hole" (defArgs s_is_hole) (defBody s_is_hole) (defScope s_is_hole) .none kV20 dc20 pm20 an20 cd20 ct20), sl20⟩) (c20 : PySem.W.codeIn K cd20 "is_hole" = true) (k20 : PySem.W.keepIn K (.ref f20) = true)
    {f21 : Addr} {od21 an21 : Option Addr} {sl21 : Array (Option Value)} {oc21 kV21 dc21 pm21 cd21 ct21 : Value} (a21 : PySem.W.nsIn K mainGlobals "are_tubs" = some (some (.ref f21))) (l21 : K.lookup f21 = some ⟨oc21, od21, .func (PySem.W.fnOf "are_tubs" "are_tubs" (defArgs s_are_tubs) (defBody s_are_tubs) (defScope s_are_tubs) .none kV21 dc21 pm21 an21 cd21 ct21), sl21⟩) (c21 : PySem.W.codeIn K cd21 "are_tubs" = true) (k21 : PySem.W.keepIn K (.ref f21) = true)
    {f22 : Addr} {od22 an22 : Option Addr} {sl22 : Array (Option Value)} {oc22 kV22 dc22 pm22 cd22 ct22 : Value} (a22 : PySem.W.nsIn K mainGlobals "is_rain" = some (some (.ref f22))) (l22 : K.lookup f22 = some ⟨oc22, od22, .func (PySem.W.fnOf "is_rain" "is_rain" (defArgs s_is_rain) (defBody s_is_rain) (defScope s_is_rain) .none kV22 dc22 pm22 an22 cd22 ct22), sl22⟩) (c22 : PySem.W.codeIn K cd22 "is_rain" = true) (k22 : PySem.W.keepIn K (.ref f22) = true)
    {f23 : Addr} {od23 an23 : Option Addr} {sl23 : Array (Option Value)} {oc23 kV23 dc23 pm23 cd23 ct23 : Value} (a23 : PySem.W.nsIn K mainGlobals "is_weather" = some (some (.ref f23))) (l23 : K.lookup f23 = some ⟨oc23, od23, .func (PySem.W.fnOf "is_weather" "is_weather" (defArgs s_is_weather) (defBody s_is_weather) (defScope s_is_weather) .none kV23 dc23 pm23 an23 cd23 ct23), sl23⟩) (c23 : PySem.W.codeIn K cd23 "is_weather" = true) (k23 : PySem.W.keepIn K (.ref f23) = true)
    {f24 : Addr} {od24 an24 : Option Addr} {sl24 : Array (Option Value)} {oc24 kV24 dc24 pm24 cd24 ct24 : Value} (a24 : PySem.W.nsIn K mainGlobals "_law_spoilt" = some (some (.ref f24))) (l24 : K.lookup f24 = some ⟨oc24, od24, .func (PySem.W.fnOf "_law_spoilt" "_law_spoilt" (defArgs s__law_spoilt) (defBody s__law_spoilt) (defScope s__law_spoilt) .none kV24 dc24 pm24 an24 cd24 ct24), sl24⟩) (c24 : PySem.W.codeIn K cd24 "_law_spoilt" = true) (k24 : PySem.W.keepIn K (.ref f24) = true)
    {f25 : Addr} {od25 an25 : Option Addr} {sl25 : Array (Option Value)} {oc25 kV25 dc25 pm25 cd25 ct25 : Value} (a25 : PySem.W.nsIn K mainGlobals "_law_is_name" = some (some (.ref f25))) (l25 : K.lookup f25 = some ⟨oc25, od25, .func (PySem.W.fnOf "_law_is_name" "_law_is_name" (defArgs s__law_is_name) (defBody s__law_is_name) (defScope s__law_is_name) .none kV25 dc25 pm25 an25 cd25 ct25), sl25⟩) (c25 : PySem.W.codeIn K cd25 "_law_is_name" = true) (k25 : PySem.W.keepIn K (.ref f25) = true)
    {f26 : Addr} {od26 an26 : Option Addr} {sl26 : Array (Option Value)} {oc26 kV26 dc26 pm26 cd26 ct26 : Value} (a26 : PySem.W.nsIn K mainGlobals "_law_within" = some (some (.ref f26))) (l26 : K.lookup f26 = some ⟨oc26, od26, .func (PySem.W.fnOf "_law_within" "_law_within" (defArgs s__law_within) (defBody s__law_within) (defScope s__law_within) .none kV26 dc26 pm26 an26 cd26 ct26), sl26⟩) (c26 : PySem.W.codeIn K cd26 "_law_within" = true) (k26 : PySem.W.keepIn K (.ref f26) = true)
    {f27 : Addr} {od27 an27 : Option Addr} {sl27 : Array (Option Value)} {oc27 kV27 dc27 pm27 cd27 ct27 : Value} (a27 : PySem.W.nsIn K mainGlobals "_law_is_hole" = some (some (.ref f27))) (l27 : K.lookup f27 = some ⟨oc27, od27, .func (PySem.W.fnOf "_law_is_hole" "_law_is_hole" (defArgs s__law_is_hole) (defBody s__law_is_hole) (defScope s__law_is_hole) .none kV27 dc27 pm27 an27 cd27 ct27), sl27⟩) (c27 : PySem.W.codeIn K cd27 "_law_is_hole" = true) (k27 : PySem.W.keepIn K (.ref f27) = true)
    {f28 : Addr} {od28 an28 : Option Addr} {sl28 : Array (Option Value)} {oc28 kV28 dc28 pm28 cd28 ct28 : Value} (a28 : PySem.W.nsIn K mainGlobals "_law_are_tubs" = some (some (.ref f28))) (l28 : K.lookup f28 = some ⟨oc28, od28, .func (PySem.W.fnOf "_law_are_tubs" "_law_are_tubs" (defArgs s__law_are_tubs) (defBody s__law_are_tubs) (defScope s__law_are_tubs) .none kV28 dc28 pm28 an28 cd28 ct28), sl28⟩) (c28 : PySem.W.codeIn K cd28 "_law_are_tubs" = true) (k28 : PySem.W.keepIn K (.ref f28) = true)
    {f29 : Addr} {od29 an29 : Option Addr} {sl29 : Array (Option Value)} {oc29 kV29 dc29 pm29 cd29 ct29 : Value} (a29 : PySem.W.nsIn K mainGlobals "_law_is_rain" = some (some (.ref f29))) (l29 : K.lookup f29 = some ⟨oc29, od29, .func (PySem.W.fnOf "_law_is_rain" "_law_is_rain" (defArgs s__law_is_rain) (defBody s__law_is_rain) (defScope s__law_is_rain) .none kV29 dc29 pm29 an29 cd29 ct29), sl29⟩) (c29 : PySem.W.codeIn K cd29 "_law_is_rain" = true) (k29 : PySem.W.keepIn K (.ref f29) = true)
    {f30 : Addr} {od30 an30 : Option Addr} {sl30 : Array (Option Value)} {oc30 kV30 dc30 pm30 cd30 ct30 : Value} (a30 : PySem.W.nsIn K mainGlobals "_law_is_weather" = some (some (.ref f30))) (l30 : K.lookup f30 = some ⟨oc30, od30, .func (PySem.W.fnOf "_law_is_weather" "_law_is_weather" (defArgs s__law_is_weather) (defBody s__law_is_weather) (defScope s__law_is_weather) .none kV30 dc30 pm30 an30 cd30 ct30), sl30⟩) (c30 : PySem.W.codeIn K cd30 "_law_is_weather" = true) (k30 : PySem.W.keepIn K (.ref f30) = true)
    {f31 : Addr} {od31 an31 : Option Addr} {sl31 : Array (Option Value)} {oc31 kV31 dc31 pm31 cd31 ct31 : Value} (a31 : PySem.W.nsIn K mainGlobals "law" = some (some (.ref f31))) (l31 : K.lookup f31 = some ⟨oc31, od31, .func (PySem.W.fnOf "law" "law" (defArgs s_law) (defBody s_law) (defScope s_law) .none kV31 dc31 pm31 an31 cd31 ct31), sl31⟩) (c31 : PySem.W.codeIn K cd31 "law" = true) (k31 : PySem.W.keepIn K (.ref f31) = true)
    (z_abs : PySem.W.nsIn K mainGlobals "abs" = some none)
    (z_all : PySem.W.nsIn K mainGlobals "all" = some none)
    (z_bool : PySem.W.nsIn K mainGlobals "bool" = some none)
    (z_enumerate : PySem.W.nsIn K mainGlobals "enumerate" = some none)
    (z_int : PySem.W.nsIn K mainGlobals "int" = some none)
    (z_isinstance : PySem.W.nsIn K mainGlobals "isinstance" = some none)
    (z_len : PySem.W.nsIn K mainGlobals "len" = some none)
    (z_list : PySem.W.nsIn K mainGlobals "list" = some none)
    (z_min : PySem.W.nsIn K mainGlobals "min" = some none)
    (z_range : PySem.W.nsIn K mainGlobals "range" = some none)
    (z_set : PySem.W.nsIn K mainGlobals "set" = some none)
    (z_sorted : PySem.W.nsIn K mainGlobals "sorted" = some none)
    (z_str : PySem.W.nsIn K mainGlobals "str" = some none)
    (z_tuple : PySem.W.nsIn K mainGlobals "tuple" = some none)
    (z_zip : PySem.W.nsIn K mainGlobals "zip" = some none)
    {tLETTERS : Tok} (z_LETTERS : PySem.W.nsIn K mainGlobals "LETTERS" = some (some (.str "abcdefghijklmnopqrstuvwxyz" tLETTERS)))
    {tMOST_HOLES : Tok} (z_MOST_HOLES : PySem.W.nsIn K mainGlobals "MOST_HOLES" = some (some (.int 3 tMOST_HOLES)))
    {tMOST_PART : Tok} (z_MOST_PART : PySem.W.nsIn K mainGlobals "MOST_PART" = some (some (.int 1000 tMOST_PART)))
    {tMOST_RATE : Tok} (z_MOST_RATE : PySem.W.nsIn K mainGlobals "MOST_RATE" = some (some (.int 100 tMOST_RATE)))
    {tMOST_ROWS : Tok} (z_MOST_ROWS : PySem.W.nsIn K mainGlobals "MOST_ROWS" = some (some (.int 4 tMOST_ROWS)))
    {tMOST_TUBS : Tok} (z_MOST_TUBS : PySem.W.nsIn K mainGlobals "MOST_TUBS" = some (some (.int 3 tMOST_TUBS)))
    : ∃ fd : FuncData, (∀ (s : Shared) (v : Value), BindsTo s fd ⟨[v], []⟩ [("script", v)]) ∧ ∀ base : Heap, K.In base → base.Ns mainGlobals mg → FnOk l.prog w K mg base CX0 33 fa fd ["script"] (spF K 1 F_law) := by
  have e := hfa.symm.trans (PySem.W.mg_of X G a31)
  cases e
  have Z : Bt K mg := ⟨PySem.W.mg_none_of X G z_abs, PySem.W.mg_none_of X G z_all, PySem.W.mg_none_of X G z_bool, PySem.W.mg_none_of X G z_enumerate, PySem.W.mg_none_of X G z_int, PySem.W.mg_none_of X G z_isinstance, PySem.W.mg_none_of X G z_len, PySem.W.mg_none_of X G z_list, PySem.W.mg_none_of X G z_min, PySem.W.mg_none_of X G z_range, PySem.W.mg_none_of X G z_set, PySem.W.mg_none_of X G z_sorted, PySem.W.mg_none_of X G z_str, PySem.W.mg_none_of X G z_tuple, PySem.W.mg_none_of X G z_zip, globS (PySem.W.mg_of X G z_LETTERS), globI (PySem.W.mg_of X G z_MOST_HOLES), globI (PySem.W.mg_of X G z_MOST_PART), globI (PySem.W.mg_of X G z_MOST_RATE), globI (PySem.W.mg_of X G z_MOST_ROWS), globI (PySem.W.mg_of X G z_MOST_TUBS)⟩
  have F0 := fun_mk (st := s__law_bag) l0 c0 k0
  have b0 := F0.binds (ps := ["script", "k"]) fun _ _ _ _ _ _ us hl => match us, hl with | [_, _], _ => rfl
  have F1 := fun_mk (st := s__law_take) l1 c1 k1
  have b1 := F1.binds (ps := ["bag", "many"]) fun _ _ _ _ _ _ us hl => match us, hl with | [_, _], _ => rfl
  have F2 := fun_mk (st := s__law_of) l2 c2 k2
  have b2 := F2.binds (ps := ["bag", "some"]) fun _ _ _ _ _ _ us hl => match us, hl with | [_, _], _ => rfl
  have F3 := fun_mk (st := s__law_tubs) l3 c3 k3
  have b3 := F3.binds (ps := ["bag", "most"]) fun _ _ _ _ _ _ us hl => match us, hl with | [_, _], _ => rfl
  have F4 := fun_mk (st := s__law_rain) l4 c4 k4
  have b4 := F4.binds (ps := ["bag", "tubs"]) fun _ _ _ _ _ _ us hl => match us, hl with | [_, _], _ => rfl
  have F5 := fun_mk (st := s__law_weather) l5 c5 k5
  have b5 := F5.binds (ps := ["bag", "tubs"]) fun _ _ _ _ _ _ us hl => match us, hl with | [_, _], _ => rfl
  have F6 := fun_mk (st := s__law_lowest) l6 c6 k6
  have b6 := F6.binds (ps := ["top", "bottom"]) fun _ _ _ _ _ _ us hl => match us, hl with | [_, _], _ => rfl
  have F7 := fun_mk (st := s__law_part) l7 c7 k7
  have b7 := F7.binds (ps := ["bag", "wide"]) fun _ _ _ _ _ _ us hl => match us, hl with | [_, _], _ => rfl
  have F8 := fun_mk (st := s__law_beginning) l8 c8 k8
  have b8 := F8.binds (ps := ["bag", "tubs"]) fun _ _ _ _ _ _ us hl => match us, hl with | [_, _], _ => rfl
  have F9 := fun_mk (st := s__law_odd) l9 c9 k9
  have b9 := F9.binds (ps := ["bag"]) fun _ _ _ _ _ _ us hl => match us, hl with | [_], _ => rfl
  have F10 := fun_mk (st := s_is_whole) l10 c10 k10
  have b10 := F10.binds (ps := ["thing"]) fun _ _ _ _ _ _ us hl => match us, hl with | [_], _ => rfl
  have F11 := fun_mk (st := s_lowest) l11 c11 k11
  have b11 := F11.binds (ps := ["top", "bottom"]) fun _ _ _ _ _ _ us hl => match us, hl with | [_, _], _ => rfl
  have F12 := fun_mk (st := s_is_fraction) l12 c12 k12
  have b12 := F12.binds (ps := ["thing"]) fun _ _ _ _ _ _ us hl => match us, hl with | [_], _ => rfl
  have F13 := fun_mk (st := s_is_beginning) l13 c13 k13
  have b13 := F13.binds (ps := ["tubs", "thing"]) fun _ _ _ _ _ _ us hl => match us, hl with | [_, _], _ => rfl
  have F14 := fun_mk (st := s__law_whole) l14 c14 k14
  have b14 := F14.binds (ps := ["thing"]) fun _ _ _ _ _ _ us hl => match us, hl with | [_], _ => rfl
  have F15 := fun_mk (st := s__law_is_beginning) l15 c15 k15
  have b15 := F15.binds (ps := ["tubs_so", "thing"]) fun _ _ _ _ _ _ us hl => match us, hl with | [_, _], _ => rfl
  have F16 := fun_mk (st := s_are_rising) l16 c16 k16
  have b16 := F16.binds (ps := ["some"]) fun _ _ _ _ _ _ us hl => match us, hl with | [_], _ => rfl
  have F17 := fun_mk (st := s_is_within) l17 c17 k17
  have b17 := F17.binds (ps := ["thing", "least", "most"]) fun _ _ _ _ _ _ us hl => match us, hl with | [_, _, _], _ => rfl
  have F18 := fun_mk (st := s_is_name) l18 c18 k18
  have b18 := F18.binds (ps := ["thing"]) fun _ _ _ _ _ _ us hl => match us, hl with | [_], _ => rfl
  have F19 := fun_mk (st := s_is_tub) l19 c19 k19
  have b19 := F19.binds (ps := ["thing"]) fun _ _ _ _ _ _ us hl => match us, hl with | [_], _ => rfl
  have F20 := fun_mk (st := s_is_hole) l20 c20 k20
  have b20 := F20.binds (ps := ["thing", "later"]) fun _ _ _ _ _ _ us hl => match us, hl with | [_, _], _ => rfl
  have F21 := fun_mk (st := s_are_tubs) l21 c21 k21
  have b21 := F21.binds (ps := ["thing"]) fun _ _ _ _ _ _ us hl => match us, hl with | [_], _ => rfl
  have F22 := fun_mk (st := s_is_rain) l22 c22 k22
  have b22 := F22.binds (ps := ["tubs", "thing"]) fun _ _ _ _ _ _ us hl => match us, hl with | [_, _], _ => rfl
  have F23 := fun_mk (st := s_is_weather) l23 c23 k23
  have b23 := F23.binds (ps := ["tubs", "thing"]) fun _ _ _ _ _ _ us hl => match us, hl with | [_, _], _ => rfl
  have F24 := fun_mk (st := s__law_spoilt) l24 c24 k24
  have b24 := F24.binds (ps := ["bag", "thing"]) fun _ _ _ _ _ _ us hl => match us, hl with | [_, _], _ => rfl
  have F25 := fun_mk (st := s__law_is_name) l25 c25 k25
  have b25 := F25.binds (ps := ["thing"]) fun _ _ _ _ _ _ us hl => match us, hl with | [_], _ => rfl
  have F26 := fun_mk (st := s__law_within) l26 c26 k26
  have b26 := F26.binds (ps := ["thing", "least", "most"]) fun _ _ _ _ _ _ us hl => match us, hl with | [_, _, _], _ => rfl
  have F27 := fun_mk (st := s__law_is_hole) l27 c27 k27
  have b27 := F27.binds (ps := ["thing", "later"]) fun _ _ _ _ _ _ us hl => match us, hl with | [_, _], _ => rfl
  have F28 := fun_mk (st := s__law_are_tubs) l28 c28 k28
  have b28 := F28.binds (ps := ["thing"]) fun _ _ _ _ _ _ us hl => match us, hl with | [_], _ => rfl
  have F29 := fun_mk (st := s__law_is_rain) l29 c29 k29
  have b29 := F29.binds (ps := ["tubs_so", "thing"]) fun _ _ _ _ _ _ us hl => match us, hl with | [_, _], _ => rfl
  have F30 := fun_mk (st := s__law_is_weather) l30 c30 k30
  have b30 := F30.binds (ps := ["tubs_so", "thing"]) fun _ _ _ _ _ _ us hl => match us, hl with | [_, _], _ => rfl
  have F31 := fun_mk (st := s_law) l31 c31 k31
  refine ⟨PySem.W.fnOf "law" "law" (defArgs s_law) (defBody s_law) (defScope s_law) .none kV31 dc31 pm31 an31 cd31 ct31, fun s v => .of_eq rfl, fun base _ _ => ?_⟩
  have h__law_bag : HasFn l.prog w K mg base 1 "_law_bag" _ := ⟨f0, _, _, ok__law_bag F0 Z , PySem.W.mg_of X G a0, F0.kp, b0⟩
  have h__law_take : HasFn l.prog w K mg base 1 "_law_take" _ := ⟨f1, _, _, ok__law_take F1 Z , PySem.W.mg_of X G a1, F1.kp, b1⟩
  have h__law_of : HasFn l.prog w K mg base 2 "_law_of" _ := ⟨f2, _, _, ok__law_of F2 Z h__law_take, PySem.W.mg_of X G a2, F2.kp, b2⟩
  have h__law_tubs : HasFn l.prog w K mg base 3 "_law_tubs" _ := ⟨f3, _, _, ok__law_tubs F3 Z h__law_of h__law_take, PySem.W.mg_of X G a3, F3.kp, b3⟩
  have h__law_rain : HasFn l.prog w K mg base 3 "_law_rain" _ := ⟨f4, _, _, ok__law_rain F4 Z h__law_take h__law_of, PySem.W.mg_of X G a4, F4.kp, b4⟩
  have h__law_weather : HasFn l.prog w K mg base 4 "_law_weather" _ := ⟨f5, _, _, ok__law_weather F5 Z h__law_take h__law_rain, PySem.W.mg_of X G a5, F5.kp, b5⟩
  have h__law_lowest : HasFn l.prog w K mg base 1 "_law_lowest" _ := ⟨f6, _, _, ok__law_lowest F6 Z , PySem.W.mg_of X G a6, F6.kp, b6⟩
  have h__law_part : HasFn l.prog w K mg base 2 "_law_part" _ := ⟨f7, _, _, ok__law_part F7 Z h__law_lowest h__law_take, PySem.W.mg_of X G a7, F7.kp, b7⟩
  have h__law_beginning : HasFn l.prog w K mg base 3 "_law_beginning" _ := ⟨f8, _, _, ok__law_beginning F8 Z h__law_of h__law_part, PySem.W.mg_of X G a8, F8.kp, b8⟩
  have h__law_odd : HasFn l.prog w K mg base 2 "_law_odd" _ := ⟨f9, _, _, ok__law_odd F9 Z h__law_take, PySem.W.mg_of X G a9, F9.kp, b9⟩
  have h_is_whole : HasFn l.prog w K mg base 1 "is_whole" _ := ⟨f10, _, _, ok_is_whole F10 Z , PySem.W.mg_of X G a10, F10.kp, b10⟩
  have h_lowest : HasFn l.prog w K mg base 1 "lowest" _ := ⟨f11, _, _, ok_lowest F11 Z , PySem.W.mg_of X G a11, F11.kp, b11⟩
  have h_is_fraction : HasFn l.prog w K mg base 2 "is_fraction" _ := ⟨f12, _, _, ok_is_fraction F12 Z h_is_whole h_lowest, PySem.W.mg_of X G a12, F12.kp, b12⟩
  have h_is_beginning : HasFn l.prog w K mg base 3 "is_beginning" _ := ⟨f13, _, _, ok_is_beginning F13 Z h_is_fraction, PySem.W.mg_of X G a13, F13.kp, b13⟩
  have h__law_whole : HasFn l.prog w K mg base 1 "_law_whole" _ := ⟨f14, _, _, ok__law_whole F14 Z , PySem.W.mg_of X G a14, F14.kp, b14⟩
  have h__law_is_beginning : HasFn l.prog w K mg base 2 "_law_is_beginning" _ := ⟨f15, _, _, ok__law_is_beginning F15 Z h__law_whole h__law_lowest, PySem.W.mg_of X G a15, F15.kp, b15⟩
  have h_are_rising : HasFn l.prog w K mg base 1 "are_rising" _ := ⟨f16, _, _, ok_are_rising F16 Z , PySem.W.mg_of X G a16, F16.kp, b16⟩
  have h_is_within : HasFn l.prog w K mg base 2 "is_within" _ := ⟨f17, _, _, ok_is_within F17 Z h_is_whole, PySem.W.mg_of X G a17, F17.kp, b17⟩
  have h_is_name : HasFn l.prog w K mg base 1 "is_name" _ := ⟨f18, _, _, ok_is_name F18 Z , PySem.W.mg_of X G a18, F18.kp, b18⟩
  have h_is_tub : HasFn l.prog w K mg base 3 "is_tub" _ := ⟨f19, _, _, ok_is_tub F19 Z h_is_within h_is_name, PySem.W.mg_of X G a19, F19.kp, b19⟩
  have h_is_hole : HasFn l.prog w K mg base 3 "is_hole" _ := ⟨f20, _, _, ok_is_hole F20 Z h_is_within, PySem.W.mg_of X G a20, F20.kp, b20⟩
  have h_are_tubs : HasFn l.prog w K mg base 4 "are_tubs" _ := ⟨f21, _, _, ok_are_tubs F21 Z h_are_rising h_is_tub h_is_hole, PySem.W.mg_of X G a21, F21.kp, b21⟩
  have h_is_rain : HasFn l.prog w K mg base 3 "is_rain" _ := ⟨f22, _, _, ok_is_rain F22 Z h_is_within, PySem.W.mg_of X G a22, F22.kp, b22⟩
  have h_is_weather : HasFn l.prog w K mg base 4 "is_weather" _ := ⟨f23, _, _, ok_is_weather F23 Z h_are_rising h_is_rain h_is_within, PySem.W.mg_of X G a23, F23.kp, b23⟩
  have h__law_spoilt : HasFn l.prog w K mg base 32 "_law_spoilt" (spB K 1 (F__law_spoilt 30)) := ⟨f24, _, _, ok__law_spoilt F24 Z h__law_take h__law_odd (PySem.W.mg_of X G a24) F24.kp b24 30, PySem.W.mg_of X G a24, F24.kp, b24⟩
  have h__law_is_name : HasFn l.prog w K mg base 1 "_law_is_name" _ := ⟨f25, _, _, ok__law_is_name F25 Z , PySem.W.mg_of X G a25, F25.kp, b25⟩
  have h__law_within : HasFn l.prog w K mg base 1 "_law_within" _ := ⟨f26, _, _, ok__law_within F26 Z , PySem.W.mg_of X G a26, F26.kp, b26⟩
  have h__law_is_hole : HasFn l.prog w K mg base 2 "_law_is_hole" _ := ⟨f27, _, _, ok__law_is_hole F27 Z h__law_within, PySem.W.mg_of X G a27, F27.kp, b27⟩
  have h__law_are_tubs : HasFn l.prog w K mg base 3 "_law_are_tubs" _ := ⟨f28, _, _, ok__law_are_tubs F28 Z h__law_is_name h__law_within h__law_is_hole, PySem.W.mg_of X G a28, F28.kp, b28⟩
  have h__law_is_rain : HasFn l.prog w K mg base 2 "_law_is_rain" _ := ⟨f29, _, _, ok__law_is_rain F29 Z h__law_within, PySem.W.mg_of X G a29, F29.kp, b29⟩
  have h__law_is_weather : HasFn l.prog w K mg base 3 "_law_is_weather" _ := ⟨f30, _, _, ok__law_is_weather F30 Z h__law_is_rain h__law_within, PySem.W.mg_of X G a30, F30.kp, b30⟩
  exact ok_law F31 Z h__law_bag h__law_tubs h__law_weather h__law_beginning h__law_of h__law_odd h_is_beginning h__law_is_beginning h_are_tubs h_is_weather h__law_spoilt h__law_are_tubs h__law_is_weather
end Px.S
open PySem PySem.W PyProof.Rows
set_option maxRecDepth 100000 in
set_option maxHeartbeats 0 in
theorem PySem.Challenge.cw_holetubs_k01_tubs_weather_beginnings_tol_holds : PySem.Challenge.rw_holetubs_k01_tubs_weather_beginnings_tol.Holds := by
  w_on; o_law; k_head; (case hw => w_witness2)
  k_fill
  refine L2.walk_of (l := PySem.Challenge.rw_holetubs_k01_tubs_weather_beginnings_tol) (n := 63) (k := 33) (x := "script") (CX := fun _ => L2.CX0) (sp := fun w => Px.spF _ 1 Px.S.F_law) rfl (by decide) rfl ⟨rfl, by decide, by decide⟩ (fun w h Y => PySem.W.kIn_of Y) ?F (fun _ H a ns hl _ hS => Px.law_sp hS (Px.S.law_true ns hl)) (fun _ _ _ _ _ h => h)
  case F =>
    intro w mg fa h KX G hmg
    refine' Px.S.all_mk KX G hmg ?a0 ?l0 ?c0 ?k0 ?a1 ?l1 ?c1 ?k1 ?a2 ?l2 ?c2 ?k2 ?a3 ?l3 ?c3 ?k3 ?a4 ?l4 ?c4 ?k4 ?a5 ?l5 ?c5 ?k5 ?a6 ?l6 ?c6 ?k6 ?a7 ?l7 ?c7 ?k7 ?a8 ?l8 ?c8 ?k8 ?a9 ?l9 ?c9 ?k9 ?a10 ?l10 ?c10 ?k10 ?a11 ?l11 ?c11 ?k11 ?a12 ?l12 ?c12 ?k12 ?a13 ?l13 ?c13 ?k13 ?a14 ?l14 ?c14 ?k14 ?a15 ?l15 ?c15 ?k15 ?a16 ?l16 ?c16 ?k16 ?a17 ?l17 ?c17 ?k17 ?a18 ?l18 ?c18 ?k18 ?a19 ?l19 ?c19 ?k19 ?a20 ?l20 ?c20 ?k20 ?a21 ?l21 ?c21 ?k21 ?a22 ?l22 ?c22 ?k22 ?a23 ?l23 ?c23 ?k23 ?a24 ?l24 ?c24 ?k24 ?a25 ?l25 ?c25 ?k25 ?a26 ?l26 ?c26 ?k26 ?a27 ?l27 ?c27 ?k27 ?a28 ?l28 ?c28 ?k28 ?a29 ?l29 ?c29 ?k29 ?a30 ?l30 ?c30 ?k30 ?a31 ?l31 ?c31 ?k31 ?z_abs ?z_all ?z_bool ?z_enumerate ?z_int ?z_isinstance ?z_len ?z_list ?z_min ?z_range ?z_set ?z_sorted ?z_str ?z_tuple ?z_zip ?z_LETTERS ?z_MOST_HOLES ?z_MOST_PART ?z_MOST_RATE ?z_MOST_ROWS ?z_MOST_TUBS
    (case a0 => k_is)
    (case l0 => k_is)
    (case c0 => k_is)
    (case k0 => k_is)
    (case a1 => k_is)
    (case l1 => k_is)
    (case c1 => k_is)
    (case k1 => k_is)
    (case a2 => k_is)
    (case l2 => k_is)
    (case c2 => k_is)
    (case k2 => k_is)
    (case a3 => k_is)
    (case l3 => k_is)
    (case c3 => k_is)
    (case k3 => k_is)
    (case a4 => k_is)
    (case l4 => k_is)
    (case c4 => k_is)
    (case k4 => k_is)
    (case a5 => k_is)
    (case l5 => k_is)
    (case c5 => k_is)
    (case k5 => k_is)
    (case a6 => k_is)
    (case l6 => k_is)
    (case c6 => k_is)
    (case k6 => k_is)
    (case a7 => k_is)
    (case l7 => k_is)
    (case c7 => k_is)
    (case k7 => k_is)
    (case a8 => k_is)
    (case l8 => k_is)
    (case c8 => k_is)
    (case k8 => k_is)
    (case a9 => k_is)
    (case l9 => k_is)
    (case c9 => k_is)
    (case k9 => k_is)
    (case a10 => k_is)
    (case l10 => k_is)
    (case c10 => k_is)
    (case k10 => k_is)
    (case a11 => k_is)
    (case l11 => k_is)
    (case c11 => k_is)
    (case k11 => k_is)
    (case a12 => k_is)
    (case l12 => k_is)
    (case c12 => k_is)
    (case k12 => k_is)
    (case a13 => k_is)
    (case l13 => k_is)
    (case c13 => k_is)
    (case k13 => k_is)
    (case a14 => k_is)
    (case l14 => k_is)
    (case c14 => k_is)
    (case k14 => k_is)
    (case a15 => k_is)
    (case l15 => k_is)
    (case c15 => k_is)
    (case k15 => k_is)
    (case a16 => k_is)
    (case l16 => k_is)
    (case c16 => k_is)
    (case k16 => k_is)
    (case a17 => k_is)
    (case l17 => k_is)
    (case c17 => k_is)
    (case k17 => k_is)
    (case a18 => k_is)
    (case l18 => k_is)
    (case c18 => k_is)
    (case k18 => k_is)
    (case a19 => k_is)
    (case l19 => k_is)
    (case c19 => k_is)
    (case k19 => k_is)
    (case a20 => k_is)
    (case l20 => k_is)
    (case c20 => k_is)
    (case k20 => k_is)
    (case a21 => k_is)
    (case l21 => k_is)
    (case c21 => k_is)
    (case k21 => k_is)
    (case a22 => k_is)
    (case l22 => k_is)
    (case c22 => k_is)
    (case k22 => k_is)
    (case a23 => k_is)
    (case l23 => k_is)
    (case c23 => k_is)
    (case k23 => k_is)
    (case a24 => k_is)
    (case l24 => k_is)
    (case c24 => k_is)
    (case k24 => k_is)
    (case a25 => k_is)
    (case l25 => k_is)
    (case c25 => k_is)
    (case k25 => k_is)
    (case a26 => k_is)
    (case l26 => k_is)
    (case c26 => k_is)
    (case k26 => k_is)
    (case a27 => k_is)
    (case l27 => k_is)
    (case c27 => k_is)
    (case k27 => k_is)
    (case a28 => k_is)
    (case l28 => k_is)
    (case c28 => k_is)
    (case k28 => k_is)
    (case a29 => k_is)
    (case l29 => k_is)
    (case c29 => k_is)
    (case k29 => k_is)
    (case a30 => k_is)
    (case l30 => k_is)
    (case c30 => k_is)
    (case k30 => k_is)
    (case a31 => k_is)
    (case l31 => k_is)
    (case c31 => k_is)
    (case k31 => k_is)
    (case z_abs => k_is)
    (case z_all => k_is)
    (case z_bool => k_is)
    (case z_enumerate => k_is)
    (case z_int => k_is)
    (case z_isinstance => k_is)
    (case z_len => k_is)
    (case z_list => k_is)
    (case z_min => k_is)
    (case z_range => k_is)
    (case z_set => k_is)
    (case z_sorted => k_is)
    (case z_str => k_is)
    (case z_tuple => k_is)
    (case z_zip => k_is)
    (case z_LETTERS => k_is)
    (case z_MOST_HOLES => k_is)
    (case z_MOST_PART => k_is)
    (case z_MOST_RATE => k_is)
    (case z_MOST_ROWS => k_is)
    (case z_MOST_TUBS => k_is)

